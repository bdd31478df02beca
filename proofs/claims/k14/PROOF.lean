import PyProof.Rows.All
import Wide.All
import OpenK.AllK
import Wide.FinOn
import HandS.ForMost
import HandS.TupAny
import HandS.TupMul
import HandS.Conv
import HandS.Style
import HandS.Deep
import HandS.Strs
import KE.DataEq
import KE.DataCmp
import KE.DataAny
import KE.DataFind
import KE.DataMinMax
import KE.SortData
import KE.KDictKeyed
import KE.KeyNested
import PyProof.ReprRoads
import PyProof.ReprLen
import PyProof.StrOps2
import HandS.Wide
import HandS.SortInts
import KE.DataIsa
import HandS.RaiseMore
import HandS.Zip
import HandS.SetFor
import HandS.Dict
import KE.GoesMore
import KE.GoesEnum
import HandS.TupLe
import HandS.EndBits
import PySem.Challenge.RW_tailswap_k14_whole_ribbons_called_anew
set_option Elab.async false
set_option linter.all false
set_option autoImplicit false
set_option maxRecDepth 100000
namespace DL
open PySem PySem.Spec L2
open PyProof.Rows hiding St

/-! ### tuples whose own object is known to have no dict -/
def TpAt (K : PySem.W.Frag) (F : Hp) (a : Addr) (xs : List V) : Prop :=
  (∃ o : Obj, F a = some (.frz o (.tup xs)) ∧ o.dict = none) ∨
    ∃ (o : Obj) (its : Array Value) (n : Nat), K.lookup a = some o ∧ o.cls = .type "tuple" ∧ o.dict = none ∧ o.data = .seq its n ∧ its.size ≤ sizeLine ∧ Vals xs its.toList
theorem TpAt.sq {K : PySem.W.Frag} {F : Hp} {a : Addr} {xs : List V} (h : TpAt K F a xs) : SqT K F a xs := by
  rcases h with ⟨o, h, _⟩ | ⟨o, its, n, h1, h2, _, h3, h4, h5⟩
  · exact .inl (.inr ⟨o, h⟩)
  · exact .inr ⟨o, its, n, h1, h2, h3, h4, h5⟩
theorem TpAt.up {K : PySem.W.Frag} {F F' : Hp} (e : Same F F') {a : Addr} {xs : List V} (h : TpAt K F a xs) : TpAt K F' a xs := by
  rcases h with ⟨o, h, d⟩ | h
  · exact .inl ⟨o, e _ _ h, d⟩
  · exact .inr h
section
variable {X : Cx}
/-- a new tuple is laid and known -/
theorem lay_tup {pins : List (Addr × Obj)} {σ : St} {H : Hp} {s : Shared} {xs : List V} {its : List Value} {Q : VK} (I : Inv X pins σ H s) (r : Vals xs its) (hz : xs.length ≤ sizeLine)
    (q : ∀ p o, H p = none → o.dict = none → Q (.ref p) (upd H p (.frz o (.tup xs)))) : EP X pins σ Q (.ref s.heap.objs.size) { s with heap := s.heap.push { cls := .type "tuple", data := .seq its.toArray } } := by
  refine ⟨.ref s.heap.objs.size, _, I.laid (t' := s.toks) (o := .frz { cls := .type "tuple", data := .seq its.toArray } (.tup xs)) (fun b u e => Heap.get?_push_of_some _ e) (Nat.le_refl _) ?_, rfl, q _ _ (I.hok.fresh (Nat.le_refl _)) rfl⟩
  exact ⟨Heap.get?_push_size _ rfl, hz, its, r, ⟨_, Heap.get?_push_size _ rfl, rfl, _, rfl⟩⟩
def tTupF (t : TA) : TE := fun σ H Q => t σ H fun xs H1 => xs.length ≤ sizeLine ∧ ∀ p o, H1 p = none → o.dict = none → Q (.ref p) (upd H1 p (.frz o (.tup xs)))
theorem pe_tupF {es : List Expr} {t : TA} {k : Nat} {pos : Pos} (h : PA X es t) : PE X (.Tuple es k pos) (tTupF t) := by
  constructor
  intro pins s σ H Q I hq
  apply wpAny_Tuple_spliced
  refine thn (h.run pos pins s σ H _ I hq) ?_
  rintro us s1 ⟨xs, H1, I1, r, z, q⟩
  exact ⟨by rw [← r.length]; exact z, lay_tup I1 r z q⟩
def rCatF (K : PySem.W.Frag) : R2 := fun x y H Q => ∃ a b xs ys, x = .ref a ∧ y = .ref b ∧ SqT K H a xs ∧ SqT K H b ys ∧ xs.length + ys.length ≤ sizeLine ∧ (xs = [] → Q (.ref b) H) ∧ (xs ≠ [] → ys = [] → Q (.ref a) H) ∧
  (xs ≠ [] → ys ≠ [] → ∀ p o, H p = none → o.dict = none → Q (.ref p) (upd H p (.frz o (.tup (xs ++ ys)))))
theorem op_catF : OpR X (binaryOp .Add) (rCatF X.K) := by
  intro pins s σ H x y v u Q I rx ry h
  obtain ⟨a, b, xs, ys, rfl, rfl, ha, hb, hz, q0, q1, q2⟩ := h
  cases rx
  cases ry
  obtain ⟨its, r1, p1, _⟩ := I.tuple ha
  obtain ⟨its2, r2, p2, _⟩ := I.tuple hb
  by_cases hx : xs = []
  · subst hx
    cases r1
    exact cat_tup0 p1 p2 ⟨.ref b, H, I, rfl, q0 rfl⟩
  · apply HT.cat_tup p1 p2 (fun z => hx (r1.nil_iff.mp z))
    · intro z
      exact ⟨.ref a, H, I, rfl, q1 hx (r2.nil_iff.mp z)⟩
    · intro z
      exact lay_tup I (r1.append r2) (by rw [List.length_append]; exact hz) (q2 hx fun w => z (r2.nil_iff.mpr w))
    · rw [← r1.length, ← r2.length]; exact hz
def rSlF (K : PySem.W.Frag) : V → Option Int → Option Int → Hp → VK → Prop := fun x lo hi H Q => ∃ a xs, x = .ref a ∧ SqT K H a xs ∧ (HT.sIx xs.length 0 lo = 0 ∧ HT.sIx xs.length xs.length hi = xs.length → Q (.ref a) H) ∧
  (¬ (HT.sIx xs.length 0 lo = 0 ∧ HT.sIx xs.length xs.length hi = xs.length) → ∀ p o, H p = none → o.dict = none → Q (.ref p) (upd H p (.frz o (.tup (cutV xs lo hi)))))
theorem sl_tupF : SlR X (rSlF X.K) := by
  intro pins s σ H x v vl vu lo hi sl Q I rx hs pl pu h
  obtain ⟨a, xs, rfl, hx, q1, q2⟩ := h
  cases rx
  obtain ⟨its, r, ht, hz⟩ := I.tuple hx
  have hl : its.toArray.size = xs.length := r.length.symm
  refine ⟨"tuple", _, PyProof.Rows.slot_tuple_getitem.lookup, ht.typeIs, ?_⟩
  by_cases hw : HT.sIx xs.length 0 lo = 0 ∧ HT.sIx xs.length xs.length hi = xs.length
  · exact getItem_tuple_whole ht hs pl pu (by rw [hl]; exact hw) ⟨.ref a, H, I, rfl, q1 hw⟩
  · apply HT.getItem_tuple_cut ht hs pl pu (by rw [hl]; exact hw) _ (by rw [hl]; exact hz)
    rw [hl]
    exact lay_tup I ((r.drop _).take _) (Nat.le_trans (cutV_length xs lo hi) hz) (q2 hw)
theorem call_tupF : CallR X (.type "tuple") (fun xs H Q => ∃ p ys, xs = [.ref p] ∧ ((SqL X.K H p ys ∧ ∀ l o, H l = none → o.dict = none → Q (.ref l) (upd H l (.frz o (.tup ys)))) ∨ (SqT X.K H p ys ∧ Q (.ref p) H))) := by
  intro pins s σ H xs us Q I r h
  obtain ⟨p, ys, rfl, h⟩ := h
  obtain ⟨u, rfl, rx⟩ := vals1 r
  cases rx
  rcases h with ⟨hq, q⟩ | ⟨hq, q⟩
  · obtain ⟨its, r', pl, hz⟩ := I.list hq
    have hl := r'.length
    apply call_tuple_list pl.isList _ (by simp only [List.size_toArray] <;> omega)
    intro h' kp
    exact lay_tup (s := { s with heap := h' }) (I.kept (t' := s.toks) kp) r' hz q
  · obtain ⟨its, r', pl, hz⟩ := I.tuple hq
    exact call_tuple_same pl ⟨.ref p, H, I, rfl, q⟩
def rRepF (K : PySem.W.Frag) : R2 := fun x y H Q => ∃ l k xs, x = .ref l ∧ y = .int k ∧ SqT K H l xs ∧ xs ≠ [] ∧ 2 ≤ k ∧ k ≤ 1000 ∧ xs.length ≤ 1000 ∧ ∀ p o, H p = none → o.dict = none → Q (.ref p) (upd H p (.frz o (.tup (List.replicate k.toNat xs).flatten)))
theorem op_repF : OpR X (binaryOp .Mult) (rRepF X.K) := by
  intro pins s σ H x y v u Q I rx ry h
  obtain ⟨l, k, xs, rfl, rfl, hT, hne, h1, h2, hz, q⟩ := h
  cases rx
  obtain ⟨t, rfl⟩ := ry
  obtain ⟨its, r, ⟨⟨cls, dd, data, sl⟩, ho, hc, n, hd⟩, hs⟩ := I.tuple hT
  simp only at hc hd
  subst hc hd
  have le : its.length = xs.length := r.length.symm
  have sz : its.toArray.size = xs.length := by rw [List.size_toArray, le]
  have pos : 0 < its.toArray.size := by
    rw [sz]
    exact List.length_pos_iff.mpr hne
  have emp : its.toArray.isEmpty = false := by
    rw [Array.isEmpty_eq_false_iff]
    intro e
    rw [e] at pos
    exact absurd pos (by decide)
  have prod : ((its.toArray.size : Nat) : Int) * k ≤ 1000000 := by
    rw [sz]
    refine Int.le_trans (Int.mul_le_mul_of_nonneg_right (show ((xs.length : Nat) : Int) ≤ 1000 by omega) (by omega)) ?_
    omega
  have fl : k.toNat * xs.length ≤ 1000 * 1000 := Nat.mul_le_mul (by omega) hz
  have c0 : (decide (k < -(2 ^ 63)) || decide (k ≥ 2 ^ 63)) = false := by
    rw [decide_eq_false (by omega), decide_eq_false (by omega)]; rfl
  have c1 : (its.toArray.isEmpty || k == 1) = false := by
    rw [emp, Bool.false_or]
    exact beq_eq_false_iff_ne.mpr (by omega)
  have c2 : (decide (k ≤ 0) || its.toArray.isEmpty) = false := by
    rw [emp, Bool.or_false]
    exact decide_eq_false (by omega)
  have c4 : Builtin.Tuple.tupleTooMany (((its.toArray.size : Nat) : Int) * k) = false := by
    unfold Builtin.Tuple.tupleTooMany
    rw [sizeLine_eq]
    exact decide_eq_false (by omega)
  have c5 : (List.foldl (fun x1 x2 => x1 ++ x2) #[] (List.replicate k.toNat its.toArray)).size ≤ sizeLine := by
    rw [size_rep, List.size_toArray, PyProof.Rows.lm_len_rep_flat, le, sizeLine_eq]
    omega
  refine wpAny_binaryOp_repeat_ref (T := "tuple") (U := "int") (by decide) ⟨_, ho, rfl⟩ (fun s' => typeIs_int s' k t) noFill_tuple_mul F.fills_int_mul F.slot_int_rmul repeat_tuple F.slot_int_index.lookup ?_
  refine call_meets F.slot_int_rmul (typeIs_int s k t) F.entry_int_rmul (F.args_int_rmul_2 _ _) (int_rmul_tuple k t l its.toArray n dd sl) ⟨ho, rfl, ⟨_, ho, rfl⟩, ?_⟩
  refine call_meets F.slot_tuple_mul ⟨_, ho, rfl⟩ F.entry_tuple_mul (F.args_tuple_mul_2 _ _) (tuple_mulW l its.toArray n dd sl k t c0 c1 c2 (by omega) c4 c5) ⟨ho, ?_⟩
  rw [size_rep]
  exact lay_tup I (r.rep k.toNat) (by rw [PyProof.Rows.lm_len_rep_flat, sizeLine_eq]; omega) q
end
end DL

namespace DL
open PySem PySem.Spec L2
open PyProof.Rows hiding St

/-! ### slots: data (shared, never changed), a list or a dict that is owned, a dict that is shared -/
abbrev D := PyData
inductive Sl where
  | d (v : D)
  | l (xs : List D)
  | m (kvs : List (Key × D))
  | f (kvs : List (Key × D))
  | s (xs : List D)
abbrev Ev := List (Option Sl)
@[simp] def Sl.own : Sl → Bool
  | .d _ => false
  | .l _ => true
  | .m _ => true
  | .f _ => false
  | .s _ => false
@[simp] def Sl.frz : Sl → Option D
  | .d v => some v
  | .l xs => some (.list xs)
  | .m _ => none
  | .f _ => none
  | .s _ => none

mutual
/-- a value that is data over the shared part F -/
inductive Rp (K : PySem.W.Frag) (F : Hp) : V → D → Prop
  | non : Rp K F .non .none
  | bl (b : Bool) : Rp K F (.bl b) (.bool b)
  | int (i : Int) : Rp K F (.int i) (.int i)
  | str (x : Str) : Rp K F (.str x) (.str x)
  | lst {a : Addr} {xs : List V} {ds : List D} : F a = some (.lst xs) → RpAll K F xs ds → Rp K F (.ref a) (.list ds)
  | tup {a : Addr} {xs : List V} {ds : List D} : TpAt K F a xs → RpAll K F xs ds → Rp K F (.ref a) (.tuple ds)
inductive RpAll (K : PySem.W.Frag) (F : Hp) : List V → List D → Prop
  | nil : RpAll K F [] []
  | cons {v : V} {vs : List V} {d : D} {ds : List D} : Rp K F v d → RpAll K F vs ds → RpAll K F (v :: vs) (d :: ds)
end
theorem sqt_up {K : PySem.W.Frag} {F F' : Hp} (e : Same F F') {a : Addr} {xs : List V} (h : SqT K F a xs) : SqT K F' a xs := by
  rcases h with (h | ⟨o, h⟩) | h
  · exact .inl (.inl (e _ _ h))
  · exact .inl (.inr ⟨o, e _ _ h⟩)
  · exact .inr h
mutual
theorem Rp.up {K : PySem.W.Frag} {F F' : Hp} (e : Same F F') : ∀ {v : V} {d : D}, Rp K F v d → Rp K F' v d
  | _, _, .non => .non
  | _, _, .bl b => .bl b
  | _, _, .int i => .int i
  | _, _, .str x => .str x
  | _, _, .lst h r => .lst (e _ _ h) (RpAll.up e r)
  | _, _, .tup h r => .tup (h.up e) (RpAll.up e r)
theorem RpAll.up {K : PySem.W.Frag} {F F' : Hp} (e : Same F F') : ∀ {vs : List V} {ds : List D}, RpAll K F vs ds → RpAll K F' vs ds
  | _, _, .nil => .nil
  | _, _, .cons a r => .cons (Rp.up e a) (RpAll.up e r)
end
mutual
theorem Rp.dp {K : PySem.W.Frag} {F H : Hp} (e : Same F H) : ∀ {v : V} {d : D}, Rp K F v d → Dp K H v d
  | _, _, .non => .non
  | _, _, .bl b => .bl b
  | _, _, .int i => .int i
  | _, _, .str x => .str x
  | _, _, .lst h r => .lst (.inl (.inl (e _ _ h))) (RpAll.dp e r)
  | _, _, .tup h r => .tup (sqt_up e h.sq) (RpAll.dp e r)
theorem RpAll.dp {K : PySem.W.Frag} {F H : Hp} (e : Same F H) : ∀ {vs : List V} {ds : List D}, RpAll K F vs ds → DpAll K H vs ds
  | _, _, .nil => .nil
  | _, _, .cons a r => .cons (Rp.dp e a) (RpAll.dp e r)
end
theorem RpAll.len {K : PySem.W.Frag} {F : Hp} : ∀ {vs : List V} {ds : List D}, RpAll K F vs ds → vs.length = ds.length
  | _, _, .nil => rfl
  | _, _, .cons _ r => by rw [List.length_cons, List.length_cons, RpAll.len r]
theorem RpAll.get {K : PySem.W.Frag} {F : Hp} : ∀ {vs : List V} {ds : List D} {i : Nat} {d : D}, RpAll K F vs ds → ds[i]? = some d → ∃ v, vs[i]? = some v ∧ Rp K F v d
  | _, _, _, _, .nil, h => by simp at h
  | _, _, 0, d, .cons a _, h => by
    simp only [List.getElem?_cons_zero, Option.some.injEq] at h
    subst h
    exact ⟨_, rfl, a⟩
  | _, _, i + 1, d, .cons _ r, h => by
    obtain ⟨v, h1, h2⟩ := RpAll.get (i := i) (d := d) r (by simpa using h)
    exact ⟨v, by simpa using h1, h2⟩
theorem RpAll.app {K : PySem.W.Frag} {F : Hp} : ∀ {vs ws : List V} {ds es : List D}, RpAll K F vs ds → RpAll K F ws es → RpAll K F (vs ++ ws) (ds ++ es)
  | _, _, _, _, .nil, s => s
  | _, _, _, _, .cons a r, s => .cons a (RpAll.app r s)
theorem RpAll.take {K : PySem.W.Frag} {F : Hp} : ∀ {vs : List V} {ds : List D} (n : Nat), RpAll K F vs ds → RpAll K F (vs.take n) (ds.take n)
  | _, _, 0, _ => .nil
  | _, _, _ + 1, .nil => .nil
  | _, _, n + 1, .cons a r => .cons a (RpAll.take n r)
theorem RpAll.drop {K : PySem.W.Frag} {F : Hp} : ∀ {vs : List V} {ds : List D} (n : Nat), RpAll K F vs ds → RpAll K F (vs.drop n) (ds.drop n)
  | _, _, 0, h => h
  | _, _, _ + 1, .nil => .nil
  | _, _, n + 1, .cons _ r => RpAll.drop n r
theorem RpAll.set {K : PySem.W.Frag} {F : Hp} {v : V} {d : D} (h : Rp K F v d) : ∀ {vs : List V} {ds : List D} (i : Nat), RpAll K F vs ds → RpAll K F (vs.set i v) (ds.set i d)
  | _, _, _, .nil => .nil
  | _, _, 0, .cons _ r => .cons h r
  | _, _, i + 1, .cons a r => .cons a (RpAll.set h i r)
theorem RpAll.erase {K : PySem.W.Frag} {F : Hp} : ∀ {vs : List V} {ds : List D} (i : Nat), RpAll K F vs ds → RpAll K F (vs.eraseIdx i) (ds.eraseIdx i)
  | _, _, _, .nil => .nil
  | _, _, 0, .cons _ r => r
  | _, _, i + 1, .cons a r => .cons a (RpAll.erase i r)
theorem RpAll.rev {K : PySem.W.Frag} {F : Hp} : ∀ {vs : List V} {ds : List D}, RpAll K F vs ds → RpAll K F vs.reverse ds.reverse
  | _, _, .nil => .nil
  | _, _, .cons a r => by
    rw [List.reverse_cons, List.reverse_cons]
    exact RpAll.app (RpAll.rev r) (.cons a .nil)
theorem RpAll.rep {K : PySem.W.Frag} {F : Hp} {vs : List V} {ds : List D} (h : RpAll K F vs ds) : ∀ (n : Nat), RpAll K F (List.replicate n vs).flatten (List.replicate n ds).flatten
  | 0 => .nil
  | n + 1 => by
    rw [List.replicate_succ, List.replicate_succ, List.flatten_cons, List.flatten_cons]
    exact RpAll.app h (RpAll.rep h n)

/-! ### what a step leaves -/
structure Go (F H F' H' : Hp) (O : Addr → Prop) : Prop where
  f : Same F F'
  k : ∀ a o, H a = some o → ¬ O a → H' a = some o
  n : ∀ a o, F' a = some o → F a = some o ∨ H a = none ∨ O a
theorem Go.refl {F H : Hp} {O : Addr → Prop} : Go F H F H O := ⟨Same.refl F, fun _ _ h _ => h, fun _ _ h => .inl h⟩
theorem Go.trans {F H F1 H1 F2 H2 : Hp} {O O1 : Addr → Prop} (a : Go F H F1 H1 O) (b : Go F1 H1 F2 H2 O1) (s : ∀ p, O1 p → O p ∨ H p = none) : Go F H F2 H2 O := by
  refine ⟨a.f.trans b.f, fun p o h n => b.k p o (a.k p o h n) fun z => ?_, fun p o h => ?_⟩
  · rcases s p z with q | q
    · exact n q
    · rw [h] at q; cases q
  · rcases b.n p o h with q | q | q
    · exact a.n p o q
    · refine .inr ?_
      cases e : H p with
      | none => exact .inl rfl
      | some u =>
        refine .inr ?_
        by_cases z : O p
        · exact z
        · rw [a.k p u e z] at q; cases q
    · rcases s p q with z | z
      · exact .inr (.inr z)
      · exact .inr (.inl z)

def Own (σ : St) (ρ : Ev) (p : Addr) : Prop := ∃ (i : Nat) (s : Sl), ρ[i]? = some (some s) ∧ s.own = true ∧ σ[i]? = some (some (.ref p))

/-- keys are scalars, values are data -/
inductive KvOk (K : PySem.W.Frag) (F : Hp) : List (Key × V) → List (Key × D) → Prop
  | nil : KvOk K F [] []
  | cons {k : Key} {v : V} {r : List (Key × V)} {b : D} {t : List (Key × D)} : Rp K F v b → KvOk K F r t → KvOk K F ((k, v) :: r) ((k, b) :: t)
theorem KvOk.up {K : PySem.W.Frag} {F F' : Hp} (e : Same F F') : ∀ {ks : List (Key × V)} {kvs : List (Key × D)}, KvOk K F ks kvs → KvOk K F' ks kvs
  | _, _, .nil => .nil
  | _, _, .cons a r => .cons (Rp.up e a) (KvOk.up e r)

def SlOk (K : PySem.W.Frag) (F H : Hp) (v : V) : Sl → Prop
  | .d x => Rp K F v x
  | .l xs => ∃ p vs, v = .ref p ∧ F p = none ∧ H p = some (.lst vs) ∧ RpAll K F vs xs
  | .m kvs => ∃ p ks, v = .ref p ∧ F p = none ∧ H p = some (.dK ks) ∧ KvOk K F ks kvs
  | .f kvs => ∃ p ks, v = .ref p ∧ F p = some (.dK ks) ∧ KvOk K F ks kvs
  | .s xs => ∃ p vs, v = .ref p ∧ SqL K F p vs ∧ RpAll K F vs xs

structure Sim (K : PySem.W.Frag) (F H : Hp) (σ : St) (ρ : Ev) : Prop where
  fz : Same F H
  len : σ.length = ρ.length
  sl : ∀ (i : Nat) (s : Sl), ρ[i]? = some (some s) → ∃ v, σ[i]? = some (some v) ∧ SlOk K F H v s
  ap : ∀ (i j : Nat) (s t : Sl) (p : Addr), ρ[i]? = some (some s) → ρ[j]? = some (some t) → s.own = true → t.own = true → σ[i]? = some (some (.ref p)) → σ[j]? = some (some (.ref p)) → i = j

theorem SlOk.tracked {K : PySem.W.Frag} {F H : Hp} {v : V} {s : Sl} {p : Addr} (h : SlOk K F H v s) (o : s.own = true) (e : v = .ref p) : F p = none ∧ ∃ u, H p = some u := by
  cases s with
  | d x => cases o
  | l xs =>
    obtain ⟨q, vs, e1, f, h, _⟩ := h
    rw [e] at e1; cases e1
    exact ⟨f, _, h⟩
  | m kvs =>
    obtain ⟨q, ks, e1, f, h, _⟩ := h
    rw [e] at e1; cases e1
    exact ⟨f, _, h⟩
  | f kvs => cases o
  | s xs => cases o
theorem Sim.own {K : PySem.W.Frag} {F H : Hp} {σ : St} {ρ : Ev} (S : Sim K F H σ ρ) {p : Addr} (h : Own σ ρ p) : F p = none ∧ ∃ u, H p = some u := by
  obtain ⟨i, s, e, o, q⟩ := h
  obtain ⟨v, e2, ok⟩ := S.sl i s e
  rw [q] at e2; cases e2
  exact ok.tracked o rfl

/-- an expression's step: the slots stand, what is owned may have changed -/
structure Ste (K : PySem.W.Frag) (F H : Hp) (σ : St) (ρ : Ev) (F' H' : Hp) (ρ' : Ev) : Prop where
  go : Go F H F' H' (Own σ ρ)
  sim : Sim K F' H' σ ρ'
  sub : ∀ p, Own σ ρ' p → Own σ ρ p
theorem Ste.refl {K : PySem.W.Frag} {F H : Hp} {σ : St} {ρ : Ev} (S : Sim K F H σ ρ) : Ste K F H σ ρ F H ρ := ⟨Go.refl, S, fun _ h => h⟩
theorem Ste.trans {K : PySem.W.Frag} {F H F1 H1 F2 H2 : Hp} {σ : St} {ρ ρ1 ρ2 : Ev} (a : Ste K F H σ ρ F1 H1 ρ1) (b : Ste K F1 H1 σ ρ1 F2 H2 ρ2) : Ste K F H σ ρ F2 H2 ρ2 :=
  ⟨a.go.trans b.go fun p h => .inl (a.sub p h), b.sim, fun p h => a.sub p (b.sub p h)⟩
/-- what has come -/
structure Res (K : PySem.W.Frag) (H : Hp) (σ : St) (ρ : Ev) (F' H' : Hp) (ρ' : Ev) (v : V) (s : Sl) : Prop where
  ok : SlOk K F' H' v s
  fr : s.own = true → ∀ p, v = .ref p → (H p = none ∨ Own σ ρ p) ∧ ¬ Own σ ρ' p

/-- only new things -/
structure Nw (F H F' H' : Hp) : Prop where
  f : Same F F'
  h : Same H H'
  z : Same F' H'
  n : ∀ a o, F' a = some o → F a = some o ∨ H a = none
theorem Nw.refl {F H : Hp} (z : Same F H) : Nw F H F H := ⟨Same.refl F, Same.refl H, z, fun _ _ h => .inl h⟩
theorem Nw.trans {F H F1 H1 F2 H2 : Hp} (a : Nw F H F1 H1) (b : Nw F1 H1 F2 H2) : Nw F H F2 H2 := by
  refine ⟨a.f.trans b.f, a.h.trans b.h, b.z, fun p o h => ?_⟩
  rcases b.n p o h with q | q
  · exact a.n p o q
  · exact .inr (a.h.free q)
theorem same_upd {H : Hp} {p : Addr} {o : HO} (h : H p = none) : Same H (upd H p o) := fun b x e => by
  rw [upd_ne (ne_of_none e h)]
  exact e
theorem same_upd2 {F H : Hp} {p : Addr} {o : HO} (e : Same F H) : Same (upd F p o) (upd H p o) := fun b x q => by
  by_cases hb : b = p
  · subst hb; rw [upd_same] at q ⊢; exact q
  · rw [upd_ne hb] at q ⊢; exact e b x q
theorem same_updR {F H : Hp} {p : Addr} {o : HO} (e : Same F H) (h : F p = none) : Same F (upd H p o) := fun b x q => by
  rw [upd_ne (ne_of_none q h)]
  exact e b x q
/-- a new shared object -/
theorem Nw.both {F H : Hp} {p : Addr} {o : HO} (z : Same F H) (h : H p = none) : Nw F H (upd F p o) (upd H p o) := by
  refine ⟨same_upd (z.free h), same_upd h, same_upd2 z, fun a u e => ?_⟩
  by_cases ha : a = p
  · subst ha; exact .inr h
  · rw [upd_ne ha] at e; exact .inl e
/-- a new object of one's own -/
theorem Nw.mine {F H : Hp} {p : Addr} {o : HO} (z : Same F H) (h : H p = none) : Nw F H F (upd H p o) :=
  ⟨Same.refl F, same_upd h, same_updR z (z.free h), fun _ _ e => .inl e⟩

theorem SlOk.nw {K : PySem.W.Frag} {F H F' H' : Hp} {v : V} {s : Sl} (h : SlOk K F H v s) (w : Same F F') (k : ∀ p, s.own = true → v = .ref p → F' p = none ∧ H' p = H p) : SlOk K F' H' v s := by
  cases s with
  | d x => exact Rp.up w h
  | l xs =>
    obtain ⟨p, vs, e, f, q, a⟩ := h
    obtain ⟨k1, k2⟩ := k p rfl e
    exact ⟨p, vs, e, k1, k2.trans q, RpAll.up w a⟩
  | m kvs =>
    obtain ⟨p, ks, e, f, q, a⟩ := h
    obtain ⟨k1, k2⟩ := k p rfl e
    exact ⟨p, ks, e, k1, k2.trans q, a.up w⟩
  | f kvs =>
    obtain ⟨p, ks, e, q, a⟩ := h
    exact ⟨p, ks, e, w _ _ q, a.up w⟩
  | s xs =>
    obtain ⟨p, vs, e, q, a⟩ := h
    exact ⟨p, vs, e, w.seq q, RpAll.up w a⟩
/-- an owned thing is not touched by new things -/
theorem Nw.own {F H F' H' : Hp} (w : Nw F H F' H') {p : Addr} {u : HO} (f : F p = none) (h : H p = some u) : F' p = none ∧ H' p = H p := by
  refine ⟨?_, by rw [w.h p u h, h]⟩
  cases e : F' p with
  | none => rfl
  | some o =>
    rcases w.n p o e with q | q
    · rw [f] at q; cases q
    · rw [h] at q; cases q
theorem Nw.sim {K : PySem.W.Frag} {F H F' H' : Hp} {σ : St} {ρ : Ev} (w : Nw F H F' H') (S : Sim K F H σ ρ) : Sim K F' H' σ ρ := by
  refine ⟨w.z, S.len, fun i s e => ?_, S.ap⟩
  obtain ⟨v, e2, ok⟩ := S.sl i s e
  refine ⟨v, e2, ok.nw w.f fun p o ev => ?_⟩
  obtain ⟨f, u, h⟩ := ok.tracked o ev
  exact w.own f h
theorem Nw.ste {K : PySem.W.Frag} {F H F' H' : Hp} {σ : St} {ρ : Ev} (w : Nw F H F' H') (S : Sim K F H σ ρ) : Ste K F H σ ρ F' H' ρ := by
  refine ⟨⟨w.f, fun a o h _ => w.h a o h, fun a o h => ?_⟩, w.sim S, fun _ h => h⟩
  rcases w.n a o h with q | q
  · exact .inl q
  · exact .inr (.inl q)
/-- what an operation gives -/
structure Rs (K : PySem.W.Frag) (H F' H' : Hp) (v : V) (s : Sl) : Prop where
  ok : SlOk K F' H' v s
  fr : s.own = true → ∀ p, v = .ref p → H p = none
theorem Rs.data {K : PySem.W.Frag} {H F' H' : Hp} {v : V} {x : D} (h : Rp K F' v x) : Rs K H F' H' v (.d x) := ⟨h, fun e => by cases e⟩
theorem Rs.res {K : PySem.W.Frag} {F H F1 H1 F2 H2 : Hp} {σ : St} {ρ ρ1 : Ev} {v : V} {s : Sl} (a : Ste K F H σ ρ F1 H1 ρ1) (r : Rs K H1 F2 H2 v s) : Res K H σ ρ F2 H2 ρ1 v s := by
  refine ⟨r.ok, fun o p e => ?_⟩
  have q := r.fr o p e
  have n1 : ¬ Own σ ρ1 p := fun z => by
    obtain ⟨_, u, hu⟩ := a.sim.own z
    rw [q] at hu; cases hu
  refine ⟨?_, n1⟩
  cases e2 : H p with
  | none => exact .inl rfl
  | some u =>
    by_cases z : Own σ ρ p
    · exact .inr z
    · rw [a.go.k p u e2 z] at q; cases q

/-- a thing that has come is shared from now on -/
theorem Res.share {K : PySem.W.Frag} {F H F1 H1 : Hp} {σ : St} {ρ ρ1 : Ev} {v : V} {s : Sl} {x : D} (a : Ste K F H σ ρ F1 H1 ρ1) (r : Res K H σ ρ F1 H1 ρ1 v s) (e : s.frz = some x) :
    ∃ F2, Ste K F H σ ρ F2 H1 ρ1 ∧ Rp K F2 v x := by
  cases s with
  | d y =>
    cases e
    exact ⟨F1, a, r.ok⟩
  | l xs =>
    cases e
    obtain ⟨p, vs, rfl, f, h, al⟩ := r.ok
    obtain ⟨hp, np⟩ := r.fr rfl p rfl
    have up : Same F1 (upd F1 p (.lst vs)) := same_upd f
    have nq : ∀ q, Own σ ρ1 q → q ≠ p := fun q z e => np (e ▸ z)
    refine ⟨upd F1 p (.lst vs), ⟨⟨a.go.f.trans up, a.go.k, fun b o e => ?_⟩, ⟨fun b o e => ?_, a.sim.len, fun i s e => ?_, a.sim.ap⟩, a.sub⟩, .lst upd_same (RpAll.up up al)⟩
    · by_cases hb : b = p
      · subst hb
        exact .inr hp
      · rw [upd_ne hb] at e
        exact a.go.n b o e
    · by_cases hb : b = p
      · subst hb
        rw [upd_same] at e
        rw [h]; exact e
      · rw [upd_ne hb] at e
        exact a.sim.fz b o e
    · obtain ⟨v, e2, ok⟩ := a.sim.sl i s e
      refine ⟨v, e2, ok.nw up fun q o ev => ⟨?_, rfl⟩⟩
      rw [upd_ne (nq q ⟨i, s, e, o, by rw [e2, ev]⟩)]
      exact (ok.tracked o ev).1
  | m kvs => cases e
  | f kvs => cases e
  | s xs => cases e
end DL

namespace DL
open PySem PySem.Spec L2
open PyProof.Rows hiding St

abbrev GX := Ev → Option (Ev × Sl)
abbrev GD := Ev → Option (Ev × D)
abbrev GB := Ev → Option (Ev × Bool)
abbrev GA := Ev → Option (Ev × List D)

def tX (K : PySem.W.Frag) (g : GX) : TE := fun σ H Q => ∃ F ρ ρ' s, Sim K F H σ ρ ∧ g ρ = some (ρ', s) ∧ ∀ F' H' v, Ste K F H σ ρ F' H' ρ' → Res K H σ ρ F' H' ρ' v s → Q v H'
def tD (K : PySem.W.Frag) (g : GD) : TE := fun σ H Q => ∃ F ρ ρ' d, Sim K F H σ ρ ∧ g ρ = some (ρ', d) ∧ ∀ F' H' v, Ste K F H σ ρ F' H' ρ' → Rp K F' v d → Q v H'
def tT (K : PySem.W.Frag) (g : GB) : TT := fun σ H Q => ∃ F ρ ρ' b, Sim K F H σ ρ ∧ g ρ = some (ρ', b) ∧ ∀ F' H', Ste K F H σ ρ F' H' ρ' → Q b H'
def tAr (K : PySem.W.Frag) (g : GA) : TA := fun σ H Q => ∃ F ρ ρ' ds, Sim K F H σ ρ ∧ g ρ = some (ρ', ds) ∧ ∀ F' H' vs, Ste K F H σ ρ F' H' ρ' → RpAll K F' vs ds → Q vs H'

section
variable {X : Cx} {e : Expr}
theorem PEimp {t t' : TE} (h : PE X e t) (w : ∀ σ H Q, t' σ H Q → t σ H Q) : PE X e t' := ⟨fun pins s σ H Q I q => h.run pins s σ H Q I (w σ H Q q)⟩
theorem PTimp {t t' : TT} (h : PT X e t) (w : ∀ σ H Q, t' σ H Q → t σ H Q) : PT X e t' := ⟨fun pins s σ H Q I q => h.run pins s σ H Q I (w σ H Q q)⟩
theorem PWimp {t t' : TT} (h : PW X e t) (w : ∀ σ H Q, t' σ H Q → t σ H Q) : PW X e t' := ⟨fun wh pins s σ H Q I q => h.run wh pins s σ H Q I (w σ H Q q)⟩
theorem PAimp {es : List Expr} {t t' : TA} (h : PA X es t) (w : ∀ σ H Q, t' σ H Q → t σ H Q) : PA X es t' := ⟨fun pos pins s σ H Q I q => h.run pos pins s σ H Q I (w σ H Q q)⟩
theorem PSimp {st : Stmt} {t t' : TS} (h : PS X st t) (w : ∀ D σ H, t' D σ H → t D σ H) : PS X st t' := ⟨fun pins s σ H D I q => h.run pins s σ H D I (w D σ H q)⟩
theorem PSsimp {st : List Stmt} {t t' : TS} (h : PSs X st t) (w : ∀ D σ H, t' D σ H → t D σ H) : PSs X st t' := ⟨fun pins s σ H D I q => h.run pins s σ H D I (w D σ H q)⟩
theorem PGimp {t t' : TG} (h : PG X e t) (w : ∀ v σ H Q, t' v σ H Q → t v σ H Q) : PG X e t' := ⟨fun pins s σ H v u Q I r q => h.run pins s σ H v u Q I r (w v σ H Q q)⟩
end

/-! ### plain combinators -/
@[simp] def gd (g : GX) : GD := fun ρ => (g ρ).bind fun r => r.2.frz.map fun d => (r.1, d)
@[simp] def gx (g : GD) : GX := fun ρ => (g ρ).map fun r => (r.1, .d r.2)
@[simp] def gOp (ga gb : GD) (f : D → D → Option Sl) : GX := fun ρ => (ga ρ).bind fun a => (gb a.1).bind fun b => (f a.2 b.2).map fun r => (b.1, r)
@[simp] def gUn (ga : GD) (f : D → Option Sl) : GX := fun ρ => (ga ρ).bind fun a => (f a.2).map fun r => (a.1, r)
@[simp] def gNil : GA := fun ρ => some (ρ, [])
@[simp] def gCons (ga : GD) (gs : GA) : GA := fun ρ => (ga ρ).bind fun a => (gs a.1).map fun r => (r.1, a.2 :: r.2)
@[simp] def gFn (gs : GA) (f : List D → Option Sl) : GX := fun ρ => (gs ρ).bind fun a => (f a.2).map fun r => (a.1, r)
@[simp] def boolD : D → Option Bool
  | .bool b => some b
  | _ => none
@[simp] def gb (ga : GD) : GB := fun ρ => (ga ρ).bind fun a => (boolD a.2).map fun b => (a.1, b)
@[simp] def gbd (g : GB) : GD := fun ρ => (g ρ).map fun r => (r.1, .bool r.2)

section
variable {X : Cx} {a b e : Expr} {es : List Expr} {pos : Pos} {op : Operator} {g g1 : GX} {ga gb' : GD} {gs : GA} {t : TE}
theorem d_of (h : PE X e (tX X.K g)) : PE X e (tD X.K (gd g)) := PEimp h fun σ H Q ⟨F, ρ, ρ', d, S, eq, q⟩ => by
  obtain ⟨⟨ρ1, s⟩, e1, e2⟩ := Option.bind_eq_some_iff.mp eq
  obtain ⟨x, e3, e4⟩ := Option.map_eq_some_iff.mp e2
  cases e4
  refine ⟨F, ρ, ρ1, s, S, e1, fun F' H' v st r => ?_⟩
  obtain ⟨F2, st2, rp⟩ := r.share st e3
  exact q F2 H' v st2 rp
theorem x_of (h : PE X e (tD X.K ga)) : PE X e (tX X.K (gx ga)) := PEimp h fun σ H Q ⟨F, ρ, ρ', s, S, eq, q⟩ => by
  obtain ⟨⟨ρ1, x⟩, e1, e2⟩ := Option.map_eq_some_iff.mp eq
  cases e2
  exact ⟨F, ρ, ρ1, x, S, e1, fun F' H' v st r => q F' H' v st ⟨r, fun z => by cases z⟩⟩

/-- an operation on two data, by values -/
def rD2 (K : PySem.W.Frag) (f : D → D → Option Sl) : R2 := fun x y H Q => ∃ F a b r, Same F H ∧ Rp K F x a ∧ Rp K F y b ∧ f a b = some r ∧ ∀ F' H' z, Nw F H F' H' → Rs K H F' H' z r → Q z H'
theorem op_imp {f : D → D → Option Sl} {ga gb' : GD} : ∀ σ H Q, tX X.K (gOp ga gb' f) σ H Q → tOp (rD2 X.K f) (tD X.K ga) (tD X.K gb') σ H Q := fun σ H Q ⟨F, ρ, ρ', s, S, eq, q⟩ => by
  obtain ⟨⟨ρ1, x⟩, e1, e2⟩ := Option.bind_eq_some_iff.mp eq
  obtain ⟨⟨ρ2, y⟩, e3, e4⟩ := Option.bind_eq_some_iff.mp e2
  obtain ⟨r, e5, e6⟩ := Option.map_eq_some_iff.mp e4
  cases e6
  refine ⟨F, ρ, ρ1, x, S, e1, fun F1 H1 v1 st1 r1 => ⟨F1, ρ1, ρ2, y, st1.sim, e3, fun F2 H2 v2 st2 r2 => ?_⟩⟩
  have st := st1.trans st2
  refine ⟨F2, x, y, s, st.sim.fz, Rp.up st2.go.f r1, r2, e5, fun F3 H3 z nw rs => ?_⟩
  exact q F3 H3 z (st.trans (nw.ste st.sim)) (rs.res st)
theorem de_op {f : D → D → Option Sl} (ho : OpR X (binaryOp op) (rD2 X.K f)) (ha : PE X a (tD X.K ga)) (hb : PE X b (tD X.K gb')) : PE X (.BinOp a op b pos) (tX X.K (gOp ga gb' f)) :=
  PEimp (pe_op ho ha hb) op_imp
theorem de_cmp {cop : CmpOp} {f : D → D → Option Sl} (ho : OpR X (compareOp cop) (rD2 X.K f)) (ha : PE X a (tD X.K ga)) (hb : PE X b (tD X.K gb')) (hm : behindInMarks cop b = false) : PE X (.Compare a [cop] [b] pos) (tX X.K (gOp ga gb' f)) :=
  PEimp (pe_cmpR ho ha hb hm) op_imp
def rD1 (K : PySem.W.Frag) (f : D → Option Sl) : V → Hp → VK → Prop := fun x H Q => ∃ F a r, Same F H ∧ Rp K F x a ∧ f a = some r ∧ ∀ F' H' z, Nw F H F' H' → Rs K H F' H' z r → Q z H'
theorem un_imp {f : D → Option Sl} {ga : GD} : ∀ σ H Q, tX X.K (gUn ga f) σ H Q → tUn (rD1 X.K f) (tD X.K ga) σ H Q := fun σ H Q ⟨F, ρ, ρ', s, S, eq, q⟩ => by
  obtain ⟨⟨ρ1, x⟩, e1, e2⟩ := Option.bind_eq_some_iff.mp eq
  obtain ⟨r, e5, e6⟩ := Option.map_eq_some_iff.mp e2
  cases e6
  refine ⟨F, ρ, ρ1, x, S, e1, fun F1 H1 v1 st1 r1 => ⟨F1, x, s, st1.sim.fz, r1, e5, fun F3 H3 z nw rs => ?_⟩⟩
  exact q F3 H3 z (st1.trans (nw.ste st1.sim)) (rs.res st1)
theorem de_un {uop : UnaryOp} {f : D → Option Sl} (ho : UnR X (unaryOp uop) (rD1 X.K f)) (ha : PE X a (tD X.K ga)) : PE X (.UnaryOp uop a pos) (tX X.K (gUn ga f)) := PEimp (pe_un ho ha) un_imp

/-! ### arguments -/
theorem da_nil : PA X [] (tAr X.K gNil) := PAimp pa_nil fun σ H Q ⟨F, ρ, ρ', ds, S, eq, q⟩ => by
  cases eq
  exact q F H [] (Ste.refl S) .nil
theorem da_cons (ha : PE X e (tD X.K ga)) (hs : PA X es (tAr X.K gs)) (hst : starEach (e :: es) X.env = (false, eval e X.env) :: starEach es X.env) : PA X (e :: es) (tAr X.K (gCons ga gs)) :=
  PAimp (pa_cons ha hs hst) fun σ H Q ⟨F, ρ, ρ', ds, S, eq, q⟩ => by
    obtain ⟨⟨ρ1, x⟩, e1, e2⟩ := Option.bind_eq_some_iff.mp eq
    obtain ⟨⟨ρ2, y⟩, e5, e6⟩ := Option.map_eq_some_iff.mp e2
    cases e6
    refine ⟨F, ρ, ρ1, x, S, e1, fun F1 H1 v1 st1 r1 => ⟨F1, ρ1, ρ2, y, st1.sim, e5, fun F2 H2 vs st2 r2 => ?_⟩⟩
    exact q F2 H2 (v1 :: vs) (st1.trans st2) (.cons (Rp.up st2.go.f r1) r2)
/-- a call of a builtin, by values -/
def rDs (K : PySem.W.Frag) (f : List D → Option Sl) : List V → Hp → VK → Prop := fun xs H Q => ∃ F ds r, Same F H ∧ RpAll K F xs ds ∧ f ds = some r ∧ ∀ F' H' z, Nw F H F' H' → Rs K H F' H' z r → Q z H'
theorem fn_imp {f : List D → Option Sl} {gs : GA} : ∀ σ H Q, tX X.K (gFn gs f) σ H Q → tCB (rDs X.K f) (tAr X.K gs) σ H Q := fun σ H Q ⟨F, ρ, ρ', s, S, eq, q⟩ => by
  obtain ⟨⟨ρ1, x⟩, e1, e2⟩ := Option.bind_eq_some_iff.mp eq
  obtain ⟨r, e5, e6⟩ := Option.map_eq_some_iff.mp e2
  cases e6
  refine ⟨F, ρ, ρ1, x, S, e1, fun F1 H1 v1 st1 r1 => ⟨F1, x, s, st1.sim.fz, r1, e5, fun F3 H3 z nw rs => ?_⟩⟩
  exact q F3 H3 z (st1.trans (nw.ste st1.sim)) (rs.res st1)

/-! ### displays -/
@[simp] def tupD (ds : List D) : Option Sl := if ds.length ≤ sizeLine then some (.d (.tuple ds)) else none
@[simp] def lstD (ds : List D) : Option Sl := if ds.length ≤ sizeLine then some (.l ds) else none
theorem de_tup {k : Nat} (hs : PA X es (tAr X.K gs)) : PE X (.Tuple es k pos) (tX X.K (gFn gs tupD)) :=
  PEimp (pe_tupF hs) fun σ H Q ⟨F, ρ, ρ', s, S, eq, q⟩ => by
    obtain ⟨⟨ρ1, x⟩, e1, e2⟩ := Option.bind_eq_some_iff.mp eq
    obtain ⟨r, e5, e6⟩ := Option.map_eq_some_iff.mp e2
    cases e6
    unfold tupD at e5
    split at e5
    · rename_i hz
      cases e5
      refine ⟨F, ρ, ρ1, x, S, e1, fun F1 H1 vs st1 r1 => ⟨by rw [RpAll.len r1]; exact hz, fun p o hp ho => ?_⟩⟩
      have nw : Nw F1 H1 (upd F1 p (.frz o (.tup vs))) (upd H1 p (.frz o (.tup vs))) := Nw.both st1.sim.fz hp
      exact q _ _ _ (st1.trans (nw.ste st1.sim)) ((Rs.data (.tup (.inl ⟨o, upd_same, ho⟩) (RpAll.up nw.f r1))).res st1)
    · cases e5
theorem de_lst (hs : PA X es (tAr X.K gs)) : PE X (.List es pos) (tX X.K (gFn gs lstD)) :=
  PEimp (pe_lst hs) fun σ H Q ⟨F, ρ, ρ', s, S, eq, q⟩ => by
    obtain ⟨⟨ρ1, x⟩, e1, e2⟩ := Option.bind_eq_some_iff.mp eq
    obtain ⟨r, e5, e6⟩ := Option.map_eq_some_iff.mp e2
    cases e6
    unfold lstD at e5
    split at e5
    · rename_i hz
      cases e5
      refine ⟨F, ρ, ρ1, x, S, e1, fun F1 H1 vs st1 r1 => ⟨by rw [RpAll.len r1]; exact hz, fun p hp => ?_⟩⟩
      have nw : Nw F1 H1 F1 (upd H1 p (.lst vs)) := Nw.mine st1.sim.fz hp
      refine q _ _ _ (st1.trans (nw.ste st1.sim)) (Rs.res st1 ⟨⟨p, vs, rfl, st1.sim.fz.free hp, upd_same, r1⟩, fun _ p' e => ?_⟩)
      cases e; exact hp
    · cases e5

/-! ### names and constants -/
theorem de_cst {v : V} {d : D} (h : PE X e (tC v)) (r : ∀ K F, Rp K F v d) : PE X e (tD X.K fun ρ => some (ρ, d)) := PEimp h fun σ H Q ⟨F, ρ, ρ', s, S, eq, q⟩ => by
  cases eq
  exact q F H v (Ste.refl S) (r _ _)
@[simp] def gVar (i : Nat) : GD := fun ρ => match ρ[i]? with
  | some (some (.d x)) => some (ρ, x)
  | some (some (.l xs)) => some (ρ.set i (some (.d (.list xs))), .list xs)
  | _ => none
end

/-- an owned list becomes shared -/
theorem Sim.freeze {K : PySem.W.Frag} {F H : Hp} {σ : St} {ρ : Ev} {i : Nat} {xs : List D} (S : Sim K F H σ ρ) (e : ρ[i]? = some (some (.l xs))) :
    ∃ p vs, σ[i]? = some (some (.ref p)) ∧ Ste K F H σ ρ (upd F p (.lst vs)) H (ρ.set i (some (.d (.list xs)))) ∧ Rp K (upd F p (.lst vs)) (.ref p) (.list xs) := by
  obtain ⟨v, e2, p, vs, rfl, f, h, al⟩ := S.sl i _ e
  have hi : i < ρ.length := (List.getElem?_eq_some_iff.mp e).1
  have up : Same F (upd F p (.lst vs)) := same_upd f
  have ow : Own σ ρ p := ⟨i, _, e, rfl, e2⟩
  have rp : Rp K (upd F p (.lst vs)) (.ref p) (.list xs) := .lst upd_same (RpAll.up up al)
  have sub : ∀ j s, (ρ.set i (some (.d (.list xs))))[j]? = some (some s) → s.own = true → j ≠ i ∧ ρ[j]? = some (some s) := fun j s ej o => by
    by_cases hj : j = i
    · subst hj
      rw [List.getElem?_set_self hi] at ej
      cases ej; cases o
    · rw [List.getElem?_set_ne (Ne.symm hj)] at ej
      exact ⟨hj, ej⟩
  refine ⟨p, vs, e2, ⟨⟨up, fun a o h _ => h, fun a o h2 => ?_⟩, ⟨fun a o h2 => ?_, by rw [List.length_set]; exact S.len, fun j s ej => ?_, fun j k s t q e1 e2 o1 o2 q1 q2 => ?_⟩, fun q ⟨j, s, ej, o, qj⟩ => ?_⟩, rp⟩
  · by_cases ha : a = p
    · subst ha; exact .inr (.inr ow)
    · rw [upd_ne ha] at h2; exact .inl h2
  · by_cases ha : a = p
    · subst ha; rw [upd_same] at h2; rw [h]; exact h2
    · rw [upd_ne ha] at h2; exact S.fz a o h2
  · by_cases hj : j = i
    · subst hj
      rw [List.getElem?_set_self hi] at ej
      cases ej
      exact ⟨.ref p, e2, rp⟩
    · rw [List.getElem?_set_ne (Ne.symm hj)] at ej
      obtain ⟨v, e3, ok⟩ := S.sl j s ej
      refine ⟨v, e3, ok.nw up fun q o ev => ⟨?_, rfl⟩⟩
      rw [upd_ne]
      · exact (ok.tracked o ev).1
      · intro z
        subst z
        exact hj (S.ap j i s _ q ej e o rfl (by rw [e3, ev]) e2)
  · exact S.ap j k s t q (sub j s e1 o1).2 (sub k t e2 o2).2 o1 o2 q1 q2
  · exact ⟨j, s, (sub j s ej o).2, o, qj⟩
section
variable {X : Cx} {i : Nat} {x : Str} {pos : Pos}
theorem de_var (hN : X.N[i]? = some x) (hv : Vis X.env.scope x) (hd : (x == ("__debug__" : Str)) = false) (hcd : (x == ("__classdict__" : Str)) = false) : PE X (.Name x pos) (tD X.K (gVar i)) :=
  PEimp (pe_var hN hv hd hcd) fun σ H Q ⟨F, ρ, ρ', d, S, eq, q⟩ => by
    unfold gVar at eq
    split at eq
    · rename_i y ey
      cases eq
      obtain ⟨v, e2, ok⟩ := S.sl i _ ey
      exact ⟨v, e2, q F H v (Ste.refl S) ok⟩
    · rename_i xs ey
      cases eq
      obtain ⟨p, vs, e2, st, rp⟩ := S.freeze ey
      exact ⟨_, e2, q _ H _ st rp⟩
    · cases eq
end
end DL

namespace DL
open PySem PySem.Spec L2
open PyProof.Rows hiding St

mutual
theorem Rp.plain {K : PySem.W.Frag} {F : Hp} : ∀ {v : V} {d : D}, Rp K F v d → d.plain = true
  | _, _, .non => rfl
  | _, _, .bl _ => rfl
  | _, _, .int _ => rfl
  | _, _, .str _ => rfl
  | _, _, .lst _ r => by unfold PyData.plain; exact RpAll.plain r
  | _, _, .tup _ r => by unfold PyData.plain; exact RpAll.plain r
theorem RpAll.plain {K : PySem.W.Frag} {F : Hp} : ∀ {vs : List V} {ds : List D}, RpAll K F vs ds → PyData.plainAll ds = true
  | _, _, .nil => rfl
  | _, _, .cons a r => by unfold PyData.plainAll; rw [Rp.plain a, RpAll.plain r]; rfl
end
theorem Rp.reads {X : Cx} {pins : List (Addr × Obj)} {σ : St} {F H : Hp} {s : Shared} (I : Inv X pins σ H s) (z : Same F H) {v : V} {u : Value} {d : D} (r : Rp X.K F v d) (q : RelV v u) : ∃ as, Reads s.heap u d as :=
  Dp.reads I d v u (r.dp z) q

/-! ### operations on data -/
def fit (n : Nat) : Bool := decide (n ≤ 16777216)
theorem fit_le {n : Nat} (h : fit n = true) : n ≤ sizeLine := by
  have := of_decide_eq_true h
  rw [sizeLine_eq]; exact this
@[simp] def addD : D → D → Option Sl
  | .int i, .int j => some (.d (.int (i + j)))
  | .str x, .str y => if fit (x.length + y.length) then some (.d (.str (x ++ y))) else none
  | .tuple xs, .tuple ys => if fit (xs.length + ys.length) then some (.d (.tuple (xs ++ ys))) else none
  | .list xs, .list ys => if fit (xs.length + ys.length) then some (.l (xs ++ ys)) else none
  | _, _ => none
@[simp] def subD : D → D → Option Sl
  | .int i, .int j => some (.d (.int (i - j)))
  | _, _ => none
def repS (x : Str) (k : Nat) : Str := ⟨(List.replicate k x.cps).foldl (· ++ ·) #[]⟩
theorem rep_size (a : Array Nat) : ∀ (k : Nat) (b : Array Nat), ((List.replicate k a).foldl (· ++ ·) b).size = b.size + k * a.size
  | 0, b => by simp
  | k + 1, b => by
    rw [List.replicate_succ, List.foldl_cons, rep_size a k, Array.size_append, Nat.succ_mul]
    omega
theorem repS_one (x : Str) : repS x 1 = x := by
  unfold repS
  show (⟨#[] ++ x.cps⟩ : Str) = x
  rw [Array.empty_append]
@[simp] def mulD : D → D → Option Sl
  | .int i, .int j => if (decide (i.natAbs < 2 ^ 64) || decide (j.natAbs < 2 ^ 64)) || decide (i.natAbs < 2 ^ 20000 ∧ j.natAbs < 2 ^ 20000) then some (.d (.int (i * j))) else none
  | .list xs, .int k => if decide (k < 2 ^ 63 ∧ -(2 ^ 63) ≤ k) && fit (xs.length * k.toNat) then some (.l (List.replicate k.toNat xs).flatten) else none
  | .tuple xs, .int k => if decide (xs ≠ [] ∧ 1 ≤ k ∧ k ≤ 1000 ∧ xs.length ≤ 1000) then some (.d (.tuple (List.replicate k.toNat xs).flatten)) else none
  | .str x, .int k => if decide (1 ≤ k ∧ k ≤ 1000 ∧ 1 ≤ x.length ∧ x.length ≤ 1000) then some (.d (.str (repS x k.toNat))) else none
  | _, _ => none
@[simp] def fdivD : D → D → Option Sl
  | .int i, .int j => if decide (0 < j ∧ j.natAbs < 2 ^ 8000) then some (.d (.int (i / j))) else none
  | _, _ => none
@[simp] def modD : D → D → Option Sl
  | .int i, .int j => if decide (0 < j) then some (.d (.int (i % j))) else none
  | _, _ => none
@[simp] def powD : D → D → Option Sl
  | .int i, .int j => if decide (0 ≤ j ∧ j ≤ 1000000 ∧ i.natAbs < 2 ^ 64) then some (.d (.int (i ^ j.toNat))) else none
  | _, _ => none
def dep2 (a b : D) : Bool := decide (min a.depth b.depth ≤ 100)
@[simp] def eqD (a b : D) : Option Sl := if dep2 a b then some (.d (.bool (PyData.eqv a b))) else none
@[simp] def neD (a b : D) : Option Sl := if dep2 a b then some (.d (.bool (!PyData.eqv a b))) else none
@[simp] def ltD : D → D → Option Sl
  | .int i, .int j => some (.d (.bool (decide (i < j))))
  | .str i, .str j => some (.d (.bool (decide (i.cps.toList < j.cps.toList))))
  | _, _ => none
@[simp] def leD : D → D → Option Sl
  | .int i, .int j => some (.d (.bool (decide (i ≤ j))))
  | _, _ => none
@[simp] def gtD : D → D → Option Sl
  | .int i, .int j => some (.d (.bool (decide (j < i))))
  | _, _ => none
@[simp] def geD : D → D → Option Sl
  | .int i, .int j => some (.d (.bool (decide (j ≤ i))))
  | _, _ => none
def inB : D → D → Option Bool
  | a, .list xs => if decide (min (PyData.depthAll xs) a.depth ≤ 100) then some (xs.any fun y => PyData.eqv y a) else none
  | a, .tuple xs => if decide (min (PyData.depthAll xs) a.depth ≤ 100) then some (xs.any fun y => PyData.eqv y a) else none
  | .str a, .str b => some (!(Builtin.Str.occurrences b a 0 b.length 1).isEmpty)
  | _, _ => none
@[simp] def inD (a b : D) : Option Sl := (inB a b).map fun r => .d (.bool r)
@[simp] def notInD (a b : D) : Option Sl := (inB a b).map fun r => .d (.bool (!r))
@[simp] def negD : D → Option Sl
  | .int i => some (.d (.int (-i)))
  | _ => none

section
variable {X : Cx}
/-- the value itself, nothing new -/
theorem fin_same {K : PySem.W.Frag} {F H : Hp} {Q : VK} {r : D} {v : V} (z : Same F H) (q : ∀ F' H' z, Nw F H F' H' → Rs K H F' H' z (.d r) → Q z H') (h : Rp K F v r) : Q v H :=
  q F H v (Nw.refl z) (Rs.data h)
theorem fin_tup {K : PySem.W.Frag} {F H : Hp} {Q : VK} {xs : List D} {vs : List V} {p : Addr} (z : Same F H) (q : ∀ F' H' z, Nw F H F' H' → Rs K H F' H' z (.d (.tuple xs)) → Q z H') (h : RpAll K F vs xs) {o : Obj} (hp : H p = none) (ho : o.dict = none) : Q (.ref p) (upd H p (.frz o (.tup vs))) := by
  have nw : Nw F H (upd F p (.frz o (.tup vs))) (upd H p (.frz o (.tup vs))) := Nw.both z hp
  exact q _ _ _ nw (Rs.data (.tup (.inl ⟨o, upd_same, ho⟩) (RpAll.up nw.f h)))
theorem fin_lst {K : PySem.W.Frag} {F H : Hp} {Q : VK} {xs : List D} {vs : List V} {p : Addr} (z : Same F H) (q : ∀ F' H' z, Nw F H F' H' → Rs K H F' H' z (.l xs) → Q z H') (h : RpAll K F vs xs) (hp : H p = none) : Q (.ref p) (upd H p (.lst vs)) := by
  refine q _ _ _ (Nw.mine z hp) ⟨⟨p, vs, rfl, z.free hp, upd_same, h⟩, fun _ p' e => ?_⟩
  cases e; exact hp
theorem OpRimp {f : Value → Value → Sem Value} {r r' : R2} (h : OpR X f r) (w : ∀ x y H Q, r' x y H Q → r x y H Q) : OpR X f r' := fun pins s σ H x y v u Q I rx ry q => h pins s σ H x y v u Q I rx ry (w x y H Q q)
theorem OpRor {f : Value → Value → Sem Value} {r r' : R2} (h : OpR X f r) (h' : OpR X f r') : OpR X f (fun x y H Q => r x y H Q ∨ r' x y H Q) := fun pins s σ H x y v u Q I rx ry q =>
  q.elim (h pins s σ H x y v u Q I rx ry) (h' pins s σ H x y v u Q I rx ry)

theorem o_add : OpR X (binaryOp .Add) (rD2 X.K addD) := by
  refine OpRimp (OpRor op_add (OpRor op_add_str (OpRor op_catF op_cat))) fun x y H Q ⟨F, a, b, r, z, ra, rb, e, q⟩ => ?_
  cases ra with
  | int i =>
    cases rb with
    | int j => cases e; exact .inl ⟨i, j, rfl, rfl, fin_same z q (.int _)⟩
    | _ => cases e
  | str x =>
    cases rb with
    | str y =>
      simp only [addD] at e
      split at e
      · rename_i hz
        cases e; exact .inr (.inl ⟨x, y, rfl, rfl, fit_le hz, fin_same z q (.str _)⟩)
      · cases e
    | _ => cases e
  | tup h1 r1 =>
    cases rb with
    | tup h2 r2 =>
      simp only [addD] at e
      split at e
      · rename_i hz
        cases e
        refine .inr (.inr (.inl ⟨_, _, _, _, rfl, rfl, sqt_up z h1.sq, sqt_up z h2.sq, by rw [RpAll.len r1, RpAll.len r2]; exact fit_le hz, fun e0 => ?_, fun _ e0 => ?_, fun _ _ p o hp ho => fin_tup z q (RpAll.app r1 r2) hp ho⟩))
        · subst e0
          cases r1
          exact fin_same z q (.tup h2 r2)
        · subst e0
          cases r2
          rw [List.append_nil] at q
          exact fin_same z q (.tup h1 r1)
      · cases e
    | _ => cases e
  | lst h1 r1 =>
    cases rb with
    | lst h2 r2 =>
      simp only [addD] at e
      split at e
      · rename_i hz
        cases e
        exact .inr (.inr (.inr ⟨_, _, _, _, rfl, rfl, z _ _ h1, z _ _ h2, by rw [RpAll.len r1, RpAll.len r2]; exact fit_le hz, fun p hp => fin_lst z q (RpAll.app r1 r2) hp⟩))
      · cases e
    | _ => cases e
  | _ => cases e
theorem o_int {f : Value → Value → Sem Value} {C : Int → Int → Prop} {g : Int → Int → V} {h : D → D → Option Sl} (o : OpR X f (rI C g))
    (k : ∀ a b r, h a b = some r → ∃ i j d, a = .int i ∧ b = .int j ∧ r = .d d ∧ C i j ∧ ∀ K F, Rp K F (g i j) d) : OpR X f (rD2 X.K h) := by
  refine OpRimp o fun x y H Q ⟨F, a, b, r, z, ra, rb, e, q⟩ => ?_
  obtain ⟨i, j, d, rfl, rfl, rfl, c, rp⟩ := k a b r e
  cases ra
  cases rb
  exact ⟨i, j, rfl, rfl, c, fin_same z q (rp _ _)⟩
theorem o_int0 {f : Value → Value → Sem Value} {g : Int → Int → V} {h : D → D → Option Sl} (o : OpR X f (rI0 g))
    (k : ∀ a b r, h a b = some r → ∃ i j d, a = .int i ∧ b = .int j ∧ r = .d d ∧ ∀ K F, Rp K F (g i j) d) : OpR X f (rD2 X.K h) := by
  refine OpRimp o fun x y H Q ⟨F, a, b, r, z, ra, rb, e, q⟩ => ?_
  obtain ⟨i, j, d, rfl, rfl, rfl, rp⟩ := k a b r e
  cases ra
  cases rb
  exact ⟨i, j, rfl, rfl, fin_same z q (rp _ _)⟩
theorem o_sub : OpR X (binaryOp .Sub) (rD2 X.K subD) := o_int0 op_sub fun a b r e => by
  unfold subD at e
  split at e
  · cases e; exact ⟨_, _, _, rfl, rfl, rfl, fun _ _ => .int _⟩
  · cases e
theorem log2_lt {n k : Nat} (hk : 0 < k) (h : n < 2 ^ k) : n.log2 < k := PySem.Flt.log2_lt_of hk h
theorem o_fdiv : OpR X (binaryOp .FloorDiv) (rD2 X.K fdivD) := o_int op_fdivW fun a b r e => by
  unfold fdivD at e
  split at e
  · split at e
    · rename_i i j h
      cases e
      have h := of_decide_eq_true h
      exact ⟨i, j, _, rfl, rfl, rfl, ⟨h.1, Nat.lt_of_lt_of_le (log2_lt (by decide) h.2) (by decide)⟩, fun _ _ => .int _⟩
    · cases e
  · cases e
theorem o_mod : OpR X (binaryOp .Mod) (rD2 X.K modD) := o_int op_mod fun a b r e => by
  unfold modD at e
  split at e
  · split at e
    · rename_i i j h
      cases e
      exact ⟨i, j, _, rfl, rfl, rfl, of_decide_eq_true h, fun _ _ => .int _⟩
    · cases e
  · cases e
theorem o_pow : OpR X (binaryOp .Pow) (rD2 X.K powD) := o_int op_pow fun a b r e => by
  unfold powD at e
  split at e
  · split at e
    · rename_i i j h
      cases e
      have h : 0 ≤ j ∧ j ≤ 1000000 ∧ i.natAbs < 2 ^ 64 := of_decide_eq_true h
      exact ⟨i, j, _, rfl, rfl, rfl, h, fun _ _ => .int _⟩
    · cases e
  · cases e
theorem flat_one {α : Type} (xs : List α) : (List.replicate 1 xs).flatten = xs := by simp
theorem tuple_mul1 (l : Addr) (items : Array Value) (n : Nat) (dd : Option Addr) (sl : Array (Option Value)) (u : Tok) :
    Meets (Builtin.«tuple.__mul__» ⟨[.ref l, .int 1 u], []⟩) (fun _ R s => s.heap.get? l = some { cls := .type "tuple", dict := dd, data := .seq items n, slots := sl } ∧ R (.ok (.ret (Value.ref l))) s) :=
  .of_wp fun prog w A R s h => by
    obtain ⟨hp, g, d, tk, os⟩ := s
    obtain ⟨hl, h⟩ := h
    have f1 := AutoSeq1.idx_int
    have c0 : (decide ((1 : Int) < -(2 ^ 63)) || decide ((1 : Int) ≥ 2 ^ 63)) = false := by decide
    have c1 : (items.isEmpty || (1 : Int) == 1) = true := by rw [show ((1 : Int) == 1) = true from rfl, Bool.or_true]
    wp_walk using wpAny_loadPart' hl
    repeat (first
      | (refine wpAny_ite_false (decide_eq_false (by rw [c0]; exact Bool.false_ne_true)) ?_; wp_walk using wpAny_loadPart' hl)
      | (refine wpAny_ite_true (decide_eq_true (by rw [c1])) ?_; wp_walk using wpAny_loadPart' hl))
    exact ⟨_, rfl, h⟩
theorem op_repT1 : OpR X (binaryOp .Mult) (fun x y H Q => ∃ l xs, x = .ref l ∧ y = .int 1 ∧ SqT X.K H l xs ∧ Q (.ref l) H) := by
  intro pins s σ H x y v u Q I rx ry h
  obtain ⟨l, xs, rfl, rfl, hT, q⟩ := h
  cases rx
  obtain ⟨t, rfl⟩ := ry
  obtain ⟨its, r, ⟨⟨cls, dd, data, sl⟩, ho, hc, n, hd⟩, hs⟩ := I.tuple hT
  simp only at hc hd
  subst hc hd
  refine wpAny_binaryOp_repeat_ref (T := "tuple") (U := "int") (by decide) ⟨_, ho, rfl⟩ (fun s' => typeIs_int s' 1 t) noFill_tuple_mul F.fills_int_mul F.slot_int_rmul repeat_tuple F.slot_int_index.lookup
    (call_meets F.slot_int_rmul (typeIs_int s 1 t) F.entry_int_rmul (F.args_int_rmul_2 _ _) (int_rmul_tuple 1 t l its.toArray n dd sl)
      ⟨ho, rfl, ⟨_, ho, rfl⟩, call_meets F.slot_tuple_mul ⟨_, ho, rfl⟩ F.entry_tuple_mul (F.args_tuple_mul_2 _ _) (tuple_mul1 l its.toArray n dd sl t) ⟨ho, ?_⟩⟩)
  exact ⟨.ref l, H, I, rfl, q⟩
theorem cmul_of {i j : Int} (h : ((decide (i.natAbs < 2 ^ 64) || decide (j.natAbs < 2 ^ 64)) || decide (i.natAbs < 2 ^ 20000 ∧ j.natAbs < 2 ^ 20000)) = true) : CMul i j ∨ CMulW i j := by
  rcases (Bool.or_eq_true _ _).mp h with h | h
  · left
    rcases (Bool.or_eq_true _ _).mp h with h | h
    · have := of_decide_eq_true h
      exact .inl ⟨by omega, by omega⟩
    · have := of_decide_eq_true h
      exact .inr ⟨by omega, by omega⟩
  · right
    obtain ⟨h1, h2⟩ := of_decide_eq_true h
    exact wide_mul (a := 20000) (b := 20000) h1 h2 (by decide) (by decide) (by decide)
theorem op_repS : OpR X (binaryOp .Mult) (fun x y H Q => ∃ i k, x = .str i ∧ y = .int k ∧ 1 ≤ k ∧ k ≤ 1000 ∧ 1 ≤ i.length ∧ i.length ≤ 1000 ∧ Q (.str (repS i k.toNat)) H) := by
  intro pins s σ H x y v u Q I rx ry h
  obtain ⟨i, k, rfl, rfl, h1, h2, h3, h4, q⟩ := h
  obtain ⟨t, rfl⟩ := rx
  obtain ⟨t', rfl⟩ := ry
  have hm : i.length * k.toNat ≤ 1000 * 1000 := Nat.mul_le_mul h4 (by omega)
  have hz : i.length * k.toNat ≤ sizeLine := Nat.le_trans hm (by rw [sizeLine_eq]; decide)
  refine P.mul_str ?_ (fun _ _ => ?_) (fun _ _ => ?_) ?_
  · rw [decide_eq_false (by omega), decide_eq_false (by omega)]; rfl
  · have k1 : (1000 : Int) ≤ (2 ^ 63 - 1) / k := by
      refine (Int.le_ediv_iff_mul_le (by omega)).mpr ?_
      omega
    omega
  · unfold Builtin.Str.tooLong
    exact decide_eq_false (by omega)
  · rw [if_neg (by omega)]
    by_cases hk : k = 1
    · subst hk
      rw [if_pos (by simp)]
      have e := repS_one i
      rw [show (1 : Int).toNat = 1 from rfl, e] at q
      exact ⟨.str i, H, I, ⟨t, rfl⟩, q⟩
    · have hk2 : (k == 1 || i.length == 0) = false := by
        rw [Bool.or_eq_false_iff]
        exact ⟨by simpa using hk, by simpa using (by omega : i.length ≠ 0)⟩
      rw [if_neg (by rw [hk2]; exact Bool.false_ne_true)]
      have sz : (repS i k.toNat).length ≤ sizeLine := by
        show ((List.replicate k.toNat i.cps).foldl (· ++ ·) #[]).size ≤ sizeLine
        rw [rep_size, Nat.mul_comm]
        show 0 + i.length * k.toNat ≤ sizeLine
        omega
      first
        | exact ⟨sz, ⟨.str (repS i k.toNat), H, I.tok _, ⟨_, rfl⟩, q⟩⟩
        | exact ⟨.str (repS i k.toNat), H, I.tok _, ⟨_, rfl⟩, q⟩
theorem o_mul : OpR X (binaryOp .Mult) (rD2 X.K mulD) := by
  refine OpRimp (OpRor op_mul (OpRor op_mulW (OpRor op_rep (OpRor op_repF (OpRor op_repT1 op_repS))))) fun x y H Q ⟨F, a, b, r, z, ra, rb, e, q⟩ => ?_
  cases ra with
  | int i =>
    cases rb with
    | int j =>
      simp only [mulD] at e
      split at e
      · rename_i h
        cases e
        rcases cmul_of h with c | c
        · exact .inl ⟨i, j, rfl, rfl, c, fin_same z q (.int _)⟩
        · exact .inr (.inl ⟨i, j, rfl, rfl, c, fin_same z q (.int _)⟩)
      · cases e
    | _ => cases e
  | lst h1 r1 =>
    cases rb with
    | int k =>
      simp only [mulD] at e
      split at e
      · rename_i h
        cases e
        obtain ⟨h, h2⟩ := (Bool.and_eq_true _ _).mp h
        obtain ⟨h3, h4⟩ := of_decide_eq_true h
        exact .inr (.inr (.inl ⟨_, k, _, rfl, rfl, z _ _ h1, h4, h3, by rw [RpAll.len r1]; exact fit_le h2, fun p hp => fin_lst z q (RpAll.rep r1 _) hp⟩))
      · cases e
    | _ => cases e
  | str x =>
    cases rb with
    | int k =>
      simp only [mulD] at e
      split at e
      · rename_i h
        cases e
        obtain ⟨h1, h2, h3, h4⟩ := of_decide_eq_true h
        exact .inr (.inr (.inr (.inr (.inr ⟨_, k, rfl, rfl, h1, h2, h3, h4, fin_same z q (.str _)⟩))))
      · cases e
    | _ => cases e
  | tup h1 r1 =>
    cases rb with
    | int k =>
      simp only [mulD] at e
      split at e
      · rename_i h
        cases e
        obtain ⟨h2, h3, h4, h5⟩ := of_decide_eq_true h
        by_cases hk : k = 1
        · subst hk
          refine .inr (.inr (.inr (.inr (.inl ⟨_, _, rfl, rfl, sqt_up z h1.sq, ?_⟩))))
          rw [show (1 : Int).toNat = 1 from rfl, flat_one] at q
          exact fin_same z q (.tup h1 r1)
        · refine .inr (.inr (.inr (.inl ⟨_, k, _, rfl, rfl, sqt_up z h1.sq, fun e0 => ?_, by omega, h4, by rw [RpAll.len r1]; exact h5, fun p o hp ho => fin_tup z q (RpAll.rep r1 _) hp ho⟩)))
          subst e0
          cases r1
          exact h2 rfl
      · cases e
    | _ => cases e
  | _ => cases e

/-! ### comparisons -/
theorem o_eq (hu : X.A.units + 150 < cLine) : OpR X (compareOp .Eq) (rD2 X.K eqD) := by
  intro pins s σ H x y v u Q I rx ry ⟨F, a, b, r, z, ra, rb, e, q⟩
  unfold eqD dep2 at e
  split at e
  · rename_i h
    have h := of_decide_eq_true h
    cases e
    obtain ⟨as, r1⟩ := ra.reads I z rx
    obtain ⟨bs, r2⟩ := rb.reads I z ry
    exact SeqAt.eq_plain r1 r2 ra.plain rb.plain (by omega) ⟨.bl _, H, I, rfl, fin_same z q (.bl _)⟩
  · cases e
theorem o_ne (hu : X.A.units + 150 < cLine) : OpR X (compareOp .NotEq) (rD2 X.K neD) := by
  intro pins s σ H x y v u Q I rx ry ⟨F, a, b, r, z, ra, rb, e, q⟩
  unfold neD dep2 at e
  split at e
  · rename_i h
    have h := of_decide_eq_true h
    cases e
    obtain ⟨as, r1⟩ := ra.reads I z rx
    obtain ⟨bs, r2⟩ := rb.reads I z ry
    exact SeqAt.ne_plain r1 r2 ra.plain rb.plain (by omega) ⟨.bl _, H, I, rfl, fin_same z q (.bl _)⟩
  · cases e
theorem o_lt : OpR X (compareOp .Lt) (rD2 X.K ltD) := by
  refine OpRimp (OpRor op_lt op_lt_str) fun x y H Q ⟨F, a, b, r, z, ra, rb, e, q⟩ => ?_
  unfold ltD at e
  split at e
  · cases e; cases ra; cases rb
    exact .inl ⟨_, _, rfl, rfl, fin_same z q (.bl _)⟩
  · cases e; cases ra; cases rb
    exact .inr ⟨_, _, rfl, rfl, fin_same z q (.bl _)⟩
  · cases e
theorem o_le : OpR X (compareOp .LtE) (rD2 X.K leD) := o_int0 op_le fun a b r e => by
  unfold leD at e
  split at e
  · cases e; exact ⟨_, _, _, rfl, rfl, rfl, fun _ _ => .bl _⟩
  · cases e
theorem o_gt : OpR X (compareOp .Gt) (rD2 X.K gtD) := o_int0 op_gt fun a b r e => by
  unfold gtD at e
  split at e
  · cases e; exact ⟨_, _, _, rfl, rfl, rfl, fun _ _ => .bl _⟩
  · cases e
theorem o_ge : OpR X (compareOp .GtE) (rD2 X.K geD) := o_int0 op_ge fun a b r e => by
  unfold geD at e
  split at e
  · cases e; exact ⟨_, _, _, rfl, rfl, rfl, fun _ _ => .bl _⟩
  · cases e
end
end DL

namespace DL
open PySem PySem.Spec L2
open PyProof.Rows hiding St

/-! ### the promise of a def over slots -/
def spF (K : PySem.W.Frag) (n : Nat) (g : List Sl → Option (List Sl × Sl)) : Sp := fun vs H Q _ => vs.length = n ∧ ∃ F ss ss' r, Sim K F H (vs.map some) (ss.map some) ∧ g ss = some (ss', r) ∧
  ∀ F' H' v, Ste K F H (vs.map some) (ss.map some) F' H' (ss'.map some) → Res K H (vs.map some) (ss.map some) F' H' (ss'.map some) v r → Q v H'

/-- a def's promise where no repr is under way -/
structure FnG (P : Program) (w : World) (K : PySem.W.Frag) (mg : Str → Option Value) (base : Heap) (CX : CXT) (k : Nat) (f : Addr) (fd : FuncData) (ps : List Str) (sp : Sp) : Prop where
  many : ∀ vs H Q E, sp vs H Q E → vs.length = ps.length
  goes : ∀ (A : Around) (outer : List Env) (s : Shared) (H : Hp) (args : Args) (us : List Value) (vs : List V) (Q : VK) (E : XK), Room k A → A.guards = some [] → Env0 P w K mg base A outer s H →
    BindsTo s fd args (ps.zip us) → Vals vs us → sp vs H Q E → codeAny (model P w) A (.call (.ref f) args) (CR CX outer P w H s Q E) s
section
variable {X : Cx} {k : Nat} {f : Addr} {fd : FuncData} {ps : List Str} {sp : Sp} {x : Str} {p pos : Pos} {e : Expr} {es : List Expr} {t : TA}
def tGo (sp : Sp) (t : TA) : TE := fun σ H Q => t σ H fun vs H1 => sp vs H1 Q E0
theorem go_fn {pins : List (Addr × Obj)} {σ : St} {H : Hp} {s : Shared} {Q : VK} {us : List Value} {vs : List V} (G : FnG X.prog X.w X.K X.mg X.base CX0 k f fd ps sp) (hr : Room k X.A) (hg : X.A.guards = some [])
    (hb : Binds X.K fd ps []) (I : Inv X pins σ H s) (r : Vals vs us) (h : sp vs H Q E0) : wpAny (model X.prog X.w) X.A (call (.ref f) us) (EP X pins σ Q) X.xe s := by
  have hl : (us ++ []).length = ps.length := by
    rw [List.append_nil, ← r.length]
    exact G.many _ _ _ _ h
  have b := hb s us I.kIn hl
  rw [List.append_nil] at b
  refine wpAny_call (codeAny_mono (G.goes X.A X.stack s H _ us vs Q E0 hr hg I.env0 b r h) fun r s' hq => ?_)
  match r, hq with
  | .error _, hq => exact False.elim hq
  | .ok (.ret _), hq => exact I.after hq
theorem de_go (G : FnG X.prog X.w X.K X.mg X.base CX0 k f fd ps sp) (hr : Room k X.A) (hgd : X.A.guards = some []) (hg : Gl X x) (hm : X.mg x = some (.ref f)) (hk : PySem.W.keepIn X.K (.ref f) = true) (hb : Binds X.K fd ps [])
    (hdb : (x == ("__debug__" : Str)) = false) (ha : PA X (e :: es) t) (he : starEach (e :: es) X.env = (false, eval e X.env) :: starEach es X.env) (hpl : (backTo pos (starEach es X.env)).any (·.1) = false) :
    PE X (.Call (.Name x p) (e :: es) [] pos) (tGo sp t) := by
  constructor
  intro pins s σ H Q I h
  apply wpAny_Call_Name_kw
  apply ld_glob I hg hm _ hdb
  apply PySem.W.callWith_K (h₀ := X.base) I.ok.mod.kin hk _ he hpl
  refine thn (ha.run pos pins s σ H _ I h) ?_
  rintro us s1 ⟨vs, H1, I1, r, q⟩
  exact ⟨I1.kIn, go_fn G hr hgd hb I1 r q⟩
theorem de_go0 (G : FnG X.prog X.w X.K X.mg X.base CX0 k f fd ps sp) (hr : Room k X.A) (hgd : X.A.guards = some []) (hg : Gl X x) (hm : X.mg x = some (.ref f)) (hk : PySem.W.keepIn X.K (.ref f) = true) (hb : Binds X.K fd ps [])
    (hdb : (x == ("__debug__" : Str)) = false) : PE X (.Call (.Name x p) [] [] pos) (tGo sp tNil) := by
  constructor
  intro pins s σ H Q I h
  apply wpAny_Call_Name_kw
  apply ld_glob I hg hm _ hdb
  apply PySem.W.callWith_K0 I.kIn hk
  exact go_fn G hr hgd hb I .nil h
end
/-- a def by its body -/
theorem fnG_of {CX : CXT} {P : Program} {w : World} {K : PySem.W.Frag} {mg : Str → Option Value} {base : Heap} {k : Nat} {x qual : Str} {st : Stmt} {f : Addr} {fd : FuncData} {N ps : List Str} {sp : Sp} (F : Fun K x qual st f fd)
    (S : FnScope N ps (defScope st)) (len : ∀ vs H Q E, sp vs H Q E → vs.length = ps.length)
    (hb : ∀ (cdv : Value) (A : Around) (outer : List Env) (s : Shared) (H : Hp) (vs : List V) (Q : VK) (E : XK), Room k (A.deeper (envOfC qual (defScope st) s.heap.objs.size f cdv)) → A.guards = some [] → sp vs H Q E →
      ∃ t, PSs (cxOf CX P w K mg base N qual (defScope st) f cdv A outer s H E) (defBody st) t ∧ t { nx := fun _ H' => Q .non H', rt := Q } (start N vs) H) : FnG P w K mg base CX (k + 1) f fd ps sp := by
  obtain ⟨oc, od, kV, doc, pm, an, cdv, ct, osl, rfl, lk, hcd⟩ := F.ex
  refine ⟨len, ?_⟩
  intro A outer s H args us vs Q E hr hgd e0 hbi r hsp
  have base' := fun b o e => (e0.bs b o e).1
  have KX : K.In s.heap := e0.mod.kin.keeps base'
  apply codeAny_call_function hr.depth (KX _ _ lk) rfl S.co S.gen rfl (PySem.W.codeRec_of KX hcd)
  refine hbi _ _ _ _ ?_
  apply wpAny_newFunctionEnv_cells S.kind
  · rintro ⟨n, v⟩ hy
    exact (S.par n (List.of_mem_zip hy).1).imp id fun q => ⟨q, PySem.W.cellsFrom_some _ _ _ (.inl q)⟩
  · intro env he s1 y
    subst he
    refine ⟨(e0.mod.nolimit.keeps base').keeps y.toInCall.keep, codeAny_func ?_⟩
    obtain ⟨t, ht, hq⟩ := hb cdv A outer s H vs Q E (hr.deeper _) hgd hsp
    have I : Inv (cxOf CX P w K mg base N qual (defScope st) f cdv A outer s H E) [] (start N vs) H s1 := inv_start S hr.hd e0 (len _ _ _ _ hsp) r y
    refine wpAny_mono (ht.run [] s1 (start N vs) H _ I hq) ?_ fun e s' hs => hs
    intro fl s' hs
    cases fl with
    | ret u =>
      obtain ⟨v, τ, H', J, rv, q⟩ := hs
      exact ⟨v, H', J.os, J.bare, J.base, J.hok, rv, q⟩
    | next =>
      obtain ⟨τ, H', J, q⟩ := hs
      exact ⟨V.non, H', J.os, J.bare, J.base, J.hok, rfl, q⟩
    | brk => exact hs.elim fun _ h => h.elim fun _ h => h.2.elim
    | cont => exact hs.elim fun _ h => h.elim fun _ h => h.2.elim

/-! ### arguments: data, or a slot handed over -/
abbrev Av := Sum D Nat
inductive Ar where
  | d (g : GD)
  | s (i : Nat)
@[simp] def gArs : List Ar → Ev → Option (Ev × List Av)
  | [], ρ => some (ρ, [])
  | .d g :: r, ρ => (g ρ).bind fun a => (gArs r a.1).map fun t => (t.1, .inl a.2 :: t.2)
  | .s i :: r, ρ => ((ρ[i]?).bind id).bind fun _ => (gArs r ρ).map fun t => (t.1, .inr i :: t.2)
inductive ArOk (K : PySem.W.Frag) (F : Hp) (σ : St) : List V → List Av → Prop
  | nil : ArOk K F σ [] []
  | d {v : V} {x : D} {vs : List V} {as : List Av} : Rp K F v x → ArOk K F σ vs as → ArOk K F σ (v :: vs) (.inl x :: as)
  | s {v : V} {i : Nat} {vs : List V} {as : List Av} : σ[i]? = some (some v) → ArOk K F σ vs as → ArOk K F σ (v :: vs) (.inr i :: as)
def tArs (K : PySem.W.Frag) (g : List Ar) : TA := fun σ H Q => ∃ F ρ ρ' as, Sim K F H σ ρ ∧ gArs g ρ = some (ρ', as) ∧
  ∀ F' H' vs, Ste K F H σ ρ F' H' ρ' → ArOk K F' σ vs as → Q vs H'
theorem ArOk.len {K : PySem.W.Frag} {F : Hp} {σ : St} : ∀ {vs : List V} {as : List Av}, ArOk K F σ vs as → vs.length = as.length
  | _, _, .nil => rfl
  | _, _, .d _ r => by rw [List.length_cons, List.length_cons, ArOk.len r]
  | _, _, .s _ r => by rw [List.length_cons, List.length_cons, ArOk.len r]
theorem ArOk.up {K : PySem.W.Frag} {F F' : Hp} {σ : St} (u : Same F F') : ∀ {vs : List V} {as : List Av}, ArOk K F σ vs as → ArOk K F' σ vs as
  | _, _, .nil => .nil
  | _, _, .d a r => .d (Rp.up u a) (ArOk.up u r)
  | _, _, .s a r => .s a (ArOk.up u r)
@[simp] def look (ρ : Ev) : Av → Option Sl
  | .inl d => some (.d d)
  | .inr i => (ρ[i]?).bind id
@[simp] def looks (ρ : Ev) : List Av → Option (List Sl)
  | [] => some []
  | a :: r => (look ρ a).bind fun s => (looks ρ r).map fun t => s :: t
@[simp] def back : List Av → List Sl → Ev → Ev
  | .inr i :: r, s :: t, ρ => back r t (ρ.set i (some s))
  | .inl _ :: r, _ :: t, ρ => back r t ρ
  | _, _, ρ => ρ
@[simp] def slotsOf : List Av → List Nat
  | [] => []
  | .inl _ :: r => slotsOf r
  | .inr i :: r => i :: slotsOf r
@[simp] def gCall (f : List Sl → Option (List Sl × Sl)) (args : List Ar) : GX := fun ρ => (gArs args ρ).bind fun a => (looks a.1 a.2).bind fun ss => (f ss).bind fun r =>
  if r.1.length = ss.length ∧ (slotsOf a.2).Nodup then some (back a.2 r.1 a.1, r.2) else none
section
variable {X : Cx} {e : Expr} {es : List Expr} {g : GD} {gs : List Ar} {i : Nat} {x : Str} {pos : Pos}
theorem dr_nil : PA X [] (tArs X.K []) := PAimp pa_nil fun σ H Q ⟨F, ρ, ρ', as, S, eq, q⟩ => by
  cases eq
  exact q F H [] (Ste.refl S) .nil
theorem dr_d (ha : PE X e (tD X.K g)) (hs : PA X es (tArs X.K gs)) (hst : starEach (e :: es) X.env = (false, eval e X.env) :: starEach es X.env) : PA X (e :: es) (tArs X.K (.d g :: gs)) :=
  PAimp (pa_cons ha hs hst) fun σ H Q ⟨F, ρ, ρ', as, S, eq, q⟩ => by
    obtain ⟨⟨ρ1, x⟩, e1, e2⟩ := Option.bind_eq_some_iff.mp eq
    obtain ⟨⟨ρ2, y⟩, e5, e6⟩ := Option.map_eq_some_iff.mp e2
    cases e6
    refine ⟨F, ρ, ρ1, x, S, e1, fun F1 H1 v1 st1 r1 => ⟨F1, ρ1, ρ2, y, st1.sim, e5, fun F2 H2 vs st2 r2 => ?_⟩⟩
    exact q F2 H2 (v1 :: vs) (st1.trans st2) (.d (Rp.up st2.go.f r1) r2)
theorem dr_s (hN : X.N[i]? = some x) (hv : Vis X.env.scope x) (hd : (x == ("__debug__" : Str)) = false) (hcd : (x == ("__classdict__" : Str)) = false) (hs : PA X es (tArs X.K gs))
    (hst : starEach (.Name x pos :: es) X.env = (false, eval (.Name x pos) X.env) :: starEach es X.env) : PA X (.Name x pos :: es) (tArs X.K (.s i :: gs)) :=
  PAimp (pa_cons (pe_var hN hv hd hcd) hs hst) fun σ H Q ⟨F, ρ, ρ', as, S, eq, q⟩ => by
    obtain ⟨s, e0, eq⟩ := Option.bind_eq_some_iff.mp eq
    obtain ⟨⟨ρ2, y⟩, e5, e6⟩ := Option.map_eq_some_iff.mp eq
    cases e6
    obtain ⟨o, eo, e1⟩ := Option.bind_eq_some_iff.mp e0
    have e1 : o = some s := e1
    subst e1
    obtain ⟨v, ev, _⟩ := S.sl i s eo
    exact ⟨v, ev, F, ρ, ρ2, y, S, e5, fun F2 H2 vs st2 r2 => q F2 H2 (v :: vs) st2 (.s ev r2)⟩
end

theorem looks_get {ρ : Ev} : ∀ {as : List Av} {ss : List Sl}, looks ρ as = some ss → ss.length = as.length ∧ ∀ (j : Nat) (a : Av) (s : Sl), as[j]? = some a → ss[j]? = some s → look ρ a = some s
  | [], ss, h => by
    cases h
    exact ⟨rfl, fun j a s e => by simp at e⟩
  | a :: r, ss, h => by
    obtain ⟨s, e1, e2⟩ := Option.bind_eq_some_iff.mp h
    obtain ⟨t, e3, e4⟩ := Option.map_eq_some_iff.mp e2
    subst e4
    obtain ⟨l, g⟩ := looks_get e3
    refine ⟨by rw [List.length_cons, List.length_cons, l], fun j a' s' ea es => ?_⟩
    cases j with
    | zero =>
      simp only [List.getElem?_cons_zero, Option.some.injEq] at ea es
      subst ea es
      exact e1
    | succ j => exact g j a' s' (by simpa using ea) (by simpa using es)
theorem ArOk.get {K : PySem.W.Frag} {F : Hp} {σ : St} : ∀ {vs : List V} {as : List Av} {j : Nat} {a : Av}, ArOk K F σ vs as → as[j]? = some a → ∃ v, vs[j]? = some v ∧ (match a with | .inl x => Rp K F v x | .inr i => σ[i]? = some (some v))
  | _, _, _, _, .nil, h => by simp at h
  | _, _, 0, _, .d r _, h => by
    simp only [List.getElem?_cons_zero, Option.some.injEq] at h
    subst h
    exact ⟨_, rfl, r⟩
  | _, _, 0, _, .s r _, h => by
    simp only [List.getElem?_cons_zero, Option.some.injEq] at h
    subst h
    exact ⟨_, rfl, r⟩
  | _, _, j + 1, _, .d _ t, h => ArOk.get (j := j) t (by simpa using h)
  | _, _, j + 1, _, .s _ t, h => ArOk.get (j := j) t (by simpa using h)
/-- where a slot stands among the arguments -/
theorem mem_slots : ∀ {as : List Av} {i : Nat}, i ∈ slotsOf as → ∃ j : Nat, as[j]? = some (.inr i)
  | .inl _ :: r, i, h => by
    obtain ⟨j, e⟩ := mem_slots (as := r) h
    exact ⟨j + 1, by simpa using e⟩
  | .inr k :: r, i, h => by
    rcases List.mem_cons.mp h with e | h
    · exact ⟨0, by simp [e]⟩
    · obtain ⟨j, e⟩ := mem_slots (as := r) h
      exact ⟨j + 1, by simpa using e⟩
theorem slots_mem : ∀ {as : List Av} {i j : Nat}, as[j]? = some (.inr i) → i ∈ slotsOf as
  | [], i, j, h => by simp at h
  | .inl _ :: r, i, 0, h => by simp at h
  | .inr k :: r, i, 0, h => by
    simp only [List.getElem?_cons_zero, Option.some.injEq, Sum.inr.injEq] at h
    exact List.mem_cons.mpr (.inl h.symm)
  | .inl _ :: r, i, j + 1, h => slots_mem (as := r) (j := j) (by simpa using h)
  | .inr k :: r, i, j + 1, h => List.mem_cons.mpr (.inr (slots_mem (as := r) (j := j) (by simpa using h)))
theorem slots_inj : ∀ {as : List Av} {i j k : Nat}, (slotsOf as).Nodup → as[j]? = some (.inr i) → as[k]? = some (.inr i) → j = k
  | [], _, j, _, _, h, _ => by simp at h
  | .inl _ :: r, _, 0, _, _, h, _ => by simp at h
  | .inl _ :: r, _, _, 0, _, _, h => by simp at h
  | .inl _ :: r, i, j + 1, k + 1, n, h1, h2 => by rw [slots_inj (as := r) (i := i) (j := j) (k := k) n (by simpa using h1) (by simpa using h2)]
  | .inr _ :: r, _, 0, 0, _, _, _ => rfl
  | .inr m :: r, i, 0, k + 1, n, h1, h2 => by
    simp only [List.getElem?_cons_zero, Option.some.injEq, Sum.inr.injEq] at h1
    subst h1
    exact absurd (slots_mem (as := r) (j := k) (by simpa using h2)) (List.nodup_cons.mp n).1
  | .inr m :: r, i, j + 1, 0, n, h1, h2 => by
    simp only [List.getElem?_cons_zero, Option.some.injEq, Sum.inr.injEq] at h2
    subst h2
    exact absurd (slots_mem (as := r) (j := j) (by simpa using h1)) (List.nodup_cons.mp n).1
  | .inr m :: r, i, j + 1, k + 1, n, h1, h2 => by rw [slots_inj (as := r) (i := i) (j := j) (k := k) (List.nodup_cons.mp n).2 (by simpa using h1) (by simpa using h2)]
theorem back_len : ∀ (as : List Av) (ss : List Sl) (ρ : Ev), (back as ss ρ).length = ρ.length
  | [], _, _ => by simp [back]
  | .inl _ :: r, [], _ => by simp [back]
  | .inr _ :: r, [], _ => by simp [back]
  | .inl _ :: r, _ :: t, ρ => back_len r t ρ
  | .inr i :: r, s :: t, ρ => by
    show (back r t (ρ.set i (some s))).length = _
    rw [back_len r t, List.length_set]
theorem back_out : ∀ (as : List Av) (ss : List Sl) (ρ : Ev) (i : Nat), i ∉ slotsOf as → (back as ss ρ)[i]? = ρ[i]?
  | [], _, _, _, _ => by simp [back]
  | .inl _ :: r, [], _, _, _ => by simp [back]
  | .inr _ :: r, [], _, _, _ => by simp [back]
  | .inl _ :: r, _ :: t, ρ, i, h => back_out r t ρ i h
  | .inr k :: r, s :: t, ρ, i, h => by
    show (back r t (ρ.set k (some s)))[i]? = _
    have h1 : i ≠ k := fun e => h (List.mem_cons.mpr (.inl e))
    rw [back_out r t _ i fun z => h (List.mem_cons.mpr (.inr z)), List.getElem?_set_ne (Ne.symm h1)]
theorem back_at : ∀ (as : List Av) (ss : List Sl) (ρ : Ev) (j i : Nat) (s : Sl), (slotsOf as).Nodup → as[j]? = some (.inr i) → ss[j]? = some s → i < ρ.length → (back as ss ρ)[i]? = some (some s)
  | [], _, _, j, _, _, _, h, _, _ => by simp at h
  | .inl _ :: r, [], _, _, _, _, _, _, h, _ => by simp at h
  | .inr _ :: r, [], _, _, _, _, _, _, h, _ => by simp at h
  | .inl _ :: r, _ :: t, ρ, 0, _, _, _, h, _, _ => by simp at h
  | .inl _ :: r, _ :: t, ρ, j + 1, i, s, n, h1, h2, h3 => back_at r t ρ j i s n (by simpa using h1) (by simpa using h2) h3
  | .inr k :: r, u :: t, ρ, 0, i, s, n, h1, h2, h3 => by
    simp only [List.getElem?_cons_zero, Option.some.injEq, Sum.inr.injEq] at h1 h2
    subst h1 h2
    show (back r t (ρ.set k (some u)))[k]? = _
    rw [back_out r t _ k (List.nodup_cons.mp n).1, List.getElem?_set_self h3]
  | .inr k :: r, u :: t, ρ, j + 1, i, s, n, h1, h2, h3 => by
    show (back r t (ρ.set k (some u)))[i]? = _
    exact back_at r t _ j i s (List.nodup_cons.mp n).2 (by simpa using h1) (by simpa using h2) (by rw [List.length_set]; exact h3)

theorem get_map {α β : Type} (f : α → β) (l : List α) (j : Nat) : (l.map f)[j]? = (l[j]?).map f := by simp
/-- what is handed over is a state of its own -/
theorem Sim.args {K : PySem.W.Frag} {F H : Hp} {σ : St} {ρ : Ev} {vs : List V} {as : List Av} {ss : List Sl} (S : Sim K F H σ ρ) (A : ArOk K F σ vs as) (L : looks ρ as = some ss) (n : (slotsOf as).Nodup) : Sim K F H (vs.map some) (ss.map some) := by
  obtain ⟨ll, lg⟩ := looks_get L
  have key : ∀ (j : Nat) (s : Sl), ss[j]? = some s → ∃ a v, as[j]? = some a ∧ vs[j]? = some v ∧ look ρ a = some s ∧ (match a with | .inl x => Rp K F v x | .inr i => σ[i]? = some (some v)) := fun j s e => by
    have hj : j < as.length := by rw [← ll]; exact (List.getElem?_eq_some_iff.mp e).1
    obtain ⟨v, ev, q⟩ := A.get (List.getElem?_eq_getElem hj)
    exact ⟨as[j], v, List.getElem?_eq_getElem hj, ev, lg j _ s (List.getElem?_eq_getElem hj) e, q⟩
  have own : ∀ (j : Nat) (s : Sl) (v : V), ss[j]? = some s → vs[j]? = some v → s.own = true → ∃ i, as[j]? = some (.inr i) ∧ ρ[i]? = some (some s) ∧ σ[i]? = some (some v) := fun j s v e ev o => by
    obtain ⟨a, v', ea, ev', la, q⟩ := key j s e
    rw [ev] at ev'; cases ev'
    cases a with
    | inl x => cases la; cases o
    | inr i =>
      obtain ⟨o', eo, e1⟩ := Option.bind_eq_some_iff.mp la
      have e1 : o' = some s := e1
      subst e1
      exact ⟨i, ea, eo, q⟩
  refine ⟨S.fz, by rw [List.length_map, List.length_map, A.len, ll], fun j s e => ?_, fun j k s t p e1 e2 o1 o2 q1 q2 => ?_⟩
  · rw [get_map] at e
    obtain ⟨s', e, e'⟩ := Option.map_eq_some_iff.mp e
    cases e'
    obtain ⟨a, v, ea, ev, la, q⟩ := key j s e
    refine ⟨v, by rw [get_map, ev]; rfl, ?_⟩
    cases a with
    | inl x => cases la; exact q
    | inr i =>
      obtain ⟨o', eo, e1⟩ := Option.bind_eq_some_iff.mp la
      have e1 : o' = some s := e1
      subst e1
      obtain ⟨v', e2, ok⟩ := S.sl i s eo
      have q' : σ[i]? = some (some v) := q
      rw [q'] at e2; cases e2
      exact ok
  · rw [get_map] at e1 e2 q1 q2
    obtain ⟨s', e1, z⟩ := Option.map_eq_some_iff.mp e1
    cases z
    obtain ⟨s', e2, z⟩ := Option.map_eq_some_iff.mp e2
    cases z
    obtain ⟨v1, q1, z⟩ := Option.map_eq_some_iff.mp q1
    cases z
    obtain ⟨v2, q2, z⟩ := Option.map_eq_some_iff.mp q2
    cases z
    obtain ⟨i1, a1, r1, t1⟩ := own j s _ e1 q1 o1
    obtain ⟨i2, a2, r2, t2⟩ := own k t _ e2 q2 o2
    have := S.ap i1 i2 s t p r1 r2 o1 o2 t1 t2
    subst this
    exact slots_inj n a1 a2
end DL

namespace DL
open PySem PySem.Spec L2
open PyProof.Rows hiding St

/-- who owns among the arguments owns among the slots -/
theorem own_args {K : PySem.W.Frag} {F : Hp} {σ : St} {ρ : Ev} {vs : List V} {as : List Av} {ss : List Sl} (A : ArOk K F σ vs as) (L : looks ρ as = some ss) {j : Nat} {s : Sl} {v : V} (e : ss[j]? = some s) (ev : vs[j]? = some v) (o : s.own = true) :
    ∃ i, as[j]? = some (.inr i) ∧ ρ[i]? = some (some s) ∧ σ[i]? = some (some v) := by
  obtain ⟨ll, lg⟩ := looks_get L
  have hj : j < as.length := by rw [← ll]; exact (List.getElem?_eq_some_iff.mp e).1
  obtain ⟨v', ev', q⟩ := A.get (List.getElem?_eq_getElem hj)
  rw [ev] at ev'; cases ev'
  have la := lg j _ s (List.getElem?_eq_getElem hj) e
  have ea : as[j]? = some as[j] := List.getElem?_eq_getElem hj
  revert q la ea
  generalize as[j] = a
  intro q la ea
  cases a with
  | inl x => cases la; cases o
  | inr i =>
    obtain ⟨o', eo, e1⟩ := Option.bind_eq_some_iff.mp la
    have e1 : o' = some s := e1
    subst e1
    exact ⟨i, ea, eo, q⟩
theorem Own.args {K : PySem.W.Frag} {F : Hp} {σ : St} {ρ : Ev} {vs : List V} {as : List Av} {ss : List Sl} (A : ArOk K F σ vs as) (L : looks ρ as = some ss) {p : Addr} (h : Own (vs.map some) (ss.map some) p) : Own σ ρ p := by
  obtain ⟨j, s, e, o, q⟩ := h
  rw [get_map] at e q
  obtain ⟨s', e, z⟩ := Option.map_eq_some_iff.mp e
  cases z
  obtain ⟨v, ev, z⟩ := Option.map_eq_some_iff.mp q
  cases z
  obtain ⟨i, _, h1, h2⟩ := own_args A L e ev o
  exact ⟨i, s, h1, o, h2⟩
theorem Ste.ret {K : PySem.W.Frag} {F H F' H' : Hp} {σ : St} {ρ : Ev} {vs : List V} {as : List Av} {ss ss' : List Sl} (S : Sim K F H σ ρ) (A : ArOk K F σ vs as) (L : looks ρ as = some ss) (n : (slotsOf as).Nodup) (hl : ss'.length = ss.length)
    (st : Ste K F H (vs.map some) (ss.map some) F' H' (ss'.map some)) : Ste K F H σ ρ F' H' (back as ss' ρ) := by
  obtain ⟨ll, lg⟩ := looks_get L
  have oo : ∀ p, Own (vs.map some) (ss.map some) p → Own σ ρ p := fun p h => h.args A L
  -- a slot that is handed over, behind the call
  have inn : ∀ (i : Nat), i ∈ slotsOf as → ∃ (j : Nat) (v : V) (s s' : Sl), as[j]? = some (.inr i) ∧ vs[j]? = some v ∧ σ[i]? = some (some v) ∧ ρ[i]? = some (some s) ∧ ss[j]? = some s ∧ ss'[j]? = some s' ∧ (back as ss' ρ)[i]? = some (some s') := fun i hi => by
    obtain ⟨j, ej⟩ := mem_slots hi
    obtain ⟨v, ev, q⟩ := A.get ej
    have hj : j < as.length := (List.getElem?_eq_some_iff.mp ej).1
    have h1 : j < ss.length := by rw [ll]; exact hj
    have h2 : j < ss'.length := by rw [hl]; exact h1
    have la := lg j _ ss[j] ej (List.getElem?_eq_getElem h1)
    obtain ⟨o', eo, e1⟩ := Option.bind_eq_some_iff.mp la
    have e1 : o' = some ss[j] := e1
    subst e1
    exact ⟨j, v, ss[j], ss'[j], ej, ev, q, eo, List.getElem?_eq_getElem h1, List.getElem?_eq_getElem h2, back_at as ss' ρ j i _ n ej (List.getElem?_eq_getElem h2) (List.getElem?_eq_some_iff.mp eo).1⟩
  have mo : ∀ {j : Nat} {v : V} {s : Sl} {p : Addr}, vs[j]? = some v → ss[j]? = some s → s.own = true → v = .ref p → Own (vs.map some) (ss.map some) p := fun {j v s p} ev es o e =>
    ⟨j, s, by rw [get_map, es]; rfl, o, by rw [get_map, ev, e]; rfl⟩
  have mo' : ∀ {j : Nat} {v : V} {s : Sl} {p : Addr}, vs[j]? = some v → ss'[j]? = some s → s.own = true → v = .ref p → Own (vs.map some) (ss'.map some) p := fun {j v s p} ev es o e =>
    ⟨j, s, by rw [get_map, es]; rfl, o, by rw [get_map, ev, e]; rfl⟩
  -- a slot that is not handed over and owns
  have out : ∀ i s p, i ∉ slotsOf as → ρ[i]? = some (some s) → s.own = true → σ[i]? = some (some (.ref p)) → ¬ Own (vs.map some) (ss.map some) p := fun i s p hi e o q z => by
    obtain ⟨j, t, e1, o1, q1⟩ := z
    rw [get_map] at e1 q1
    obtain ⟨s', e1, z⟩ := Option.map_eq_some_iff.mp e1
    cases z
    obtain ⟨v, ev, z⟩ := Option.map_eq_some_iff.mp q1
    cases z
    obtain ⟨i2, h0, h1, h2⟩ := own_args A L e1 ev o1
    have := S.ap i i2 s t p e h1 o o1 q h2
    subst this
    exact hi (slots_mem h0)
  refine ⟨⟨st.go.f, fun a o h z => st.go.k a o h fun y => z (oo a y), fun a o h => ?_⟩, ⟨st.sim.fz, by rw [back_len]; exact S.len, fun i s e => ?_, fun i k s t p e1 e2 o1 o2 q1 q2 => ?_⟩, fun p ⟨i, s, e, o, q⟩ => ?_⟩
  · rcases st.go.n a o h with q | q | q
    · exact .inl q
    · exact .inr (.inl q)
    · exact .inr (.inr (oo a q))
  · by_cases hi : i ∈ slotsOf as
    · obtain ⟨j, v, s0, s', ej, ev, eσ, eρ, es, es', eb⟩ := inn i hi
      rw [e] at eb; cases eb
      obtain ⟨v', e3, ok⟩ := st.sim.sl j s (by rw [get_map, es']; rfl)
      rw [get_map, ev] at e3; cases e3
      exact ⟨v, eσ, ok⟩
    · rw [back_out as ss' ρ i hi] at e
      obtain ⟨v, eσ, ok⟩ := S.sl i s e
      refine ⟨v, eσ, ok.nw st.go.f fun p o ep => ?_⟩
      have no := out i s p hi e o (by rw [eσ, ep])
      obtain ⟨f, u, hu⟩ := ok.tracked o ep
      refine ⟨?_, by rw [st.go.k p u hu no, hu]⟩
      cases q : F' p with
      | none => rfl
      | some w =>
        rcases st.go.n p w q with z | z | z
        · rw [f] at z; cases z
        · rw [hu] at z; cases z
        · exact (no z).elim
  · by_cases hi : i ∈ slotsOf as
    · obtain ⟨j, v, s0, s', ej, ev, eσ, eρ, es, es', eb⟩ := inn i hi
      rw [e1] at eb; cases eb
      rw [q1] at eσ; cases eσ
      have O1 := mo' ev es' o1 rfl
      by_cases hk : k ∈ slotsOf as
      · obtain ⟨j2, v2, s02, s2', ej2, ev2, eσ2, eρ2, es2, es2', eb2⟩ := inn k hk
        rw [e2] at eb2; cases eb2
        rw [q2] at eσ2; cases eσ2
        have := st.sim.ap j j2 s t p (by rw [get_map, es']; rfl) (by rw [get_map, es2']; rfl) o1 o2 (by rw [get_map, ev]; rfl) (by rw [get_map, ev2]; rfl)
        subst this
        rw [ej] at ej2; cases ej2; rfl
      · rw [back_out as ss' ρ k hk] at e2
        exact (out k t p hk e2 o2 q2 (st.sub p O1)).elim
    · rw [back_out as ss' ρ i hi] at e1
      by_cases hk : k ∈ slotsOf as
      · obtain ⟨j2, v2, s02, s2', ej2, ev2, eσ2, eρ2, es2, es2', eb2⟩ := inn k hk
        rw [e2] at eb2; cases eb2
        rw [q2] at eσ2; cases eσ2
        exact (out i s p hi e1 o1 q1 (st.sub p (mo' ev2 es2' o2 rfl))).elim
      · rw [back_out as ss' ρ k hk] at e2
        exact S.ap i k s t p e1 e2 o1 o2 q1 q2
  · by_cases hi : i ∈ slotsOf as
    · obtain ⟨j, v, s0, s', ej, ev, eσ, eρ, es, es', eb⟩ := inn i hi
      rw [e] at eb; cases eb
      rw [q] at eσ; cases eσ
      exact oo p (st.sub p (mo' ev es' o rfl))
    · rw [back_out as ss' ρ i hi] at e
      exact ⟨i, s, e, o, q⟩
theorem Res.ret {K : PySem.W.Frag} {F H F' H' : Hp} {σ : St} {ρ : Ev} {vs : List V} {as : List Av} {ss ss' : List Sl} {v : V} {r : Sl} (S : Sim K F H σ ρ) (A : ArOk K F σ vs as) (L : looks ρ as = some ss) (n : (slotsOf as).Nodup) (hl : ss'.length = ss.length)
    (st : Ste K F H (vs.map some) (ss.map some) F' H' (ss'.map some)) (rs : Res K H (vs.map some) (ss.map some) F' H' (ss'.map some) v r) : Res K H σ ρ F' H' (back as ss' ρ) v r := by
  obtain ⟨ll, lg⟩ := looks_get L
  refine ⟨rs.ok, fun o p e => ?_⟩
  obtain ⟨h1, h2⟩ := rs.fr o p e
  refine ⟨h1.imp id fun z => z.args A L, fun ⟨i, s, e2, o2, q⟩ => ?_⟩
  by_cases hi : i ∈ slotsOf as
  · obtain ⟨j, ej⟩ := mem_slots hi
    obtain ⟨v', ev, qv⟩ := A.get ej
    have hj : j < ss'.length := by rw [hl, ll]; exact (List.getElem?_eq_some_iff.mp ej).1
    have la := lg j _ ss[j] ej (List.getElem?_eq_getElem (by rw [← hl]; exact hj))
    obtain ⟨o', eo, e1⟩ := Option.bind_eq_some_iff.mp la
    rw [back_at as ss' ρ j i _ n ej (List.getElem?_eq_getElem hj) (List.getElem?_eq_some_iff.mp eo).1] at e2
    cases e2
    have qv : σ[i]? = some (some v') := qv
    rw [q] at qv; cases qv
    exact h2 ⟨j, ss'[j], by rw [get_map, List.getElem?_eq_getElem hj]; rfl, o2, by rw [get_map, ev]; rfl⟩
  · rw [back_out as ss' ρ i hi] at e2
    have ow : Own σ ρ p := ⟨i, s, e2, o2, q⟩
    obtain ⟨_, u, hu⟩ := S.own ow
    rcases h1 with z | ⟨j, t, e1, o1, q1⟩
    · rw [hu] at z; cases z
    · rw [get_map] at e1 q1
      obtain ⟨s', e1, z⟩ := Option.map_eq_some_iff.mp e1
      cases z
      obtain ⟨v2, ev, z⟩ := Option.map_eq_some_iff.mp q1
      cases z
      obtain ⟨i2, h0, h3, h4⟩ := own_args A L e1 ev o1
      have := S.ap i i2 s t p e2 h3 o2 o1 q h4
      subst this
      exact hi (slots_mem h0)
theorem gArs_len : ∀ {args : List Ar} {ρ ρ' : Ev} {as : List Av}, gArs args ρ = some (ρ', as) → as.length = args.length
  | [], _, _, _, e => by cases e; rfl
  | .d g :: t, _, _, _, e => by
    obtain ⟨⟨ρ2, x⟩, _, e4⟩ := Option.bind_eq_some_iff.mp e
    obtain ⟨⟨ρ3, y⟩, e5, e6⟩ := Option.map_eq_some_iff.mp e4
    cases e6
    rw [List.length_cons, List.length_cons, gArs_len e5]
  | .s i :: t, _, _, _, e => by
    obtain ⟨x, _, e4⟩ := Option.bind_eq_some_iff.mp e
    obtain ⟨⟨ρ3, y⟩, e5, e6⟩ := Option.map_eq_some_iff.mp e4
    cases e6
    rw [List.length_cons, List.length_cons, gArs_len e5]
theorem call_imp {K : PySem.W.Frag} {n : Nat} {f : List Sl → Option (List Sl × Sl)} {args : List Ar} (hn : args.length = n) : ∀ σ H Q, tX K (gCall f args) σ H Q → tGo (spF K n f) (tArs K args) σ H Q := fun σ H Q ⟨F, ρ, ρ', s, S, eq, q⟩ => by
  obtain ⟨⟨ρ1, as⟩, e1, eq⟩ := Option.bind_eq_some_iff.mp eq
  obtain ⟨ss, e2, eq⟩ := Option.bind_eq_some_iff.mp eq
  obtain ⟨⟨ss', r⟩, e3, eq⟩ := Option.bind_eq_some_iff.mp eq
  dsimp only at eq e2
  split at eq
  · rename_i hc
    cases eq
    have la : as.length = args.length := gArs_len e1
    refine ⟨F, ρ, ρ1, as, S, e1, fun F1 H1 vs st1 A => ⟨by rw [A.len, la, hn], F1, ss, ss', s, st1.sim.args A e2 hc.2, e3, fun F2 H2 v st2 rs => ?_⟩⟩
    have st3 := st2.ret st1.sim A e2 hc.2 hc.1
    have rs3 := rs.ret st1.sim A e2 hc.2 hc.1 st2
    refine q F2 H2 v (st1.trans st3) ⟨rs3.ok, fun o p e => ?_⟩
    obtain ⟨h1, h2⟩ := rs3.fr o p e
    refine ⟨?_, h2⟩
    rcases h1 with z | z
    · cases e2 : H p with
      | none => exact .inl rfl
      | some u =>
        by_cases y : Own σ ρ p
        · exact .inr y
        · rw [st1.go.k p u e2 y] at z; cases z
    · exact .inr (st1.sub p z)
  · cases eq
end DL

namespace DL
open PySem PySem.Spec L2
open PyProof.Rows hiding St

/-! ### tests, and, or, not, if-else, is None, chains -/
@[simp] def gAndB (a b : GB) : GB := fun ρ => (a ρ).bind fun r => if r.2 then b r.1 else some (r.1, false)
@[simp] def gOrB (a b : GB) : GB := fun ρ => (a ρ).bind fun r => if r.2 then some (r.1, true) else b r.1
@[simp] def gNotB (a : GB) : GB := fun ρ => (a ρ).map fun r => (r.1, !r.2)
@[simp] def gIf (c : GB) (a b : GX) : GX := fun ρ => (c ρ).bind fun r => if r.2 then a r.1 else b r.1
@[simp] def gIfB (c : GB) (a b : GB) : GB := fun ρ => (c ρ).bind fun r => if r.2 then a r.1 else b r.1
/-- and, or as values -/
@[simp] def gAndV (a b : GD) : GD := fun ρ => (a ρ).bind fun r => (boolD r.2).bind fun c => if c then b r.1 else some (r.1, .bool false)
@[simp] def gOrV (a b : GD) : GD := fun ρ => (a ρ).bind fun r => (boolD r.2).bind fun c => if c then some (r.1, .bool true) else b r.1
@[simp] def gNotV (a : GD) : GD := fun ρ => (a ρ).bind fun r => (boolD r.2).map fun c => (r.1, .bool !c)
@[simp] def isNoneD : D → Bool
  | .none => true
  | _ => false
@[simp] def gIsN (a : GD) : GD := fun ρ => (a ρ).map fun r => (r.1, .bool (isNoneD r.2))
@[simp] def gNotN (a : GD) : GD := fun ρ => (a ρ).map fun r => (r.1, .bool !(isNoneD r.2))
@[simp] def gChain (f f' : D → D → Option Sl) (a b c : GD) : GD := fun ρ => (a ρ).bind fun x => (b x.1).bind fun y => ((f x.2 y.2).bind fun s => s.frz.bind boolD).bind fun t =>
  if t then (c y.1).bind fun z => ((f' y.2 z.2).bind fun s => s.frz).map fun w => (z.1, w) else some (y.1, .bool false)

theorem Rp.bool_inv {K : PySem.W.Frag} {F : Hp} {v : V} {d : D} {c : Bool} (r : Rp K F v d) (e : boolD d = some c) : v = .bl c := by
  cases r <;> first | (cases e; rfl) | cases e
section
variable {X : Cx} {a b c e : Expr} {rest : List Expr} {pos : Pos} {ga gb' gc : GD} {gA gB gC : GB} {gx1 gx2 : GX}
theorem dt_val (h : PE X e (tD X.K ga)) (he : ∀ whole, isTrue e X.env whole = (do let v ← whole; standAt e.pos; holding [v] (truthy v))) : PT X e (tT X.K (gb ga)) :=
  PTimp (pt_val h he) fun σ H Q ⟨F, ρ, ρ', t, S, eq, q⟩ => by
    obtain ⟨⟨ρ1, x⟩, e1, e2⟩ := Option.bind_eq_some_iff.mp eq
    obtain ⟨c, e3, e4⟩ := Option.map_eq_some_iff.mp e2
    cases e4
    exact ⟨F, ρ, ρ1, x, S, e1, fun F1 H1 v st r => ⟨_, r.bool_inv e3, q F1 H1 st⟩⟩
theorem dw_and1 (ha : PT X a (tT X.K gA)) : PW X (.BoolOp .And [a] pos) (tT X.K gA) := pw_and1 ha
theorem dw_or1 (ha : PT X a (tT X.K gA)) : PW X (.BoolOp .Or [a] pos) (tT X.K gA) := pw_or1 ha
theorem dw_and (ha : PT X a (tT X.K gA)) (hb : PW X (.BoolOp .And (b :: rest) pos) (tT X.K gB)) : PW X (.BoolOp .And (a :: b :: rest) pos) (tT X.K (gAndB gA gB)) :=
  PWimp (pw_and ha hb) fun σ H Q ⟨F, ρ, ρ', t, S, eq, q⟩ => by
    obtain ⟨⟨ρ1, x⟩, e1, e2⟩ := Option.bind_eq_some_iff.mp eq
    refine ⟨F, ρ, ρ1, x, S, e1, fun F1 H1 st => ?_⟩
    cases x with
    | true => exact iteT ⟨F1, ρ1, ρ', t, st.sim, e2, fun F2 H2 st2 => q F2 H2 (st.trans st2)⟩
    | false => cases e2; exact iteF (q F1 H1 st)
theorem dw_or (ha : PT X a (tT X.K gA)) (hb : PW X (.BoolOp .Or (b :: rest) pos) (tT X.K gB)) : PW X (.BoolOp .Or (a :: b :: rest) pos) (tT X.K (gOrB gA gB)) :=
  PWimp (pw_or ha hb) fun σ H Q ⟨F, ρ, ρ', t, S, eq, q⟩ => by
    obtain ⟨⟨ρ1, x⟩, e1, e2⟩ := Option.bind_eq_some_iff.mp eq
    refine ⟨F, ρ, ρ1, x, S, e1, fun F1 H1 st => ?_⟩
    cases x with
    | false => exact iteF ⟨F1, ρ1, ρ', t, st.sim, e2, fun F2 H2 st2 => q F2 H2 (st.trans st2)⟩
    | true => cases e2; exact iteT (q F1 H1 st)
theorem dt_not (ha : PT X a (tT X.K gA)) : PT X (.UnaryOp .Not a pos) (tT X.K (gNotB gA)) := PTimp (pt_not ha) fun σ H Q ⟨F, ρ, ρ', t, S, eq, q⟩ => by
  obtain ⟨⟨ρ1, x⟩, e1, e2⟩ := Option.map_eq_some_iff.mp eq
  cases e2
  exact ⟨F, ρ, ρ1, x, S, e1, fun F1 H1 st => q F1 H1 st⟩
theorem de_if (hc : PT X c (tT X.K gC)) (ha : PE X a (tX X.K gx1)) (hb : PE X b (tX X.K gx2)) : PE X (.IfExp c a b pos) (tX X.K (gIf gC gx1 gx2)) := PEimp (pe_ifExp hc ha hb) fun σ H Q ⟨F, ρ, ρ', t, S, eq, q⟩ => by
  obtain ⟨⟨ρ1, x⟩, e1, e2⟩ := Option.bind_eq_some_iff.mp eq
  have lift : ∀ {F1 H1 F2 H2 v}, Ste X.K F H σ ρ F1 H1 ρ1 → Ste X.K F1 H1 σ ρ1 F2 H2 ρ' → Res X.K H1 σ ρ1 F2 H2 ρ' v t → Q v H2 := fun {F1 H1 F2 H2 v} st st2 r => by
    refine q F2 H2 v (st.trans st2) ⟨r.ok, fun o p e => ?_⟩
    obtain ⟨h1, h2⟩ := r.fr o p e
    refine ⟨?_, h2⟩
    rcases h1 with z | z
    · cases e2 : H p with
      | none => exact .inl rfl
      | some u =>
        by_cases y : Own σ ρ p
        · exact .inr y
        · rw [st.go.k p u e2 y] at z; cases z
    · exact .inr (st.sub p z)
  refine ⟨F, ρ, ρ1, x, S, e1, fun F1 H1 st => ?_⟩
  cases x with
  | true => exact iteT ⟨F1, ρ1, ρ', t, st.sim, e2, fun F2 H2 v st2 r => lift st st2 r⟩
  | false => exact iteF ⟨F1, ρ1, ρ', t, st.sim, e2, fun F2 H2 v st2 r => lift st st2 r⟩
theorem dv_one {op : BoolOp} (h : PE X a (tD X.K ga)) : PE X (.BoolOp op [a] pos) (tD X.K ga) := pe_one h
theorem dv_and (ha : PE X a (tD X.K ga)) (hb : PE X (.BoolOp .And (b :: rest) pos) (tD X.K gb')) : PE X (.BoolOp .And (a :: b :: rest) pos) (tD X.K (gAndV ga gb')) :=
  PEimp (pe_and ha hb) fun σ H Q ⟨F, ρ, ρ', t, S, eq, q⟩ => by
    obtain ⟨⟨ρ1, x⟩, e1, e2⟩ := Option.bind_eq_some_iff.mp eq
    obtain ⟨c, e3, e4⟩ := Option.bind_eq_some_iff.mp e2
    refine ⟨F, ρ, ρ1, x, S, e1, fun F1 H1 v st r => ⟨c, r.bool_inv e3, ?_⟩⟩
    cases c with
    | true => exact iteT ⟨F1, ρ1, ρ', t, st.sim, e4, fun F2 H2 v2 st2 r2 => q F2 H2 v2 (st.trans st2) r2⟩
    | false => cases e4; exact iteF (q F1 H1 _ st (.bl _))
theorem dv_or (ha : PE X a (tD X.K ga)) (hb : PE X (.BoolOp .Or (b :: rest) pos) (tD X.K gb')) : PE X (.BoolOp .Or (a :: b :: rest) pos) (tD X.K (gOrV ga gb')) :=
  PEimp (pe_or ha hb) fun σ H Q ⟨F, ρ, ρ', t, S, eq, q⟩ => by
    obtain ⟨⟨ρ1, x⟩, e1, e2⟩ := Option.bind_eq_some_iff.mp eq
    obtain ⟨c, e3, e4⟩ := Option.bind_eq_some_iff.mp e2
    refine ⟨F, ρ, ρ1, x, S, e1, fun F1 H1 v st r => ⟨c, r.bool_inv e3, ?_⟩⟩
    cases c with
    | false => exact iteF ⟨F1, ρ1, ρ', t, st.sim, e4, fun F2 H2 v2 st2 r2 => q F2 H2 v2 (st.trans st2) r2⟩
    | true => cases e4; exact iteT (q F1 H1 _ st (.bl _))
theorem dv_not (ha : PE X a (tD X.K ga)) : PE X (.UnaryOp .Not a pos) (tD X.K (gNotV ga)) := PEimp (pe_not ha) fun σ H Q ⟨F, ρ, ρ', t, S, eq, q⟩ => by
  obtain ⟨⟨ρ1, x⟩, e1, e2⟩ := Option.bind_eq_some_iff.mp eq
  obtain ⟨c, e3, e4⟩ := Option.map_eq_some_iff.mp e2
  cases e4
  exact ⟨F, ρ, ρ1, x, S, e1, fun F1 H1 v st r => ⟨c, r.bool_inv e3, q F1 H1 _ st (.bl _)⟩⟩
theorem Rp.none_eq {K : PySem.W.Frag} {F : Hp} {v : V} {d : D} (r : Rp K F v d) : decide (v = V.non) = isNoneD d := by cases r <;> rfl
theorem de_isN {j pos'} (ha : PE X a (tD X.K ga)) : PE X (.Compare a [.Is] [.Constant .none j pos'] pos) (tD X.K (gIsN ga)) := PEimp (pe_cmp (pc_isN ha) rfl) fun σ H Q ⟨F, ρ, ρ', t, S, eq, q⟩ => by
  obtain ⟨⟨ρ1, x⟩, e1, e2⟩ := Option.map_eq_some_iff.mp eq
  cases e2
  refine ⟨F, ρ, ρ1, x, S, e1, fun F1 H1 v st r => ?_⟩
  show Q (.bl (decide (v = .non))) H1
  rw [r.none_eq]
  exact q F1 H1 _ st (.bl _)
theorem de_notN {j pos'} (ha : PE X a (tD X.K ga)) : PE X (.Compare a [.IsNot] [.Constant .none j pos'] pos) (tD X.K (gNotN ga)) := PEimp (pe_cmp (pc_notN ha) rfl) fun σ H Q ⟨F, ρ, ρ', t, S, eq, q⟩ => by
  obtain ⟨⟨ρ1, x⟩, e1, e2⟩ := Option.map_eq_some_iff.mp eq
  cases e2
  refine ⟨F, ρ, ρ1, x, S, e1, fun F1 H1 v st r => ?_⟩
  show Q (.bl (!decide (v = .non))) H1
  rw [r.none_eq]
  exact q F1 H1 _ st (.bl _)
theorem dt_isN {j pos'} (ha : PE X a (tD X.K ga)) : PT X (.Compare a [.Is] [.Constant .none j pos'] pos) (tT X.K (gb (gIsN ga))) := PTimp (pt_cmp (pc_isN ha) rfl) fun σ H Q ⟨F, ρ, ρ', t, S, eq, q⟩ => by
  obtain ⟨⟨ρ1, x⟩, e1, e2⟩ := Option.bind_eq_some_iff.mp eq
  obtain ⟨⟨ρ2, y⟩, e3, e4⟩ := Option.map_eq_some_iff.mp e1
  cases e4
  cases e2
  refine ⟨F, ρ, _, y, S, e3, fun F1 H1 v st r => ⟨_, ?_, q F1 H1 st⟩⟩
  rw [r.none_eq]
theorem dt_notN {j pos'} (ha : PE X a (tD X.K ga)) : PT X (.Compare a [.IsNot] [.Constant .none j pos'] pos) (tT X.K (gb (gNotN ga))) := PTimp (pt_cmp (pc_notN ha) rfl) fun σ H Q ⟨F, ρ, ρ', t, S, eq, q⟩ => by
  obtain ⟨⟨ρ1, x⟩, e1, e2⟩ := Option.bind_eq_some_iff.mp eq
  obtain ⟨⟨ρ2, y⟩, e3, e4⟩ := Option.map_eq_some_iff.mp e1
  cases e4
  cases e2
  refine ⟨F, ρ, _, y, S, e3, fun F1 H1 v st r => ⟨_, ?_, q F1 H1 st⟩⟩
  rw [r.none_eq]
theorem op_impD {f : D → D → Option Sl} {ga gb' : GD} : ∀ σ H Q, tD X.K (gd (gOp ga gb' f)) σ H Q → tOp (rD2 X.K f) (tD X.K ga) (tD X.K gb') σ H Q := fun σ H Q ⟨F, ρ, ρ', d, S, eq, q⟩ => by
  obtain ⟨⟨ρ1, s⟩, e1, e2⟩ := Option.bind_eq_some_iff.mp eq
  obtain ⟨x, e3, e4⟩ := Option.map_eq_some_iff.mp e2
  cases e4
  refine op_imp σ H Q ⟨F, ρ, ρ1, s, S, e1, fun F' H' v st r => ?_⟩
  obtain ⟨F2, st2, rp⟩ := r.share st e3
  exact q F2 H' v st2 rp
theorem dt_cmp {cop : CmpOp} {f : D → D → Option Sl} (ho : OpR X (compareOp cop) (rD2 X.K f)) (ha : PE X a (tD X.K ga)) (hb : PE X b (tD X.K gb')) (hm : behindInMarks cop b = false) : PT X (.Compare a [cop] [b] pos) (tT X.K (gb (gd (gOp ga gb' f)))) :=
  PTimp (pt_cmpR ho ha hb hm) fun σ H Q ⟨F, ρ, ρ', t, S, eq, q⟩ => by
    obtain ⟨⟨ρ1, x⟩, e1, e2⟩ := Option.bind_eq_some_iff.mp eq
    obtain ⟨c, e3, e4⟩ := Option.map_eq_some_iff.mp e2
    cases e4
    exact op_impD σ H _ ⟨F, ρ, ρ1, x, S, e1, fun F1 H1 v st r => ⟨_, r.bool_inv e3, q F1 H1 st⟩⟩
theorem chain_imp {f f' : D → D → Option Sl} {ga gb' gc : GD} : ∀ σ H Q, tD X.K (gChain f f' ga gb' gc) σ H Q → tChain (rD2 X.K f) (rD2 X.K f') (tD X.K ga) (tD X.K gb') (tD X.K gc) σ H Q := fun σ H Q ⟨F, ρ, ρ', d, S, eq, q⟩ => by
  obtain ⟨⟨ρ1, x⟩, e1, eq⟩ := Option.bind_eq_some_iff.mp eq
  obtain ⟨⟨ρ2, y⟩, e2, eq⟩ := Option.bind_eq_some_iff.mp eq
  obtain ⟨t, e3, eq⟩ := Option.bind_eq_some_iff.mp eq
  obtain ⟨s, e4, e5⟩ := Option.bind_eq_some_iff.mp e3
  obtain ⟨w, e6, e7⟩ := Option.bind_eq_some_iff.mp e5
  refine ⟨F, ρ, ρ1, x, S, e1, fun F1 H1 v1 st1 r1 => ⟨F1, ρ1, ρ2, y, st1.sim, e2, fun F2 H2 v2 st2 r2 => ?_⟩⟩
  have st := st1.trans st2
  refine ⟨F2, x, y, s, st.sim.fz, Rp.up st2.go.f r1, r2, e4, fun F3 H3 z nw rs => ?_⟩
  have st3 := st.trans (nw.ste st.sim)
  cases s with
  | d w' =>
    cases e6
    refine ⟨t, Rp.bool_inv rs.ok e7, ?_⟩
    cases t with
    | true =>
      obtain ⟨⟨ρ3, u⟩, e8, eq⟩ := Option.bind_eq_some_iff.mp eq
      obtain ⟨d', e9, e10⟩ := Option.map_eq_some_iff.mp eq
      cases e10
      obtain ⟨s', e11, e12⟩ := Option.bind_eq_some_iff.mp e9
      refine iteT ⟨F3, ρ2, ρ3, u, st3.sim, e8, fun F5 H5 v5 st5 r5 => ?_⟩
      have st6 := st3.trans st5
      refine ⟨F5, y, u, s', st6.sim.fz, Rp.up (nw.f.trans st5.go.f) r2, r5, e11, fun F6 H6 z6 nw6 rs6 => ?_⟩
      have st7 := st6.trans (nw6.ste st6.sim)
      obtain ⟨F7, st8, rp8⟩ := (rs6.res st6).share st7 e12
      exact q F7 H6 z6 st8 rp8
    | false =>
      cases eq
      exact iteF (q F3 H3 _ st3 (.bl _))
  | l _ => cases e6; cases e7
  | m _ => cases e6
  | f _ => cases e6
  | s _ => cases e6
theorem de_chain {o1 o2 : CmpOp} {f f' : D → D → Option Sl} (h1 : OpR X (compareOp o1) (rD2 X.K f)) (h2 : OpR X (compareOp o2) (rD2 X.K f')) (ha : PE X a (tD X.K ga)) (hb : PE X b (tD X.K gb')) (hc : PE X c (tD X.K gc)) (hm : lastMarks [o1, o2] [b, c] = false) :
    PE X (.Compare a [o1, o2] [b, c] pos) (tD X.K (gChain f f' ga gb' gc)) := PEimp (pe_chain h1 h2 ha hb hc hm) chain_imp
theorem dt_chain {o1 o2 : CmpOp} {f f' : D → D → Option Sl} (h1 : OpR X (compareOp o1) (rD2 X.K f)) (h2 : OpR X (compareOp o2) (rD2 X.K f')) (ha : PE X a (tD X.K ga)) (hb : PE X b (tD X.K gb')) (hc : PE X c (tD X.K gc)) (hm : lastMarks [o1, o2] [b, c] = false) :
    PT X (.Compare a [o1, o2] [b, c] pos) (tT X.K (gb (gChain f f' ga gb' gc))) := PTimp (pt_chain h1 h2 ha hb hc hm) fun σ H Q ⟨F, ρ, ρ', t, S, eq, q⟩ => by
  obtain ⟨⟨ρ1, x⟩, e1, e2⟩ := Option.bind_eq_some_iff.mp eq
  obtain ⟨c, e3, e4⟩ := Option.map_eq_some_iff.mp e2
  cases e4
  exact chain_imp σ H _ ⟨F, ρ, ρ1, x, S, e1, fun F1 H1 v st r => ⟨_, r.bool_inv e3, q F1 H1 st⟩⟩
/-- a if-else in a test -/
theorem dt_if (hc : PT X c (tT X.K gC)) (ha : PT X a (tT X.K gA)) (hb : PT X b (tT X.K gB)) : PT X (.IfExp c a b pos) (tT X.K (gIfB gC gA gB)) := by
  constructor
  intro pins s σ H Q I ⟨F, ρ, ρ', t, S, eq, q⟩
  obtain ⟨⟨ρ1, x⟩, e1, e2⟩ := Option.bind_eq_some_iff.mp eq
  rw [show isTrue (.IfExp c a b pos) X.env (eval (.IfExp c a b pos) X.env) = (do if ← isTrue c X.env (eval c X.env) then isTrue a X.env (eval a X.env) else isTrue b X.env (eval b X.env)) from by simp only [PySem.isTrue]]
  refine wpAny_bind (thn (hc.run pins s σ H (fun b' H1 => ∃ F1, b' = x ∧ Ste X.K F H σ ρ F1 H1 ρ1) I ⟨F, ρ, ρ1, x, S, e1, fun F1 H1 st => ⟨F1, rfl, st⟩⟩) ?_)
  rintro b' s1 ⟨H1, I1, F1, rfl, st⟩
  cases b' with
  | true => exact ha.run pins s1 σ H1 Q I1 ⟨F1, ρ1, ρ', t, st.sim, e2, fun F2 H2 st2 => q F2 H2 (st.trans st2)⟩
  | false => exact hb.run pins s1 σ H1 Q I1 ⟨F1, ρ1, ρ', t, st.sim, e2, fun F2 H2 st2 => q F2 H2 (st.trans st2)⟩
end
end DL

namespace DL
open PySem PySem.Spec L2
open PyProof.Rows hiding St

/-! ### calls of builtins over data -/
def intsOf : List D → Option (List Int)
  | [] => some []
  | .int i :: r => (intsOf r).map fun t => i :: t
  | _ :: _ => none
def boolsOf : List D → Option (List Bool)
  | [] => some []
  | .bool i :: r => (boolsOf r).map fun t => i :: t
  | _ :: _ => none
def strsOf : List D → Option (List Str)
  | [] => some []
  | .str i :: r => (strsOf r).map fun t => i :: t
  | _ :: _ => none
theorem RpAll.ints {K : PySem.W.Frag} {F : Hp} : ∀ {vs : List V} {ds : List D} {ns : List Int}, RpAll K F vs ds → intsOf ds = some ns → vs = ns.map V.int ∧ ds = ns.map PyData.int
  | _, _, _, .nil, e => by cases e; exact ⟨rfl, rfl⟩
  | _, _, _, .cons (d := d) a r, e => by
    cases a with
    | int i =>
      obtain ⟨t, e1, e2⟩ := Option.map_eq_some_iff.mp e
      subst e2
      obtain ⟨h1, h2⟩ := RpAll.ints r e1
      rw [h1, h2]; exact ⟨rfl, rfl⟩
    | _ => cases e
theorem RpAll.bools {K : PySem.W.Frag} {F : Hp} : ∀ {vs : List V} {ds : List D} {ns : List Bool}, RpAll K F vs ds → boolsOf ds = some ns → vs = ns.map V.bl
  | _, _, _, .nil, e => by cases e; rfl
  | _, _, _, .cons (d := d) a r, e => by
    cases a with
    | bl i =>
      obtain ⟨t, e1, e2⟩ := Option.map_eq_some_iff.mp e
      subst e2
      rw [RpAll.bools r e1]; rfl
    | _ => cases e
theorem RpAll.strs {K : PySem.W.Frag} {F : Hp} : ∀ {vs : List V} {ds : List D} {ns : List Str}, RpAll K F vs ds → strsOf ds = some ns → vs = ns.map V.str
  | _, _, _, .nil, e => by cases e; rfl
  | _, _, _, .cons (d := d) a r, e => by
    cases a with
    | str i =>
      obtain ⟨t, e1, e2⟩ := Option.map_eq_some_iff.mp e
      subst e2
      rw [RpAll.strs r e1]; rfl
    | _ => cases e
theorem rp_ints {K : PySem.W.Frag} {F : Hp} : ∀ ns : List Int, RpAll K F (ns.map V.int) (ns.map PyData.int)
  | [] => .nil
  | i :: r => .cons (.int i) (rp_ints r)
theorem rp_strs {K : PySem.W.Frag} {F : Hp} : ∀ ns : List Str, RpAll K F (ns.map V.str) (ns.map PyData.str)
  | [] => .nil
  | i :: r => .cons (.str i) (rp_strs r)

@[simp] def lenD : List D → Option Sl
  | [.str x] => if fit x.length then some (.d (.int x.length)) else none
  | [.list xs] => some (.d (.int xs.length))
  | [.tuple xs] => some (.d (.int xs.length))
  | _ => none
@[simp] def tupleD : List D → Option Sl
  | [.list xs] => some (.d (.tuple xs))
  | [.tuple xs] => some (.d (.tuple xs))
  | _ => none
@[simp] def listD : List D → Option Sl
  | [.list xs] => some (.l xs)
  | [.tuple xs] => some (.l xs)
  | _ => none
def minL : List Int → Int
  | [] => 0
  | [x] => x
  | x :: r => if minL r < x then minL r else x
def maxL : List Int → Int
  | [] => 0
  | [x] => x
  | x :: r => if maxL r > x then maxL r else x
theorem minL_ok : ∀ (ns : List Int), 0 < ns.length → minL ns ∈ ns ∧ ∀ y ∈ ns, minL ns ≤ y
  | [], h => by cases h
  | [x], _ => ⟨List.mem_cons_self, fun y h => by rw [List.mem_singleton] at h; subst h; exact Int.le_refl _⟩
  | x :: z :: r, _ => by
    obtain ⟨h1, h2⟩ := minL_ok (z :: r) (by simp)
    show (if minL (z :: r) < x then minL (z :: r) else x) ∈ _ ∧ ∀ y ∈ _, (if minL (z :: r) < x then minL (z :: r) else x) ≤ y
    split
    · exact ⟨List.mem_cons_of_mem _ h1, fun y h => by
        rcases List.mem_cons.mp h with rfl | h
        · omega
        · exact h2 y h⟩
    · exact ⟨List.mem_cons_self, fun y h => by
        rcases List.mem_cons.mp h with rfl | h
        · exact Int.le_refl _
        · have := h2 y h
          omega⟩
theorem maxL_ok : ∀ (ns : List Int), 0 < ns.length → maxL ns ∈ ns ∧ ∀ y ∈ ns, y ≤ maxL ns
  | [], h => by cases h
  | [x], _ => ⟨List.mem_cons_self, fun y h => by rw [List.mem_singleton] at h; subst h; exact Int.le_refl _⟩
  | x :: z :: r, _ => by
    obtain ⟨h1, h2⟩ := maxL_ok (z :: r) (by simp)
    show (if maxL (z :: r) > x then maxL (z :: r) else x) ∈ _ ∧ ∀ y ∈ _, y ≤ (if maxL (z :: r) > x then maxL (z :: r) else x)
    split
    · exact ⟨List.mem_cons_of_mem _ h1, fun y h => by
        rcases List.mem_cons.mp h with rfl | h
        · omega
        · exact h2 y h⟩
    · exact ⟨List.mem_cons_self, fun y h => by
        rcases List.mem_cons.mp h with rfl | h
        · exact Int.le_refl _
        · have := h2 y h
          omega⟩
@[simp] def maxD : List D → Option Sl
  | [.int i, .int j] => some (.d (.int (if j > i then j else i)))
  | [.list xs] => (intsOf xs).bind fun ns => if 0 < ns.length then some (.d (.int (maxL ns))) else none
  | _ => none
@[simp] def minD : List D → Option Sl
  | [.int i, .int j] => some (.d (.int (if j < i then j else i)))
  | [.list xs] => (intsOf xs).bind fun ns => if 0 < ns.length then some (.d (.int (minL ns))) else none
  | _ => none
@[simp] def absD : List D → Option Sl
  | [.int i] => some (.d (.int (if i < 0 then -i else i)))
  | _ => none
@[simp] def intD : List D → Option Sl
  | [.int i] => some (.d (.int i))
  | [.bool k] => some (.d (.int (if k then 1 else 0)))
  | _ => none
@[simp] def strD : List D → Option Sl
  | [.int i] => if decide (i.natAbs < 2 ^ 1900) then some (.d (.str (toString i))) else none
  | _ => none
@[simp] def sumD : List D → Option Sl
  | [.list xs] => (intsOf xs).map fun ns => .d (.int ns.sum)
  | _ => none
@[simp] def allD : List D → Option Sl
  | [.list xs] => (boolsOf xs).map fun ns => .d (.bool (ns.all id))
  | _ => none
@[simp] def anyD : List D → Option Sl
  | [.list xs] => (boolsOf xs).map fun ns => .d (.bool (ns.any id))
  | _ => none
/-- insertion by the order of ints -/
def insI (i : Int) : List Int → List Int
  | [] => [i]
  | j :: r => if i ≤ j then i :: j :: r else j :: insI i r
def sortI : List Int → List Int
  | [] => []
  | i :: r => insI i (sortI r)
theorem insI_perm (i : Int) : ∀ l : List Int, (insI i l).Perm (i :: l)
  | [] => .refl _
  | j :: r => by
    unfold insI
    split
    · exact .refl _
    · exact ((insI_perm i r).cons j).trans (.swap i j r)
theorem sortI_perm : ∀ l : List Int, (sortI l).Perm l
  | [] => .refl _
  | i :: r => (insI_perm i _).trans ((sortI_perm r).cons i)
theorem insI_sorted (i : Int) : ∀ l : List Int, l.Pairwise (· ≤ ·) → (insI i l).Pairwise (· ≤ ·)
  | [], _ => by simp [insI]
  | j :: r, h => by
    obtain ⟨h1, h2⟩ := List.pairwise_cons.mp h
    unfold insI
    split
    · rename_i q
      refine List.pairwise_cons.mpr ⟨fun k hk => ?_, h⟩
      rcases List.mem_cons.mp hk with e | hk
      · rw [e]; exact q
      · exact Int.le_trans q (h1 k hk)
    · rename_i q
      refine List.pairwise_cons.mpr ⟨fun k hk => ?_, insI_sorted i r h2⟩
      rcases List.mem_cons.mp ((insI_perm i r).mem_iff.mp hk) with e | hk
      · rw [e]; omega
      · exact h1 k hk
theorem sortI_sorted : ∀ l : List Int, (sortI l).Pairwise (· ≤ ·)
  | [] => List.Pairwise.nil
  | i :: r => insI_sorted i _ (sortI_sorted r)
theorem sorted_one : ∀ {l m : List Int}, l.Perm m → l.Pairwise (· ≤ ·) → m.Pairwise (· ≤ ·) → l = m := fun {l m} p a b =>
  p.eq_of_pairwise (fun x y _ _ h1 h2 => Int.le_antisymm h1 h2) a b
@[simp] def sortedD : List D → Option Sl
  | [.list xs] => (intsOf xs).map fun ns => .l ((sortI ns).map .int)
  | _ => none
/-! repr: what it weighs at most -/
mutual
def wt : D → Nat
  | .none => 8
  | .bool _ => 8
  | .int i => if i.natAbs < 10 ^ 18 then 20 else 2000
  | .str x => 10 * x.length + 4
  | .list xs => wtAll xs + 4
  | .tuple xs => wtAll xs + 4
  | .dict _ => 0
def wtAll : List D → Nat
  | [] => 0
  | x :: xs => wt x + 2 + wtAll xs
end
mutual
def shw : D → Bool
  | .none => true
  | .bool _ => true
  | .int i => decide (i.natAbs < 2 ^ 1900)
  | .str x => x.cps.toList.all fun c => decide (c < 16 ^ 8)
  | .list xs => shwAll xs
  | .tuple xs => shwAll xs
  | .dict _ => false
def shwAll : List D → Bool
  | [] => true
  | x :: xs => shw x && shwAll xs
end
mutual
theorem shw_ok : ∀ d : D, shw d = true → d.showable = true ∧ d.hasDict = false ∧ d.shown.length ≤ wt d
  | .none, _ => ⟨rfl, rfl, by decide⟩
  | .bool b, _ => ⟨rfl, rfl, by cases b <;> decide⟩
  | .int i, h => by
    unfold shw at h
    have h := of_decide_eq_true h
    have l : i.natAbs.log2 < 1920 := Nat.lt_of_lt_of_le (log2_lt (by decide) h) (by decide)
    refine ⟨by unfold PyData.showable; exact decide_eq_true l, rfl, ?_⟩
    unfold wt PyData.shown
    split
    · rename_i q
      have t := int_text_length_le10 (k := 18) (by decide) q
      rw [PySem.ofString_length]; omega
    · have t := int_text_length_le (k := 1920) (by decide) l
      rw [PySem.ofString_length]; omega
  | .str x, h => by
    unfold shw at h
    refine ⟨rfl, rfl, ?_⟩
    unfold wt PyData.shown
    have := StrLaws.reprText_len x fun c hc => of_decide_eq_true (List.all_eq_true.mp h c hc)
    omega
  | .list xs, h => by
    unfold shw at h
    obtain ⟨h1, h2, h3⟩ := shwAll_ok xs h
    refine ⟨by unfold PyData.showable; exact h1, by unfold PyData.hasDict; exact h2, ?_⟩
    unfold wt PyData.shown
    have := listText_len_le (PyData.shownAll xs)
    have e : (PyData.shownAll xs).length = xs.length := shownAll_len xs
    rw [e] at this
    omega
  | .tuple xs, h => by
    unfold shw at h
    obtain ⟨h1, h2, h3⟩ := shwAll_ok xs h
    refine ⟨by unfold PyData.showable; exact h1, by unfold PyData.hasDict; exact h2, ?_⟩
    unfold wt PyData.shown
    have := tupleText_len_le (PyData.shownAll xs)
    have e : (PyData.shownAll xs).length = xs.length := shownAll_len xs
    rw [e] at this
    omega
  | .dict _, h => by cases h
theorem shwAll_ok : ∀ ds : List D, shwAll ds = true → PyData.showableAll ds = true ∧ PyData.hasDictAll ds = false ∧ ((PyData.shownAll ds).map (·.length)).sum + 2 * ds.length ≤ wtAll ds
  | [], _ => ⟨rfl, rfl, Nat.le_refl _⟩
  | d :: r, h => by
    unfold shwAll at h
    obtain ⟨h1, h2⟩ := (Bool.and_eq_true _ _).mp h
    obtain ⟨a1, a2, a3⟩ := shw_ok d h1
    obtain ⟨b1, b2, b3⟩ := shwAll_ok r h2
    refine ⟨by unfold PyData.showableAll; rw [a1, b1]; rfl, by unfold PyData.hasDictAll; rw [a2, b2]; rfl, ?_⟩
    unfold wtAll PyData.shownAll
    rw [List.map_cons, List.sum_cons, List.length_cons]
    omega
theorem shownAll_len : ∀ ds : List D, (PyData.shownAll ds).length = ds.length
  | [] => rfl
  | d :: r => by unfold PyData.shownAll; rw [List.length_cons, List.length_cons, shownAll_len r]
end
@[simp] def reprD : List D → Option Sl
  | [d] => if shw d && decide (d.depth ≤ 100) && fit (wt d) then some (.d (.str d.shown)) else none
  | _ => none

section
variable {X : Cx}
theorem CallRimp {f : Value} {r r' : List V → Hp → VK → Prop} (h : CallR X f r) (w : ∀ xs H Q, r' xs H Q → r xs H Q) : CallR X f r' := fun pins s σ H xs us Q I rv q => h pins s σ H xs us Q I rv (w xs H Q q)
theorem CallRor {f : Value} {r r' : List V → Hp → VK → Prop} (h : CallR X f r) (h' : CallR X f r') : CallR X f (fun xs H Q => r xs H Q ∨ r' xs H Q) := fun pins s σ H xs us Q I rv q =>
  q.elim (h pins s σ H xs us Q I rv) (h' pins s σ H xs us Q I rv)
theorem RpAll.one {K : PySem.W.Frag} {F : Hp} {vs : List V} {d : D} (h : RpAll K F vs [d]) : ∃ v, vs = [v] ∧ Rp K F v d := by
  cases h with
  | cons a r => cases r; exact ⟨_, rfl, a⟩
theorem c_len : CallR X (.builtin "len") (rDs X.K lenD) := CallRimp call_len fun xs H Q ⟨F, ds, r, z, ra, e, q⟩ => by
  unfold lenD at e
  split at e
  · obtain ⟨v, rfl, a⟩ := ra.one
    split at e
    · rename_i hz
      cases e; cases a
      exact ⟨_, _, rfl, ⟨fit_le hz, rfl⟩, fin_same z q (.int _)⟩
    · cases e
  · obtain ⟨v, rfl, a⟩ := ra.one
    cases e
    cases a with
    | lst h r =>
      rw [← RpAll.len r] at q
      exact ⟨_, _, rfl, .inl ⟨_, .inl (.inl (z _ _ h)), rfl⟩, fin_same z q (.int _)⟩
  · obtain ⟨v, rfl, a⟩ := ra.one
    cases e
    cases a with
    | tup h r =>
      rw [← RpAll.len r] at q
      exact ⟨_, _, rfl, .inr ⟨_, sqt_up z h.sq, rfl⟩, fin_same z q (.int _)⟩
  · cases e
theorem c_tuple : CallR X (.type "tuple") (rDs X.K tupleD) := CallRimp call_tupF fun xs H Q ⟨F, ds, r, z, ra, e, q⟩ => by
  unfold tupleD at e
  split at e
  · obtain ⟨v, rfl, a⟩ := ra.one
    cases e
    cases a with
    | lst h r => exact ⟨_, _, rfl, .inl ⟨.inl (.inl (z _ _ h)), fun p o hp ho => fin_tup z q r hp ho⟩⟩
  · obtain ⟨v, rfl, a⟩ := ra.one
    cases e
    cases a with
    | tup h r => exact ⟨_, _, rfl, .inr ⟨sqt_up z h.sq, fin_same z q (.tup h r)⟩⟩
  · cases e
theorem c_list : CallR X (.type "list") (rDs X.K listD) := CallRimp call_list_of fun xs H Q ⟨F, ds, r, z, ra, e, q⟩ => by
  unfold listD at e
  split at e
  · obtain ⟨v, rfl, a⟩ := ra.one
    cases e
    cases a with
    | lst h r => exact ⟨_, _, rfl, .inl (.inl (.inl (z _ _ h))), fun p hp => fin_lst z q r hp⟩
  · obtain ⟨v, rfl, a⟩ := ra.one
    cases e
    cases a with
    | tup h r => exact ⟨_, _, rfl, .inr (sqt_up z h.sq), fun p hp => fin_lst z q r hp⟩
  · cases e
theorem c_max (hc : X.calm = true) : CallR X (.builtin "max") (rDs X.K maxD) := CallRimp (CallRor (call_max2 hc) (cr_max hc)) fun xs H Q ⟨F, ds, r, z, ra, e, q⟩ => by
  unfold maxD at e
  split at e
  · cases e
    cases ra with
    | cons a r => cases r with
      | cons b r => cases r; cases a; cases b; exact .inl ⟨_, _, rfl, fin_same z q (.int _)⟩
  · obtain ⟨v, rfl, a⟩ := ra.one
    obtain ⟨ns, e1, e2⟩ := Option.bind_eq_some_iff.mp e
    split at e2
    · rename_i hp
      cases e2
      cases a with
      | lst h r =>
        obtain ⟨h1, _⟩ := r.ints e1
        subst h1
        obtain ⟨g1, g2⟩ := maxL_ok ns hp
        refine .inr ⟨_, ns, rfl, .inl (.inl (z _ _ h)), hp, fun m h1 h2 => ?_⟩
        have em : m = maxL ns := Int.le_antisymm (g2 m h1) (h2 _ g1)
        rw [em]
        exact fin_same z q (.int _)
    · cases e2
  · cases e
theorem c_min (hc : X.calm = true) : CallR X (.builtin "min") (rDs X.K minD) := CallRimp (CallRor (call_min2 hc) (cr_min hc)) fun xs H Q ⟨F, ds, r, z, ra, e, q⟩ => by
  unfold minD at e
  split at e
  · cases e
    cases ra with
    | cons a r => cases r with
      | cons b r => cases r; cases a; cases b; exact .inl ⟨_, _, rfl, fin_same z q (.int _)⟩
  · obtain ⟨v, rfl, a⟩ := ra.one
    obtain ⟨ns, e1, e2⟩ := Option.bind_eq_some_iff.mp e
    split at e2
    · rename_i hp
      cases e2
      cases a with
      | lst h r =>
        obtain ⟨h1, _⟩ := r.ints e1
        subst h1
        obtain ⟨g1, g2⟩ := minL_ok ns hp
        refine .inr ⟨_, ns, rfl, .inl (.inl (z _ _ h)), hp, fun m h1 h2 => ?_⟩
        have em : m = minL ns := Int.le_antisymm (h2 _ g1) (g2 m h1)
        rw [em]
        exact fin_same z q (.int _)
    · cases e2
  · cases e
theorem c_abs : CallR X (.builtin "abs") (rDs X.K absD) := CallRimp call_abs fun xs H Q ⟨F, ds, r, z, ra, e, q⟩ => by
  unfold absD at e
  split at e
  · obtain ⟨v, rfl, a⟩ := ra.one
    cases e; cases a
    exact ⟨_, rfl, fin_same z q (.int _)⟩
  · cases e
theorem c_int : CallR X (.type "int") (rDs X.K intD) := CallRimp call_int1 fun xs H Q ⟨F, ds, r, z, ra, e, q⟩ => by
  unfold intD at e
  split at e
  · obtain ⟨v, rfl, a⟩ := ra.one
    cases e; cases a
    exact .inl ⟨_, rfl, fin_same z q (.int _)⟩
  · obtain ⟨v, rfl, a⟩ := ra.one
    cases e; cases a
    exact .inr ⟨_, rfl, fin_same z q (.int _)⟩
  · cases e
theorem c_str : CallR X (.type "str") (rDs X.K strD) := CallRimp call_str_int fun xs H Q ⟨F, ds, r, z, ra, e, q⟩ => by
  unfold strD at e
  split at e
  · obtain ⟨v, rfl, a⟩ := ra.one
    split at e
    · rename_i h
      cases e; cases a
      exact ⟨_, rfl, Nat.lt_of_lt_of_le (log2_lt (by decide) (of_decide_eq_true h)) (by decide), fin_same z q (.str _)⟩
    · cases e
  · cases e
theorem c_sum (hc : X.calm = true) : CallR X (.builtin "sum") (rDs X.K sumD) := CallRimp (cr_sum hc) fun xs H Q ⟨F, ds, r, z, ra, e, q⟩ => by
  unfold sumD at e
  split at e
  · obtain ⟨v, rfl, a⟩ := ra.one
    obtain ⟨ns, e1, e2⟩ := Option.map_eq_some_iff.mp e
    cases e2
    cases a with
    | lst h r =>
      obtain ⟨h1, _⟩ := r.ints e1
      subst h1
      exact ⟨_, ns, rfl, .inl (.inl (z _ _ h)), fin_same z q (.int _)⟩
  · cases e
theorem c_all (hc : X.calm = true) : CallR X (.builtin "all") (rDs X.K allD) := CallRimp (cr_all hc) fun xs H Q ⟨F, ds, r, z, ra, e, q⟩ => by
  unfold allD at e
  split at e
  · obtain ⟨v, rfl, a⟩ := ra.one
    obtain ⟨ns, e1, e2⟩ := Option.map_eq_some_iff.mp e
    cases e2
    cases a with
    | lst h r =>
      have h1 := r.bools e1
      subst h1
      exact ⟨_, ns, rfl, .inl (.inl (z _ _ h)), fin_same z q (.bl _)⟩
  · cases e
theorem c_any (hc : X.calm = true) : CallR X (.builtin "any") (rDs X.K anyD) := CallRimp (cr_any hc) fun xs H Q ⟨F, ds, r, z, ra, e, q⟩ => by
  unfold anyD at e
  split at e
  · obtain ⟨v, rfl, a⟩ := ra.one
    obtain ⟨ns, e1, e2⟩ := Option.map_eq_some_iff.mp e
    cases e2
    cases a with
    | lst h r =>
      have h1 := r.bools e1
      subst h1
      exact ⟨_, ns, rfl, .inl (.inl (z _ _ h)), fin_same z q (.bl _)⟩
  · cases e
theorem c_sorted : CallR X (.builtin "sorted") (rDs X.K sortedD) := CallRimp cr_sortedI fun xs H Q ⟨F, ds, r, z, ra, e, q⟩ => by
  unfold sortedD at e
  split at e
  · obtain ⟨v, rfl, a⟩ := ra.one
    obtain ⟨ns, e1, e2⟩ := Option.map_eq_some_iff.mp e
    cases e2
    cases a with
    | lst h r =>
      obtain ⟨h1, _⟩ := r.ints e1
      subst h1
      refine ⟨_, ns, rfl, .inl (.inl (z _ _ h)), fun ns' p pm st hp => ?_⟩
      have : ns' = sortI ns := sorted_one (pm.trans (sortI_perm ns).symm) st (sortI_sorted ns)
      subst this
      exact fin_lst z q (rp_ints _) hp
  · cases e
theorem c_repr (hu : X.A.units + 150 < cLine) (hg : X.A.guards = some []) : CallR X (.builtin "repr") (rDs X.K reprD) := by
  intro pins s σ H xs us Q I rv ⟨F, ds, r, z, ra, e, q⟩
  unfold reprD at e
  split at e
  · rename_i d
    obtain ⟨v, rfl, a⟩ := ra.one
    split at e
    · rename_i h
      cases e
      obtain ⟨h, h3⟩ := (Bool.and_eq_true _ _).mp h
      obtain ⟨h1, h2⟩ := (Bool.and_eq_true _ _).mp h
      have h2 := of_decide_eq_true h2
      cases rv with
      | cons rx rn =>
        cases rn
        obtain ⟨as, rd⟩ := a.reads I z rx
        obtain ⟨w1, w2, w3⟩ := shw_ok d h1
        have sz : d.shown.length ≤ sizeLine := Nat.le_trans w3 (fit_le h3)
        cases a with
        | non => cases rx; exact PySem.P.repr_of_none ⟨.str _, H, I.tok _, ⟨_, rfl⟩, fin_same z q (.str _)⟩
        | bl b => cases rx; exact PySem.P.repr_of_bool ⟨.str _, H, I.tok _, ⟨_, rfl⟩, fin_same z q (.str _)⟩
        | int i =>
          obtain ⟨t, rfl⟩ := rx
          exact PySem.P.repr_of_int (by unfold PyData.showable at w1; exact of_decide_eq_true w1) ⟨.str _, H, I.tok _, ⟨_, rfl⟩, fin_same z q (.str _)⟩
        | str x =>
          obtain ⟨t, rfl⟩ := rx
          exact PySem.P.repr_of_str ⟨.str _, H, I.tok _, ⟨_, rfl⟩, fin_same z q (.str _)⟩ sz
        | lst h r =>
          cases rx
          exact repr_of_reads' rd w1 (PyData.noDict_hsm w2) hg (by omega) (fun _ _ e => e) (fun h' u tk k => ⟨.str _, H, I.kept (t' := tk) k, ⟨_, rfl⟩, fin_same z q (.str _)⟩) sz
        | tup h r =>
          cases rx
          exact repr_of_reads' rd w1 (PyData.noDict_hsm w2) hg (by omega) (fun _ _ e => e) (fun h' u tk k => ⟨.str _, H, I.kept (t' := tk) k, ⟨_, rfl⟩, fin_same z q (.str _)⟩) sz
    · cases e
  · cases e

/-! isinstance of data, by a class's name -/
@[simp] def isaB (T : String) : D → Option Bool := fun d =>
  if T = "int" then some d.isInt else if T = "bool" then some d.isBool else if T = "str" then some d.isStr else if T = "tuple" then some d.isTuple else if T = "list" then some d.isList else none
theorem isa_rule {pins : List (Addr × Obj)} {s : Shared} {σ : St} {F H : Hp} {T : String} {v : V} {u : Value} {d : D} {b : Bool} {Q : VK} (I : Inv X pins σ H s) (z : Same F H) (r : Rp X.K F v d) (rx : RelV v u) (e : isaB T d = some b) (q : Q (.bl b) H) :
    wpAny (model X.prog X.w) X.A (call (.builtin "isinstance") [u, .type T]) (EP X pins σ Q) X.xe s := by
  obtain ⟨as, rd⟩ := r.reads I z rx
  unfold isaB at e
  split at e
  · rename_i h; subst h; cases e
    exact PySem.W.isinstance_int_data rd fun tk _ => ⟨.bl _, H, I.tok tk, rfl, q⟩
  · split at e
    · rename_i h; subst h; cases e
      exact PySem.W.isinstance_bool_data rd fun tk _ => ⟨.bl _, H, I.tok tk, rfl, q⟩
    · split at e
      · rename_i h; subst h; cases e
        exact PySem.W.isinstance_str_data rd fun tk _ => ⟨.bl _, H, I.tok tk, rfl, q⟩
      · split at e
        · rename_i h; subst h; cases e
          exact PySem.W.isinstance_tuple_data rd fun tk _ => ⟨.bl _, H, I.tok tk, rfl, q⟩
        · split at e
          · rename_i h; subst h; cases e
            exact PySem.W.isinstance_list_data rd fun tk _ => ⟨.bl _, H, I.tok tk, rfl, q⟩
          · cases e
@[simp] def gIsa (ga : GD) (T : String) : GD := fun ρ => (ga ρ).bind fun r => (isaB T r.2).map fun b => (r.1, .bool b)
end
end DL

namespace DL
open PySem PySem.Spec L2
open PyProof.Rows hiding St

section
variable {X : Cx}
theorem o_in (hu : X.A.units + 150 < cLine) : OpR X (compareOp .In) (rD2 X.K inD) := by
  intro pins s σ H x y v u Q I rx ry ⟨F, a, b, r, z, ra, rb, e, q⟩
  obtain ⟨c, e1, e2⟩ := Option.map_eq_some_iff.mp e
  subst e2
  unfold inB at e1
  split at e1
  · split at e1
    · rename_i h
      have h := of_decide_eq_true h
      cases e1
      obtain ⟨as, r1⟩ := ra.reads I z rx
      obtain ⟨bs, r2⟩ := rb.reads I z ry
      have p2 := rb.plain
      unfold PyData.plain at p2
      exact SeqAt.in_list_data r2 r1 p2 ra.plain (by omega) ⟨.bl _, H, I, rfl, fin_same z q (.bl _)⟩
    · cases e1
  · split at e1
    · rename_i h
      have h := of_decide_eq_true h
      cases e1
      obtain ⟨as, r1⟩ := ra.reads I z rx
      obtain ⟨bs, r2⟩ := rb.reads I z ry
      have p2 := rb.plain
      unfold PyData.plain at p2
      exact SeqAt.in_tuple_data r2 r1 p2 ra.plain (by omega) ⟨.bl _, H, I, rfl, fin_same z q (.bl _)⟩
    · cases e1
  · cases e1
    cases ra; cases rb
    exact op_in_str pins s σ H _ _ v u Q I rx ry ⟨_, _, rfl, rfl, fin_same z q (.bl _)⟩
  · cases e1
theorem o_notIn (hu : X.A.units + 150 < cLine) : OpR X (compareOp .NotIn) (rD2 X.K notInD) := by
  intro pins s σ H x y v u Q I rx ry ⟨F, a, b, r, z, ra, rb, e, q⟩
  obtain ⟨c, e1, e2⟩ := Option.map_eq_some_iff.mp e
  subst e2
  unfold inB at e1
  split at e1
  · split at e1
    · rename_i h
      have h := of_decide_eq_true h
      cases e1
      obtain ⟨as, r1⟩ := ra.reads I z rx
      obtain ⟨bs, r2⟩ := rb.reads I z ry
      have p2 := rb.plain
      unfold PyData.plain at p2
      exact SeqAt.notIn_list_data r2 r1 p2 ra.plain (by omega) ⟨.bl _, H, I, rfl, fin_same z q (.bl _)⟩
    · cases e1
  · split at e1
    · rename_i h
      have h := of_decide_eq_true h
      cases e1
      obtain ⟨as, r1⟩ := ra.reads I z rx
      obtain ⟨bs, r2⟩ := rb.reads I z ry
      have p2 := rb.plain
      unfold PyData.plain at p2
      exact SeqAt.notIn_tuple_data r2 r1 p2 ra.plain (by omega) ⟨.bl _, H, I, rfl, fin_same z q (.bl _)⟩
    · cases e1
  · cases e1
    cases ra; cases rb
    exact op_notin_str pins s σ H _ _ v u Q I rx ry ⟨_, _, rfl, rfl, fin_same z q (.bl _)⟩
  · cases e1
theorem u_neg : UnR X (unaryOp .USub) (rD1 X.K negD) := fun pins s σ H x v Q I rx ⟨F, a, r, z, ra, e, q⟩ => by
  unfold negD at e
  split at e
  · cases e; cases ra
    exact un_neg pins s σ H _ v Q I rx ⟨_, rfl, fin_same z q (.int _)⟩
  · cases e
end

/-! ### subscripts and slices -/
def ixD (n : Nat) (i : Int) : Option Nat := if 0 ≤ i then (if i < n then some i.toNat else none) else if -(n : Int) ≤ i then some (i + n).toNat else none
def atD {α : Type} (xs : List α) (i : Int) : Option α := (ixD xs.length i).bind fun j => xs[j]?
def sgn (c : Nat) : Str := ⟨#[c]⟩
@[simp] def idxD : D → D → Option Sl
  | .list xs, .int i => (atD xs i).map .d
  | .tuple xs, .int i => (atD xs i).map .d
  | .str x, .int i => if fit x.length then (atD x.cps.toList i).map fun c => .d (.str (sgn c)) else none
  | _, _ => none
theorem RpAll.at {K : PySem.W.Frag} {F : Hp} {vs : List V} {ds : List D} {i : Int} {d : D} (h : RpAll K F vs ds) (e : atD ds i = some d) : ∃ v, atI vs i = some v ∧ Rp K F v d := by
  obtain ⟨j, e1, e2⟩ := Option.bind_eq_some_iff.mp e
  obtain ⟨v, e3, r⟩ := RpAll.get h e2
  refine ⟨v, ?_, r⟩
  have e1 : ixN vs.length i = some j := by rw [RpAll.len h]; exact e1
  show (ixN vs.length i).bind _ = _
  rw [e1]
  exact e3
def slD (n dflt : Nat) (o : Option Int) : Nat := HT.sIx n dflt o
def cutD {α : Type} (xs : List α) (lo hi : Option Int) : List α := (xs.drop (slD xs.length 0 lo)).take (slD xs.length xs.length hi - slD xs.length 0 lo)
@[simp] def sliceD : D → Option Int → Option Int → Option Sl
  | .list xs, lo, hi => some (.l (cutD xs lo hi))
  | .tuple xs, lo, hi => some (.d (.tuple (cutD xs lo hi)))
  | .str x, lo, hi => if fit x.length then some (.d (.str (cutS x lo hi))) else none
  | _, _, _ => none
theorem RpAll.cut {K : PySem.W.Frag} {F : Hp} {vs : List V} {ds : List D} {lo hi : Option Int} (h : RpAll K F vs ds) : RpAll K F (cutV vs lo hi) (cutD ds lo hi) := by
  unfold cutV cutD slD
  rw [RpAll.len h]
  exact RpAll.take _ (RpAll.drop _ h)
abbrev GO := Ev → Option (Ev × Option Int)
@[simp] def gNo : GO := fun ρ => some (ρ, none)
@[simp] def intV : D → Option Int
  | .int i => some i
  | _ => none
@[simp] def gSome (g : GD) : GO := fun ρ => (g ρ).bind fun r => (intV r.2).map fun i => (r.1, some i)
@[simp] def gSlice (ga : GD) (gl gh : GO) : GX := fun ρ => (ga ρ).bind fun a => (gl a.1).bind fun l => (gh l.1).bind fun h => (sliceD a.2 l.2 h.2).map fun r => (h.1, r)
def tO (K : PySem.W.Frag) (g : GO) : TO := fun σ H Q => ∃ F ρ ρ' o, Sim K F H σ ρ ∧ g ρ = some (ρ', o) ∧ ∀ F' H', Ste K F H σ ρ F' H' ρ' → Q o H'
section
variable {X : Cx} {a b e : Expr} {pos p2 : Pos} {ga gb' : GD} {gl gh : GO} {lo hi : Option Expr}
theorem POimp {t t' : TO} {e : Option Expr} (h : PO X e t) (w : ∀ σ H Q, t' σ H Q → t σ H Q) : PO X e t' := ⟨fun pins s σ H Q I q => h.run pins s σ H Q I (w σ H Q q)⟩
theorem dp_none : PO X none (tO X.K gNo) := POimp po_none fun σ H Q ⟨F, ρ, ρ', o, S, eq, q⟩ => by
  cases eq
  exact q F H (Ste.refl S)
theorem dp_some (h : PE X e (tD X.K ga)) : PO X (some e) (tO X.K (gSome ga)) := POimp (po_some h) fun σ H Q ⟨F, ρ, ρ', o, S, eq, q⟩ => by
  obtain ⟨⟨ρ1, x⟩, e1, e2⟩ := Option.bind_eq_some_iff.mp eq
  obtain ⟨i, e3, e4⟩ := Option.map_eq_some_iff.mp e2
  cases e4
  refine ⟨F, ρ, ρ1, x, S, e1, fun F1 H1 v st r => ⟨i, ?_, q F1 H1 st⟩⟩
  cases r <;> first | (cases e3; rfl) | cases e3
theorem IxRor {r r' : R2} (h : IxR X r) (h' : IxR X r') : IxR X (fun x y H Q => r x y H Q ∨ r' x y H Q) := fun va sl pins s σ H x y v u Q I rx ry q hs =>
  q.elim (fun q => h va sl pins s σ H x y v u Q I rx ry q hs) fun q => h' va sl pins s σ H x y v u Q I rx ry q hs
theorem IxRimp {r r' : R2} (h : IxR X r) (w : ∀ x y H Q, r' x y H Q → r x y H Q) : IxR X r' := fun va sl pins s σ H x y v u Q I rx ry q hs => h va sl pins s σ H x y v u Q I rx ry (w x y H Q q) hs
theorem i_idx : IxR X (rD2 X.K idxD) := IxRimp (IxRor ix_list (IxRor ix_tup ix_str)) fun x y H Q ⟨F, a, b, r, z, ra, rb, e, q⟩ => by
  unfold idxD at e
  split at e
  · obtain ⟨d, e1, e2⟩ := Option.map_eq_some_iff.mp e
    subst e2
    cases rb
    cases ra with
    | lst h r =>
      obtain ⟨v, e3, rp⟩ := r.at e1
      exact .inl ⟨_, _, _, v, rfl, rfl, .inl (.inl (z _ _ h)), e3, fin_same z q rp⟩
  · obtain ⟨d, e1, e2⟩ := Option.map_eq_some_iff.mp e
    subst e2
    cases rb
    cases ra with
    | tup h r =>
      obtain ⟨v, e3, rp⟩ := r.at e1
      exact .inr (.inl ⟨_, _, _, v, rfl, rfl, sqt_up z h.sq, e3, fin_same z q rp⟩)
  · split at e
    · rename_i hz
      obtain ⟨c, e1, e2⟩ := Option.map_eq_some_iff.mp e
      subst e2
      cases ra; cases rb
      exact .inr (.inr ⟨_, _, c, rfl, rfl, fit_le hz, e1, fin_same z q (.str _)⟩)
    · cases e
  · cases e
theorem de_idx (ha : PE X a (tD X.K ga)) (hb : PE X b (tD X.K gb')) (hs : PlainIx b) : PE X (.Subscript a b pos) (tX X.K (gOp ga gb' idxD)) := PEimp (pe_ix i_idx ha hb hs) op_imp
theorem SlRimp {r r' : V → Option Int → Option Int → Hp → VK → Prop} (h : SlR X r) (w : ∀ x l u H Q, r' x l u H Q → r x l u H Q) : SlR X r' := fun pins s σ H x v vl vu lo hi sl Q I rx hs pl pu q => h pins s σ H x v vl vu lo hi sl Q I rx hs pl pu (w x lo hi H Q q)
def rSl (K : PySem.W.Frag) : V → Option Int → Option Int → Hp → VK → Prop := fun x l u H Q => ∃ F a r, Same F H ∧ Rp K F x a ∧ sliceD a l u = some r ∧ ∀ F' H' z, Nw F H F' H' → Rs K H F' H' z r → Q z H'
theorem s_slice : SlR X (rSl X.K) := SlRimp (sl_list.or (sl_tupF.or sl_str)) fun x l u H Q ⟨F, a, r, z, ra, e, q⟩ => by
  unfold sliceD at e
  split at e
  · cases e
    cases ra with
    | lst h r => exact .inl ⟨_, _, rfl, .inl (.inl (z _ _ h)), fun p hp => fin_lst z q r.cut hp⟩
  · rename_i xs
    cases e
    cases ra with
    | tup h r =>
      refine .inr (.inl ⟨_, _, rfl, sqt_up z h.sq, fun ⟨h1, h2⟩ => ?_, fun _ p o hp ho => fin_tup z q r.cut hp ho⟩)
      have e : cutD xs l u = xs := by
        rw [RpAll.len r] at h1 h2
        unfold cutD slD
        rw [h1, h2, Nat.sub_zero, List.drop_zero, List.take_length]
      rw [e] at q
      exact fin_same z q (.tup h r)
  · split at e
    · rename_i hz
      cases e; cases ra
      exact .inr (.inr ⟨_, rfl, fit_le hz, fin_same z q (.str _)⟩)
    · cases e
  · cases e
theorem de_slice (ha : PE X a (tD X.K ga)) (hl : PO X lo (tO X.K gl)) (hh : PO X hi (tO X.K gh)) : PE X (.Subscript a (.Slice lo hi none p2) pos) (tX X.K (gSlice ga gl gh)) :=
  PEimp (pe_slice s_slice ha hl hh) fun σ H Q ⟨F, ρ, ρ', s, S, eq, q⟩ => by
    obtain ⟨⟨ρ1, x⟩, e1, eq⟩ := Option.bind_eq_some_iff.mp eq
    obtain ⟨⟨ρ2, l⟩, e2, eq⟩ := Option.bind_eq_some_iff.mp eq
    obtain ⟨⟨ρ3, h⟩, e3, eq⟩ := Option.bind_eq_some_iff.mp eq
    obtain ⟨r, e4, e5⟩ := Option.map_eq_some_iff.mp eq
    cases e5
    refine ⟨F, ρ, ρ1, x, S, e1, fun F1 H1 v1 st1 r1 => ⟨F1, ρ1, ρ2, l, st1.sim, e2, fun F2 H2 st2 => ⟨F2, ρ2, ρ3, h, st2.sim, e3, fun F3 H3 st3 => ?_⟩⟩⟩
    have st := (st1.trans st2).trans st3
    refine ⟨F3, x, s, st.sim.fz, Rp.up (st2.go.f.trans st3.go.f) r1, e4, fun F4 H4 z nw rs => ?_⟩
    exact q F4 H4 z (st.trans (nw.ste st.sim)) (rs.res st)
theorem de_isa {T : String} {x : Str} {p p' : Pos} (ha : PE X a (tD X.K ga)) (hg : Gl X "isinstance") (hm : X.mg "isinstance" = none) (hv : bootBuiltins "isinstance" = some (.builtin "isinstance")) (hg2 : Gl X x) (hm2 : X.mg x = none) (hv2 : bootBuiltins x = some (.type T))
    (hn : x ≠ "__name__") (hdb : (x == ("__debug__" : Str)) = false) (na : starEach (a :: [.Name x p']) X.env = (false, eval a X.env) :: starEach [.Name x p'] X.env) :
    PE X (.Call (.Name "isinstance" p) [a, .Name x p'] [] pos) (tD X.K (gIsa ga T)) := by
  have hr : CallR X (.builtin "isinstance") (fun xs H Q => ∃ v d b F, xs = [v, .ty T] ∧ Same F H ∧ Rp X.K F v d ∧ isaB T d = some b ∧ Q (.bl b) H) := fun pins s σ H xs us Q I rv ⟨v, d, b, F, e, z, r, eb, q⟩ => by
    subst e
    cases rv with
    | cons rx rt => cases rt with
      | cons ry rn =>
        cases rn; cases ry
        exact isa_rule I z r rx eb q
  refine PEimp (pe_callB hr hg hm hv (pa_cons ha (pa_cons (pe_bltn (v := .ty T) hg2 hm2 hv2 rfl hn hdb) pa_nil rfl) na) (by decide) (by decide) na rfl) fun σ H Q ⟨F, ρ, ρ', d, S, eq, q⟩ => ?_
  obtain ⟨⟨ρ1, y⟩, e1, eq⟩ := Option.bind_eq_some_iff.mp eq
  obtain ⟨r, e4, e5⟩ := Option.map_eq_some_iff.mp eq
  cases e5
  exact ⟨F, ρ, ρ1, y, S, e1, fun F1 H1 v st rp => ⟨v, y, r, F1, rfl, st.sim.fz, rp, e4, q F1 H1 _ st (.bl _)⟩⟩
end
end DL

namespace DL
open PySem PySem.Spec L2
open PyProof.Rows hiding St

/-! ### what is owned, read where it stands -/
@[simp] def slotL (ρ : Ev) (i : Nat) : Option (List D) := match ρ[i]? with
  | some (some (.l xs)) => some xs
  | _ => none
@[simp] def slotS (ρ : Ev) (i : Nat) : Option (List D) := match ρ[i]? with
  | some (some (.l xs)) => some xs
  | some (some (.s xs)) => some xs
  | _ => none
@[simp] def scal : D → Bool
  | .none => true
  | .bool _ => true
  | .int _ => true
  | .str _ => true
  | _ => false
theorem Rp.scal {K : PySem.W.Frag} {F F' : Hp} {v : V} {d : D} (h : Rp K F v d) (e : scal d = true) : Rp K F' v d := by
  cases h with
  | non => exact .non
  | bl b => exact .bl b
  | int i => exact .int i
  | str x => exact .str x
  | lst _ _ => cases e
  | tup _ _ => cases e
@[simp] def scalS : Option Sl → Option D
  | some (.d r) => if scal r then some r else none
  | _ => none
theorem scalS_some {o : Option Sl} {r : D} (e : scalS o = some r) : o = some (.d r) ∧ scal r = true := by
  unfold scalS at e
  split at e
  · split at e
    · rename_i h
      cases e
      exact ⟨rfl, h⟩
    · cases e
  · cases e
theorem slotL_some {ρ : Ev} {i : Nat} {xs : List D} (e : slotL ρ i = some xs) : ρ[i]? = some (some (.l xs)) := by
  unfold slotL at e
  split at e
  · rename_i h; cases e; exact h
  · cases e
theorem Sim.lend {K : PySem.W.Frag} {F H : Hp} {σ : St} {ρ : Ev} {i : Nat} {xs : List D} (S : Sim K F H σ ρ) (e : slotL ρ i = some xs) : ∃ p vs, σ[i]? = some (some (.ref p)) ∧ F p = none ∧ H p = some (.lst vs) ∧ RpAll K F vs xs := by
  obtain ⟨v, e2, p, vs, rfl, f, h, al⟩ := S.sl i _ (slotL_some e)
  exact ⟨p, vs, e2, f, h, al⟩
theorem Sim.val {K : PySem.W.Frag} {F H : Hp} {σ : St} {ρ : Ev} {i : Nat} {s : Sl} (S : Sim K F H σ ρ) (e : (ρ[i]?).bind id = some s) : ∃ v, σ[i]? = some (some v) := by
  obtain ⟨o, eo, e1⟩ := Option.bind_eq_some_iff.mp e
  have e1 : o = some s := e1
  subst e1
  obtain ⟨v, ev, _⟩ := S.sl i s eo
  exact ⟨v, ev⟩
/-- a result that is a plain value -/
theorem nw_scal {F H H' : Hp} (f : Same F H) (h : Same H H') : Nw F H F H' := ⟨Same.refl F, h, f.trans h, fun _ _ e => .inl e⟩

@[simp] def gBor (i : Nat) (f : List D → Option Sl) : GD := fun ρ => (slotL ρ i).bind fun xs => (scalS (f [.list xs])).map fun r => (ρ, r)
@[simp] def gBorR (ga : GD) (i : Nat) (f : D → D → Option Sl) : GD := fun ρ => (ga ρ).bind fun a => ((a.1[i]?).bind id).bind fun _ => (slotL a.1 i).bind fun xs => (scalS (f a.2 (.list xs))).map fun r => (a.1, r)
@[simp] def gBorL (i : Nat) (gb : GD) (f : D → D → Option Sl) : GD := fun ρ => ((ρ[i]?).bind id).bind fun _ => (gb ρ).bind fun b => (slotL b.1 i).bind fun xs => (scalS (f (.list xs) b.2)).map fun r => (b.1, r)
@[simp] def gIdxV (i : Nat) (gb : GD) : GD := fun ρ => ((ρ[i]?).bind id).bind fun _ => (gb ρ).bind fun b => (intV b.2).bind fun k => (slotS b.1 i).bind fun xs => (atD xs k).map fun r => (b.1, r)
@[simp] def gLenV (i : Nat) : GD := fun ρ => (slotS ρ i).map fun xs => (ρ, .int xs.length)
@[simp] def gTupV (i : Nat) : GD := fun ρ => (slotL ρ i).map fun xs => (ρ, .tuple xs)
@[simp] def gListV (i : Nat) : GX := fun ρ => (slotL ρ i).map fun xs => (ρ, .l xs)
@[simp] def gMv (i : Nat) : GX := fun ρ => (slotL ρ i).map fun xs => (ρ.set i none, .l xs)

theorem slotS_some {K : PySem.W.Frag} {F H : Hp} {σ : St} {ρ : Ev} {i : Nat} {xs : List D} (S : Sim K F H σ ρ) (e : slotS ρ i = some xs) : ∃ p vs, σ[i]? = some (some (.ref p)) ∧ SqL K H p vs ∧ RpAll K F vs xs := by
  unfold slotS at e
  split at e
  · rename_i h
    cases e
    obtain ⟨v, e2, p, vs, rfl, f, h, al⟩ := S.sl i _ h
    exact ⟨p, vs, e2, .inl (.inl h), al⟩
  · rename_i h
    cases e
    obtain ⟨v, e2, p, vs, rfl, f, al⟩ := S.sl i _ h
    exact ⟨p, vs, e2, S.fz.seq f, al⟩
  · cases e
section
variable {X : Cx} {i : Nat} {x y : Str} {a b e : Expr} {pos p p' : Pos} {ga gb' : GD}
theorem lendRp {K : PySem.W.Frag} {F H : Hp} {vs : List V} {xs : List D} {p : Addr} (z : Same F H) (f : F p = none) (h : H p = some (.lst vs)) (al : RpAll K F vs xs) : Same F (upd F p (.lst vs)) ∧ Same (upd F p (.lst vs)) H ∧ Rp K (upd F p (.lst vs)) (.ref p) (.list xs) := by
  have up : Same F (upd F p (.lst vs)) := same_upd f
  refine ⟨up, fun b o q => ?_, .lst upd_same (RpAll.up up al)⟩
  by_cases hb : b = p
  · subst hb; rw [upd_same] at q; rw [h]; exact q
  · rw [upd_ne hb] at q; exact z b o q
theorem bor_call {f : List D → Option Sl} {t : TE} {fv : Value} (hc : CallR X fv (rDs X.K f)) (ht : ∀ σ H Q, (∃ v, σ[i]? = some (some v) ∧ rDs X.K f [v] H Q) → t σ H Q) : ∀ σ H Q, tD X.K (gBor i f) σ H Q → t σ H Q := fun σ H Q ⟨F, ρ, ρ', d, S, eq, q⟩ => by
  obtain ⟨xs, e1, eq⟩ := Option.bind_eq_some_iff.mp eq
  obtain ⟨r, e2, e3⟩ := Option.map_eq_some_iff.mp eq
  cases e3
  obtain ⟨e4, sc⟩ := scalS_some e2
  obtain ⟨p, vs, ev, fp, hp, al⟩ := S.lend e1
  obtain ⟨u1, u2, u3⟩ := lendRp S.fz fp hp al
  refine ht σ H Q ⟨_, ev, upd F p (.lst vs), _, _, u2, .cons u3 .nil, e4, fun F' H' z nw rs => ?_⟩
  exact q F H' z ((nw_scal S.fz nw.h).ste S) (Rp.scal rs.ok sc)
theorem de_borB {f : List D → Option Sl} {id : String} (hc : CallR X (.builtin id) (rDs X.K f)) (hg : Gl X y) (hm : X.mg y = none) (hv : bootBuiltins y = some (.builtin id)) (hn : y ≠ "__name__") (hdb : (y == ("__debug__" : Str)) = false)
    (hN : X.N[i]? = some x) (hvi : Vis X.env.scope x) (hd : (x == ("__debug__" : Str)) = false) (hcd : (x == ("__classdict__" : Str)) = false) : PE X (.Call (.Name y p) [.Name x p'] [] pos) (tD X.K (gBor i f)) :=
  PEimp (pe_callB hc hg hm hv (pa_cons (pe_var hN hvi hd hcd) pa_nil rfl) hn hdb rfl rfl) (bor_call hc fun σ H Q ⟨v, e, h⟩ => ⟨v, e, h⟩)
theorem de_borT {f : List D → Option Sl} {T : String} (hc : CallR X (.type T) (rDs X.K f)) (hg : Gl X y) (hm : X.mg y = none) (hv : bootBuiltins y = some (.type T)) (hn : y ≠ "__name__") (hdb : (y == ("__debug__" : Str)) = false)
    (hN : X.N[i]? = some x) (hvi : Vis X.env.scope x) (hd : (x == ("__debug__" : Str)) = false) (hcd : (x == ("__classdict__" : Str)) = false) : PE X (.Call (.Name y p) [.Name x p'] [] pos) (tD X.K (gBor i f)) :=
  PEimp (pe_callTy hc hg hm hv (pa_cons (pe_var hN hvi hd hcd) pa_nil rfl) hn hdb rfl rfl) (bor_call hc fun σ H Q ⟨v, e, h⟩ => ⟨v, e, h⟩)
theorem bor_R {f : D → D → Option Sl} : ∀ σ H Q, tD X.K (gBorR ga i f) σ H Q → tOp (rD2 X.K f) (tD X.K ga) (tVar i) σ H Q := fun σ H Q ⟨F, ρ, ρ', d, S, eq, q⟩ => by
  obtain ⟨⟨ρ1, w⟩, e1, eq⟩ := Option.bind_eq_some_iff.mp eq
  obtain ⟨_, e0, eq⟩ := Option.bind_eq_some_iff.mp eq
  obtain ⟨xs, e2, eq⟩ := Option.bind_eq_some_iff.mp eq
  obtain ⟨r, e3, e4⟩ := Option.map_eq_some_iff.mp eq
  cases e4
  obtain ⟨e5, sc⟩ := scalS_some e3
  refine ⟨F, ρ, ρ1, w, S, e1, fun F1 H1 v1 st r1 => ?_⟩
  obtain ⟨p, vs, ev, fp, hp, al⟩ := st.sim.lend e2
  obtain ⟨u1, u2, u3⟩ := lendRp st.sim.fz fp hp al
  refine ⟨_, ev, upd F1 p (.lst vs), _, _, _, u2, Rp.up u1 r1, u3, e5, fun F' H' z nw rs => ?_⟩
  exact q F1 H' z (st.trans ((nw_scal st.sim.fz nw.h).ste st.sim)) (Rp.scal rs.ok sc)
theorem bor_L {f : D → D → Option Sl} : ∀ σ H Q, tD X.K (gBorL i gb' f) σ H Q → tOp (rD2 X.K f) (tVar i) (tD X.K gb') σ H Q := fun σ H Q ⟨F, ρ, ρ', d, S, eq, q⟩ => by
  obtain ⟨_, e0, eq⟩ := Option.bind_eq_some_iff.mp eq
  obtain ⟨⟨ρ1, w⟩, e1, eq⟩ := Option.bind_eq_some_iff.mp eq
  obtain ⟨xs, e2, eq⟩ := Option.bind_eq_some_iff.mp eq
  obtain ⟨r, e3, e4⟩ := Option.map_eq_some_iff.mp eq
  cases e4
  obtain ⟨e5, sc⟩ := scalS_some e3
  obtain ⟨v0, ev0⟩ := S.val e0
  refine ⟨v0, ev0, F, ρ, ρ1, w, S, e1, fun F1 H1 v1 st r1 => ?_⟩
  obtain ⟨p, vs, ev, fp, hp, al⟩ := st.sim.lend e2
  rw [ev] at ev0; cases ev0
  obtain ⟨u1, u2, u3⟩ := lendRp st.sim.fz fp hp al
  refine ⟨upd F1 p (.lst vs), _, _, _, u2, u3, Rp.up u1 r1, e5, fun F' H' z nw rs => ?_⟩
  exact q F1 H' z (st.trans ((nw_scal st.sim.fz nw.h).ste st.sim)) (Rp.scal rs.ok sc)
theorem de_cmpR {cop : CmpOp} {f : D → D → Option Sl} (ho : OpR X (compareOp cop) (rD2 X.K f)) (ha : PE X a (tD X.K ga)) (hN : X.N[i]? = some x) (hvi : Vis X.env.scope x) (hd : (x == ("__debug__" : Str)) = false) (hcd : (x == ("__classdict__" : Str)) = false) :
    PE X (.Compare a [cop] [.Name x p] pos) (tD X.K (gBorR ga i f)) := PEimp (pe_cmpR ho ha (pe_var hN hvi hd hcd) rfl) bor_R
theorem de_cmpL {cop : CmpOp} {f : D → D → Option Sl} (ho : OpR X (compareOp cop) (rD2 X.K f)) (hb : PE X b (tD X.K gb')) (hm : behindInMarks cop b = false) (hN : X.N[i]? = some x) (hvi : Vis X.env.scope x) (hd : (x == ("__debug__" : Str)) = false) (hcd : (x == ("__classdict__" : Str)) = false) :
    PE X (.Compare (.Name x p) [cop] [b] pos) (tD X.K (gBorL i gb' f)) := PEimp (pe_cmpR ho (pe_var hN hvi hd hcd) hb hm) bor_L
theorem tst_imp {t : TE} {g : GD} (h : ∀ σ H Q, tD X.K g σ H Q → t σ H Q) : ∀ σ H Q, tT X.K (gb g) σ H Q → tTest t σ H Q := fun σ H Q ⟨F, ρ, ρ', t, S, eq, q⟩ => by
  obtain ⟨⟨ρ1, x⟩, e1, e2⟩ := Option.bind_eq_some_iff.mp eq
  obtain ⟨c, e3, e4⟩ := Option.map_eq_some_iff.mp e2
  cases e4
  exact h σ H _ ⟨F, ρ, ρ1, x, S, e1, fun F1 H1 v st r => ⟨_, r.bool_inv e3, q F1 H1 st⟩⟩
theorem dt_cmpR {cop : CmpOp} {f : D → D → Option Sl} (ho : OpR X (compareOp cop) (rD2 X.K f)) (ha : PE X a (tD X.K ga)) (hN : X.N[i]? = some x) (hvi : Vis X.env.scope x) (hd : (x == ("__debug__" : Str)) = false) (hcd : (x == ("__classdict__" : Str)) = false) :
    PT X (.Compare a [cop] [.Name x p] pos) (tT X.K (gb (gBorR ga i f))) := PTimp (pt_cmpR ho ha (pe_var hN hvi hd hcd) rfl) (tst_imp bor_R)
theorem dt_cmpL {cop : CmpOp} {f : D → D → Option Sl} (ho : OpR X (compareOp cop) (rD2 X.K f)) (hb : PE X b (tD X.K gb')) (hm : behindInMarks cop b = false) (hN : X.N[i]? = some x) (hvi : Vis X.env.scope x) (hd : (x == ("__debug__" : Str)) = false) (hcd : (x == ("__classdict__" : Str)) = false) :
    PT X (.Compare (.Name x p) [cop] [b] pos) (tT X.K (gb (gBorL i gb' f))) := PTimp (pt_cmpR ho (pe_var hN hvi hd hcd) hb hm) (tst_imp bor_L)
theorem de_idxV (hb : PE X b (tD X.K gb')) (hs : PlainIx b) (hN : X.N[i]? = some x) (hvi : Vis X.env.scope x) (hd : (x == ("__debug__" : Str)) = false) (hcd : (x == ("__classdict__" : Str)) = false) : PE X (.Subscript (.Name x p) b pos) (tD X.K (gIdxV i gb')) :=
  PEimp (pe_ix ix_list (pe_var hN hvi hd hcd) hb hs) fun σ H Q ⟨F, ρ, ρ', d, S, eq, q⟩ => by
    obtain ⟨_, e0, eq⟩ := Option.bind_eq_some_iff.mp eq
    obtain ⟨⟨ρ1, w⟩, e1, eq⟩ := Option.bind_eq_some_iff.mp eq
    obtain ⟨k, e2, eq⟩ := Option.bind_eq_some_iff.mp eq
    obtain ⟨xs, e3, eq⟩ := Option.bind_eq_some_iff.mp eq
    obtain ⟨r, e4, e5⟩ := Option.map_eq_some_iff.mp eq
    cases e5
    obtain ⟨v0, ev0⟩ := S.val e0
    refine ⟨v0, ev0, F, ρ, ρ1, w, S, e1, fun F1 H1 v1 st r1 => ?_⟩
    obtain ⟨p, vs, ev, sq, al⟩ := slotS_some st.sim e3
    rw [ev] at ev0; cases ev0
    obtain ⟨v, e6, rp⟩ := al.at e4
    have e7 : v1 = .int k := by cases r1 <;> first | (cases e2; rfl) | cases e2
    exact ⟨p, vs, k, v, rfl, e7, sq, e6, q F1 H1 v st rp⟩
theorem de_lenV (hg : Gl X "len") (hm : X.mg "len" = none) (hN : X.N[i]? = some x) (hvi : Vis X.env.scope x) (hd : (x == ("__debug__" : Str)) = false) (hcd : (x == ("__classdict__" : Str)) = false) : PE X (.Call (.Name "len" p) [.Name x p'] [] pos) (tD X.K (gLenV i)) :=
  PEimp (pe_callB call_len_seq hg hm PySem.boot_len (pa_cons (pe_var hN hvi hd hcd) pa_nil rfl) (by decide) (by decide) rfl rfl) fun σ H Q ⟨F, ρ, ρ', d, S, eq, q⟩ => by
    obtain ⟨xs, e1, e2⟩ := Option.map_eq_some_iff.mp eq
    cases e2
    obtain ⟨p, vs, ev, sq, al⟩ := slotS_some S e1
    refine ⟨_, ev, p, vs, rfl, .inl sq, ?_⟩
    rw [RpAll.len al]
    exact q F H _ (Ste.refl S) (.int _)
theorem de_tupV (hg : Gl X "tuple") (hm : X.mg "tuple" = none) (hv : bootBuiltins "tuple" = some (.type "tuple")) (hN : X.N[i]? = some x) (hvi : Vis X.env.scope x) (hd : (x == ("__debug__" : Str)) = false) (hcd : (x == ("__classdict__" : Str)) = false) :
    PE X (.Call (.Name "tuple" p) [.Name x p'] [] pos) (tD X.K (gTupV i)) :=
  PEimp (pe_callTy call_tupF hg hm hv (pa_cons (pe_var hN hvi hd hcd) pa_nil rfl) (by decide) (by decide) rfl rfl) fun σ H Q ⟨F, ρ, ρ', d, S, eq, q⟩ => by
    obtain ⟨xs, e1, e2⟩ := Option.map_eq_some_iff.mp eq
    cases e2
    obtain ⟨p, vs, ev, fp, hp, al⟩ := S.lend e1
    refine ⟨_, ev, p, vs, rfl, .inl ⟨.inl (.inl hp), fun l o hl ho => ?_⟩⟩
    have nw : Nw F H (upd F l (.frz o (.tup vs))) (upd H l (.frz o (.tup vs))) := Nw.both S.fz hl
    exact q _ _ _ (nw.ste S) (.tup (.inl ⟨o, upd_same, ho⟩) (RpAll.up nw.f al))
theorem de_listV (hg : Gl X "list") (hm : X.mg "list" = none) (hv : bootBuiltins "list" = some (.type "list")) (hN : X.N[i]? = some x) (hvi : Vis X.env.scope x) (hd : (x == ("__debug__" : Str)) = false) (hcd : (x == ("__classdict__" : Str)) = false) :
    PE X (.Call (.Name "list" p) [.Name x p'] [] pos) (tX X.K (gListV i)) :=
  PEimp (pe_callTy call_list_of hg hm hv (pa_cons (pe_var hN hvi hd hcd) pa_nil rfl) (by decide) (by decide) rfl rfl) fun σ H Q ⟨F, ρ, ρ', d, S, eq, q⟩ => by
    obtain ⟨xs, e1, e2⟩ := Option.map_eq_some_iff.mp eq
    cases e2
    obtain ⟨p, vs, ev, fp, hp, al⟩ := S.lend e1
    refine ⟨_, ev, p, vs, rfl, .inl (.inl (.inl hp)), fun l hl => ?_⟩
    have nw : Nw F H F (upd H l (.lst vs)) := Nw.mine S.fz hl
    refine q _ _ _ (nw.ste S) (Rs.res (Ste.refl S) ⟨⟨l, vs, rfl, S.fz.free hl, upd_same, al⟩, fun _ p' e => ?_⟩)
    cases e; exact hl
/-- the slot's list is given away -/
theorem de_mv (hN : X.N[i]? = some x) (hvi : Vis X.env.scope x) (hd : (x == ("__debug__" : Str)) = false) (hcd : (x == ("__classdict__" : Str)) = false) : PE X (.Name x pos) (tX X.K (gMv i)) :=
  PEimp (pe_var hN hvi hd hcd) fun σ H Q ⟨F, ρ, ρ', d, S, eq, q⟩ => by
    obtain ⟨xs, e1, e2⟩ := Option.map_eq_some_iff.mp eq
    cases e2
    obtain ⟨p, vs, ev, fp, hp, al⟩ := S.lend e1
    have ei := slotL_some e1
    have hi : i < ρ.length := (List.getElem?_eq_some_iff.mp ei).1
    have sub : ∀ (j : Nat) (s : Sl), (ρ.set i none)[j]? = some (some s) → j ≠ i ∧ ρ[j]? = some (some s) := fun j s ej => by
      by_cases hj : j = i
      · subst hj
        rw [List.getElem?_set_self hi] at ej
        cases ej
      · rw [List.getElem?_set_ne (Ne.symm hj)] at ej
        exact ⟨hj, ej⟩
    have ow : Own σ ρ p := ⟨i, _, ei, rfl, ev⟩
    refine ⟨_, ev, q F H (.ref p) ⟨Go.refl, ⟨S.fz, by rw [List.length_set]; exact S.len, fun j s ej => S.sl j s (sub j s ej).2, fun j k s t q' e1 e2 => S.ap j k s t q' (sub j s e1).2 (sub k t e2).2⟩, fun q' ⟨j, s, ej, o, qj⟩ => ⟨j, s, (sub j s ej).2, o, qj⟩⟩ ⟨⟨p, vs, rfl, fp, hp, al⟩, fun _ p' e => ?_⟩⟩
    cases e
    refine ⟨.inr ow, fun ⟨j, s, ej, o, qj⟩ => ?_⟩
    obtain ⟨nj, ej⟩ := sub j s ej
    exact nj (S.ap j i s _ p ej ei o rfl qj ev)
end
end DL

namespace DL
open PySem PySem.Spec L2
open PyProof.Rows hiding St

/-! ### methods of data -/
def tyD : D → Option String
  | .str _ => some "str"
  | .list _ => some "list"
  | .tuple _ => some "tuple"
  | _ => none
section
variable {X : Cx} {pins : List (Addr × Obj)} {σ : St} {F H : Hp} {s : Shared}
theorem typ_of (I : Inv X pins σ H s) (z : Same F H) {v : V} {u : Value} {d : D} {T : String} (r : Rp X.K F v d) (q : RelV v u) (e : tyD d = some T) : s.TypeIs u T ∧ ∀ a, u = .ref a → ∃ ob, s.heap.get? a = some ob ∧ ob.dict = none := by
  cases r with
  | str x =>
    obtain ⟨t, rfl⟩ := q
    cases e
    exact ⟨typeIs_str s x t, fun _ e => nomatch e⟩
  | lst h r =>
    cases q; cases e
    obtain ⟨its, _, pl, _⟩ := I.list (.inl (.inl (z _ _ h)))
    refine ⟨pl.isList.typeIs, fun a e => ?_⟩
    cases e
    obtain ⟨o, n, e, c, hd, _⟩ := pl
    exact ⟨o, e, hd⟩
  | tup h r =>
    cases q; cases e
    obtain ⟨its, _, pl, _⟩ := I.tuple (sqt_up z h.sq)
    refine ⟨pl.typeIs, fun a e => ?_⟩
    cases e
    rcases h with ⟨o, h, d⟩ | ⟨o, its, n, h1, h2, h3, _⟩
    · obtain ⟨g, _⟩ := I.hok _ _ (z _ _ h)
      exact ⟨o, g, d⟩
    · exact ⟨o, I.kIn _ o h1, h3⟩
  | _ => cases e
end
def rMt (K : PySem.W.Frag) (f : D → List D → Option Sl) : V → List V → Hp → VK → Prop := fun x xs H Q => ∃ F d ds r, Same F H ∧ Rp K F x d ∧ RpAll K F xs ds ∧ f d ds = some r ∧ ∀ F' H' z, Nw F H F' H' → Rs K H F' H' z r → Q z H'
/-- what a method of data wants: by the receiver's class -/
def MtD (X : Cx) (name : Str) (f : D → List D → Option Sl) : Prop := ∀ d ds r, f d ds = some r → ∃ T id, tyD d = some T ∧ PlainAttrs T ∧ Slot T name id ∧ typeOf (.builtin id) = pure (.type "method_descriptor") ∧ MtR X id (rMt X.K fun x xs => if tyD x = some T then f x xs else none)
@[simp] def gMeth (ga : GD) (gs : GA) (f : D → List D → Option Sl) : GX := fun ρ => (ga ρ).bind fun a => (gs a.1).bind fun b => (f a.2 b.2).map fun r => (b.1, r)
section
variable {X : Cx} {o e : Expr} {es : List Expr} {name : Str} {apos cpos : Pos} {ga : GD} {gs : GA} {f : D → List D → Option Sl}
theorem de_meth (hm : MtD X name f) (ho : PE X o (tD X.K ga)) (ha : PA X (e :: es) (tAr X.K gs)) (hbase : attributeBase o name X.env (eval o X.env) = eval o X.env)
    (hfew : ((backTo cpos (starEach (e :: es) X.env)).all (fun x => !x.1) && (backToKw cpos (keywordEach [] X.env)).all (fun x => x.1.isSome) && decide ((e :: es).length + ([] : List Keyword).length + (if ([] : List Keyword).isEmpty then 0 else 1) < 30)) = true)
    (hline : (apos.endLine == cpos.line) = true) (hs : starEach (e :: es) X.env = (false, eval e X.env) :: starEach es X.env) (hpl : (backTo cpos (starEach es X.env)).any (·.1) = false) :
    PE X (.Call (.Attribute o name apos) (e :: es) [] cpos) (tX X.K (gMeth ga gs f)) := by
  constructor
  intro pins s σ H Q I ⟨F, ρ, ρ', r, S, eq, q⟩
  obtain ⟨⟨ρ1, x⟩, e1, eq⟩ := Option.bind_eq_some_iff.mp eq
  obtain ⟨⟨ρ2, ys⟩, e2, eq⟩ := Option.bind_eq_some_iff.mp eq
  obtain ⟨r', e3, e4⟩ := Option.map_eq_some_iff.mp eq
  cases e4
  obtain ⟨T, id, ty, pa, slot, hty, mt⟩ := hm x ys r e3
  refine wpAny_Call_method_late hbase hfew hline rfl (thn (ho.run pins s σ H (fun v H1 => ∃ F1, Ste X.K F H σ ρ F1 H1 ρ1 ∧ Rp X.K F1 v x) I ⟨F, ρ, ρ1, x, S, e1, fun F1 H1 v st rp => ⟨F1, st, rp⟩⟩) ?_)
  rintro u s1 ⟨v, H1, I1, rv, F1, st1, rp⟩
  obtain ⟨t1, t2⟩ := typ_of I1 st1.sim.fz rp rv ty
  refine ⟨T, id, pa, slot, hty, t1, t2, ?_⟩
  have hA := ha.run cpos pins s1 σ H1 (fun vs H2 => ∃ F2, Ste X.K F1 H1 σ ρ1 F2 H2 ρ2 ∧ RpAll X.K F2 vs ys) I1 ⟨F1, ρ1, ρ2, ys, st1.sim, e2, fun F2 H2 vs st rp => ⟨F2, st, rp⟩⟩
  rw [hs] at hA ⊢
  refine Calls.callWith_builtin (by show (false || (backTo cpos (starEach es X.env)).any (·.1)) = false; rw [hpl] <;> rfl) (Calls.evalArgs_plain (thn hA ?_))
  rintro us s2 ⟨vs, H2, I2, r2, F2, st2, rps⟩
  have st := st1.trans st2
  refine mt pins s2 σ H2 v vs u us Q I2 rv r2 ⟨F2, x, ys, r, st.sim.fz, Rp.up st2.go.f rp, rps, by show (if tyD x = some T then f x ys else none) = some r; rw [if_pos ty]; exact e3, fun F3 H3 z nw rs => ?_⟩
  exact q F3 H3 z (st.trans (nw.ste st.sim)) (rs.res st)

@[simp] def idxOfD : D → List D → Option Sl
  | .list xs, [d] => if decide (min (PyData.depthAll xs) d.depth ≤ 100) then (SeqAt.dataPlace xs d).map fun j => .d (.int (j : Nat)) else none
  | .tuple xs, [d] => if decide (min (PyData.depthAll xs) d.depth ≤ 100) then (SeqAt.dataPlace xs d).map fun j => .d (.int (j : Nat)) else none
  | _, _ => none
@[simp] def countD : D → List D → Option Sl
  | .list xs, [d] => if decide (min (PyData.depthAll xs) d.depth ≤ 100) then some (.d (.int (xs.countP fun y => PyData.eqv y d : Nat))) else none
  | .tuple xs, [d] => if decide (min (PyData.depthAll xs) d.depth ≤ 100) then some (.d (.int (xs.countP fun y => PyData.eqv y d : Nat))) else none
  | _, _ => none
@[simp] def joinD : D → List D → Option Sl
  | .str a, [.list xs] => (strsOf xs).bind fun ys => if fit ((ys.map (·.length)).sum + ys.length * a.length) then some (.d (.str (Txt.join a ys))) else none
  | .str a, [.tuple xs] => (strsOf xs).bind fun ys => if fit ((ys.map (·.length)).sum + ys.length * a.length) then some (.d (.str (Txt.join a ys))) else none
  | _, _ => none
theorem RpAll.reads {pins : List (Addr × Obj)} {σ : St} {F H : Hp} {s : Shared} (I : Inv X pins σ H s) (z : Same F H) {vs : List V} {us : List Value} {ds : List D} (r : RpAll X.K F vs ds) (q : Vals vs us) : ∃ as, ReadsAll s.heap us ds as :=
  Dp.readsAll I ds vs us (r.dp z) q
theorem m_index (hu : X.A.units + 150 < cLine) : MtD X "index" idxOfD := fun d ds r e => by
  unfold idxOfD at e
  split at e
  · refine ⟨"list", "list.index", rfl, PySem.F.plainAttrs_list, PySem.F.slot_list_index, PySem.F.type_list_index, fun pins s σ H x xs v us Q I rx rxs h => ?_⟩
    clear e
    obtain ⟨F, d, ds, r, z, ra, rb, e, q⟩ := h
    dsimp only at e
    split at e
    · rename_i ty
      unfold idxOfD at e
      split at e
      · rename_i ys dd
        split at e
        · rename_i hd
          have hd := of_decide_eq_true hd
          obtain ⟨j, e1, e2⟩ := Option.map_eq_some_iff.mp e
          subst e2
          obtain ⟨y, rfl, rp⟩ := rb.one
          cases rxs with
          | cons ry rt =>
            cases rt
            obtain ⟨bs, r1⟩ := rp.reads I z ry
            cases ra with
            | lst hs ha =>
              cases rx
              obtain ⟨its, rv, ⟨⟨cls, dd, data, sls⟩, n, ho, hc, hdn, hdt⟩, hlen⟩ := I.list (.inl (.inl (z _ _ hs)))
              simp only at hc hdt
              subst hc hdt
              obtain ⟨as, h4⟩ := ha.reads I z rv
              obtain ⟨hj, h5, h6⟩ := SeqAt.hit_at (vs := its.toArray) h4 ha.plain e1
              have hsl := sizeLine_eq
              have hjl : j < its.length := by simpa using hj
              have hvl := rv.length
              exact call_meets PySem.F.slot_list_index ⟨_, ho, rfl⟩ PySem.F.entry_list_index (PySem.F.args_list_index_2 _ _)
                (SeqAt.list_indexAt _ its.toArray n _ sls _ _ j hj (by omega) h5 h6) ⟨ho, SeqAt.items_plain (vs := its.toArray) h4 r1 ha.plain rp.plain (by omega), ⟨.int _, H, I.tok _, ⟨_, rfl⟩, fin_same z q (.int _)⟩⟩
        · cases e
      · exact absurd ty (by simp [tyD])
      · cases e
    · cases e
  · refine ⟨"tuple", "tuple.index", rfl, PySem.F.plainAttrs_tuple, PySem.F.slot_tuple_index, PySem.F.type_tuple_index, fun pins s σ H x xs v us Q I rx rxs h => ?_⟩
    clear e
    obtain ⟨F, d, ds, r, z, ra, rb, e, q⟩ := h
    dsimp only at e
    split at e
    · rename_i ty
      unfold idxOfD at e
      split at e
      · exact absurd ty (by simp [tyD])
      · rename_i ys dd
        split at e
        · rename_i hd
          have hd := of_decide_eq_true hd
          obtain ⟨j, e1, e2⟩ := Option.map_eq_some_iff.mp e
          subst e2
          obtain ⟨y, rfl, rp⟩ := rb.one
          cases rxs with
          | cons ry rt =>
            cases rt
            obtain ⟨bs, r1⟩ := rp.reads I z ry
            cases ra with
            | tup hs ha =>
              cases rx
              obtain ⟨its, rv, ⟨⟨cls, dd, data, sls⟩, ho, hc, n, hdt⟩, hlen⟩ := I.tuple (sqt_up z hs.sq)
              simp only at hc hdt
              subst hc hdt
              obtain ⟨as, h4⟩ := ha.reads I z rv
              obtain ⟨hj, h5, h6⟩ := SeqAt.hit_at (vs := its.toArray) h4 ha.plain e1
              exact call_meets PySem.F.slot_tuple_index ⟨_, ho, rfl⟩ PySem.F.entry_tuple_index (PySem.F.args_tuple_index_2 _ _)
                (TI.tuple_indexAt _ its.toArray n dd sls _ _ j hj h5 h6) ⟨ho, SeqAt.items_plain (vs := its.toArray) h4 r1 ha.plain rp.plain (by omega), ⟨.int _, H, I.tok _, ⟨_, rfl⟩, fin_same z q (.int _)⟩⟩
        · cases e
      · cases e
    · cases e
  · cases e
theorem m_count (hu : X.A.units + 150 < cLine) : MtD X "count" countD := fun d ds r e => by
  unfold countD at e
  split at e
  · refine ⟨"list", "list.count", rfl, PySem.F.plainAttrs_list, PySem.F.slot_list_count, PySem.F.type_list_count, fun pins s σ H x xs v us Q I rx rxs h => ?_⟩
    clear e
    obtain ⟨F, d, ds, r, z, ra, rb, e, q⟩ := h
    dsimp only at e
    split at e
    · rename_i ty
      unfold countD at e
      split at e
      · split at e
        · rename_i hd
          have hd := of_decide_eq_true hd
          cases e
          obtain ⟨y, rfl, rp⟩ := rb.one
          cases rxs with
          | cons ry rt =>
            cases rt
            obtain ⟨bs, r1⟩ := rp.reads I z ry
            cases ra with
            | lst hs ha =>
              cases rx
              obtain ⟨its, rv, pl, hlen⟩ := I.list (.inl (.inl (z _ _ hs)))
              obtain ⟨as, h4⟩ := ha.reads I z rv
              exact SeqAt.count_list_data pl.isList (show ReadsAll s.heap its.toArray.toList _ as from h4) r1 ha.plain rp.plain (by omega) ⟨.int _, H, I.tok _, ⟨_, rfl⟩, fin_same z q (.int _)⟩
        · cases e
      · exact absurd ty (by simp [tyD])
      · cases e
    · cases e
  · refine ⟨"tuple", "tuple.count", rfl, PySem.F.plainAttrs_tuple, PySem.F.slot_tuple_count, PySem.F.type_tuple_count, fun pins s σ H x xs v us Q I rx rxs h => ?_⟩
    clear e
    obtain ⟨F, d, ds, r, z, ra, rb, e, q⟩ := h
    dsimp only at e
    split at e
    · rename_i ty
      unfold countD at e
      split at e
      · exact absurd ty (by simp [tyD])
      · split at e
        · rename_i hd
          have hd := of_decide_eq_true hd
          cases e
          obtain ⟨y, rfl, rp⟩ := rb.one
          cases rxs with
          | cons ry rt =>
            cases rt
            obtain ⟨bs, r1⟩ := rp.reads I z ry
            cases ra with
            | tup hs ha =>
              cases rx
              obtain ⟨its, rv, pl, hlen⟩ := I.tuple (sqt_up z hs.sq)
              obtain ⟨as, h4⟩ := ha.reads I z rv
              exact SeqAt.count_tuple_data pl (show ReadsAll s.heap its.toArray.toList _ as from h4) r1 ha.plain rp.plain (by omega) ⟨.int _, H, I.tok _, ⟨_, rfl⟩, fin_same z q (.int _)⟩
        · cases e
      · cases e
    · cases e
  · cases e
theorem m_join : MtD X "join" joinD := fun d ds r e => by
  have key : MtR X "str.join" (rMt X.K fun x xs => if tyD x = some "str" then joinD x xs else none) := fun pins s σ H x xs v us Q I rx rxs h => by
    obtain ⟨F, d, ds, r, z, ra, rb, e, q⟩ := h
    dsimp only at e
    split at e
    · unfold joinD at e
      split at e
      · obtain ⟨ys, e1, e⟩ := Option.bind_eq_some_iff.mp e
        split at e
        · rename_i hf
          cases e
          obtain ⟨y, rfl, rp⟩ := rb.one
          cases ra
          cases rp with
          | lst hs ha =>
            have h1 := ha.strs e1
            subst h1
            exact mt_join pins s σ H _ _ v us Q I rx rxs ⟨_, _, ys, rfl, rfl, .inl (.inl (.inl (z _ _ hs))), of_decide_eq_true hf, fin_same z q (.str _)⟩
        · cases e
      · obtain ⟨ys, e1, e⟩ := Option.bind_eq_some_iff.mp e
        split at e
        · rename_i hf
          cases e
          obtain ⟨y, rfl, rp⟩ := rb.one
          cases ra
          cases rp with
          | tup hs ha =>
            have h1 := ha.strs e1
            subst h1
            exact mt_join pins s σ H _ _ v us Q I rx rxs ⟨_, _, ys, rfl, rfl, .inr (sqt_up z hs.sq), of_decide_eq_true hf, fin_same z q (.str _)⟩
        · cases e
      · cases e
    · cases e
  unfold joinD at e
  split at e
  · exact ⟨"str", "str.join", rfl, PySem.F.plainAttrs_str, PySem.F.slot_str_join, PySem.F.type_str_join, key⟩
  · exact ⟨"str", "str.join", rfl, PySem.F.plainAttrs_str, PySem.F.slot_str_join, PySem.F.type_str_join, key⟩
  · cases e
end
end DL

namespace DL
open PySem PySem.Spec L2
open PyProof.Rows hiding St

/-- an owned list is changed -/
theorem Sim.poke {K : PySem.W.Frag} {F H : Hp} {σ : St} {ρ : Ev} {i : Nat} {xs xs' : List D} {vs' : List V} {p : Addr} (S : Sim K F H σ ρ) (e : slotL ρ i = some xs) (ep : σ[i]? = some (some (.ref p))) (r : RpAll K F vs' xs') :
    Ste K F H σ ρ F (upd H p (.lst vs')) (ρ.set i (some (.l xs'))) := by
  have ei := slotL_some e
  have hi : i < ρ.length := (List.getElem?_eq_some_iff.mp ei).1
  have ow : Own σ ρ p := ⟨i, _, ei, rfl, ep⟩
  obtain ⟨fp, _⟩ := S.own ow
  have sub : ∀ (j : Nat) (s : Sl), (ρ.set i (some (.l xs')))[j]? = some (some s) → (j = i ∧ s = .l xs') ∨ (j ≠ i ∧ ρ[j]? = some (some s)) := fun j s ej => by
    by_cases hj : j = i
    · subst hj
      rw [List.getElem?_set_self hi] at ej
      cases ej
      exact .inl ⟨rfl, rfl⟩
    · rw [List.getElem?_set_ne (Ne.symm hj)] at ej
      exact .inr ⟨hj, ej⟩
  have old : ∀ (j : Nat) (s : Sl), (ρ.set i (some (.l xs')))[j]? = some (some s) → s.own = true → ∃ s0 : Sl, ρ[j]? = some (some s0) ∧ s0.own = true := fun j s ej o => by
    rcases sub j s ej with ⟨rfl, _⟩ | ⟨_, h⟩
    · exact ⟨_, ei, rfl⟩
    · exact ⟨s, h, o⟩
  refine ⟨⟨Same.refl F, fun a o h n => ?_, fun a o h => .inl h⟩, ⟨same_updR S.fz fp, by rw [List.length_set]; exact S.len, fun j s ej => ?_, fun j k s t q e1 e2 o1 o2 q1 q2 => ?_⟩, fun q ⟨j, s, ej, o, qj⟩ => ?_⟩
  · rw [upd_ne]
    · exact h
    · intro z; subst z; exact n ow
  · rcases sub j s ej with ⟨rfl, rfl⟩ | ⟨nj, h⟩
    · exact ⟨_, ep, p, vs', rfl, fp, upd_same, r⟩
    · obtain ⟨v, ev, ok⟩ := S.sl j s h
      refine ⟨v, ev, ok.nw (Same.refl F) fun q o eq => ⟨(ok.tracked o eq).1, ?_⟩⟩
      rw [upd_ne]
      intro z; subst z
      exact nj (S.ap j i s _ q h ei o rfl (by rw [ev, eq]) ep)
  · obtain ⟨s0, h1, h2⟩ := old j s e1 o1
    obtain ⟨t0, h3, h4⟩ := old k t e2 o2
    exact S.ap j k s0 t0 q h1 h3 h2 h4 q1 q2
  · obtain ⟨s0, h1, h2⟩ := old j s ej o
    exact ⟨j, s0, h1, h2, qj⟩
/-! ### x.append(e), x.extend(e), x.pop(), x.pop(e) of an owned list -/
@[simp] def gApp (i : Nat) (g : GD) : GD := fun ρ => (slotL ρ i).bind fun _ => (g ρ).bind fun a => (slotL a.1 i).bind fun xs => if decide (xs.length < 16777216) then some (a.1.set i (some (.l (xs ++ [a.2]))), .none) else none
@[simp] def gExt (i : Nat) (g : GD) : GD := fun ρ => (slotL ρ i).bind fun _ => (g ρ).bind fun a => (slotL a.1 i).bind fun xs => match a.2 with
  | .list ys => if fit (xs.length + ys.length) then some (a.1.set i (some (.l (xs ++ ys))), .none) else none
  | _ => none
@[simp] def gPop (i : Nat) : GD := fun ρ => (slotL ρ i).bind fun xs => (xs[xs.length - 1]?).map fun d => (ρ.set i (some (.l xs.dropLast)), d)
@[simp] def gPopAt (i : Nat) (g : GD) : GD := fun ρ => (slotL ρ i).bind fun _ => (g ρ).bind fun a => (intV a.2).bind fun k => (slotL a.1 i).bind fun xs =>
  if decide (0 ≤ k ∧ k < xs.length ∧ k < 2 ^ 60) then (xs[k.toNat]?).map fun d => (a.1.set i (some (.l (xs.eraseIdx k.toNat))), d) else none
section
variable {X : Cx} {i : Nat} {x : Str} {e : Expr} {p apos cpos : Pos} {g : GD}
theorem ty_list {K : PySem.W.Frag} {H : Hp} {p : Addr} {vs : List V} (h : H p = some (.lst vs)) : tyV K "list" (.ref p) H := .inl ⟨rfl, vs, .inl (.inl h)⟩
theorem Vis.ok (hN : X.N[i]? = some x) (hvi : Vis X.env.scope x) : True := trivial
theorem base_name {x : Str} {p : Pos} {name : Str} {env : Env} : attributeBase (.Name x p) name env (eval (.Name x p) env) = eval (.Name x p) env := rfl
theorem de_app (he : PE X e (tD X.K g)) (hN : X.N[i]? = some x) (hvi : Vis X.env.scope x) (hd : (x == ("__debug__" : Str)) = false) (hcd : (x == ("__classdict__" : Str)) = false) (hline : (apos.endLine == cpos.line) = true)
    (hs : starEach [e] X.env = (false, eval e X.env) :: starEach [] X.env) (hfew : ((backTo cpos (starEach [e] X.env)).all (fun x => !x.1) && (backToKw cpos (keywordEach [] X.env)).all (fun x => x.1.isSome) && decide ([e].length + ([] : List Keyword).length + (if ([] : List Keyword).isEmpty then 0 else 1) < 30)) = true) :
    PE X (.Call (.Attribute (.Name x p) "append" apos) [e] [] cpos) (tD X.K (gApp i g)) :=
  PEimp (pe_bm PySem.F.plainAttrs_list PySem.F.slot_list_append PySem.F.type_list_append mt_append (pe_var hN hvi hd hcd) (pa_cons he pa_nil hs) base_name hfew hline hs rfl) fun σ H Q ⟨F, ρ, ρ', d, S, eq, q⟩ => by
    obtain ⟨xs0, e0, eq⟩ := Option.bind_eq_some_iff.mp eq
    obtain ⟨⟨ρ1, w⟩, e1, eq⟩ := Option.bind_eq_some_iff.mp eq
    obtain ⟨xs, e2, eq⟩ := Option.bind_eq_some_iff.mp eq
    split at eq
    · rename_i hz
      have hz := of_decide_eq_true hz
      cases eq
      obtain ⟨p0, vs0, ev0, _, hp0, _⟩ := S.lend e0
      refine ⟨_, ev0, ty_list hp0, F, ρ, ρ1, w, S, e1, fun F1 H1 v1 st r1 => ?_⟩
      obtain ⟨p, vs, ev, fp, hp, al⟩ := st.sim.lend e2
      rw [ev] at ev0; cases ev0
      refine ⟨_, vs, v1, rfl, rfl, hp, by rw [RpAll.len al, sizeLine_eq]; exact hz, ?_⟩
      exact q F1 _ _ (st.trans (st.sim.poke e2 ev (RpAll.app al (.cons r1 .nil)))) .non
    · cases eq
theorem de_ext (he : PE X e (tD X.K g)) (hN : X.N[i]? = some x) (hvi : Vis X.env.scope x) (hd : (x == ("__debug__" : Str)) = false) (hcd : (x == ("__classdict__" : Str)) = false) (hline : (apos.endLine == cpos.line) = true)
    (hs : starEach [e] X.env = (false, eval e X.env) :: starEach [] X.env) (hfew : ((backTo cpos (starEach [e] X.env)).all (fun x => !x.1) && (backToKw cpos (keywordEach [] X.env)).all (fun x => x.1.isSome) && decide ([e].length + ([] : List Keyword).length + (if ([] : List Keyword).isEmpty then 0 else 1) < 30)) = true) :
    PE X (.Call (.Attribute (.Name x p) "extend" apos) [e] [] cpos) (tD X.K (gExt i g)) :=
  PEimp (pe_bm PySem.F.plainAttrs_list PySem.F.slot_list_extend PySem.F.type_list_extend mt_extend (pe_var hN hvi hd hcd) (pa_cons he pa_nil hs) base_name hfew hline hs rfl) fun σ H Q ⟨F, ρ, ρ', d, S, eq, q⟩ => by
    obtain ⟨xs0, e0, eq⟩ := Option.bind_eq_some_iff.mp eq
    obtain ⟨⟨ρ1, w⟩, e1, eq⟩ := Option.bind_eq_some_iff.mp eq
    obtain ⟨xs, e2, eq⟩ := Option.bind_eq_some_iff.mp eq
    dsimp only at eq
    split at eq
    · split at eq
      · rename_i hz
        cases eq
        obtain ⟨p0, vs0, ev0, _, hp0, _⟩ := S.lend e0
        refine ⟨_, ev0, ty_list hp0, F, ρ, ρ1, _, S, e1, fun F1 H1 v1 st r1 => ?_⟩
        obtain ⟨p, vs, ev, fp, hp, al⟩ := st.sim.lend e2
        rw [ev] at ev0; cases ev0
        cases r1 with
        | lst h r =>
          refine ⟨_, _, vs, _, rfl, rfl, hp, st.sim.fz _ _ h, by rw [RpAll.len al, RpAll.len r]; exact fit_le hz, ?_⟩
          exact q F1 _ _ (st.trans (st.sim.poke e2 ev (RpAll.app al r))) .non
      · cases eq
    · cases eq
theorem de_pop (hN : X.N[i]? = some x) (hvi : Vis X.env.scope x) (hd : (x == ("__debug__" : Str)) = false) (hcd : (x == ("__classdict__" : Str)) = false) (hline : (apos.endLine == cpos.line) = true) :
    PE X (.Call (.Attribute (.Name x p) "pop" apos) [] [] cpos) (tD X.K (gPop i)) :=
  PEimp (pe_bm0 PySem.F.plainAttrs_list PySem.F.slot_list_pop PySem.F.type_list_pop mt_pop (pe_var hN hvi hd hcd) base_name hline) fun σ H Q ⟨F, ρ, ρ', d, S, eq, q⟩ => by
    obtain ⟨xs, e0, eq⟩ := Option.bind_eq_some_iff.mp eq
    obtain ⟨y, e1, e2⟩ := Option.map_eq_some_iff.mp eq
    cases e2
    obtain ⟨p, vs, ev, fp, hp, al⟩ := S.lend e0
    obtain ⟨v, e3, rp⟩ := RpAll.get al e1
    refine ⟨_, ev, ty_list hp, p, vs, v, rfl, rfl, hp, by rw [RpAll.len al]; exact e3, ?_⟩
    have r2 : RpAll X.K F vs.dropLast xs.dropLast := by
      rw [List.dropLast_eq_take, List.dropLast_eq_take, RpAll.len al]
      exact RpAll.take _ al
    exact q F _ v (S.poke e0 ev r2) rp
theorem de_popAt (he : PE X e (tD X.K g)) (hN : X.N[i]? = some x) (hvi : Vis X.env.scope x) (hd : (x == ("__debug__" : Str)) = false) (hcd : (x == ("__classdict__" : Str)) = false) (hline : (apos.endLine == cpos.line) = true)
    (hs : starEach [e] X.env = (false, eval e X.env) :: starEach [] X.env) (hfew : ((backTo cpos (starEach [e] X.env)).all (fun x => !x.1) && (backToKw cpos (keywordEach [] X.env)).all (fun x => x.1.isSome) && decide ([e].length + ([] : List Keyword).length + (if ([] : List Keyword).isEmpty then 0 else 1) < 30)) = true) :
    PE X (.Call (.Attribute (.Name x p) "pop" apos) [e] [] cpos) (tD X.K (gPopAt i g)) :=
  PEimp (pe_bm PySem.F.plainAttrs_list PySem.F.slot_list_pop PySem.F.type_list_pop mt_popAt (pe_var hN hvi hd hcd) (pa_cons he pa_nil hs) base_name hfew hline hs rfl) fun σ H Q ⟨F, ρ, ρ', d, S, eq, q⟩ => by
    obtain ⟨xs0, e0, eq⟩ := Option.bind_eq_some_iff.mp eq
    obtain ⟨⟨ρ1, w⟩, e1, eq⟩ := Option.bind_eq_some_iff.mp eq
    obtain ⟨k, ek, eq⟩ := Option.bind_eq_some_iff.mp eq
    obtain ⟨xs, e2, eq⟩ := Option.bind_eq_some_iff.mp eq
    split at eq
    · rename_i hz
      obtain ⟨k0, k1, k2⟩ := of_decide_eq_true hz
      obtain ⟨y, e3, e4⟩ := Option.map_eq_some_iff.mp eq
      cases e4
      obtain ⟨p0, vs0, ev0, _, hp0, _⟩ := S.lend e0
      refine ⟨_, ev0, ty_list hp0, F, ρ, ρ1, w, S, e1, fun F1 H1 v1 st r1 => ?_⟩
      obtain ⟨p, vs, ev, fp, hp, al⟩ := st.sim.lend e2
      rw [ev] at ev0; cases ev0
      obtain ⟨v, e5, rp⟩ := RpAll.get al e3
      have e7 : v1 = .int k := by cases r1 <;> first | (cases ek; rfl) | cases ek
      subst e7
      refine ⟨_, vs, k, k.toNat, v, rfl, rfl, hp, by omega, by omega, ?_, e5, ?_⟩
      · rw [RpAll.len al]
        unfold seqIndex?
        have h1 : ¬ k < 0 := by omega
        have h2 : (decide (0 ≤ k) && decide (k < (xs.length : Int))) = true := by rw [decide_eq_true k0, decide_eq_true k1]; rfl
        simp only [h1, if_false, h2, if_true]
      · exact q F1 _ v (st.trans (st.sim.poke e2 ev (RpAll.erase _ al))) rp
    · cases eq
end
end DL

namespace DL
open PySem PySem.Spec L2
open PyProof.Rows hiding St

/-! ### statements -/
inductive Fl where
  | nx
  | rt (s : Sl)
  | bk
  | ct
abbrev GS := Ev → Option (Ev × Fl)
structure Sts (K : PySem.W.Frag) (fx : List Nat) (F H : Hp) (σ : St) (ρ : Ev) (F' H' : Hp) (σ' : St) (ρ' : Ev) : Prop where
  go : Go F H F' H' (Own σ ρ)
  sim : Sim K F' H' σ' ρ'
  sub : ∀ p, Own σ' ρ' p → Own σ ρ p ∨ H p = none
  fx : ∀ i ∈ fx, σ'[i]? = σ[i]?
theorem Sts.refl {K : PySem.W.Frag} {fx : List Nat} {F H : Hp} {σ : St} {ρ : Ev} (S : Sim K F H σ ρ) : Sts K fx F H σ ρ F H σ ρ := ⟨Go.refl, S, fun _ h => .inl h, fun _ _ => rfl⟩
theorem Ste.sts {K : PySem.W.Frag} {fx : List Nat} {F H F' H' : Hp} {σ : St} {ρ ρ' : Ev} (a : Ste K F H σ ρ F' H' ρ') : Sts K fx F H σ ρ F' H' σ ρ' := ⟨a.go, a.sim, fun p h => .inl (a.sub p h), fun _ _ => rfl⟩
theorem Go.none_of {F H F1 H1 : Hp} {O : Addr → Prop} (a : Go F H F1 H1 O) {p : Addr} (h : H1 p = none) : O p ∨ H p = none := by
  cases e : H p with
  | none => exact .inr rfl
  | some u =>
    by_cases z : O p
    · exact .inl z
    · rw [a.k p u e z] at h; cases h
theorem Sts.trans {K : PySem.W.Frag} {fx : List Nat} {F H F1 H1 F2 H2 : Hp} {σ σ1 σ2 : St} {ρ ρ1 ρ2 : Ev} (a : Sts K fx F H σ ρ F1 H1 σ1 ρ1) (b : Sts K fx F1 H1 σ1 ρ1 F2 H2 σ2 ρ2) : Sts K fx F H σ ρ F2 H2 σ2 ρ2 := by
  refine ⟨a.go.trans b.go a.sub, b.sim, fun p h => ?_, fun i hi => (b.fx i hi).trans (a.fx i hi)⟩
  rcases b.sub p h with z | z
  · exact a.sub p z
  · exact a.go.none_of z
structure Ret (K : PySem.W.Frag) (H : Hp) (σ : St) (ρ : Ev) (F' H' : Hp) (σ' : St) (ρ' : Ev) (v : V) (s : Sl) : Prop where
  ok : SlOk K F' H' v s
  fr : s.own = true → ∀ p, v = .ref p → (H p = none ∨ Own σ ρ p) ∧ ¬ Own σ' ρ' p
theorem Ret.pre {K : PySem.W.Frag} {fx : List Nat} {F H F1 H1 F2 H2 : Hp} {σ σ1 σ2 : St} {ρ ρ1 ρ2 : Ev} {v : V} {s : Sl} (a : Sts K fx F H σ ρ F1 H1 σ1 ρ1) (r : Ret K H1 σ1 ρ1 F2 H2 σ2 ρ2 v s) : Ret K H σ ρ F2 H2 σ2 ρ2 v s := by
  refine ⟨r.ok, fun o p e => ?_⟩
  obtain ⟨h1, h2⟩ := r.fr o p e
  refine ⟨?_, h2⟩
  rcases h1 with z | z
  · exact (a.go.none_of z).symm
  · exact (a.sub p z).symm
def Fin (K : PySem.W.Frag) (D : Ends) (H : Hp) (σ : St) (ρ : Ev) (F' H' : Hp) (σ' : St) (ρ' : Ev) : Fl → Prop
  | .nx => D.nx σ' H'
  | .bk => D.bk σ' H'
  | .ct => D.ct σ' H'
  | .rt s => ∀ v, Ret K H σ ρ F' H' σ' ρ' v s → D.rt v H'
def tS (K : PySem.W.Frag) (fx : List Nat) (g : GS) : TS := fun D σ H => ∃ F ρ ρ' fl, Sim K F H σ ρ ∧ g ρ = some (ρ', fl) ∧ ∀ F' H' σ', Sts K fx F H σ ρ F' H' σ' ρ' → Fin K D H σ ρ F' H' σ' ρ' fl
@[simp] def gSeq (a b : GS) : GS := fun ρ => (a ρ).bind fun r => match r.2 with
  | .nx => b r.1
  | f => some (r.1, f)
@[simp] def gSkip : GS := fun ρ => some (ρ, .nx)
@[simp] def gDrop (g : GX) : GS := fun ρ => (g ρ).map fun r => (r.1, .nx)
@[simp] def gRet (g : GX) : GS := fun ρ => (g ρ).map fun r => (r.1, .rt r.2)
@[simp] def gRetN : GS := fun ρ => some (ρ, .rt (.d .none))
@[simp] def gIfS (c : GB) (a b : GS) : GS := fun ρ => (c ρ).bind fun r => if r.2 then a r.1 else b r.1
/-- store; k: an owned thing stays owned -/
@[simp] def keepS (k : Bool) (s : Sl) : Option Sl := if k then some s else match s with
  | .l xs => some (.d (.list xs))
  | s => some s
@[simp] def gSet (i : Nat) (k : Bool) (g : GX) : GS := fun ρ => (g ρ).bind fun r => if decide (i < r.1.length) then (keepS k r.2).map fun s => (r.1.set i (some s), .nx) else none

section
variable {X : Cx} {fx : List Nat} {st : Stmt} {rest : List Stmt} {a b : GS} {pos : Pos}
theorem ds_nil : PSs X [] (tS X.K fx gSkip) := PSsimp pss_nil fun D σ H ⟨F, ρ, ρ', fl, S, eq, q⟩ => by
  cases eq
  exact q F H σ (Sts.refl S)
theorem ds_cons (h1 : PS X st (tS X.K fx a)) (h2 : PSs X rest (tS X.K fx b)) : PSs X (st :: rest) (tS X.K fx (gSeq a b)) := PSsimp (pss_cons h1 h2) fun D σ H ⟨F, ρ, ρ', fl, S, eq, q⟩ => by
  obtain ⟨⟨ρ1, f1⟩, e1, eq⟩ := Option.bind_eq_some_iff.mp eq
  refine ⟨F, ρ, ρ1, f1, S, e1, fun F1 H1 σ1 s1 => ?_⟩
  cases f1 with
  | nx =>
    refine ⟨F1, ρ1, ρ', fl, s1.sim, eq, fun F2 H2 σ2 s2 => ?_⟩
    have := q F2 H2 σ2 (s1.trans s2)
    cases fl with
    | nx => exact this
    | bk => exact this
    | ct => exact this
    | rt s => exact fun v r => this v (r.pre s1)
  | bk => cases eq; exact q F1 H1 σ1 s1
  | ct => cases eq; exact q F1 H1 σ1 s1
  | rt s => cases eq; exact q F1 H1 σ1 s1
theorem ds_pass : PS X (.Pass pos) (tS X.K fx gSkip) := PSimp ps_pass fun D σ H ⟨F, ρ, ρ', fl, S, eq, q⟩ => by
  cases eq
  exact q F H σ (Sts.refl S)
theorem ds_brk : PS X (.Break pos) (tS X.K fx fun ρ => some (ρ, .bk)) := PSimp ps_break fun D σ H ⟨F, ρ, ρ', fl, S, eq, q⟩ => by
  cases eq
  exact q F H σ (Sts.refl S)
theorem ds_cont : PS X (.Continue pos) (tS X.K fx fun ρ => some (ρ, .ct)) := PSimp ps_continue fun D σ H ⟨F, ρ, ρ', fl, S, eq, q⟩ => by
  cases eq
  exact q F H σ (Sts.refl S)
theorem ds_never : PS X st (tS X.K fx fun _ => none) := PSimp ps_never fun D σ H ⟨F, ρ, ρ', fl, S, eq, q⟩ => nomatch eq
theorem Res.ret' {K : PySem.W.Frag} {H F' H' : Hp} {σ : St} {ρ ρ' : Ev} {v : V} {s : Sl} (r : Res K H σ ρ F' H' ρ' v s) : Ret K H σ ρ F' H' σ ρ' v s := ⟨r.ok, r.fr⟩
theorem ds_expr {e : Expr} {g : GX} (he : PE X e (tX X.K g)) (hs : swapsWith e none pos.line X.env = pure false) : PS X (.Expr e pos) (tS X.K fx (gDrop g)) := PSimp (ps_expr he hs) fun D σ H ⟨F, ρ, ρ', fl, S, eq, q⟩ => by
  obtain ⟨⟨ρ1, s⟩, e1, e2⟩ := Option.map_eq_some_iff.mp eq
  cases e2
  exact ⟨F, ρ, ρ1, s, S, e1, fun F1 H1 v st r => q F1 H1 σ st.sts⟩
theorem ds_ret {e : Expr} {g : GX} (he : PE X e (tX X.K g)) : PS X (.Return (some e) pos) (tS X.K fx (gRet g)) := PSimp (ps_ret he) fun D σ H ⟨F, ρ, ρ', fl, S, eq, q⟩ => by
  obtain ⟨⟨ρ1, s⟩, e1, e2⟩ := Option.map_eq_some_iff.mp eq
  cases e2
  exact ⟨F, ρ, ρ1, s, S, e1, fun F1 H1 v st r => q F1 H1 σ st.sts v r.ret'⟩
theorem ds_retN : PS X (.Return none pos) (tS X.K fx gRetN) := PSimp ps_retN fun D σ H ⟨F, ρ, ρ', fl, S, eq, q⟩ => by
  cases eq
  exact q F H σ (Sts.refl S) .non ⟨.non, fun e => nomatch e⟩
theorem ds_if {c : Expr} {l m : List Stmt} {gc : GB} (hc : PT X c (tT X.K gc)) (ha : PSs X l (tS X.K fx a)) (hb : PSs X m (tS X.K fx b)) : PS X (.If c l m pos) (tS X.K fx (gIfS gc a b)) := PSimp (ps_if hc ha hb) fun D σ H ⟨F, ρ, ρ', fl, S, eq, q⟩ => by
  obtain ⟨⟨ρ1, t⟩, e1, eq⟩ := Option.bind_eq_some_iff.mp eq
  refine ⟨F, ρ, ρ1, t, S, e1, fun F1 H1 st => ?_⟩
  have lift : ∀ F2 H2 σ2, Sts X.K fx F1 H1 σ ρ1 F2 H2 σ2 ρ' → Fin X.K D H1 σ ρ1 F2 H2 σ2 ρ' fl := fun F2 H2 σ2 s2 => by
    have := q F2 H2 σ2 (st.sts.trans s2)
    cases fl with
    | nx => exact this
    | bk => exact this
    | ct => exact this
    | rt s => exact fun v r => this v (r.pre (st.sts (fx := fx)))
  cases t with
  | true => exact iteT ⟨F1, ρ1, ρ', fl, st.sim, eq, lift⟩
  | false => exact iteF ⟨F1, ρ1, ρ', fl, st.sim, eq, lift⟩
end
/-- what has come, kept or shared -/
theorem Res.keep {K : PySem.W.Frag} {F H F1 H1 : Hp} {σ : St} {ρ ρ1 : Ev} {v : V} {s s' : Sl} {k : Bool} (a : Ste K F H σ ρ F1 H1 ρ1) (r : Res K H σ ρ F1 H1 ρ1 v s) (e : keepS k s = some s') :
    ∃ F2, Ste K F H σ ρ F2 H1 ρ1 ∧ Res K H σ ρ F2 H1 ρ1 v s' := by
  unfold keepS at e
  split at e
  · cases e; exact ⟨F1, a, r⟩
  · split at e
    · cases e
      obtain ⟨F2, st, rp⟩ := r.share a rfl
      exact ⟨F2, st, rp, fun z => nomatch z⟩
    · cases e; exact ⟨F1, a, r⟩
/-- a slot is filled -/
theorem Res.store {K : PySem.W.Frag} {fx : List Nat} {F H F1 H1 : Hp} {σ : St} {ρ ρ1 : Ev} {v : V} {s : Sl} {i : Nat} (a : Ste K F H σ ρ F1 H1 ρ1) (r : Res K H σ ρ F1 H1 ρ1 v s) (hi : i < ρ1.length) (hx : i ∉ fx) :
    Sts K fx F H σ ρ F1 H1 (σ.set i (some v)) (ρ1.set i (some s)) := by
  have hσ : i < σ.length := by rw [a.sim.len]; exact hi
  have sub : ∀ (j : Nat) (t : Sl), (ρ1.set i (some s))[j]? = some (some t) → (j = i ∧ t = s) ∨ (j ≠ i ∧ ρ1[j]? = some (some t)) := fun j t ej => by
    by_cases hj : j = i
    · subst hj
      rw [List.getElem?_set_self hi] at ej
      cases ej
      exact .inl ⟨rfl, rfl⟩
    · rw [List.getElem?_set_ne (Ne.symm hj)] at ej
      exact .inr ⟨hj, ej⟩
  have vi : (σ.set i (some v))[i]? = some (some v) := List.getElem?_set_self hσ
  have vo : ∀ j, j ≠ i → (σ.set i (some v))[j]? = σ[j]? := fun j hj => List.getElem?_set_ne (Ne.symm hj)
  refine ⟨a.go, ⟨a.sim.fz, by rw [List.length_set, List.length_set]; exact a.sim.len, fun j t ej => ?_, fun j k t u p e1 e2 o1 o2 q1 q2 => ?_⟩, fun p ⟨j, t, ej, o, qj⟩ => ?_, fun j hj => vo j fun e => hx (e ▸ hj)⟩
  · rcases sub j t ej with ⟨rfl, rfl⟩ | ⟨nj, h⟩
    · exact ⟨v, vi, r.ok⟩
    · rw [vo j nj]
      exact a.sim.sl j t h
  · rcases sub j t e1 with ⟨rfl, rfl⟩ | ⟨nj, h1⟩
    · rcases sub k u e2 with ⟨rfl, rfl⟩ | ⟨nk, h2⟩
      · rfl
      · rw [vi] at q1; cases q1
        rw [vo k nk] at q2
        exact ((r.fr o1 p rfl).2 ⟨k, u, h2, o2, q2⟩).elim
    · rcases sub k u e2 with ⟨rfl, rfl⟩ | ⟨nk, h2⟩
      · rw [vi] at q2; cases q2
        rw [vo j nj] at q1
        exact ((r.fr o2 p rfl).2 ⟨j, t, h1, o1, q1⟩).elim
      · rw [vo j nj] at q1
        rw [vo k nk] at q2
        exact a.sim.ap j k t u p h1 h2 o1 o2 q1 q2
  · rcases sub j t ej with ⟨rfl, rfl⟩ | ⟨nj, h⟩
    · rw [vi] at qj; cases qj
      exact (r.fr o p rfl).1.symm
    · rw [vo j nj] at qj
      exact .inl (a.sub p ⟨j, t, h, o, qj⟩)
section
variable {X : Cx} {fx : List Nat} {pos pos' : Pos} {e : Expr} {g : GX} {i : Nat} {x : Str} {k : Bool}
theorem asg_imp (hx : i ∉ fx) : ∀ D σ H, tS X.K fx (gSet i k g) D σ H → tAsg (tX X.K g) (gName i) D σ H := fun D σ H ⟨F, ρ, ρ', fl, S, eq, q⟩ => by
  obtain ⟨⟨ρ1, s⟩, e1, eq⟩ := Option.bind_eq_some_iff.mp eq
  split at eq
  · rename_i hi
    obtain ⟨s', e2, e3⟩ := Option.map_eq_some_iff.mp eq
    cases e3
    refine ⟨F, ρ, ρ1, s, S, e1, fun F1 H1 v st r => ?_⟩
    obtain ⟨F2, st2, r2⟩ := r.keep st e2
    exact q F2 H1 _ (r2.store st2 (of_decide_eq_true hi) hx)
  · cases eq
theorem ds_set (hN : X.N.Nodup) (hi : X.N[i]? = some x) (hl : Loc X.env.scope x) (he : PE X e (tX X.K g)) (hx : i ∉ fx) (hs : swapsWith e (some (.Name x pos')) pos.line X.env = pure false) (hf : X.fn x = true ∨ X.env.scope.names.lookup x = some .local) :
    PS X (.Assign [.Name x pos'] e pos) (tS X.K fx (gSet i k g)) := PSimp (ps_set hN hi hl he hs hf) (asg_imp hx)
end
end DL

namespace DL
open PySem PySem.Spec L2
open PyProof.Rows hiding St

/-! ### targets: a name, or a tuple of targets, filled with data -/
mutual
inductive T where
  | n (i : Nat)
  | t (ts : Ts)
inductive Ts where
  | nil
  | cons (t : T) (r : Ts)
end
mutual
@[simp] def gT : T → D → Ev → Option Ev
  | .n i, d, ρ => if decide (i < ρ.length) then some (ρ.set i (some (.d d))) else none
  | .t ts, d, ρ => match d with
    | .tuple ds => gTs ts ds ρ
    | _ => none
@[simp] def gTs : Ts → List D → Ev → Option Ev
  | .nil, ds, ρ => match ds with
    | [] => some ρ
    | _ :: _ => none
  | .cons t r, ds, ρ => match ds with
    | [] => none
    | d :: ds => (gT t d ρ).bind fun ρ1 => gTs r ds ρ1
end
/-- a tuple that only its reading uses -/
def Yd (K : PySem.W.Frag) (F H : Hp) (v : V) (d : D) : Prop := Rp K F v d ∨ ∃ a xs ds, v = .ref a ∧ d = .tuple ds ∧ SqT K H a xs ∧ RpAll K F xs ds
def tG (K : PySem.W.Frag) (fx : List Nat) (f : D → Ev → Option Ev) : TG := fun v σ H Q => ∃ F ρ ρ' d, Sim K F H σ ρ ∧ Rp K F v d ∧ f d ρ = some ρ' ∧ ∀ σ', Sts K fx F H σ ρ F H σ' ρ' → Q σ' H
def tY (K : PySem.W.Frag) (fx : List Nat) (f : D → Ev → Option Ev) : TG := fun v σ H Q => ∃ F ρ ρ' d, Sim K F H σ ρ ∧ Yd K F H v d ∧ f d ρ = some ρ' ∧ ∀ σ', Sts K fx F H σ ρ F H σ' ρ' → Q σ' H
def tGs (K : PySem.W.Frag) (fx : List Nat) (f : List D → Ev → Option Ev) : TGs := fun vs σ H Q => ∃ F ρ ρ' ds, Sim K F H σ ρ ∧ RpAll K F vs ds ∧ f ds ρ = some ρ' ∧ ∀ σ', Sts K fx F H σ ρ F H σ' ρ' → Q σ' H
section
variable {X : Cx} {fx : List Nat} {e : Expr} {es : List Expr} {pos : Pos} {i : Nat} {x : Str} {t : T} {ts : Ts}
theorem PGsimp {t t' : TGs} (h : PGs X es t) (w : ∀ v σ H Q, t' v σ H Q → t v σ H Q) : PGs X es t' := ⟨fun pins s σ H v u Q I r q => h.run pins s σ H v u Q I r (w v σ H Q q)⟩
theorem dg_name (hN : X.N.Nodup) (hi : X.N[i]? = some x) (hl : Loc X.env.scope x) (hx : i ∉ fx) (hf : X.fn x = true ∨ X.env.scope.names.lookup x = some .local) : PG X (.Name x pos) (tG X.K fx (gT (.n i))) :=
  PGimp (pg_name hN hi hl hf) fun v σ H Q ⟨F, ρ, ρ', d, S, rp, eq, q⟩ => by
    unfold gT at eq
    split at eq
    · rename_i hi
      cases eq
      exact q _ (Res.store (Ste.refl S) ⟨rp, fun z => nomatch z⟩ (of_decide_eq_true hi) hx)
    · cases eq
theorem dg_y {f : D → Ev → Option Ev} (h : PG X e (tY X.K fx f)) : PG X e (tG X.K fx f) := PGimp h fun v σ H Q ⟨F, ρ, ρ', d, S, rp, eq, q⟩ => ⟨F, ρ, ρ', d, S, .inl rp, eq, q⟩
theorem dgs_nil : PGs X [] (tGs X.K fx (gTs .nil)) := PGsimp pgs_nil fun v σ H Q ⟨F, ρ, ρ', d, S, rp, eq, q⟩ => by
  cases rp with
  | nil =>
    cases eq
    exact ⟨rfl, q σ (Sts.refl S)⟩
  | cons _ _ => cases eq
theorem dgs_cons (h1 : PG X e (tG X.K fx (gT t))) (h2 : PGs X es (tGs X.K fx (gTs ts))) (hs : (assignEach (e :: es) X.env).map (·.2) = assign e X.env :: (assignEach es X.env).map (·.2)) : PGs X (e :: es) (tGs X.K fx (gTs (.cons t ts))) :=
  PGsimp (pgs_cons h1 h2 hs) fun v σ H Q ⟨F, ρ, ρ', d, S, rp, eq, q⟩ => by
    cases rp with
    | nil => cases eq
    | cons a r =>
      obtain ⟨ρ1, e1, e2⟩ := Option.bind_eq_some_iff.mp eq
      refine ⟨_, _, rfl, F, ρ, ρ1, _, S, a, e1, fun σ1 s1 => ⟨F, ρ1, ρ', _, s1.sim, r, e2, fun σ2 s2 => q σ2 (s1.trans s2)⟩⟩
theorem dg_tup {k n : Nat} (hc : X.calm = true) (h : PGs X es (tGs X.K fx (gTs ts))) (hn : (assignEach es X.env).length = n) (hst : (assignEach es X.env).findIdx? (·.1) = none) (hlen : ∀ ds ρ ρ', gTs ts ds ρ = some ρ' → ds.length = n) : PG X (.Tuple es k pos) (tY X.K fx (gT (.t ts))) :=
  PGimp (pg_tup hc h hn hst) fun v σ H Q ⟨F, ρ, ρ', d, S, yd, eq, q⟩ => by
    unfold gT at eq
    split at eq
    · rename_i ds
      rcases yd with rp | ⟨a, xs, ds', rfl, e, sq, al⟩
      · cases rp with
        | tup h r => exact ⟨_, _, rfl, sqt_up S.fz h.sq, by rw [RpAll.len r]; exact hlen _ _ _ eq, F, ρ, ρ', ds, S, r, eq, q⟩
      · cases e
        exact ⟨a, xs, rfl, sq, by rw [RpAll.len al]; exact hlen _ _ _ eq, F, ρ, ρ', ds, S, al, eq, q⟩
    · cases eq
end
/-! ### what is walked -/
abbrev GI := Ev → Option (Ev × List D)
/-- an iterator gives out data; raw: tuples that are only read -/
structure Wk (K : PySem.W.Frag) (raw : Bool) (J : It) (G F H : Hp) (ds : List D) : Prop where
  go : ∀ i d F' H', ds[i]? = some d → Same G H' → Same F F' → Same F' H' → J.go i H' ∧ ∀ x H2, J.yld i H' x H2 → (∃ a o, x = .ref a ∧ H' a = none ∧ H2 = upd H' a o ∧ raw = true) ∧ Yd K F' H2 x d ∨ H2 = H' ∧ Rp K F' x d
  stop : ∀ i H', ds.length ≤ i → Same G H' → J.stop i H'
def tI (K : PySem.W.Frag) (raw : Bool) (g : GI) : TI := fun σ H R => ∃ F ρ ρ' ds, Sim K F H σ ρ ∧ g ρ = some (ρ', ds) ∧ ∀ F' H' J, Ste K F H σ ρ F' H' ρ' → Wk K raw J F' F' H' ds → R J H'
def loopF (tg : D → Ev → Option Ev) (body : GS) : List D → GS
  | [], ρ => some (ρ, .nx)
  | d :: r, ρ => (tg d ρ).bind fun ρ1 => (body ρ1).bind fun t => match t.2 with
    | .nx => loopF tg body r t.1
    | .ct => loopF tg body r t.1
    | .bk => some (t.1, .nx)
    | .rt s => some (t.1, .rt s)
@[simp] def gFor (src : GI) (tg : D → Ev → Option Ev) (body : GS) : GS := fun ρ => (src ρ).bind fun r => loopF tg body r.2 r.1
section
variable {X : Cx} {fx : List Nat} {tg iter : Expr} {body : List Stmt} {pos : Pos} {src : GI} {f : D → Ev → Option Ev} {gb' : GS} {raw : Bool}
theorem ds_for (hp : PassesOwn (model X.prog X.w) X.A X.env X.xe) (hc : X.calm = true) (hi : PI X tg iter (tI X.K raw src)) (hg : PG X tg (if raw then tY X.K fx f else tG X.K fx f)) (hb : PSs X body (tS X.K fx gb')) (hs : ∀ x, foldedSetIterable iter X.env x = pure x) :
    PS X (.For tg iter body [] pos) (tS X.K fx (gFor src f gb')) := PSimp (ps_for hp hc hi hg hb hs) fun D σ H ⟨F, ρ, ρ', fl, S, eq, q⟩ => by
  obtain ⟨⟨ρ1, ds⟩, e1, eq⟩ := Option.bind_eq_some_iff.mp eq
  refine ⟨F, ρ, ρ1, ds, S, e1, fun F1 H1 J st wk => ?_⟩
  refine ⟨fun i m σ' H' => ∃ F' ρ2, Sts X.K fx F H σ ρ F' H' σ' ρ2 ∧ Same F1 F' ∧ i + m = ds.length ∧ loopF f gb' (ds.drop i) ρ2 = some (ρ', fl), ⟨ds.length, F1, ρ1, st.sts, Same.refl F1, by omega, by rw [List.drop_zero]; exact eq⟩, ?_⟩
  rintro i m σ' H' ⟨F', ρ2, s2, up, em, eq2⟩
  by_cases hi' : i < ds.length
  · have ed : ds[i]? = some ds[i] := List.getElem?_eq_getElem hi'
    rw [List.drop_eq_getElem_cons hi'] at eq2
    unfold loopF at eq2
    obtain ⟨ρ3, e3, eq2⟩ := Option.bind_eq_some_iff.mp eq2
    obtain ⟨⟨ρ4, f4⟩, e4, eq2⟩ := Option.bind_eq_some_iff.mp eq2
    obtain ⟨g1, g2⟩ := wk.go i ds[i] F' H' ed (up.trans s2.sim.fz) up s2.sim.fz
    refine .inr ⟨g1, fun σ3 H3 => ∃ F3 ρ5, Sts X.K fx F H σ ρ F3 H3 σ3 ρ5 ∧ Same F1 F3 ∧ loopF f gb' (ds.drop (i + 1)) ρ5 = some (ρ', fl), ?_, ?_⟩
    · rintro σ3 H3 ⟨F3, ρ5, s3, up3, e5⟩
      exact ⟨m - 1, by omega, F3, ρ5, s3, up3, by omega, e5⟩
    · intro x H2 hy
      -- the body from the state in which the target is filled
      have fin : ∀ σ3, Sts X.K fx F' H2 σ' ρ2 F' H2 σ3 ρ3 → Nw F' H' F' H2 → tS X.K fx gb' { D with nx := fun σ3 H3 => ∃ F3 ρ5, Sts X.K fx F H σ ρ F3 H3 σ3 ρ5 ∧ Same F1 F3 ∧ loopF f gb' (ds.drop (i + 1)) ρ5 = some (ρ', fl), ct := fun σ3 H3 => ∃ F3 ρ5, Sts X.K fx F H σ ρ F3 H3 σ3 ρ5 ∧ Same F1 F3 ∧ loopF f gb' (ds.drop (i + 1)) ρ5 = some (ρ', fl), bk := D.nx } σ3 H2 := fun σ3 s3 nw => by
        have s23 := (s2.trans (nw.ste s2.sim).sts).trans s3
        refine ⟨F', ρ3, ρ4, f4, s3.sim, e4, fun F5 H5 σ5 s5 => ?_⟩
        have s6 := s23.trans s5
        cases f4 with
        | nx => exact ⟨F5, ρ4, s6, up.trans s5.go.f, eq2⟩
        | ct => exact ⟨F5, ρ4, s6, up.trans s5.go.f, eq2⟩
        | bk => cases eq2; exact q F5 H5 σ5 s6
        | rt s =>
          cases eq2
          intro v r
          exact q F5 H5 σ5 s6 v (r.pre s23)
      rcases g2 x H2 hy with ⟨⟨a, o, rfl, hn, rfl, rfl⟩, yd⟩ | ⟨rfl, rp⟩
      · have nw : Nw F' H' F' (upd H' a o) := Nw.mine s2.sim.fz hn
        exact ⟨F', ρ2, ρ3, ds[i], nw.sim s2.sim, yd, e3, fun σ3 s3 => fin σ3 s3 nw⟩
      · have nw : Nw F' H2 F' H2 := Nw.refl s2.sim.fz
        cases raw with
        | true => exact ⟨F', ρ2, ρ3, ds[i], s2.sim, .inl rp, e3, fun σ3 s3 => fin σ3 s3 nw⟩
        | false => exact ⟨F', ρ2, ρ3, ds[i], s2.sim, rp, e3, fun σ3 s3 => fin σ3 s3 nw⟩
  · have e0 : ds.drop i = [] := List.drop_eq_nil_of_le (by omega)
    rw [e0] at eq2
    cases eq2
    exact .inl ⟨wk.stop i H' (by omega) (up.trans s2.sim.fz), q F' H' σ' s2⟩
end
end DL

namespace DL
open PySem PySem.Spec L2
open PyProof.Rows hiding St

@[simp] def seqD : D → Option (List D)
  | .list xs => some xs
  | .tuple xs => some xs
  | .str x => some (x.cps.toList.map fun c => .str (sgn c))
  | _ => none
@[simp] def iSeq (g : GD) : GI := fun ρ => (g ρ).bind fun r => (seqD r.2).map fun xs => (r.1, xs)
def rngD (lo : Int) (n : Nat) : List D := (List.range n).map fun (k : Nat) => .int (lo + k)
@[simp] def rng1 (d : D) : Option (List D) := match d with
  | .int j => if decide (-(2 ^ 62) ≤ j ∧ j < 2 ^ 62) then some (rngD 0 j.toNat) else none
  | _ => none
@[simp] def rng2 (a b : D) : Option (List D) := match a, b with
  | .int i, .int j => if decide (-(2 ^ 62) ≤ i ∧ i < 2 ^ 62 ∧ -(2 ^ 62) ≤ j ∧ j < 2 ^ 62) then some (rngD i (j - i).toNat) else none
  | _, _ => none
@[simp] def iRng (g : GD) : GI := fun ρ => (g ρ).bind fun r => (rng1 r.2).map fun xs => (r.1, xs)
@[simp] def iRg2 (ga gb : GD) : GI := fun ρ => (ga ρ).bind fun a => (gb a.1).bind fun b => (rng2 a.2 b.2).map fun xs => (b.1, xs)
def enumD (k : Nat) : List D → List D
  | [] => []
  | d :: r => .tuple [.int (k : Nat), d] :: enumD (k + 1) r
@[simp] def listOfD : D → Option (List D)
  | .list xs => some xs
  | _ => none
def tupOfD : D → Option (List D)
  | .tuple xs => some xs
  | _ => none
@[simp] def iEnL (g : GD) : GI := fun ρ => (g ρ).bind fun r => (listOfD r.2).map fun xs => (r.1, enumD 0 xs)
def zipD : List D → List D → List D
  | a :: r, b :: s => .tuple [a, b] :: zipD r s
  | _, _ => []
@[simp] def zip2 : D → D → Option (List D)
  | .list xs, .list ys => some (zipD xs ys)
  | .tuple xs, .tuple ys => some (zipD xs ys)
  | _, _ => none
@[simp] def iZp (ga gb : GD) : GI := fun ρ => (ga ρ).bind fun a => (gb a.1).bind fun b => (zip2 a.2 b.2).map fun xs => (b.1, xs)
theorem rngD_get {lo : Int} {n i : Nat} {d : D} (h : (rngD lo n)[i]? = some d) : i < n ∧ d = .int (lo + (i : Nat)) := by
  unfold rngD at h
  rw [List.getElem?_map] at h
  obtain ⟨k, e1, e2⟩ := Option.map_eq_some_iff.mp h
  obtain ⟨h1, h2⟩ := List.getElem?_eq_some_iff.mp e1
  rw [List.length_range] at h1
  rw [List.getElem_range] at h2
  subst h2 e2
  exact ⟨h1, rfl⟩
theorem rngD_len (lo : Int) (n : Nat) : (rngD lo n).length = n := by simp [rngD]
theorem enumD_get : ∀ {xs : List D} {k i : Nat} {d : D}, (enumD k xs)[i]? = some d → ∃ x, xs[i]? = some x ∧ d = .tuple [.int ((k + i : Nat) : Int), x]
  | [], _, _, _, h => by simp [enumD] at h
  | x :: r, k, 0, d, h => by
    simp only [enumD, List.getElem?_cons_zero, Option.some.injEq] at h
    exact ⟨x, rfl, h.symm⟩
  | x :: r, k, i + 1, d, h => by
    obtain ⟨y, h1, h2⟩ := enumD_get (xs := r) (k := k + 1) (i := i) (d := d) (by simpa [enumD] using h)
    refine ⟨y, by simpa using h1, ?_⟩
    rw [h2, show k + 1 + i = k + (i + 1) by omega]
theorem enumD_len : ∀ (xs : List D) (k : Nat), (enumD k xs).length = xs.length
  | [], _ => rfl
  | x :: r, k => by show (enumD (k + 1) r).length + 1 = r.length + 1; rw [enumD_len r]
theorem zipD_get : ∀ {xs ys : List D} {i : Nat} {d : D}, (zipD xs ys)[i]? = some d → ∃ x y, xs[i]? = some x ∧ ys[i]? = some y ∧ d = .tuple [x, y]
  | [], _, _, _, h => by simp [zipD] at h
  | _ :: _, [], _, _, h => by simp [zipD] at h
  | x :: r, y :: s, 0, d, h => by
    simp only [zipD, List.getElem?_cons_zero, Option.some.injEq] at h
    exact ⟨x, y, rfl, rfl, h.symm⟩
  | x :: r, y :: s, i + 1, d, h => by
    obtain ⟨a, b, h1, h2, h3⟩ := zipD_get (xs := r) (ys := s) (i := i) (d := d) (by simpa [zipD] using h)
    exact ⟨a, b, by simpa using h1, by simpa using h2, h3⟩
theorem zipD_end : ∀ {xs ys : List D} {i : Nat}, (zipD xs ys).length ≤ i → xs.length ≤ i ∨ ys.length ≤ i
  | [], _, _, _ => .inl (Nat.zero_le _)
  | _ :: _, [], _, _ => .inr (Nat.zero_le _)
  | x :: r, y :: s, 0, h => by simp [zipD] at h
  | x :: r, y :: s, i + 1, h => by
    have h : (zipD r s).length ≤ i := by simpa [zipD] using h
    rcases zipD_end h with z | z
    · exact .inl (by simpa using z)
    · exact .inr (by simpa using z)
section
variable {X : Cx} {tg e e2 : Expr} {es : List Expr} {ga gb' : GD}
theorem PIimp {w w' : TI} {iter : Expr} (h : PI X tg iter w) (k : ∀ σ H R, w' σ H R → w σ H R) : PI X tg iter w' := ⟨fun pins s σ H R I q => h.run pins s σ H R I (k σ H R q)⟩
theorem PIor {w w' : TI} {iter : Expr} (h : PI X tg iter w) (h' : PI X tg iter w') : PI X tg iter (fun σ H R => w σ H R ∨ w' σ H R) := ⟨fun pins s σ H R I q => q.elim (h.run pins s σ H R I) (h'.run pins s σ H R I)⟩
theorem wk_list {K : PySem.W.Frag} {F H : Hp} {a : Addr} {vs : List V} {xs : List D} (h : F a = some (.lst vs)) (r : RpAll K F vs xs) : Wk K false (Itl K a) F F H xs := by
  have uniq : ∀ {H' : Hp}, Same F H' → ∀ xs', SqL K H' a xs' → SqL K H' a vs := fun z _ _ => .inl (.inl (z _ _ h))
  refine ⟨fun i d F' H' e z up z' => ?_, fun i H' e z => ⟨vs, .inl (.inl (z _ _ h)), by rw [RpAll.len r]; exact e⟩⟩
  obtain ⟨v, ev, rp⟩ := RpAll.get r e
  refine ⟨⟨vs, v, .inl (.inl (z _ _ h)), ev⟩, fun x H2 hy => .inr ?_⟩
  obtain ⟨rfl, hx⟩ := hy
  have := hx vs (.inl (.inl (z _ _ h)))
  rw [ev] at this
  cases this
  exact ⟨rfl, Rp.up up rp⟩
theorem wk_tup {K : PySem.W.Frag} {F H : Hp} {a : Addr} {vs : List V} {xs : List D} (h : TpAt K F a vs) (r : RpAll K F vs xs) : Wk K false (Itt K a) F F H xs := by
  refine ⟨fun i d F' H' e z up z' => ?_, fun i H' e z => ⟨vs, sqt_up z h.sq, by rw [RpAll.len r]; exact e⟩⟩
  obtain ⟨v, ev, rp⟩ := RpAll.get r e
  refine ⟨⟨vs, v, sqt_up z h.sq, ev⟩, fun x H2 hy => .inr ?_⟩
  obtain ⟨rfl, hx⟩ := hy
  have := hx vs (sqt_up z h.sq)
  rw [ev] at this
  cases this
  exact ⟨rfl, Rp.up up rp⟩
theorem di_seq (he : PE X e (tD X.K ga)) : PI X tg e (tI X.K false (iSeq ga)) :=
  PIimp (PIor (pi_list he) (PIor (pi_tup he) (pi_str he))) fun σ H R ⟨F, ρ, ρ', ds, S, eq, q⟩ => by
    obtain ⟨⟨ρ1, d⟩, e1, eq⟩ := Option.bind_eq_some_iff.mp eq
    obtain ⟨xs, e2, e3⟩ := Option.map_eq_some_iff.mp eq
    cases e3
    dsimp only at e2
    unfold seqD at e2
    split at e2
    · cases e2
      refine .inl ⟨F, ρ, ρ1, _, S, e1, fun F1 H1 v st rp => ?_⟩
      cases rp with
      | lst h r => exact ⟨_, rfl, ⟨_, .inl (.inl (st.sim.fz _ _ h))⟩, q F1 H1 _ st (wk_list h r)⟩
    · cases e2
      refine .inr (.inl ⟨F, ρ, ρ1, _, S, e1, fun F1 H1 v st rp => ?_⟩)
      cases rp with
      | tup h r => exact ⟨_, rfl, ⟨_, sqt_up st.sim.fz h.sq⟩, q F1 H1 _ st (wk_tup h r)⟩
    · cases e2
      refine .inr (.inr ⟨F, ρ, ρ1, _, S, e1, fun F1 H1 v st rp => ?_⟩)
      cases rp with
      | str x =>
        refine ⟨_, rfl, q F1 H1 _ st ⟨fun i d F' H' e z up z' => ?_, fun i H' e z => by rw [List.length_map, Array.length_toList] at e; exact e⟩⟩
        rw [List.getElem?_map, Array.getElem?_toList] at e
        obtain ⟨c, e4, e5⟩ := Option.map_eq_some_iff.mp e
        subst e5
        refine ⟨(Array.getElem?_eq_some_iff.mp e4).1, fun y H2 hy => .inr ?_⟩
        obtain ⟨rfl, c', e6, rfl⟩ := hy
        rw [e4] at e6; cases e6
        exact ⟨rfl, .str _⟩
    · cases e2
theorem di_rng {p pos : Pos} (hg : Gl X "range") (hm : X.mg "range" = none) (he : PE X e (tD X.K ga)) (hs : starEach [e] X.env = [(false, eval e X.env)]) : PI X tg (.Call (.Name "range" p) [e] [] pos) (tI X.K false (iRng ga)) :=
  PIimp (pi_range1 hg hm (pa_cons he pa_nil hs) hs) fun σ H R ⟨F, ρ, ρ', ds, S, eq, q⟩ => by
    obtain ⟨⟨ρ1, d⟩, e1, eq⟩ := Option.bind_eq_some_iff.mp eq
    obtain ⟨xs, e2, e3⟩ := Option.map_eq_some_iff.mp eq
    cases e3
    refine ⟨F, ρ, ρ1, d, S, e1, fun F1 H1 v st rp => ?_⟩
    dsimp only at e2
    unfold rng1 at e2
    split at e2
    · split at e2
      · rename_i hb
        cases e2
        cases rp
        obtain ⟨h1, h2⟩ := of_decide_eq_true hb
        refine ⟨_, rfl, h1, h2, q F1 H1 _ st ⟨fun i d F' H' e z up z' => ?_, fun i H' e z => by rw [rngD_len] at e; exact e⟩⟩
        obtain ⟨g1, rfl⟩ := rngD_get e
        refine ⟨g1, fun y H2 hy => .inr ?_⟩
        obtain ⟨rfl, rfl⟩ := hy
        exact ⟨rfl, .int _⟩
      · cases e2
    · cases e2
theorem di_rg2 {p pos : Pos} (hg : Gl X "range") (hm : X.mg "range" = none) (he : PE X e (tD X.K ga)) (he2 : PE X e2 (tD X.K gb')) (hs : starEach [e, e2] X.env = [(false, eval e X.env), (false, eval e2 X.env)]) (hs2 : starEach [e2] X.env = [(false, eval e2 X.env)]) :
    PI X tg (.Call (.Name "range" p) [e, e2] [] pos) (tI X.K false (iRg2 ga gb')) :=
  PIimp (pi_range2 hg hm (pa_cons he (pa_cons he2 pa_nil hs2) (by rw [hs, hs2])) hs hs2) fun σ H R ⟨F, ρ, ρ', ds, S, eq, q⟩ => by
    obtain ⟨⟨ρ1, a⟩, e1, eq⟩ := Option.bind_eq_some_iff.mp eq
    obtain ⟨⟨ρ2, b⟩, e4, eq⟩ := Option.bind_eq_some_iff.mp eq
    obtain ⟨xs, e2, e3⟩ := Option.map_eq_some_iff.mp eq
    cases e3
    refine ⟨F, ρ, ρ1, a, S, e1, fun F1 H1 v st rp => ⟨F1, ρ1, ρ2, b, st.sim, e4, fun F2 H2 v2 st2 rp2 => ?_⟩⟩
    dsimp only at e2
    unfold rng2 at e2
    split at e2
    · split at e2
      · rename_i hb
        cases e2
        cases rp; cases rp2
        refine ⟨_, _, rfl, of_decide_eq_true hb, q F2 H2 _ (st.trans st2) ⟨fun k d F' H' e z up z' => ?_, fun k H' e z => by rw [rngD_len] at e; exact e⟩⟩
        obtain ⟨g1, rfl⟩ := rngD_get e
        refine ⟨g1, fun y H2 hy => .inr ?_⟩
        obtain ⟨rfl, rfl⟩ := hy
        exact ⟨rfl, .int _⟩
      · cases e2
    · cases e2
theorem di_enL {p pos tpos : Pos} {elts : List Expr} {kk : Nat} (hg : Gl X "enumerate") (hm : X.mg "enumerate" = none) (he : PE X e (tD X.K ga)) (hs : starEach [e] X.env = [(false, eval e X.env)]) :
    PI X (.Tuple elts kk tpos) (.Call (.Name "enumerate" p) [e] [] pos) (tI X.K true (iEnL ga)) :=
  PIimp (pi_enum hg hm (pa_cons he pa_nil hs) hs) fun σ H R ⟨F, ρ, ρ', ds, S, eq, q⟩ => by
    obtain ⟨⟨ρ1, d⟩, e1, eq⟩ := Option.bind_eq_some_iff.mp eq
    obtain ⟨xs, e2, e3⟩ := Option.map_eq_some_iff.mp eq
    cases e3
    refine ⟨F, ρ, ρ1, d, S, e1, fun F1 H1 v st rp => ?_⟩
    dsimp only at e2
    unfold listOfD at e2
    split at e2
    · cases e2
      cases rp with
      | lst h r =>
        rename_i a vs
        refine ⟨a, vs, rfl, .inl (.inl (st.sim.fz _ _ h)), q F1 H1 _ st ⟨fun i d F' H' e z up z' => ?_, fun i H' e z => ⟨vs, .inl (.inl (z _ _ h)), by rw [enumD_len] at e; rw [RpAll.len r]; exact e⟩⟩⟩
        obtain ⟨y, ey, rfl⟩ := enumD_get e
        obtain ⟨u, eu, ru⟩ := RpAll.get r ey
        refine ⟨⟨vs, u, .inl (.inl (z _ _ h)), eu⟩, fun w H2 hy => .inl ?_⟩
        obtain ⟨t, x, rfl, hn, rfl, hx⟩ := hy
        have := hx vs (.inl (.inl (z _ _ h)))
        rw [eu] at this
        cases this
        refine ⟨⟨t, _, rfl, hn, rfl, rfl⟩, .inr ⟨t, _, _, rfl, rfl, .inl (.inl upd_same), .cons ?_ (.cons (Rp.up up ru) .nil)⟩⟩
        rw [Nat.zero_add]
        exact .int _
    · cases e2
theorem di_zip {p pos tpos : Pos} {elts : List Expr} {kk : Nat} (hg : Gl X "zip") (hm : X.mg "zip" = none) (he : PE X e (tD X.K ga)) (he2 : PE X e2 (tD X.K gb')) (hs : starEach [e, e2] X.env = [(false, eval e X.env), (false, eval e2 X.env)]) (hs2 : starEach [e2] X.env = [(false, eval e2 X.env)]) :
    PI X (.Tuple elts kk tpos) (.Call (.Name "zip" p) [e, e2] [] pos) (tI X.K true (iZp ga gb')) :=
  PIimp (RZ.pi_zipA hg hm (pa_cons he (pa_cons he2 pa_nil hs2) (by rw [hs, hs2])) (by rw [hs, hs2]) (by rw [hs2]; rfl)) fun σ H R ⟨F, ρ, ρ', ds, S, eq, q⟩ => by
    obtain ⟨⟨ρ1, a⟩, e1, eq⟩ := Option.bind_eq_some_iff.mp eq
    obtain ⟨⟨ρ2, b⟩, e4, eq⟩ := Option.bind_eq_some_iff.mp eq
    obtain ⟨xs, e2, e3⟩ := Option.map_eq_some_iff.mp eq
    cases e3
    refine ⟨F, ρ, ρ1, a, S, e1, fun F1 H1 v st rp => ⟨F1, ρ1, ρ2, b, st.sim, e4, fun F2 H2 v2 st2 rp2 => ?_⟩⟩
    have stt := st.trans st2
    have rp1 := Rp.up st2.go.f rp
    dsimp only at e2
    unfold zip2 at e2
    split at e2
    · cases e2
      cases rp1 with
      | lst h r =>
        cases rp2 with
        | lst h2 r2 =>
          rename_i p1 vs1 p2 vs2
          refine ⟨p1, p2, vs1, vs2, rfl, .inl ⟨.inl (.inl (stt.sim.fz _ _ h)), .inl (.inl (stt.sim.fz _ _ h2)), q F2 H2 _ stt ⟨fun i d F' H' e z up z' => ?_, fun i H' e z => ⟨vs1, vs2, .inl (.inl (z _ _ h)), .inl (.inl (z _ _ h2)), by rw [RpAll.len r, RpAll.len r2]; exact zipD_end e⟩⟩⟩⟩
          obtain ⟨y1, y2, ey1, ey2, rfl⟩ := zipD_get e
          obtain ⟨u1, eu1, ru1⟩ := RpAll.get r ey1
          obtain ⟨u2, eu2, ru2⟩ := RpAll.get r2 ey2
          refine ⟨⟨vs1, vs2, u1, u2, .inl (.inl (z _ _ h)), .inl (.inl (z _ _ h2)), eu1, eu2⟩, fun w H2 hy => .inl ?_⟩
          obtain ⟨t, x1, x2, rfl, hn, rfl, hx1, hx2⟩ := hy
          have t1 := hx1 vs1 (.inl (.inl (z _ _ h)))
          have t2 := hx2 vs2 (.inl (.inl (z _ _ h2)))
          rw [eu1] at t1; rw [eu2] at t2
          cases t1; cases t2
          exact ⟨⟨t, _, rfl, hn, rfl, rfl⟩, .inr ⟨t, _, _, rfl, rfl, .inl (.inl upd_same), .cons (Rp.up up ru1) (.cons (Rp.up up ru2) .nil)⟩⟩
    · cases e2
      cases rp1 with
      | tup h r =>
        cases rp2 with
        | tup h2 r2 =>
          rename_i p1 vs1 p2 vs2
          refine ⟨p1, p2, vs1, vs2, rfl, .inr ⟨sqt_up stt.sim.fz h.sq, sqt_up stt.sim.fz h2.sq, q F2 H2 _ stt ⟨fun i d F' H' e z up z' => ?_, fun i H' e z => ⟨vs1, vs2, sqt_up z h.sq, sqt_up z h2.sq, by rw [RpAll.len r, RpAll.len r2]; exact zipD_end e⟩⟩⟩⟩
          obtain ⟨y1, y2, ey1, ey2, rfl⟩ := zipD_get e
          obtain ⟨u1, eu1, ru1⟩ := RpAll.get r ey1
          obtain ⟨u2, eu2, ru2⟩ := RpAll.get r2 ey2
          refine ⟨⟨vs1, vs2, u1, u2, sqt_up z h.sq, sqt_up z h2.sq, eu1, eu2⟩, fun w H2 hy => .inl ?_⟩
          obtain ⟨t, x1, x2, rfl, hn, rfl, hx1, hx2⟩ := hy
          have t1 := hx1 vs1 (sqt_up z h.sq)
          have t2 := hx2 vs2 (sqt_up z h2.sq)
          rw [eu1] at t1; rw [eu2] at t2
          cases t1; cases t2
          exact ⟨⟨t, _, rfl, hn, rfl, rfl⟩, .inr ⟨t, _, _, rfl, rfl, .inl (.inl upd_same), .cons (Rp.up up ru1) (.cons (Rp.up up ru2) .nil)⟩⟩
    · cases e2
end
end DL

namespace DL
open PySem PySem.Spec L2
open PyProof.Rows hiding St

/-! ### list comprehensions -/
@[simp] def wipeE (ρ : Ev) : List Nat → Ev
  | [] => ρ
  | v :: vs => (wipeE ρ vs).set v none
theorem wipeE_length (ρ : Ev) : ∀ vs : List Nat, (wipeE ρ vs).length = ρ.length
  | [] => rfl
  | v :: vs => by unfold wipeE; rw [List.length_set, wipeE_length ρ vs]
theorem wipeE_some {ρ : Ev} {i : Nat} {x : Sl} : ∀ {vs : List Nat}, (wipeE ρ vs)[i]? = some (some x) → ρ[i]? = some (some x) ∧ i ∉ vs
  | [], h => ⟨h, by simp⟩
  | v :: vs, h => by
    unfold wipeE at h
    by_cases hi : v = i
    · subst hi
      by_cases hv : v < (wipeE ρ vs).length
      · rw [List.getElem?_set_self hv] at h; cases h
      · rw [List.getElem?_eq_none (by simpa using hv)] at h; cases h
    · rw [List.getElem?_set_ne hi] at h
      obtain ⟨h1, h2⟩ := wipeE_some h
      exact ⟨h1, by simp only [List.mem_cons, not_or]; exact ⟨fun e => hi e.symm, h2⟩⟩
theorem wipe_get {σ : St} {i : Nat} : ∀ {vs : List Nat}, i ∉ vs → (wipe σ vs)[i]? = σ[i]?
  | [], _ => rfl
  | v :: vs, h => by
    unfold wipe
    rw [List.getElem?_set_ne (fun e => h (by simp [e])), wipe_get fun z => h (List.mem_cons_of_mem _ z)]
theorem wipe_in {σ : St} {i : Nat} : ∀ {vs : List Nat}, i ∈ vs → i < σ.length → (wipe σ vs)[i]? = some none
  | v :: vs, h, hl => by
    unfold wipe
    by_cases e : v = i
    · subst e
      rw [List.getElem?_set_self (by rw [wipe_length]; exact hl)]
    · rw [List.getElem?_set_ne e]
      rcases List.mem_cons.mp h with z | z
      · exact absurd z.symm e
      · exact wipe_in z hl
theorem wipe_eq {σ τ : St} {vs : List Nat} (hl : τ.length = σ.length) (h : ∀ i, i ∉ vs → τ[i]? = σ[i]?) : wipe τ vs = wipe σ vs := by
  apply List.ext_getElem?
  intro i
  by_cases hi : i ∈ vs
  · by_cases h1 : i < σ.length
    · rw [wipe_in hi h1, wipe_in hi (by omega)]
    · rw [List.getElem?_eq_none (by rw [wipe_length]; omega), List.getElem?_eq_none (by rw [wipe_length]; omega)]
  · rw [wipe_get hi, wipe_get hi, h i hi]
theorem wipe_wipe {σ : St} {vs : List Nat} : wipe (wipe σ vs) vs = wipe σ vs := wipe_eq (wipe_length _ _) fun _ hi => wipe_get hi
/-- slots may be forgotten -/
theorem Sim.wipe {K : PySem.W.Frag} {F H : Hp} {σ τ : St} {ρ : Ev} {vs : List Nat} (S : Sim K F H σ ρ) (hl : τ.length = σ.length) (h : ∀ i, i ∉ vs → τ[i]? = σ[i]?) : Sim K F H τ (wipeE ρ vs) := by
  refine ⟨S.fz, by rw [wipeE_length, hl]; exact S.len, fun i s e => ?_, fun i j s t p e1 e2 o1 o2 q1 q2 => ?_⟩
  · obtain ⟨e, n⟩ := wipeE_some e
    rw [h i n]
    exact S.sl i s e
  · obtain ⟨e1, n1⟩ := wipeE_some e1
    obtain ⟨e2, n2⟩ := wipeE_some e2
    rw [h i n1] at q1
    rw [h j n2] at q2
    exact S.ap i j s t p e1 e2 o1 o2 q1 q2
theorem Own.wipe {σ τ : St} {ρ : Ev} {vs : List Nat} (h : ∀ i, i ∉ vs → τ[i]? = σ[i]?) {p : Addr} (o : Own τ (wipeE ρ vs) p) : Own σ ρ p := by
  obtain ⟨i, s, e, ow, q⟩ := o
  obtain ⟨e, n⟩ := wipeE_some e
  rw [h i n] at q
  exact ⟨i, s, e, ow, q⟩
def loopC (vs : List Nat) (tg : D → Ev → Option Ev) (cd : GB) (el : GD) : List D → Ev → List D → Option (Ev × List D)
  | [], ρ, acc => some (ρ, acc)
  | d :: r, ρ, acc => (tg d ρ).bind fun ρ1 => (cd ρ1).bind fun b => if b.2 then (el b.1).bind fun y => if decide (acc.length < 16777216) then loopC vs tg cd el r (wipeE y.1 vs) (acc ++ [y.2]) else none
    else loopC vs tg cd el r (wipeE b.1 vs) acc
@[simp] def gLc (vs : List Nat) (src : GI) (tg : D → Ev → Option Ev) (cd : GB) (el : GD) : GX := fun ρ => (src ρ).bind fun r => (loopC vs tg cd el r.2 (wipeE r.1 vs) []).map fun t => (wipeE t.1 vs, .l t.2)
@[simp] def gYes : GB := fun ρ => some (ρ, true)
/-- the slots that a comprehension leaves alone -/
def others (n : Nat) (vs : List Nat) : List Nat := (List.range n).filter fun i => !vs.contains i
theorem mem_others {n i : Nat} {vs : List Nat} (h1 : i < n) (h2 : i ∉ vs) : i ∈ others n vs := by
  unfold others
  rw [List.mem_filter]
  refine ⟨List.mem_range.mpr h1, ?_⟩
  simp [h2]
theorem not_others {n i : Nat} {vs : List Nat} (h : i ∈ vs) : i ∉ others n vs := by
  unfold others
  rw [List.mem_filter]
  rintro ⟨_, h2⟩
  simp [h] at h2
/-- amid a comprehension: the new list stands at A -/
structure Mid (K : PySem.W.Frag) (F1 H1 : Hp) (τ : St) (ρ0 : Ev) (A : Addr) (F' H' : Hp) (ρ2 : Ev) (va : List V) (ac : List D) : Prop where
  go : Go F1 H1 F' H' (fun p => Own τ ρ0 p ∨ p = A)
  sim : Sim K F' H' τ ρ2
  sub : ∀ p, Own τ ρ2 p → Own τ ρ0 p
  at_ : H' A = some (.lst va)
  al : RpAll K F' va ac
  fa : F' A = none
section
variable {K : PySem.W.Frag} {F1 H1 F' H' H2 F4 H4 : Hp} {τ σ3 : St} {ρ0 ρ2 ρ3 ρ4 : Ev} {A : Addr} {va : List V} {ac : List D} {n : Nat} {vs : List Nat}
theorem Mid.agree (hn : τ.length = n) (s3 : Sts K (others n vs) F' H2 τ ρ2 F' H2 σ3 ρ3) (hl : σ3.length = τ.length) : ∀ i, i ∉ vs → σ3[i]? = τ[i]? := fun i hi => by
  by_cases h : i < n
  · exact s3.fx i (mem_others h hi)
  · rw [List.getElem?_eq_none (by omega), List.getElem?_eq_none (by omega)]
theorem Mid.step (M : Mid K F1 H1 τ ρ0 A F' H' ρ2 va ac) (nA : ¬ Own τ ρ0 A) (nw : Nw F' H' F' H2) (s3 : Sts K (others n vs) F' H2 τ ρ2 F' H2 σ3 ρ3) (ag : ∀ i, i ∉ vs → σ3[i]? = τ[i]?) (hl : σ3.length = τ.length) (st : Ste K F' H2 σ3 ρ3 F4 H4 ρ4) :
    H4 A = some (.lst va) ∧ Mid K F1 H1 τ ρ0 A F4 H4 (wipeE ρ4 vs) va ac := by
  have h2 : H2 A = some (.lst va) := nw.h A _ M.at_
  have o3 : ∀ p, Own σ3 ρ3 p → Own τ ρ0 p := fun p z => by
    rcases s3.sub p z with y | y
    · exact M.sub p y
    · obtain ⟨_, u, hu⟩ := s3.sim.own z
      rw [y] at hu; cases hu
  have n3 : ¬ Own σ3 ρ3 A := fun z => nA (o3 A z)
  have h4 : H4 A = some (.lst va) := st.go.k A _ h2 n3
  have g2 : Go F' H' F' H2 (fun p => Own τ ρ0 p ∨ p = A) := ⟨Same.refl F', fun b o h _ => nw.h b o h, fun b o h => .inl h⟩
  refine ⟨h4, ⟨(M.go.trans g2 fun p h => .inl h).trans st.go fun p h => .inl (.inl (o3 p h)), st.sim.wipe hl.symm fun i hi => (ag i hi).symm, fun p z => o3 p (st.sub p (z.wipe fun i hi => (ag i hi).symm)), h4, RpAll.up st.go.f M.al, ?_⟩⟩
  cases e : F4 A with
  | none => rfl
  | some o =>
    rcases st.go.n A o e with z | z | z
    · rw [M.fa] at z; cases z
    · rw [h2] at z; cases z
    · exact (n3 z).elim
theorem Mid.push (M : Mid K F1 H1 τ ρ0 A F' H' ρ2 va ac) (nA : ¬ Own τ ρ0 A) {y : V} {d : D} (r : Rp K F' y d) : Mid K F1 H1 τ ρ0 A F' (upd H' A (.lst (va ++ [y]))) ρ2 (va ++ [y]) (ac ++ [d]) := by
  refine ⟨⟨M.go.f, fun a o h nn => ?_, M.go.n⟩, ⟨same_updR M.sim.fz M.fa, M.sim.len, fun i s e => ?_, M.sim.ap⟩, M.sub, upd_same, RpAll.app M.al (.cons r .nil), M.fa⟩
  · rw [upd_ne fun e => nn (.inr e)]
    exact M.go.k a o h nn
  · obtain ⟨v, ev, ok⟩ := M.sim.sl i s e
    refine ⟨v, ev, ok.nw (Same.refl _) fun p o ep => ⟨(ok.tracked o ep).1, ?_⟩⟩
    rw [upd_ne]
    intro z; subst z
    exact nA (M.sub p ⟨i, s, e, o, by rw [ev, ep]⟩)
end
section
variable {K : PySem.W.Frag} {raw : Bool} {n : Nat} {vs : List Nat} {src : GI} {tg : D → Ev → Option Ev} {cd : GB} {el : GD}
theorem lc_imp (ht : ∀ d ρ ρ', tg d ρ = some ρ' → ρ'.length = ρ.length) : ∀ (σ : St) (H : Hp) (Q : VK), σ.length = n → tX K (gLc vs src tg cd el) σ H Q →
    tLc (tI K raw src) (if raw then tY K (others n vs) tg else tG K (others n vs) tg) (tT K cd) (tD K el) vs σ H Q := fun σ H Q hσ ⟨F, ρ, ρ', s, S, eq, q⟩ => by
  obtain ⟨⟨ρ1, ds⟩, e1, eq⟩ := Option.bind_eq_some_iff.mp eq
  obtain ⟨⟨ρn, acc⟩, e2, e3⟩ := Option.map_eq_some_iff.mp eq
  cases e3
  refine ⟨F, ρ, ρ1, ds, S, e1, fun F1 H1 J st wk => fun A hA => ?_⟩
  have hw : ∀ i, i ∉ vs → (wipe σ vs)[i]? = σ[i]? := fun i hi => wipe_get hi
  have S0 : Sim K F1 H1 (wipe σ vs) (wipeE ρ1 vs) := st.sim.wipe (wipe_length _ _) hw
  have nA : ¬ Own (wipe σ vs) (wipeE ρ1 vs) A := fun z => by
    obtain ⟨_, u, hu⟩ := S0.own z
    rw [hA] at hu; cases hu
  have hτ : (wipe σ vs).length = n := by rw [wipe_length]; exact hσ
  refine ⟨fun i m H' => ∃ F' ρ2 ac va, Mid K F1 (upd H1 A (.lst [])) (wipe σ vs) (wipeE ρ1 vs) A F' H' ρ2 va ac ∧ i + m = ds.length ∧ loopC vs tg cd el (ds.drop i) ρ2 ac = some (ρn, acc),
    ⟨ds.length, F1, _, [], [], ⟨Go.refl, (Nw.mine S0.fz hA).sim S0, fun _ h => h, upd_same, .nil, S0.fz.free hA⟩, by omega, by rw [List.drop_zero]; exact e2⟩, ?_⟩
  rintro i m H' ⟨F', ρ2, ac, va, M, em, eq2⟩
  have up : Same F1 F' := M.go.f
  by_cases hi : i < ds.length
  · have ed : ds[i]? = some ds[i] := List.getElem?_eq_getElem hi
    rw [List.drop_eq_getElem_cons hi] at eq2
    unfold loopC at eq2
    obtain ⟨ρ3, e3, eq2⟩ := Option.bind_eq_some_iff.mp eq2
    obtain ⟨⟨ρ4, b⟩, e4, eq2⟩ := Option.bind_eq_some_iff.mp eq2
    obtain ⟨g1, g2⟩ := wk.go i ds[i] F' H' ed (up.trans M.sim.fz) up M.sim.fz
    refine .inr ⟨g1, fun H3 => ∃ F3 ρ5 ac3 va3, Mid K F1 (upd H1 A (.lst [])) (wipe σ vs) (wipeE ρ1 vs) A F3 H3 ρ5 va3 ac3 ∧ loopC vs tg cd el (ds.drop (i + 1)) ρ5 ac3 = some (ρn, acc), ?_, ?_⟩
    · rintro H3 ⟨F3, ρ5, ac3, va3, c1, c7⟩
      exact ⟨m - 1, by omega, F3, ρ5, ac3, va3, c1, by omega, c7⟩
    · intro x H2 hy
      have fin : ∀ σ3, Sts K (others n vs) F' H2 (wipe σ vs) ρ2 F' H2 σ3 ρ3 → Nw F' H' F' H2 → wipe σ3 vs = wipe σ vs ∧ tT K cd σ3 H2 fun b H3 => if b = true then tD K el σ3 H3 fun y H4 => ∃ va', H4 A = some (.lst va') ∧ va'.length < sizeLine ∧
          ∃ F3 ρ5 ac3 va3, Mid K F1 (upd H1 A (.lst [])) (wipe σ vs) (wipeE ρ1 vs) A F3 (upd H4 A (.lst (va' ++ [y]))) ρ5 va3 ac3 ∧ loopC vs tg cd el (ds.drop (i + 1)) ρ5 ac3 = some (ρn, acc) else
          ∃ F3 ρ5 ac3 va3, Mid K F1 (upd H1 A (.lst [])) (wipe σ vs) (wipeE ρ1 vs) A F3 H3 ρ5 va3 ac3 ∧ loopC vs tg cd el (ds.drop (i + 1)) ρ5 ac3 = some (ρn, acc) := fun σ3 s3 nw => by
        have hl : σ3.length = (wipe σ vs).length := by
          rw [s3.sim.len, M.sim.len]
          exact ht _ _ _ e3
        have ag := Mid.agree hτ s3 hl
        refine ⟨by rw [wipe_eq hl ag, wipe_wipe], F', ρ3, ρ4, b, s3.sim, e4, fun F5 H5 st5 => ?_⟩
        cases b with
        | false => exact iteF ⟨F5, _, _, _, (M.step nA nw s3 ag hl st5).2, eq2⟩
        | true =>
          obtain ⟨⟨ρ6, d⟩, e6, eq2⟩ := Option.bind_eq_some_iff.mp eq2
          split at eq2
          · rename_i hz
            have hz := of_decide_eq_true hz
            refine iteT ⟨F5, ρ4, ρ6, d, st5.sim, e6, fun F7 H7 y st7 rp => ?_⟩
            obtain ⟨h8, M8⟩ := M.step nA nw s3 ag hl (st5.trans st7)
            refine ⟨va, h8, by rw [RpAll.len M.al, sizeLine_eq]; exact hz, F7, _, _, _, M8.push nA rp, eq2⟩
          · cases eq2
      rcases g2 x H2 hy with ⟨⟨a, o, rfl, hn, rfl, rfl⟩, yd⟩ | ⟨rfl, rp⟩
      · have nw : Nw F' H' F' (upd H' a o) := Nw.mine M.sim.fz hn
        exact ⟨F', ρ2, ρ3, ds[i], nw.sim M.sim, yd, e3, fun σ3 s3 => fin σ3 s3 nw⟩
      · have nw : Nw F' H2 F' H2 := Nw.refl M.sim.fz
        cases raw with
        | true => exact ⟨F', ρ2, ρ3, ds[i], M.sim, .inl rp, e3, fun σ3 s3 => fin σ3 s3 nw⟩
        | false => exact ⟨F', ρ2, ρ3, ds[i], M.sim, rp, e3, fun σ3 s3 => fin σ3 s3 nw⟩
  · have e0 : ds.drop i = [] := List.drop_eq_nil_of_le (by omega)
    rw [e0] at eq2
    cases eq2
    refine .inl ⟨wk.stop i H' (by omega) (up.trans M.sim.fz), ?_⟩
    have oo : ∀ p, Own (wipe σ vs) (wipeE ρ1 vs) p → Own σ ρ1 p := fun p z => z.wipe hw
    have hA0 : Own σ ρ A ∨ H A = none := st.go.none_of hA
    have hw' : ∀ i, i ∉ vs → σ[i]? = (wipe σ vs)[i]? := fun i hi => (hw i hi).symm
    have subn : ∀ p, Own σ (wipeE ρn vs) p → Own σ ρ1 p := fun p z => oo p (M.sub p (z.wipe hw'))
    refine q F' H' (.ref A) ⟨?_, M.sim.wipe (wipe_length _ _).symm hw', fun p z => st.sub p (subn p z)⟩ ⟨⟨A, va, rfl, M.fa, M.at_, M.al⟩, fun _ p e => ?_⟩
    · have g1 : Go F1 H1 F1 (upd H1 A (.lst [])) (Own σ ρ1) := ⟨Same.refl F1, fun a o h _ => by rw [upd_ne (ne_of_none h hA)]; exact h, fun a o h => .inl h⟩
      refine (st.go.trans g1 fun p h => .inl (st.sub p h)).trans M.go fun p h => ?_
      rcases h with z | z
      · exact .inl (st.sub p (oo p z))
      · rw [z]; exact hA0
    · cases e
      refine ⟨hA0.symm, fun z => ?_⟩
      obtain ⟨_, u, hu⟩ := st.sim.own (subn A z)
      rw [hA] at hu; cases hu
end
mutual
theorem gT_len : ∀ (t : T) (d : D) (ρ ρ' : Ev), gT t d ρ = some ρ' → ρ'.length = ρ.length
  | .n i, d, ρ, ρ', e => by
    unfold gT at e
    split at e
    · cases e; rw [List.length_set]
    · cases e
  | .t ts, d, ρ, ρ', e => by
    unfold gT at e
    split at e
    · exact gTs_len ts _ ρ ρ' e
    · cases e
theorem gTs_len : ∀ (ts : Ts) (ds : List D) (ρ ρ' : Ev), gTs ts ds ρ = some ρ' → ρ'.length = ρ.length
  | .nil, ds, ρ, ρ', e => by
    unfold gTs at e
    split at e
    · cases e; rfl
    · cases e
  | .cons t r, ds, ρ, ρ', e => by
    unfold gTs at e
    split at e
    · cases e
    · obtain ⟨ρ1, e1, e2⟩ := Option.bind_eq_some_iff.mp e
      rw [gTs_len r _ ρ1 ρ' e2, gT_len t _ ρ ρ1 e1]
end
/-- a comprehension -/
theorem de_lc {X : Cx} {elt tg iter : Expr} {ifs : List Expr} {scope : Scope} {own : List (Str × Nat)} {pos : Pos} {raw : Bool} {src : GI} {t : T} {cd : GB} {el : GD} (hc : X.calm = true) (hN : X.N.Nodup) (hi : PI X tg iter (tI X.K raw src)) (ok : BlkOk X.N X.env.scope scope own)
    (hg : ∀ (s : Shared) (H : Hp) (C : Addr) (cl : List (Str × Addr)) (fp : List Addr), PG (X.blk s H scope (compEnvC scope cl C X.env) fp) tg (if raw then tY X.K (others X.N.length (own.map (·.2))) (gT t) else tG X.K (others X.N.length (own.map (·.2))) (gT t)))
    (ht : ∀ (s : Shared) (H : Hp) (C : Addr) (cl : List (Str × Addr)) (fp : List Addr), PTs (X.blk s H scope (compEnvC scope cl C X.env) fp) ifs (tT X.K cd))
    (he : ∀ (s : Shared) (H : Hp) (C : Addr) (cl : List (Str × Addr)) (fp : List Addr), PE (X.blk s H scope (compEnvC scope cl C X.env) fp) elt (tD X.K el)) (hs : ∀ x, foldedSetIterable iter X.env x = pure x) :
    PE X (.ListComp elt [⟨tg, iter, ifs, 0⟩] scope pos) (tX X.K (gLc (own.map (·.2)) src (gT t) cd el)) := by
  refine ⟨fun pins s σ H Q I h => (pe_lc hc hN hi ok hg ht he hs).run pins s σ H Q I (lc_imp (gT_len t) σ H Q I.len h)⟩
theorem ds_setLc {X : Cx} {fx : List Nat} {i : Nat} {k : Bool} {y : Str} {py spos : Pos} {elt tg iter : Expr} {ifs : List Expr} {scope : Scope} {own : List (Str × Nat)} {pos : Pos} {raw : Bool} {src : GI} {t : T} {cd : GB} {el : GD} (hc : X.calm = true) (hN : X.N.Nodup) (hy : X.N[i]? = some y) (hyl : X.env.scope.names.lookup y = some .local)
    (hsw : swapsWith (.ListComp elt [⟨tg, iter, ifs, 0⟩] scope pos) (some (.Name y py)) spos.line X.env = pure true) (hx : i ∉ fx) (hi : PI X tg iter (tI X.K raw src)) (ok : BlkOk X.N X.env.scope scope own)
    (hg : ∀ (s : Shared) (H : Hp) (C : Addr) (cl : List (Str × Addr)) (fp : List Addr), PG (X.blk s H scope (compEnvC scope cl C X.env) fp) tg (if raw then tY X.K (others X.N.length (own.map (·.2))) (gT t) else tG X.K (others X.N.length (own.map (·.2))) (gT t)))
    (ht : ∀ (s : Shared) (H : Hp) (C : Addr) (cl : List (Str × Addr)) (fp : List Addr), PTs (X.blk s H scope (compEnvC scope cl C X.env) fp) ifs (tT X.K cd))
    (he : ∀ (s : Shared) (H : Hp) (C : Addr) (cl : List (Str × Addr)) (fp : List Addr), PE (X.blk s H scope (compEnvC scope cl C X.env) fp) elt (tD X.K el)) (hs : ∀ x, foldedSetIterable iter X.env x = pure x) :
    PS X (.Assign [.Name y py] (.ListComp elt [⟨tg, iter, ifs, 0⟩] scope pos) spos) (tS X.K fx (gSet i k (gLc (own.map (·.2)) src (gT t) cd el))) := by
  refine ⟨fun pins s σ H D I h => (ps_setLc hc hN hy hyl hsw hi ok hg ht he hs).run pins s σ H D I ?_⟩
  have h2 := asg_imp hx D σ H h
  exact lc_imp (gT_len t) σ H _ I.len h2
end DL

namespace DL
open PySem PySem.Spec L2
open PyProof.Rows hiding St

/-! ### while -/
def whileF (c : GB) (body : GS) : Nat → GS
  | 0, _ => none
  | n + 1, ρ => (c ρ).bind fun r => if r.2 then (body r.1).bind fun t => match t.2 with
    | .nx => whileF c body n t.1
    | .ct => whileF c body n t.1
    | .bk => some (t.1, .nx)
    | .rt s => some (t.1, .rt s)
    else some (r.1, .nx)
section
variable {X : Cx} {fx : List Nat} {c : Expr} {body : List Stmt} {pos : Pos} {gc : GB} {gb' : GS}
theorem ds_while (n : Nat) (hp : PassesOwn (model X.prog X.w) X.A X.env X.xe) (hc : PT X c (tT X.K gc)) (hb : PSs X body (tS X.K fx gb')) : PS X (.While c body [] pos) (tS X.K fx (whileF gc gb' n)) := PSimp (ps_while hp hc hb) fun D σ H ⟨F, ρ, ρ', fl, S, eq, q⟩ => by
  refine ⟨fun m σ' H' => ∃ F' ρ2, Sts X.K fx F H σ ρ F' H' σ' ρ2 ∧ whileF gc gb' m ρ2 = some (ρ', fl), ⟨n, F, ρ, Sts.refl S, eq⟩, ?_⟩
  rintro m σ' H' ⟨F', ρ2, s2, eq2⟩
  cases m with
  | zero => cases eq2
  | succ m =>
    unfold whileF at eq2
    obtain ⟨⟨ρ3, b⟩, e3, eq2⟩ := Option.bind_eq_some_iff.mp eq2
    refine ⟨F', ρ2, ρ3, b, s2.sim, e3, fun F3 H3 st3 => ?_⟩
    have s3 := s2.trans (st3.sts (fx := fx))
    cases b with
    | false => cases eq2; exact iteF (q F3 H3 σ' s3)
    | true =>
      obtain ⟨⟨ρ4, f4⟩, e4, eq2⟩ := Option.bind_eq_some_iff.mp eq2
      refine iteT ⟨fun σ5 H5 => ∃ F5 ρ5, Sts X.K fx F H σ ρ F5 H5 σ5 ρ5 ∧ whileF gc gb' m ρ5 = some (ρ', fl), fun σ5 H5 h => ⟨m, Nat.lt_succ_self m, h⟩, F3, ρ3, ρ4, f4, st3.sim, e4, fun F5 H5 σ5 s5 => ?_⟩
      have s6 := s3.trans s5
      cases f4 with
      | nx => exact ⟨F5, ρ4, s6, eq2⟩
      | ct => exact ⟨F5, ρ4, s6, eq2⟩
      | bk => cases eq2; exact q F5 H5 σ5 s6
      | rt s =>
        cases eq2
        intro v r
        exact q F5 H5 σ5 s6 v (r.pre s3)
end
/-! ### target = data -/
@[simp] def gAsg (t : T) (g : GD) : GS := fun ρ => (g ρ).bind fun r => (gT t r.2 r.1).map fun ρ' => (ρ', .nx)
section
variable {X : Cx} {fx : List Nat} {tg e : Expr} {pos : Pos} {g : GD} {t : T}
theorem ds_unp (he : PE X e (tD X.K g)) (hg : PG X tg (tG X.K fx (gT t))) (hs : swapsWithSole [tg] e pos.line X.env = pure false) (hw : swappedStores [tg] e X.env = pure none) (h1 : (assignEach [tg] X.env).map (·.2) = [assign tg X.env]) :
    PS X (.Assign [tg] e pos) (tS X.K fx (gAsg t g)) := PSimp (ps_asg he hg hs hw h1) fun D σ H ⟨F, ρ, ρ', fl, S, eq, q⟩ => by
  obtain ⟨⟨ρ1, d⟩, e1, eq⟩ := Option.bind_eq_some_iff.mp eq
  obtain ⟨ρ2, e2, e3⟩ := Option.map_eq_some_iff.mp eq
  cases e3
  exact ⟨F, ρ, ρ1, d, S, e1, fun F1 H1 v st rp => ⟨F1, ρ1, _, d, st.sim, rp, e2, fun σ' s' => q F1 H1 σ' (st.sts.trans s')⟩⟩
end
/-! ### a, b = x, y: things that stay owned -/
structure Tm (K : PySem.W.Frag) (H : Hp) (σ : St) (ρ : Ev) (F' H' : Hp) (ρ' : Ev) (vs : List V) (ss : List Sl) : Prop where
  len : vs.length = ss.length
  ok : ∀ (i : Nat) (v : V) (s : Sl), vs[i]? = some v → ss[i]? = some s → Res K H σ ρ F' H' ρ' v s
  ap : ∀ (i j : Nat) (s t : Sl) (p : Addr), ss[i]? = some s → ss[j]? = some t → s.own = true → t.own = true → vs[i]? = some (.ref p) → vs[j]? = some (.ref p) → i = j
abbrev GM := Ev → Option (Ev × List Sl)
def tM (K : PySem.W.Frag) (g : GM) : TA := fun σ H Q => ∃ F ρ ρ' ss, Sim K F H σ ρ ∧ g ρ = some (ρ', ss) ∧ ∀ F' H' vs, Ste K F H σ ρ F' H' ρ' → Tm K H σ ρ F' H' ρ' vs ss → Q vs H'
@[simp] def gmNil : GM := fun ρ => some (ρ, [])
@[simp] def gmCons (g : GX) (k : Bool) (r : GM) : GM := fun ρ => (g ρ).bind fun a => (keepS k a.2).bind fun s => (r a.1).map fun t => (t.1, s :: t.2)
section
variable {X : Cx} {e : Expr} {es : List Expr} {g : GX} {k : Bool} {r : GM}
theorem dm_nil : PA X [] (tM X.K gmNil) := PAimp pa_nil fun σ H Q ⟨F, ρ, ρ', ss, S, eq, q⟩ => by
  cases eq
  exact q F H [] (Ste.refl S) ⟨rfl, fun i v s e => by simp at e, fun i j s t p e => by simp at e⟩
/-- a thing that has come stands through a further step -/
theorem Res.later {K : PySem.W.Frag} {F H F1 H1 F2 H2 : Hp} {σ : St} {ρ ρ1 ρ2 : Ev} {v : V} {s : Sl} (a : Ste K F H σ ρ F1 H1 ρ1) (r : Res K H σ ρ F1 H1 ρ1 v s) (b : Ste K F1 H1 σ ρ1 F2 H2 ρ2) : Res K H σ ρ F2 H2 ρ2 v s := by
  refine ⟨r.ok.nw b.go.f fun p o e => ?_, fun o p e => ?_⟩
  · obtain ⟨_, n⟩ := r.fr o p e
    obtain ⟨f, u, hu⟩ := r.ok.tracked o e
    refine ⟨?_, by rw [b.go.k p u hu n, hu]⟩
    cases q : F2 p with
    | none => rfl
    | some w =>
      rcases b.go.n p w q with z | z | z
      · rw [f] at z; cases z
      · rw [hu] at z; cases z
      · exact (n z).elim
  · obtain ⟨h1, n⟩ := r.fr o p e
    exact ⟨h1, fun z => n (b.sub p z)⟩
theorem dm_cons (he : PE X e (tX X.K g)) (hr : PA X es (tM X.K r)) (hst : starEach (e :: es) X.env = (false, eval e X.env) :: starEach es X.env) : PA X (e :: es) (tM X.K (gmCons g k r)) :=
  PAimp (pa_cons he hr hst) fun σ H Q ⟨F, ρ, ρ', ss, S, eq, q⟩ => by
    obtain ⟨⟨ρ1, s0⟩, e1, eq⟩ := Option.bind_eq_some_iff.mp eq
    obtain ⟨s, e2, eq⟩ := Option.bind_eq_some_iff.mp eq
    obtain ⟨⟨ρ2, ts⟩, e3, e4⟩ := Option.map_eq_some_iff.mp eq
    cases e4
    refine ⟨F, ρ, ρ1, s0, S, e1, fun F0 H1 v st0 r0 => ?_⟩
    obtain ⟨F1, st, rs⟩ := r0.keep st0 e2
    refine ⟨F1, ρ1, ρ2, ts, st.sim, e3, fun F2 H2 vs st2 tm => q F2 H2 (v :: vs) (st.trans st2) ?_⟩
    have rs2 := rs.later st st2
    have pre : ∀ {v : V} {s : Sl}, Res X.K H1 σ ρ1 F2 H2 ρ2 v s → Res X.K H σ ρ F2 H2 ρ2 v s := fun {v s} r => by
      refine ⟨r.ok, fun o p e => ?_⟩
      obtain ⟨h1, h2⟩ := r.fr o p e
      refine ⟨?_, h2⟩
      rcases h1 with z | z
      · exact (st.go.none_of z).symm
      · exact .inr (st.sub p z)
    have ne : ∀ (j : Nat) (t : Sl) (p : Addr), ts[j]? = some t → t.own = true → vs[j]? = some (.ref p) → s.own = true → v = .ref p → False := fun j t p ej ot vj os ev => by
      obtain ⟨h1, _⟩ := (tm.ok j _ t vj ej).fr ot p rfl
      obtain ⟨_, u, hu⟩ := rs.ok.tracked os ev
      obtain ⟨_, n⟩ := rs.fr os p ev
      rcases h1 with z | z
      · rw [hu] at z; cases z
      · exact n z
    refine ⟨by rw [List.length_cons, List.length_cons, tm.len], fun i w t ew et => ?_, fun i j t u p ei ej oi oj vi vj => ?_⟩
    · cases i with
      | zero =>
        simp only [List.getElem?_cons_zero, Option.some.injEq] at ew et
        subst ew et
        exact rs2
      | succ i => exact pre (tm.ok i w t (by simpa using ew) (by simpa using et))
    · cases i with
      | zero =>
        simp only [List.getElem?_cons_zero, Option.some.injEq] at ei vi
        subst ei
        cases j with
        | zero => rfl
        | succ j => exact (ne j u p (by simpa using ej) oj (by simpa using vj) oi vi).elim
      | succ i =>
        cases j with
        | zero =>
          simp only [List.getElem?_cons_zero, Option.some.injEq] at ej vj
          subst ej
          exact (ne i t p (by simpa using ei) oi (by simpa using vi) oj vj).elim
        | succ j => rw [tm.ap i j t u p (by simpa using ei) (by simpa using ej) oi oj (by simpa using vi) (by simpa using vj)]
end
/-- several slots are filled, one behind the other -/
def putS : List Nat → List Sl → Ev → Ev
  | i :: r, s :: t, ρ => putS r t (ρ.set i (some s))
  | _, _, ρ => ρ
def putV : List Nat → List V → St → St
  | i :: r, s :: t, ρ => putV r t (ρ.set i (some s))
  | _, _, ρ => ρ
theorem Sts.put {K : PySem.W.Frag} {fx : List Nat} {F H F1 H1 : Hp} {σ0 σ : St} {ρ0 ρ : Ev} {i : Nat} {v : V} {s : Sl} (a : Sts K fx F H σ0 ρ0 F1 H1 σ ρ) (hi : i < ρ.length) (hx : i ∉ fx) (ok : SlOk K F1 H1 v s) (fr : s.own = true → ∀ p, v = .ref p → (Own σ0 ρ0 p ∨ H p = none) ∧ ¬ Own σ ρ p) :
    Sts K fx F H σ0 ρ0 F1 H1 (σ.set i (some v)) (ρ.set i (some s)) := by
  have st : Ste K F1 H1 σ ρ F1 H1 ρ := Ste.refl a.sim
  have hσ : i < σ.length := by rw [a.sim.len]; exact hi
  have sub : ∀ (j : Nat) (t : Sl), (ρ.set i (some s))[j]? = some (some t) → (j = i ∧ t = s) ∨ (j ≠ i ∧ ρ[j]? = some (some t)) := fun j t ej => by
    by_cases hj : j = i
    · subst hj
      rw [List.getElem?_set_self hi] at ej
      cases ej
      exact .inl ⟨rfl, rfl⟩
    · rw [List.getElem?_set_ne (Ne.symm hj)] at ej
      exact .inr ⟨hj, ej⟩
  have vi : (σ.set i (some v))[i]? = some (some v) := List.getElem?_set_self hσ
  have vo : ∀ j, j ≠ i → (σ.set i (some v))[j]? = σ[j]? := fun j hj => List.getElem?_set_ne (Ne.symm hj)
  refine ⟨a.go, ⟨a.sim.fz, by rw [List.length_set, List.length_set]; exact a.sim.len, fun j t ej => ?_, fun j k t u p e1 e2 o1 o2 q1 q2 => ?_⟩, fun p ⟨j, t, ej, o, qj⟩ => ?_, fun j hj => (vo j fun e => hx (e ▸ hj)).trans (a.fx j hj)⟩
  · rcases sub j t ej with ⟨rfl, rfl⟩ | ⟨nj, h⟩
    · exact ⟨v, vi, ok⟩
    · rw [vo j nj]
      exact a.sim.sl j t h
  · rcases sub j t e1 with ⟨rfl, rfl⟩ | ⟨nj, h1⟩
    · rcases sub k u e2 with ⟨rfl, rfl⟩ | ⟨nk, h2⟩
      · rfl
      · rw [vi] at q1; cases q1
        rw [vo k nk] at q2
        exact ((fr o1 p rfl).2 ⟨k, u, h2, o2, q2⟩).elim
    · rcases sub k u e2 with ⟨rfl, rfl⟩ | ⟨nk, h2⟩
      · rw [vi] at q2; cases q2
        rw [vo j nj] at q1
        exact ((fr o2 p rfl).2 ⟨j, t, h1, o1, q1⟩).elim
      · rw [vo j nj] at q1
        rw [vo k nk] at q2
        exact a.sim.ap j k t u p h1 h2 o1 o2 q1 q2
  · rcases sub j t ej with ⟨rfl, rfl⟩ | ⟨nj, h⟩
    · rw [vi] at qj; cases qj
      exact (fr o p rfl).1
    · rw [vo j nj] at qj
      exact a.sub p ⟨j, t, h, o, qj⟩
@[simp] def gPar2 (i j : Nat) (g : GM) : GS := fun ρ => (g ρ).bind fun r => match r.2 with
  | [s, t] => if decide (i < r.1.length ∧ j < r.1.length) then some ((r.1.set i (some s)).set j (some t), .nx) else none
  | _ => none
@[simp] def gPar3 (i j l : Nat) (g : GM) : GS := fun ρ => (g ρ).bind fun r => match r.2 with
  | [s, t, u] => if decide (i < r.1.length ∧ j < r.1.length ∧ l < r.1.length) then some (((r.1.set i (some s)).set j (some t)).set l (some u), .nx) else none
  | _ => none
theorem Own.set {σ : St} {ρ : Ev} {i : Nat} {v : V} {s : Sl} {p : Addr} (hσ : i < σ.length) (hi : i < ρ.length) (h : Own (σ.set i (some v)) (ρ.set i (some s)) p) : (s.own = true ∧ v = .ref p) ∨ Own σ ρ p := by
  obtain ⟨j, t, ej, o, qj⟩ := h
  by_cases hj : j = i
  · subst hj
    rw [List.getElem?_set_self hi] at ej
    rw [List.getElem?_set_self hσ] at qj
    cases ej; cases qj
    exact .inl ⟨o, rfl⟩
  · rw [List.getElem?_set_ne (Ne.symm hj)] at ej qj
    exact .inr ⟨j, t, ej, o, qj⟩
section
variable {X : Cx} {fx : List Nat} {pos px py pz pt pt2 : Pos} {kt k2 : Nat} {a b c : Expr} {g : GM} {i j l : Nat} {x y z : Str}
theorem par2_imp (hi : i ∉ fx) (hj : j ∉ fx) : ∀ D σ H, tS X.K fx (gPar2 i j g) D σ H → tPar i j (tM X.K g) D σ H := fun D σ H ⟨F, ρ, ρ', fl, S, eq, q⟩ => by
  obtain ⟨⟨ρ1, ss⟩, e1, eq⟩ := Option.bind_eq_some_iff.mp eq
  dsimp only at eq
  split at eq
  · rename_i s t
    split at eq
    · rename_i hb
      obtain ⟨b1, b2⟩ := of_decide_eq_true hb
      cases eq
      refine ⟨F, ρ, ρ1, _, S, e1, fun F1 H1 vs st tm => ?_⟩
      obtain ⟨v, w, rfl⟩ : ∃ v w, vs = [v, w] := by
        have := tm.len
        match vs, this with
        | [v, w], _ => exact ⟨v, w, rfl⟩
      refine ⟨v, w, rfl, ?_⟩
      have r0 := tm.ok 0 v s rfl rfl
      have r1 := tm.ok 1 w t rfl rfl
      have hl := st.sim.len
      have s1 := (st.sts (fx := fx)).put b1 hi r0.ok fun o p e => ⟨(r0.fr o p e).1.symm, (r0.fr o p e).2⟩
      refine q F1 H1 _ (s1.put (by rw [List.length_set]; exact b2) hj r1.ok fun o p e => ⟨(r1.fr o p e).1.symm, fun n => ?_⟩)
      rcases n.set (by omega) b1 with ⟨o0, rfl⟩ | n
      · subst e
        exact absurd (tm.ap 0 1 s t p rfl rfl o0 o rfl rfl) (by decide)
      · exact (r1.fr o p e).2 n
    · cases eq
  · cases eq
theorem ds_par2 (hc : X.calm = true) (hN : X.N.Nodup) (hi : X.N[i]? = some x) (hj : X.N[j]? = some y) (hij : i ≠ j) (hx : X.env.scope.names.lookup x = some .local) (hy : X.env.scope.names.lookup y = some .local) (ha : PA X [a, b] (tM X.K g))
    (hw : swappedStores [.Tuple [.Name x px, .Name y py] kt pt] (.Tuple [a, b] k2 pt2) X.env = pure (some [x, y])) (fi : i ∉ fx) (fj : j ∉ fx) :
    PS X (.Assign [.Tuple [.Name x px, .Name y py] kt pt] (.Tuple [a, b] k2 pt2) pos) (tS X.K fx (gPar2 i j g)) := PSimp (ps_par hc hN hi hj hij hx hy ha hw rfl) (par2_imp fi fj)
theorem par3_imp (hi : i ∉ fx) (hj : j ∉ fx) (hl : l ∉ fx) : ∀ D σ H, tS X.K fx (gPar3 i j l g) D σ H → tPar3 i j l (tM X.K g) D σ H := fun D σ H ⟨F, ρ, ρ', fl, S, eq, q⟩ => by
  obtain ⟨⟨ρ1, ss⟩, e1, eq⟩ := Option.bind_eq_some_iff.mp eq
  dsimp only at eq
  split at eq
  · rename_i s t u
    split at eq
    · rename_i hb
      obtain ⟨b1, b2, b3⟩ := of_decide_eq_true hb
      cases eq
      refine ⟨F, ρ, ρ1, _, S, e1, fun F1 H1 vs st tm => ?_⟩
      obtain ⟨v, w, w3, rfl⟩ : ∃ v w w3, vs = [v, w, w3] := by
        have := tm.len
        match vs, this with
        | [v, w, w3], _ => exact ⟨v, w, w3, rfl⟩
      refine ⟨v, w, w3, rfl, ?_⟩
      have r0 := tm.ok 0 v s rfl rfl
      have r1 := tm.ok 1 w t rfl rfl
      have r2 := tm.ok 2 w3 u rfl rfl
      have hl' := st.sim.len
      have s1 := (st.sts (fx := fx)).put b1 hi r0.ok fun o p e => ⟨(r0.fr o p e).1.symm, (r0.fr o p e).2⟩
      have s2 := s1.put (by rw [List.length_set]; exact b2) hj r1.ok fun o p e => ⟨(r1.fr o p e).1.symm, fun n => by
        rcases n.set (by omega) b1 with ⟨o0, rfl⟩ | n
        · subst e
          exact absurd (tm.ap 0 1 s t p rfl rfl o0 o rfl rfl) (by decide)
        · exact (r1.fr o p e).2 n⟩
      refine q F1 H1 _ (s2.put (by rw [List.length_set, List.length_set]; exact b3) hl r2.ok fun o p e => ⟨(r2.fr o p e).1.symm, fun n => ?_⟩)
      rcases n.set (by rw [List.length_set]; omega) (by rw [List.length_set]; exact b2) with ⟨o0, rfl⟩ | n
      · subst e
        exact absurd (tm.ap 1 2 t u p rfl rfl o0 o rfl rfl) (by decide)
      · rcases n.set (by omega) b1 with ⟨o0, rfl⟩ | n
        · subst e
          exact absurd (tm.ap 0 2 s u p rfl rfl o0 o rfl rfl) (by decide)
        · exact (r2.fr o p e).2 n
    · cases eq
  · cases eq
theorem ds_par3 (hc : X.calm = true) (hN : X.N.Nodup) (hi : X.N[i]? = some x) (hj : X.N[j]? = some y) (hl : X.N[l]? = some z) (hij : i ≠ j) (hil : i ≠ l) (hjl : j ≠ l) (hx : X.env.scope.names.lookup x = some .local) (hy : X.env.scope.names.lookup y = some .local) (hz : X.env.scope.names.lookup z = some .local)
    (ha : PA X [a, b, c] (tM X.K g)) (hw : swappedStores [.Tuple [.Name x px, .Name y py, .Name z pz] kt pt] (.Tuple [a, b, c] k2 pt2) X.env = pure (some [x, y, z])) (fi : i ∉ fx) (fj : j ∉ fx) (fl : l ∉ fx) :
    PS X (.Assign [.Tuple [.Name x px, .Name y py, .Name z pz] kt pt] (.Tuple [a, b, c] k2 pt2) pos) (tS X.K fx (gPar3 i j l g)) := PSimp (ps_par3 hc hN hi hj hl hij hil hjl hx hy hz ha hw rfl) (par3_imp fi fj fl)
end
end DL

namespace DL
open PySem PySem.Spec L2
open PyProof.Rows hiding St

/-! ### targets of an assignment that may change owned lists -/
abbrev FT := D → Ev → Option Ev
abbrev FTs := List D → Ev → Option Ev
def tG2 (K : PySem.W.Frag) (fx : List Nat) (f : FT) : TG := fun v σ H Q => ∃ F ρ ρ' d, Sim K F H σ ρ ∧ Rp K F v d ∧ f d ρ = some ρ' ∧ ∀ F' H' σ', Sts K fx F H σ ρ F' H' σ' ρ' → Q σ' H'
def tGs2 (K : PySem.W.Frag) (fx : List Nat) (f : FTs) : TGs := fun vs σ H Q => ∃ F ρ ρ' ds, Sim K F H σ ρ ∧ RpAll K F vs ds ∧ f ds ρ = some ρ' ∧ ∀ F' H' σ', Sts K fx F H σ ρ F' H' σ' ρ' → Q σ' H'
@[simp] def ftNil : FTs := fun ds ρ => match ds with
  | [] => some ρ
  | _ :: _ => none
@[simp] def ftCons (f : FT) (r : FTs) : FTs := fun ds ρ => match ds with
  | [] => none
  | d :: ds => (f d ρ).bind fun ρ1 => r ds ρ1
@[simp] def ftTup (n : Nat) (f : FTs) : FT := fun d ρ => match d with
  | .tuple ds => if ds.length = n then f ds ρ else none
  | _ => none
/-- x[e] = d -/
@[simp] def ftIdx (i : Nat) (g : GD) : FT := fun d ρ => ((ρ[i]?).bind id).bind fun _ => (g ρ).bind fun a => (intV a.2).bind fun k => (slotL a.1 i).bind fun xs => (ixD xs.length k).map fun j => a.1.set i (some (.l (xs.set j d)))
@[simp] def gAsg2 (f : FT) (g : GD) : GS := fun ρ => (g ρ).bind fun r => (f r.2 r.1).map fun ρ' => (ρ', .nx)
section
variable {X : Cx} {fx : List Nat} {tg e : Expr} {es : List Expr} {pos p : Pos} {f : FT} {fs : FTs} {i : Nat} {x : Str} {g : GD}
theorem d2_of (h : PG X tg (tG X.K fx f)) : PG X tg (tG2 X.K fx f) := PGimp h fun v σ H Q ⟨F, ρ, ρ', d, S, rp, eq, q⟩ => ⟨F, ρ, ρ', d, S, rp, eq, fun σ' s => q F H σ' s⟩
theorem d2s_nil : PGs X [] (tGs2 X.K fx ftNil) := PGsimp pgs_nil fun v σ H Q ⟨F, ρ, ρ', d, S, rp, eq, q⟩ => by
  cases rp with
  | nil =>
    cases eq
    exact ⟨rfl, q F H σ (Sts.refl S)⟩
  | cons _ _ => cases eq
theorem d2s_cons (h1 : PG X e (tG2 X.K fx f)) (h2 : PGs X es (tGs2 X.K fx fs)) (hs : (assignEach (e :: es) X.env).map (·.2) = assign e X.env :: (assignEach es X.env).map (·.2)) : PGs X (e :: es) (tGs2 X.K fx (ftCons f fs)) :=
  PGsimp (pgs_cons h1 h2 hs) fun v σ H Q ⟨F, ρ, ρ', d, S, rp, eq, q⟩ => by
    cases rp with
    | nil => cases eq
    | cons a r =>
      obtain ⟨ρ1, e1, e2⟩ := Option.bind_eq_some_iff.mp eq
      refine ⟨_, _, rfl, F, ρ, ρ1, _, S, a, e1, fun F1 H1 σ1 s1 => ⟨F1, ρ1, ρ', _, s1.sim, RpAll.up s1.go.f r, e2, fun F2 H2 σ2 s2 => q F2 H2 σ2 (s1.trans s2)⟩⟩
theorem d2_tup {k n : Nat} (hc : X.calm = true) (h : PGs X es (tGs2 X.K fx fs)) (hn : (assignEach es X.env).length = n) (hst : (assignEach es X.env).findIdx? (·.1) = none) : PG X (.Tuple es k pos) (tG2 X.K fx (ftTup n fs)) :=
  PGimp (pg_tup hc h hn hst) fun v σ H Q ⟨F, ρ, ρ', d, S, rp, eq, q⟩ => by
    unfold ftTup at eq
    split at eq
    · split at eq
      · rename_i hl
        cases rp with
        | tup h r => exact ⟨_, _, rfl, sqt_up S.fz h.sq, by rw [RpAll.len r]; exact hl, F, ρ, ρ', _, S, r, eq, q⟩
      · cases eq
    · cases eq
theorem d2_idx (hN : X.N[i]? = some x) (hvi : Vis X.env.scope x) (hd : (x == ("__debug__" : Str)) = false) (hcd : (x == ("__classdict__" : Str)) = false) (he : PE X e (tD X.K g))
    (ha : ∀ v, assign (.Subscript (.Name x p) e pos) X.env v = (do
      let ov ← holding [v] (eval (.Name x p) X.env)
      let iv ← holding [v, ov] (eval e X.env)
      standAt pos
      holding [v, ov, iv] (setItem ov iv v)
      release [v, ov, iv] [])) : PG X (.Subscript (.Name x p) e pos) (tG2 X.K fx (ftIdx i g)) :=
  PGimp (pg_sub (pe_var hN hvi hd hcd) he set_list ha) fun v σ H Q ⟨F, ρ, ρ', d, S, rp, eq, q⟩ => by
    obtain ⟨_, e0, eq⟩ := Option.bind_eq_some_iff.mp eq
    obtain ⟨⟨ρ1, w⟩, e1, eq⟩ := Option.bind_eq_some_iff.mp eq
    obtain ⟨k, ek, eq⟩ := Option.bind_eq_some_iff.mp eq
    obtain ⟨xs, e2, eq⟩ := Option.bind_eq_some_iff.mp eq
    obtain ⟨j, e3, e4⟩ := Option.map_eq_some_iff.mp eq
    subst e4
    obtain ⟨v0, ev0⟩ := S.val e0
    refine ⟨v0, ev0, F, ρ, ρ1, w, S, e1, fun F1 H1 v1 st r1 => ?_⟩
    obtain ⟨p', vs, ev, fp, hp, al⟩ := st.sim.lend e2
    rw [ev] at ev0; cases ev0
    have e7 : v1 = .int k := by cases r1 <;> first | (cases ek; rfl) | cases ek
    refine ⟨p', vs, k, j, rfl, e7, hp, by rw [RpAll.len al]; exact e3, ?_⟩
    exact q F1 _ σ (st.trans (st.sim.poke e2 ev (RpAll.set (Rp.up st.go.f rp) j al))).sts
theorem ds_asg2 (he : PE X e (tD X.K g)) (hg : PG X tg (tG2 X.K fx f)) (hs : swapsWithSole [tg] e pos.line X.env = pure false) (hw : swappedStores [tg] e X.env = pure none) (h1 : (assignEach [tg] X.env).map (·.2) = [assign tg X.env]) :
    PS X (.Assign [tg] e pos) (tS X.K fx (gAsg2 f g)) := PSimp (ps_asg he hg hs hw h1) fun D σ H ⟨F, ρ, ρ', fl, S, eq, q⟩ => by
  obtain ⟨⟨ρ1, d⟩, e1, eq⟩ := Option.bind_eq_some_iff.mp eq
  obtain ⟨ρ2, e2, e3⟩ := Option.map_eq_some_iff.mp eq
  cases e3
  exact ⟨F, ρ, ρ1, d, S, e1, fun F1 H1 v st rp => ⟨F1, ρ1, _, d, st.sim, rp, e2, fun F' H' σ' s' => q F' H' σ' (st.sts.trans s')⟩⟩
end
end DL

namespace DL
open PySem PySem.Spec L2
open PyProof.Rows hiding St

/-! ### x[e:] = ys of an owned list -/
theorem bounds_from {a n : Nat} (h : a ≤ n) : sliceBounds (some (a : Int)) none none n = ((a : Int), (n : Int), 1) := by
  simp only [sliceBounds, Option.getD_none]
  have h1 : ¬ ((a : Int) < 0) := by omega
  simp only [h1, if_false, show (1 : Int) > 0 by decide, if_true]
  congr 1
  omega
theorem assign_cut {o : Expr} {lo hi : Option Expr} {p2 pos : Pos} {env : Env} (v : Value) : assign (.Subscript o (.Slice lo hi none p2) pos) env v = (do
      let ov ← holding [v] (eval o env)
      let iv ← holding [v, ov] (eval (.Slice lo hi none p2) env)
      standAt pos
      holding [v, ov, iv] (setItem ov iv v)
      release [iv, v, ov] []) := rfl
section
variable {prog : Program} {w : World} {A : Around} {E : Value → Shared → Prop} {s : Shared}
set_option maxHeartbeats 4000000 in
theorem setItem_from {l b sl : Addr} {items new : Array Value} {n n2 : Nat} {vl vu : Value} {a : Nat} {Q : Unit → Shared → Prop} (e : s.heap.get? l = some { cls := .type "list", data := .seq items n }) (e2 : s.heap.get? b = some { cls := .type "list", data := .seq new n2 }) (hne : l ≠ b)
    (hs : s.heap.IsSliceOf sl vl vu .none) (pl : IsPart vl (some (a : Int))) (pu : IsPart vu none) (hac : a ≤ items.size) (hsz : items.size + new.size ≤ sizeLine)
    (h : Q () { s with heap := s.heap.update l (Obj.mapSeq fun xs => xs.extract 0 a ++ new ++ xs.extract items.size xs.size) }) : wpAny (model prog w) A (setItem (.ref l) (.ref sl) (.ref b)) Q E s := by
  have hl : s.heap.IsList l items := PySem.IsL.isList e
  have hb : s.heap.IsList b new := PySem.IsL.isList e2
  obtain ⟨os, hos, hcs, hds⟩ := id hs
  have tsl : s.TypeIs (.ref sl) "slice" := ⟨os, hos, hcs⟩
  have one : ¬ ((rawPart none == rawInt 0) = true) := Bool.false_ne_true
  have two : Builtin.List.listSameRef (.ref l) (.ref b) = false := by unfold Builtin.List.listSameRef; exact beq_eq_false_iff_ne.mpr hne
  have mx : (max (a : Int) ((items.size : Nat) : Int)).toNat = items.size := by omega
  have sz : ((fun xs : Array Value => xs.extract 0 a ++ new ++ xs.extract items.size xs.size) items).size ≤ sizeLine + 1 := by simp only [Array.size_append, Array.size_extract]; omega
  unfold setItem; try with_reducible refine wpAny_holding ?_
  first | refine wpAny_bind (wpAny_pure ?_) | skip
  refine wpAny_bind (wpAny_sequenceKey hl.typeIs (by decide) (wpAny_bind (wpAny_callSpecial?_slot (name := Str.ofString "__setitem__") hl.typeIs slot_list_setitem (wpAny_call_entry slot_list_setitem hl.typeIs entry_list_setitem ?_ (args_list_setitem _ _ _)))))
  show wpAny _ _ (Builtin.List.listSubscript? (.ref sl) >>= _) _ _ s; refine wpAny_bind ?_; unfold Builtin.List.listSubscript?
  refine wpAny_bind (wpAny_specialOf tsl slice_no_index ?_); simp only [Option.isNone_none, if_true]; refine wpAny_pure ?_
  show wpAny _ _ (typeOf (.ref sl) >>= _) _ _ s; refine wpAny_bind (wpAny_typeOf tsl ?_)
  first | rw [if_neg (by decide)] | refine PySem.W.KFB.if_not (by decide) ?_
  rw [listSliceParts_eq]; refine wpAny_bind (wpAny_bind (wpAny_field hos hds (x := .none) rfl (wpAny_bind (wpAny_listPart .none ?_))))
  rw [if_neg one]; refine wpAny_bind (wpAny_field hos hds (x := vl) rfl (wpAny_bind (wpAny_listPart pl ?_)))
  refine wpAny_bind (wpAny_field hos hds (x := vu) rfl (wpAny_bind (wpAny_listPart pu (wpAny_pure ?_))))
  first | simp only [two, Bool.false_eq_true, if_false] | refine PySem.W.KFB.if_not two ?_ | (dsimp only; rw [if_neg (by rw [two]; exact Bool.false_ne_true)])
  refine wpAny_bind (m := Builtin.List.listAllItems (.ref b) "must assign iterable to extended slice") ?_; unfold Builtin.List.listAllItems
  refine wpAny_bind (wpAny_typeOf hb.typeIs ?_)
  first | refine PySem.W.KFB.if_so (by decide) ?_ | rw [if_pos (by decide)] | simp only [beq_self_eq_true, Bool.true_or, if_true]
  unfold Builtin.List.listItems; refine wpAny_bind (wpAny_seqItems e2 rfl (wpAny_pure (wpAny_bind (wpAny_bind (wpAny_seqItems e rfl (wpAny_pure ?_))))))
  refine wpAny_bind (wpAny_of_eq ((sliceIndices_raw (some (a : Int)) none none items.size (by simp)).trans (congrArg (pure : Int × Int × Int → Sem (Int × Int × Int)) (bounds_from hac))) ?_)
  show wpAny _ _ (if ((1 : Int) == 1) = true then _ else _) _ _ s; rw [if_pos (by decide)]; refine wpAny_bind (wpAny_rule ?_)
  first | simp only [notLongL hsz, Bool.false_eq_true, if_false] | refine PySem.W.KFB.if_not (notLongL hsz) ?_
  first | refine wpAny_bind (wpAny_pure ?_) | skip
  show wpAny _ _ (updateSeq l (fun xs => xs.extract 0 ((a : Int)).toNat ++ new ++ xs.extract (max (a : Int) ((items.size : Nat) : Int)).toNat xs.size) >>= _) _ _ s
  rw [mx, Int.toNat_natCast]; refine wpAny_bind (wpAny_updateSeq (hz := Nat.le_trans (Nat.le_add_right _ _) hsz) (_hz' := sz) e rfl (wpAny_bind (wpAny_letGo ?_)))
  first | exact wpAny_bind (wpAny_pure (wpAny_pure ⟨.none, rfl, wpAny_pure h⟩)) | exact wpAny_pure ⟨.none, rfl, wpAny_pure h⟩
end
@[simp] def ftFrom (i : Nat) (g : GD) : FT := fun d ρ => ((ρ[i]?).bind id).bind fun _ => (g ρ).bind fun a => (intV a.2).bind fun k => (slotL a.1 i).bind fun xs => (listOfD d).bind fun ys =>
  if decide (0 ≤ k ∧ k ≤ xs.length) && fit (xs.length + ys.length) then some (a.1.set i (some (.l (xs.take k.toNat ++ ys)))) else none
section
variable {X : Cx} {fx : List Nat} {e : Expr} {pos p p2 : Pos} {i : Nat} {x : Str} {g : GD}
theorem d2_from (hN : X.N[i]? = some x) (hvi : Vis X.env.scope x) (hd : (x == ("__debug__" : Str)) = false) (hcd : (x == ("__classdict__" : Str)) = false) (he : PE X e (tD X.K g)) :
    PG X (.Subscript (.Name x p) (.Slice (some e) none none p2) pos) (tG2 X.K fx (ftFrom i g)) := by
  constructor
  intro pins s σ H v u Q I rv ⟨F, ρ, ρ', d, S, rp, eq, q⟩
  obtain ⟨_, e0, eq⟩ := Option.bind_eq_some_iff.mp eq
  obtain ⟨⟨ρ1, w⟩, e1, eq⟩ := Option.bind_eq_some_iff.mp eq
  obtain ⟨k, ek, eq⟩ := Option.bind_eq_some_iff.mp eq
  obtain ⟨xs, e2, eq⟩ := Option.bind_eq_some_iff.mp eq
  obtain ⟨ys, e3, eq⟩ := Option.bind_eq_some_iff.mp eq
  split at eq
  · rename_i hb
    obtain ⟨b1, b2⟩ := (Bool.and_eq_true _ _).mp hb
    obtain ⟨k0, k1⟩ := of_decide_eq_true b1
    cases eq
    obtain ⟨v0, ev0⟩ := S.val e0
    rw [assign_cut]
    refine wpAny_bind (wpAny_holding (thn ((pe_var hN hvi hd hcd).run pins s σ H (fun o H1 => o = v0 ∧ H1 = H) I ⟨v0, ev0, rfl, rfl⟩) ?_))
    rintro ov s1 ⟨_, _, I1, r1, rfl, rfl⟩
    refine wpAny_bind (wpAny_holding ?_)
    refine wpAny_Slice (thn ((po_some he).run pins s1 σ _ (fun l H2 => l = some k ∧ ∃ F2, Ste X.K F _ σ ρ F2 H2 ρ1) I1 ⟨F, ρ, ρ1, w, S, e1, fun F2 H2 v2 st r2 => ⟨k, ?_, rfl, F2, st⟩⟩) ?_)
    · cases r2 <;> first | (cases ek; rfl) | cases ek
    · rintro vl s2 ⟨_, H2, I2, pl, rfl, F2, st⟩
      refine thn (po_none.run pins s2 σ H2 (fun u H3 => u = none ∧ H3 = H2) I2 ⟨rfl, rfl⟩) ?_
      rintro vu s3 ⟨_, _, I3, pu, rfl, rfl⟩
      rw [evalPart_none]
      refine wpAny_pure ?_
      have I4 : Inv X pins σ _ { s3 with heap := s3.heap.push { cls := .type "slice", data := .fields #[vl, vu, .none] } } := I3.kept (t' := s3.toks) fun b ob q => Heap.get?_push_of_some _ q
      refine wpAny_bind (wpAny_standAt (wpAny_bind (wpAny_holding ?_)))
      obtain ⟨p', vs, ev, fp, hp, al⟩ := st.sim.lend e2
      rw [ev] at ev0; cases ev0
      cases r1
      have rp2 := Rp.up st.go.f rp
      cases rp2 with
      | lst hb' rb =>
        cases e3
        cases rv
        have hB := st.sim.fz _ _ hb'
        obtain ⟨z, its, n, r, hl, e⟩ := I4.lstM hp
        obtain ⟨z2, its2, n2, r2, hl2, e2'⟩ := I4.lstM hB
        obtain ⟨a', rfl⟩ := Int.eq_ofNat_of_zero_le k0
        have ne := ne_of_none hb' fp
        have lv := RpAll.len al
        have lw := RpAll.len rb
        have fz := fit_le b2
        refine setItem_from (a := a') e e2' (Ne.symm ne) (Heap.IsSliceOf.new ..) pl pu (by rw [List.size_toArray]; omega) (by rw [List.size_toArray, List.size_toArray]; omega) (wpAny_release ?_)
        refine ⟨σ, _, I4.lset (its' := its.take a' ++ its2 ++ its.drop its.length) (t' := s3.toks) hp e ?_ (Vals.append (Vals.append (r.take a') r2) (r.drop its.length)) ?_, ?_⟩
        · exact splice_eq its its2 a' its.length
        · rw [List.length_append, List.length_append, List.length_take, List.length_drop]
          omega
        · have hd0 : vs.drop its.length = [] := List.drop_eq_nil_of_le (by omega)
          rw [hd0, List.append_nil]
          exact q F2 _ σ (st.trans (st.sim.poke e2 ev (RpAll.app (RpAll.take _ al) rb))).sts
      | _ => cases e3
  · cases eq
end
end DL

namespace DL
open PySem PySem.Spec L2
open PyProof.Rows hiding St

/-! ### dicts: keys are whole numbers or texts -/
@[simp] def keyD : D → Option Key
  | .int i => some (.inl i)
  | .str x => some (.inr x)
  | _ => none
def valD (kvs : List (Key × D)) (k : Key) : Option D := (kvs.find? fun kv => decide (kv.1 = k)).map (·.2)
def putD (kvs : List (Key × D)) (k : Key) (v : D) : List (Key × D) :=
  if (kvs.any fun kv => decide (kv.1 = k)) = true then kvs.map (fun kv => if kv.1 = k then (kv.1, v) else kv) else kvs ++ [(k, v)]
def mergeD (kvs more : List (Key × D)) : List (Key × D) := more.foldl (fun acc kv => putD acc kv.1 kv.2) kvs
theorem Rp.key {K : PySem.W.Frag} {F : Hp} {v : V} {d : D} {k : Key} (r : Rp K F v d) (e : keyD d = some k) : v = kV k := by
  cases r <;> first | (cases e; rfl) | cases e
theorem KvOk.val {K : PySem.W.Frag} {F : Hp} {k : Key} : ∀ {ks : List (Key × V)} {kvs : List (Key × D)}, KvOk K F ks kvs → (∀ d, valD kvs k = some d → ∃ v, valV ks k = some v ∧ Rp K F v d) ∧ (valD kvs k = none → valV ks k = none)
  | _, _, .nil => ⟨fun d e => by simp [valD] at e, fun _ => rfl⟩
  | _, _, .cons (k := j) (v := v) (r := r) (b := b) (t := t) h q => by
    obtain ⟨i1, i2⟩ := KvOk.val (k := k) q
    by_cases e : j = k
    · have e1 : valD ((j, b) :: t) k = some b := by simp [valD, List.find?_cons, e]
      rw [e1, valV_pos (p := (j, v)) e]
      exact ⟨fun d z => by cases z; exact ⟨v, rfl, h⟩, fun z => by cases z⟩
    · have e1 : valD ((j, b) :: t) k = valD t k := by simp [valD, List.find?_cons, e]
      rw [e1, valV_neg (p := (j, v)) e]
      exact ⟨i1, i2⟩
theorem KvOk.any {K : PySem.W.Frag} {F : Hp} {k : Key} : ∀ {ks : List (Key × V)} {kvs : List (Key × D)}, KvOk K F ks kvs → (kvs.any fun kv => decide (kv.1 = k)) = (ks.any fun kv => decide (kv.1 = k))
  | _, _, .nil => rfl
  | _, _, .cons h q => by rw [List.any_cons, List.any_cons, KvOk.any q]
theorem KvOk.mapped {K : PySem.W.Frag} {F : Hp} {k : Key} {v : V} {d : D} (r : Rp K F v d) : ∀ {ks : List (Key × V)} {kvs : List (Key × D)}, KvOk K F ks kvs → KvOk K F (ks.map fun kv => if kv.1 = k then (kv.1, v) else kv) (kvs.map fun kv => if kv.1 = k then (kv.1, d) else kv)
  | _, _, .nil => .nil
  | _, _, .cons (k := j) h q => by
    rw [List.map_cons, List.map_cons]
    by_cases e : j = k
    · rw [if_pos e, if_pos e]
      exact .cons r (KvOk.mapped r q)
    · rw [if_neg e, if_neg e]
      exact .cons h (KvOk.mapped r q)
theorem KvOk.app {K : PySem.W.Frag} {F : Hp} {k : Key} {v : V} {d : D} (r : Rp K F v d) : ∀ {ks : List (Key × V)} {kvs : List (Key × D)}, KvOk K F ks kvs → KvOk K F (ks ++ [(k, v)]) (kvs ++ [(k, d)])
  | _, _, .nil => .cons r .nil
  | _, _, .cons h q => .cons h (KvOk.app r q)
theorem KvOk.put {K : PySem.W.Frag} {F : Hp} {k : Key} {v : V} {d : D} {ks : List (Key × V)} {kvs : List (Key × D)} (q : KvOk K F ks kvs) (r : Rp K F v d) : KvOk K F (putK ks k v) (putD kvs k d) := by
  unfold putK putD
  rw [q.any]
  split
  · exact q.mapped r
  · exact q.app r
theorem KvOk.len {K : PySem.W.Frag} {F : Hp} : ∀ {ks : List (Key × V)} {kvs : List (Key × D)}, KvOk K F ks kvs → ks.length = kvs.length
  | _, _, .nil => rfl
  | _, _, .cons _ q => by rw [List.length_cons, List.length_cons, KvOk.len q]
theorem KvOk.merge {K : PySem.W.Frag} {F : Hp} : ∀ {ms : List (Key × V)} {mvs : List (Key × D)}, KvOk K F ms mvs → ∀ {ks : List (Key × V)} {kvs : List (Key × D)}, KvOk K F ks kvs → KvOk K F (mergeK ks ms) (mergeD kvs mvs)
  | _, _, .nil, _, _, q => q
  | _, _, .cons h m, _, _, q => KvOk.merge m (q.put h)
/-- the pairs of a display -/
@[simp] def kvsOf : List D → Option (List (Key × D))
  | [] => some []
  | k :: v :: r => (keyD k).bind fun j => (kvsOf r).map fun t => (j, v) :: t
  | _ => none
def flatP : List (V × V) → List V
  | [] => []
  | p :: r => p.1 :: p.2 :: flatP r
theorem kvs_rel {K : PySem.W.Frag} {F : Hp} : ∀ {ps : List (V × V)} {ds : List D} {kvs : List (Key × D)}, RpAll K F (flatP ps) ds → kvsOf ds = some kvs → ∃ ks, ps = ks.map (fun kv => (kV kv.1, kv.2)) ∧ KvOk K F ks kvs
  | [], _, _, .nil, e => by cases e; exact ⟨[], rfl, .nil⟩
  | (a, b) :: r, _, _, .cons h1 (.cons h2 h3), e => by
    obtain ⟨j, e1, e2⟩ := Option.bind_eq_some_iff.mp e
    obtain ⟨t, e3, e4⟩ := Option.map_eq_some_iff.mp e2
    subst e4
    obtain ⟨ks, e5, q⟩ := kvs_rel h3 e3
    refine ⟨(j, b) :: ks, ?_, .cons h2 q⟩
    have ea : a = kV j := h1.key e1
    rw [List.map_cons, ← e5, ea]
def tPr (K : PySem.W.Frag) (g : GA) (σ : St) (H : Hp) (Q : List (V × V) → Hp → Prop) : Prop := ∃ F ρ ρ' ds, Sim K F H σ ρ ∧ g ρ = some (ρ', ds) ∧ ∀ F' H' ps, Ste K F H σ ρ F' H' ρ' → RpAll K F' (flatP ps) ds → Q ps H'
structure Prs (X : Cx) (pos : Pos) (keys : List (Option Expr)) (values : List Expr) (g : GA) : Prop where
  all : keys.all (·.isSome) = true
  len : keys.length = values.length
  run : ∃ trs, PPs X pos keys values trs ∧ ∀ σ H Q, tPr X.K g σ H Q → tPairs trs σ H Q
section
variable {X : Cx} {i : Nat} {x : Str} {k v e f : Expr} {pos p apos cpos : Pos} {ks : List (Option Expr)} {vs : List Expr} {ga gc : GD} {gs : GA}
theorem prs_nil : Prs X pos [] [] gNil := ⟨rfl, rfl, [], pps_nil, fun σ H Q ⟨F, ρ, ρ', ds, S, eq, q⟩ => by
  cases eq
  exact q F H [] (Ste.refl S) .nil⟩
theorem prs_cons (hk : PE X k (tD X.K ga)) (hv : PE X v (tD X.K gc)) (h : Prs X pos ks vs gs) : Prs X pos (some k :: ks) (v :: vs) (gCons ga (gCons gc gs)) := by
  obtain ⟨h1, h2, trs, h3, h4⟩ := h
  refine ⟨by rw [List.all_cons, h1]; rfl, by rw [List.length_cons, List.length_cons, h2], _, pps_cons hk hv h3, fun σ H Q ⟨F, ρ, ρ', ds, S, eq, q⟩ => ?_⟩
  obtain ⟨⟨ρ1, a⟩, e1, e2⟩ := Option.bind_eq_some_iff.mp eq
  obtain ⟨⟨ρ2, b⟩, e3, e4⟩ := Option.map_eq_some_iff.mp e2
  cases e4
  obtain ⟨⟨ρ3, c⟩, e5, e6⟩ := Option.bind_eq_some_iff.mp e3
  obtain ⟨⟨ρ4, d⟩, e7, e8⟩ := Option.map_eq_some_iff.mp e6
  cases e8
  refine ⟨F, ρ, ρ1, a, S, e1, fun F1 H1 v1 st1 r1 => ⟨F1, ρ1, ρ3, c, st1.sim, e5, fun F2 H2 v2 st2 r2 => h4 _ _ _ ⟨F2, ρ3, _, d, st2.sim, e7, fun F3 H3 ps st3 r3 => ?_⟩⟩⟩
  exact q F3 H3 ((v1, v2) :: ps) ((st1.trans st2).trans st3) (.cons (Rp.up (st2.go.f.trans st3.go.f) r1) (.cons (Rp.up st3.go.f r2) r3))
/-- {k: v, ..} -/
@[simp] def gDct (gs : GA) : GX := fun ρ => (gs ρ).bind fun a => (kvsOf a.2).bind fun kvs => if decide (kvs.length ≤ 15) then some (a.1, .m (mergeD [] kvs)) else none
theorem de_dct (h : Prs X pos ks vs gs) (h0 : ks ≠ []) (h15 : ks.length ≤ 15) : PE X (.Dict ks vs pos) (tX X.K (gDct gs)) := by
  obtain ⟨h1, h2, trs, h3, h4⟩ := h
  refine PEimp (pe_disp h3 h1 h2 h0 h15) fun σ H Q ⟨F, ρ, ρ', s, S, eq, q⟩ => ?_
  obtain ⟨⟨ρ1, ds⟩, e1, eq⟩ := Option.bind_eq_some_iff.mp eq
  obtain ⟨kvs, e2, eq⟩ := Option.bind_eq_some_iff.mp eq
  split at eq
  · rename_i hz
    cases eq
    intro p hp
    have nw : Nw F H F (upd H p (.dK [])) := Nw.mine S.fz hp
    refine h4 _ _ _ ⟨F, ρ, ρ1, ds, nw.sim S, e1, fun F2 H2 ps st r => ?_⟩
    have no : ¬ Own σ ρ p := fun z => by
      obtain ⟨_, u, hu⟩ := S.own z
      rw [hp] at hu; cases hu
    have at2 : H2 p = some (.dK []) := st.go.k p _ upd_same no
    obtain ⟨kz, ek, kv⟩ := kvs_rel r e2
    refine ⟨at2, kz, ek, by rw [kv.len]; exact of_decide_eq_true hz, ?_⟩
    have f2 : F2 p = none := by
      cases z : F2 p with
      | none => rfl
      | some u =>
        rcases st.go.n p u z with w | w | w
        · rw [S.fz.free hp] at w; cases w
        · rw [upd_same] at w; cases w
        · exact (no w).elim
    have st0 := (nw.ste S).trans st
    have no1 : ∀ q, Own σ ρ1 q → q ≠ p := fun q z e => no (e ▸ st0.sub q z)
    refine q F2 (upd H2 p (.dK (mergeK [] kz))) (.ref p) ⟨⟨st0.go.f, fun a o ha na => ?_, st0.go.n⟩, ⟨same_updR st0.sim.fz f2, st0.sim.len, fun j t ej => ?_, st0.sim.ap⟩, st0.sub⟩ ⟨⟨p, _, rfl, f2, upd_same, kv.merge .nil⟩, fun _ p' e => ?_⟩
    · rw [upd_ne]
      · exact st0.go.k a o ha na
      · intro z; subst z; rw [hp] at ha; cases ha
    · obtain ⟨w, ew, ok⟩ := st0.sim.sl j t ej
      refine ⟨w, ew, ok.nw (Same.refl F2) fun q' o eq' => ⟨(ok.tracked o eq').1, ?_⟩⟩
      rw [upd_ne (no1 q' ⟨j, t, ej, o, by rw [ew, eq']⟩)]
    · cases e
      exact ⟨.inl hp, fun z => no1 p z rfl⟩
  · cases eq
@[simp] def slotM (ρ : Ev) (i : Nat) : Option (List (Key × D)) := match ρ[i]? with
  | some (some (.m kvs)) => some kvs
  | _ => none
theorem slotM_some {K : PySem.W.Frag} {F H : Hp} {σ : St} {ρ : Ev} {i : Nat} {kvs : List (Key × D)} (S : Sim K F H σ ρ) (e : slotM ρ i = some kvs) : ρ[i]? = some (some (.m kvs)) ∧ ∃ p ks, σ[i]? = some (some (.ref p)) ∧ F p = none ∧ H p = some (.dK ks) ∧ KvOk K F ks kvs := by
  unfold slotM at e
  split at e
  · rename_i h
    cases e
    obtain ⟨v, e2, p, ks, rfl, f, h', al⟩ := S.sl i _ h
    exact ⟨h, p, ks, e2, f, h', al⟩
  · cases e
/-- d.get(k, x) -/
@[simp] def gDGet2 (i : Nat) (gk gz : GD) : GD := fun ρ => (slotM ρ i).bind fun _ => (gk ρ).bind fun a => (gz a.1).bind fun b => (slotM b.1 i).bind fun kvs => (keyD a.2).map fun k => (b.1, (valD kvs k).getD b.2)
theorem de_dget2 (hu : X.A.units + 1 < cLine) (he : PE X e (tD X.K ga)) (hf : PE X f (tD X.K gc)) (hN : X.N[i]? = some x) (hvi : Vis X.env.scope x) (hd : (x == ("__debug__" : Str)) = false) (hcd : (x == ("__classdict__" : Str)) = false)
    (m : M2 X (.Name x p) "get" apos e f cpos) : PE X (.Call (.Attribute (.Name x p) "get" apos) [e, f] [] cpos) (tD X.K (gDGet2 i ga gc)) :=
  PEimp (pe_dget2 hu (pe_var hN hvi hd hcd) he hf m) fun σ H Q ⟨F, ρ, ρ', d, S, eq, q⟩ => by
    obtain ⟨k0, e0, eq⟩ := Option.bind_eq_some_iff.mp eq
    obtain ⟨⟨ρ1, a⟩, e1, eq⟩ := Option.bind_eq_some_iff.mp eq
    obtain ⟨⟨ρ2, b⟩, e2, eq⟩ := Option.bind_eq_some_iff.mp eq
    obtain ⟨kvs, e3, eq⟩ := Option.bind_eq_some_iff.mp eq
    obtain ⟨k, e4, e5⟩ := Option.map_eq_some_iff.mp eq
    cases e5
    obtain ⟨_, p, ks, ev, _, hp, _⟩ := slotM_some S e0
    refine ⟨_, ev, p, rfl, .inl ⟨ks, .inl hp⟩, F, ρ, ρ1, a, S, e1, fun F1 H1 v1 st1 r1 => ⟨F1, ρ1, ρ2, b, st1.sim, e2, fun F2 H2 v2 st2 r2 => ?_⟩⟩
    obtain ⟨_, p', ks', ev', _, hp', kv⟩ := slotM_some st2.sim e3
    rw [ev] at ev'; cases ev'
    have r1' := Rp.up st2.go.f r1
    have ek := r1'.key e4
    subst ek
    refine ⟨_, DGet.k hp', ?_⟩
    obtain ⟨y1, y2⟩ := kv.val (k := k)
    cases z : valD kvs k with
    | none =>
      rw [z] at q
      rw [y2 z]
      exact q F2 H2 v2 (st1.trans st2) r2
    | some d =>
      rw [z] at q
      obtain ⟨v, e6, rv⟩ := y1 d z
      rw [e6]
      exact q F2 H2 v (st1.trans st2) rv
/-- d[k] -/
@[simp] def gDIdx (i : Nat) (gk : GD) : GD := fun ρ => (slotM ρ i).bind fun _ => (gk ρ).bind fun a => (slotM a.1 i).bind fun kvs => (keyD a.2).bind fun k => (valD kvs k).map fun d => (a.1, d)
theorem de_dIdx (hu : X.A.units + 1 < cLine) (he : PE X e (tD X.K ga)) (hs : NoSl e) (hN : X.N[i]? = some x) (hvi : Vis X.env.scope x) (hd : (x == ("__debug__" : Str)) = false) (hcd : (x == ("__classdict__" : Str)) = false) :
    PE X (.Subscript (.Name x p) e pos) (tD X.K (gDIdx i ga)) :=
  PEimp (pe_dget hu (pe_var hN hvi hd hcd) he hs) fun σ H Q ⟨F, ρ, ρ', d, S, eq, q⟩ => by
    obtain ⟨k0, e0, eq⟩ := Option.bind_eq_some_iff.mp eq
    obtain ⟨⟨ρ1, a⟩, e1, eq⟩ := Option.bind_eq_some_iff.mp eq
    obtain ⟨kvs, e3, eq⟩ := Option.bind_eq_some_iff.mp eq
    obtain ⟨k, e4, eq⟩ := Option.bind_eq_some_iff.mp eq
    obtain ⟨dd, e5, e6⟩ := Option.map_eq_some_iff.mp eq
    cases e6
    obtain ⟨_, p, ks, ev, _, hp, _⟩ := slotM_some S e0
    refine ⟨_, ev, F, ρ, ρ1, a, S, e1, fun F1 H1 v1 st1 r1 => ?_⟩
    obtain ⟨_, p', ks', ev', _, hp', kv⟩ := slotM_some st1.sim e3
    rw [ev] at ev'; cases ev'
    have ek := r1.key e4
    subst ek
    obtain ⟨v, e7, rv⟩ := (kv.val (k := k)).1 _ e5
    refine ⟨p, v, rfl, ?_, q F1 H1 v st1 rv⟩
    rw [← e7]
    exact DGet.k hp'
end

/-! ### list(range(..)), tuple(range(..)) -/
def rgD (a b : Int) : List D := (List.range (b - a).toNat).map fun (i : Nat) => PyData.int (a + (i : Nat))
theorem rp_rg {K : PySem.W.Frag} {F : Hp} (a b : Int) : RpAll K F (rgV a b) (rgD a b) := by
  unfold rgV rgD
  generalize List.range (b - a).toNat = l
  induction l with
  | nil => exact .nil
  | cons i r ih => exact .cons (.int _) ih
def smallI (i : Int) : Bool := decide (-(2 ^ 20) ≤ i ∧ i ≤ 2 ^ 20)
theorem rg_ok {a b : Int} (h1 : smallI a = true) (h2 : smallI b = true) : RgOk a b := by
  have h1 := of_decide_eq_true h1
  have h2 := of_decide_eq_true h2
  refine ⟨by omega, by omega, by omega, by omega, by omega⟩
abbrev GR := Ev → Option (Ev × Int × Int)
def tR (K : PySem.W.Frag) (g : GR) : St → Hp → (Int → Int → Hp → Prop) → Prop := fun σ H Q => ∃ F ρ ρ' a b, Sim K F H σ ρ ∧ g ρ = some (ρ', a, b) ∧ ∀ F' H', Ste K F H σ ρ F' H' ρ' → Q a b H'
@[simp] def gR1 (ga : GD) : GR := fun ρ => (ga ρ).bind fun a => (intV a.2).map fun i => (a.1, 0, i)
@[simp] def gR2 (ga gc : GD) : GR := fun ρ => (ga ρ).bind fun a => (gc a.1).bind fun b => (intV a.2).bind fun i => (intV b.2).map fun j => (b.1, i, j)
theorem Rp.int_inv {K : PySem.W.Frag} {F : Hp} {v : V} {d : D} {i : Int} (r : Rp K F v d) (e : intV d = some i) : v = .int i := by
  cases r <;> first | (cases e; rfl) | cases e
section
variable {X : Cx} {a b e : Expr} {pos p : Pos} {ga gc : GD} {gr : GR}
def PR (X : Cx) (e : Expr) (g : GR) : Prop := PRg X e (tR X.K g)
theorem dr_1 (hg : Gl X "range") (hm : X.mg "range" = none) (ha : PE X a (tD X.K ga)) (na : starEach [a] X.env = (false, eval a X.env) :: starEach [] X.env) : PR X (.Call (.Name "range" p) [a] [] pos) (gR1 ga) :=
  fun pins s σ H Q I ⟨F, ρ, ρ', i, j, S, eq, q⟩ => prg_1 hg hm ha na pins s σ H Q I (by
    obtain ⟨⟨ρ1, x⟩, e1, eq⟩ := Option.bind_eq_some_iff.mp eq
    obtain ⟨n, e2, e3⟩ := Option.map_eq_some_iff.mp eq
    cases e3
    exact ⟨F, ρ, ρ1, x, S, e1, fun F1 H1 v1 st r => ⟨_, r.int_inv e2, q F1 H1 st⟩⟩)
theorem dr_2 (hg : Gl X "range") (hm : X.mg "range" = none) (ha : PE X a (tD X.K ga)) (hb : PE X b (tD X.K gc)) (na : starEach [a, b] X.env = (false, eval a X.env) :: starEach [b] X.env) (nb : starEach [b] X.env = (false, eval b X.env) :: starEach [] X.env)
    (hp : (backTo pos (starEach [b] X.env)).any (·.1) = false) : PR X (.Call (.Name "range" p) [a, b] [] pos) (gR2 ga gc) :=
  fun pins s σ H Q I ⟨F, ρ, ρ', i, j, S, eq, q⟩ => prg_2 hg hm ha hb na nb hp pins s σ H Q I (by
    obtain ⟨⟨ρ1, x⟩, e1, eq⟩ := Option.bind_eq_some_iff.mp eq
    obtain ⟨⟨ρ2, y⟩, e2, eq⟩ := Option.bind_eq_some_iff.mp eq
    obtain ⟨m, e3, eq⟩ := Option.bind_eq_some_iff.mp eq
    obtain ⟨n, e4, e5⟩ := Option.map_eq_some_iff.mp eq
    cases e5
    exact ⟨F, ρ, ρ1, x, S, e1, fun F1 H1 v1 st1 r1 => ⟨F1, ρ1, ρ2, y, st1.sim, e2, fun F2 H2 v2 st2 r2 => ⟨_, _, r1.int_inv e3, r2.int_inv e4, q F2 H2 (st1.trans st2)⟩⟩⟩)
@[simp] def gLRg (g : GR) : GX := fun ρ => (g ρ).bind fun r => if smallI r.2.1 && smallI r.2.2 then some (r.1, .l (rgD r.2.1 r.2.2)) else none
@[simp] def gTRg (g : GR) : GX := fun ρ => (g ρ).bind fun r => if smallI r.2.1 && smallI r.2.2 then some (r.1, .d (.tuple (rgD r.2.1 r.2.2))) else none
theorem de_listRg (hc : X.calm = true) (hg : Gl X "list") (hm : X.mg "list" = none) (he : PR X e gr) (na : starEach [e] X.env = (false, eval e X.env) :: starEach [] X.env) : PE X (.Call (.Name "list" p) [e] [] pos) (tX X.K (gLRg gr)) :=
  PEimp (pe_listRg hc hg hm he na) fun σ H Q ⟨F, ρ, ρ', s, S, eq, q⟩ => by
    obtain ⟨⟨ρ1, i, j⟩, e1, eq⟩ := Option.bind_eq_some_iff.mp eq
    split at eq
    · rename_i hz
      obtain ⟨z1, z2⟩ := (Bool.and_eq_true _ _).mp hz
      cases eq
      refine ⟨F, ρ, ρ1, i, j, S, e1, fun F1 H1 st => ⟨rg_ok z1 z2, fun l hl => ?_⟩⟩
      have nw : Nw F1 H1 F1 (upd H1 l (.lst (rgV i j))) := Nw.mine st.sim.fz hl
      refine q _ _ _ (st.trans (nw.ste st.sim)) (Rs.res st ⟨⟨l, _, rfl, st.sim.fz.free hl, upd_same, rp_rg i j⟩, fun _ p' e => ?_⟩)
      cases e; exact hl
    · cases eq
/-- tuple(range(..)), its object known -/
theorem pe_tupRgF (hc : X.calm = true) (hg : Gl X "tuple") (hm : X.mg "tuple" = none) {te : St → Hp → (Int → Int → Hp → Prop) → Prop} (he : PRg X e te) (na : starEach [e] X.env = (false, eval e X.env) :: starEach [] X.env) :
    PE X (.Call (.Name "tuple" p) [e] [] pos) (fun σ H Q => te σ H fun i j H1 => RgOk i j ∧ ∀ l o, H1 l = none → o.dict = none → Q (.ref l) (upd H1 l (.frz o (.tup (rgV i j))))) := by
  constructor
  intro pins s σ H Q I h
  refine Call_ (ld_blt I hg hm boot_tuple (PyProof.Rows.callWith_type1 (args_cons (thn (he pins s σ H _ I h) ?_) na) na))
  rintro x s1 ⟨r, i, j, t, u, v, H1, rfl, hr, I1, ⟨b1, b2, b3, b4, b5⟩, q⟩
  apply args_nil
  refine call_tuple_range (n := (j - i).toNat) (I1.ok.hd hc) hr (small_one b1 b2 b3 b4) (rangeSize_nat i j) b5 ?_
  intro h' tk acc hk hi
  have I2 : Inv X pins σ H1 { s1 with heap := h', toks := tk } := I1.kept hk
  have := lay_tup I2 (vals_rg hi) (by rw [rgV_length, sizeLine_eq]; omega) q
  rwa [Array.toArray_toList] at this
theorem de_tupRg (hc : X.calm = true) (hg : Gl X "tuple") (hm : X.mg "tuple" = none) (he : PR X e gr) (na : starEach [e] X.env = (false, eval e X.env) :: starEach [] X.env) : PE X (.Call (.Name "tuple" p) [e] [] pos) (tX X.K (gTRg gr)) :=
  PEimp (pe_tupRgF hc hg hm he na) fun σ H Q ⟨F, ρ, ρ', s, S, eq, q⟩ => by
    obtain ⟨⟨ρ1, i, j⟩, e1, eq⟩ := Option.bind_eq_some_iff.mp eq
    split at eq
    · rename_i hz
      obtain ⟨z1, z2⟩ := (Bool.and_eq_true _ _).mp hz
      cases eq
      refine ⟨F, ρ, ρ1, i, j, S, e1, fun F1 H1 st => ⟨rg_ok z1 z2, fun l o hl ho => ?_⟩⟩
      have nw : Nw F1 H1 (upd F1 l (.frz o (.tup (rgV i j)))) (upd H1 l (.frz o (.tup (rgV i j)))) := Nw.both st.sim.fz hl
      exact q _ _ _ (st.trans (nw.ste st.sim)) ((Rs.data (.tup (.inl ⟨o, upd_same, ho⟩) (rp_rg i j))).res st)
    · cases eq
end
end DL

namespace DL
open PySem PySem.Spec L2
open PyProof.Rows hiding St

/-! ### enumerate(tuple) -/
set_option maxHeartbeats 1000000 in
theorem en1_meets {v : Value} {o : Obj} {C : Heap → Prop} (B : Begins v o C) : Meets (Builtin.«enumerate.__new__» ⟨[.type "enumerate", v], []⟩) (fun _ R s => C s.heap ∧
      R (.ok (.ret (.ref (s.heap.push o).objs.size))) { s with heap := (s.heap.push o).push { cls := .type "enumerate", data := .fields #[.none, .bool false, .ref s.heap.objs.size, rawInt 0, .none, .none] } }) :=
  .of_wp fun prog w A R s hh => by
    obtain ⟨hp, gs, dr, tk, os⟩ := s
    obtain ⟨hc, hr⟩ := hh
    have hsub := sub_enumerate
    have it : ∀ {A' : Around} {E : Value → Shared → Prop} {Q : Value → Shared → Prop}, Q (.ref hp.objs.size) ⟨hp.push o, gs, dr, tk, os⟩ → wpAny (model prog w) A' (pyIter v) Q E ⟨hp, gs, dr, tk, os⟩ := fun q => B.iter prog w _ _ ⟨hp, gs, dr, tk, os⟩ _ hc q
    wp_walk using it
    refine wpAny_stack_any fun st => wpAny_pure ?_
    split
    · rename_i c _ _ _ _ _
      cases (c == Value.type "enumerate") <;> (wp_walk using it; exact ⟨_, rfl, hr⟩)
    · wp_walk using it
      exact ⟨_, rfl, hr⟩
theorem en1_call {prog : Program} {w : World} {A : Around} {E : Value → Shared → Prop} {s : Shared} {v : Value} {o : Obj} {C : Heap → Prop} {Q : Value → Shared → Prop} (B : Begins v o C) (hc : C s.heap)
    (k : ∀ g, IsEnum g (s.heap.objs.size + 1) s.heap.objs.size 0 .none → g.get? s.heap.objs.size = some o → (∀ b u, s.heap.get? b = some u → g.get? b = some u) → Q (.ref (s.heap.objs.size + 1)) { s with heap := g }) :
    wpAny (model prog w) A (call (.type "enumerate") [v]) Q E s := by
  refine callType_new F.called_enumerate (by decide) (F.typeCall_enumerate_1 _) (F.newCall_enumerate_1 _) (fun obj => F.args_object_init_2 obj _) F.entry_enumerate_new (en1_meets B) ⟨hc, ?_⟩
  have sz : (s.heap.push o).objs.size = s.heap.objs.size + 1 := Heap.size_push ..
  have e1 := Heap.get?_push_size (s.heap.push o) (o := { cls := .type "enumerate", data := .fields #[.none, .bool false, .ref s.heap.objs.size, rawInt 0, .none, .none] }) rfl
  rw [sz] at e1
  show _ ∧ _
  rw [sz]
  exact ⟨⟨_, e1, rfl⟩, k _ e1 (Heap.get?_push_of_some _ (Heap.get?_push_size _ B.free)) fun b u z => Heap.get?_push_of_some _ (Heap.get?_push_of_some _ z)⟩
def ItT (K : PySem.W.Frag) (a : Addr) : It :=
  ⟨fun i H => ∃ (ys : List V) (y : V), SqT K H a ys ∧ ys[i]? = some y, fun i H v H' => ∃ T y, v = .ref T ∧ H T = none ∧ H' = upd H T (.tup [.int (i : Nat), y]) ∧ ∀ ys, SqT K H a ys → ys[i]? = some y,
    fun i H => ∃ ys : List V, SqT K H a ys ∧ ys.length ≤ i⟩
theorem tup_apart {h : Heap} {a b : Addr} {its : Array Value} {o : Obj} (t : h.IsTuple a its) (g : h.get? b = some o) (n : o.cls ≠ .type "tuple") : a ≠ b := fun e => by
  obtain ⟨u, hu, hc, _⟩ := t
  rw [e, g] at hu
  cases hu
  exact n hc
/-- the tuple's end, wherever it stands -/
theorem drawsEnd {prog : Program} {w : World} {A : Around} (hh : A.handled = none) (it t : Addr) (i : Nat) (items : Array Value) (hx : items[i]? = none) :
    Draws prog w A it [it, t] i (fun _ _ => True) (fun j h => j = i ∧ h.IsTupleIter it t i ∧ h.IsTuple t items) where
  live := fun _ _ st => by
    obtain ⟨o, ho, _⟩ := st.2.1
    exact ⟨o, ho⟩
  frame := fun _ _ _ st hk => ⟨st.1, st.2.1.at fun o e => hk it (by simp) o e, st.2.2.at fun o e => hk t (by simp) o e⟩
  item := fun j s Q E hj st _ => absurd st.1 (Nat.ne_of_lt hj)
  done := fun s Q E st hE => wpAny_nextOf_tuple_end hh st.2.1 st.2.2 hx hE
theorem turn_enT {P : Program} {w : World} {K : PySem.W.Frag} {elts : List Expr} {kk : Nat} {tpos : Pos} (a e it : Addr) :
    Turn P w K (.Tuple elts kk tpos) (ItT K a) [e, it] e (fun i h => (∃ old, IsEnum h e it ((i : Nat) : Int) old) ∧ h.IsTupleIter it a i ∧ e ≠ it) where
  mem := by simp
  obj := fun i h st b hb => by
    obtain ⟨⟨old, en⟩, ⟨o, ho, hc, hd⟩, _⟩ := st
    rcases (show b = e ∨ b = it by simpa using hb) with rfl | rfl
    · exact ⟨_, en, fun v q => nomatch q⟩
    · exact ⟨o, ho, fun v q => by rw [hd] at q; cases q⟩
  keep := fun i h h' st k => by
    obtain ⟨⟨old, en⟩, ti, ne⟩ := st
    exact ⟨⟨old, k e (by simp) _ en⟩, ti.at fun o q => k it (by simp) o q, ne⟩
  item := by
    intro X hP hw hK hc i pins s σ H E I hf st hg
    subst hP hw hK
    obtain ⟨⟨old, en⟩, ti, ne⟩ := st
    obtain ⟨ys, y, sq, ey⟩ := hg
    obtain ⟨its, rv, tp, _⟩ := I.tuple sq
    have tp : s.heap.IsTuple a its.toArray := tp
    obtain ⟨u, hu, ru⟩ := rv.get ey
    obtain ⟨oi, ho, oc, od⟩ := id ti
    have l1 : e < s.heap.objs.size := Heap.lt_size en
    have l2 : it < s.heap.objs.size := Heap.lt_size ho
    have ai : a ≠ it := tup_apart tp ho (by rw [oc]; decide)
    have ae : a ≠ e := tup_apart tp en (fun z => absurd (Value.type.inj z) (by decide))
    have ii : i < its.toArray.size := by
      have := (List.getElem?_eq_some_iff.mp hu).1
      simpa using this
    refine wpAny_pyNext_enum_itemD (Draws.tuple (A := X.A.in1) (I.ok.hd hc) it a ai its.toArray) en ⟨ti, tp⟩ ii ne (by simp; exact ⟨ne, Ne.symm ae⟩) fun x g tk px eo st' gT _ kp => ?_
    have exu : x = u := by
      have px : its.toArray[i]? = some x := px
      rw [List.getElem?_toArray, hu] at px
      cases px
      rfl
    subst exu
    refine ⟨_, rfl, wpAny_letOwnedTupleGo_enum (s := { s with heap := g, toks := tk + 1 }) eo fun g2 en2 sb => ?_⟩
    have gT2 : g2.get? s.heap.objs.size = some { cls := .type "tuple", data := .seq #[.int i tk, x] } := (sb.2 _ (Nat.ne_of_gt l1)).trans gT
    have fine : ObjOk X.prog X.w (upd H s.heap.objs.size (.tup [.int (i : Nat), y])) g2 s.heap.objs.size (.tup [.int (i : Nat), y]) := ⟨by show 2 ≤ sizeLine; decide, [.int i tk, x], .cons ⟨_, rfl⟩ (.cons ru .nil), ⟨_, gT2, rfl, _, rfl⟩⟩
    have J : Inv X pins σ (upd H s.heap.objs.size (.tup [.int (i : Nat), y])) { s with heap := g2, toks := tk + 1 } :=
      I.turnedNew (ch := [e, it]) (fun b ob hb q => (sb.2 b fun z => hb (by simp [z])).trans (kp b ob (fun z => hb (by simp [z])) (fun z => hb (by simp [z])) q)) hf (Nat.le_refl _) fine
    refine ⟨.ref s.heap.objs.size, _, J, rfl, ⟨_, y, rfl, I.hok.fresh (Nat.le_refl _), rfl, fun zs hz => ?_⟩, ⟨⟨x, ?_⟩, st'.1.at fun o q => (sb.2 it (Ne.symm ne)).trans q, ne⟩, fun b hb => ?_⟩
    · rw [I.tuple_inj hz sq]
      exact ey
    · rw [show ((i + 1 : Nat) : Int) = (i : Int) + 1 by omega]
      exact en2
    · have lb : b < s.heap.objs.size := by
        rcases (show b = e ∨ b = it by simpa using hb) with rfl | rfl
        · exact l1
        · exact l2
      rw [upd_ne (Nat.ne_of_lt lb)]
      exact (hf b hb).1
  done := by
    intro X hP hw hK hc i pins s σ H E I hf st hg
    subst hP hw hK
    obtain ⟨⟨old, en⟩, ti, ne⟩ := st
    obtain ⟨ys, sq, ly⟩ := hg
    obtain ⟨its, rv, tp, _⟩ := I.tuple sq
    have tp : s.heap.IsTuple a its.toArray := tp
    obtain ⟨oi, ho, oc, od⟩ := id ti
    have ai : a ≠ it := tup_apart tp ho (by rw [oc]; decide)
    obtain ⟨f0, f1, f2, f3, f4, f5⟩ := hf it (by simp)
    have ln := rv.length
    have ti' : s.heap.IsTupleIter it a i := ti
    exact wpAny_pyNext_enum_endD (drawsEnd (A := X.A.in1) (I.ok.hd hc) it a i its.toArray (by simp; omega)) en ⟨rfl, ti, tp⟩ fun g eb => ⟨rfl, I.turned (t' := s.toks) (fun b o hb q => eb b o hb q) f0 f1 f3 f4 f5⟩
  self := fun A i s Q E st h => by
    obtain ⟨⟨_, en⟩, _⟩ := st
    exact wpAny_pyIter_enum en h
section
variable {X : Cx} {e : Expr} {ga : GD} {tg : Expr}
theorem pi_enT {ta : TA} {p pos tpos : Pos} {elts : List Expr} {kk : Nat} (hg : Gl X "enumerate") (hm : X.mg "enumerate" = none) (ha : PA X [e] ta) (hs : starEach [e] X.env = [(false, eval e X.env)]) :
    PI X (.Tuple elts kk tpos) (.Call (.Name "enumerate" p) [e] [] pos) (fun σ H R => ta σ H fun vs H1 => ∃ a ys, vs = [.ref a] ∧ SqT X.K H1 a ys ∧ R (ItT X.K a) H1) := by
  constructor
  intro pins s σ H R I hq
  refine Call_ (ld_blt I hg hm boot_enumerate (PyProof.Rows.callWith_type1 (thn (ha.run pos pins s σ H _ I hq) ?_) hs rfl))
  rintro us s1 ⟨vs, H1, I1, r1, a, ys, rfl, sq, q⟩
  obtain ⟨u, rfl, rx⟩ := vals1 r1
  cases rx
  obtain ⟨its, rv, tp, _⟩ := I1.tuple sq
  have tp : s1.heap.IsTuple a its.toArray := tp
  refine en1_call (begins_tuple a its.toArray) tp fun g en gi kp => wpAny_pyIter_enum en ?_
  have I2 : Inv X pins σ H1 { s1 with heap := g } := I1.kept (t' := s1.toks) kp
  refine ⟨s1.heap.objs.size + 1, [s1.heap.objs.size + 1, s1.heap.objs.size], _, _, H1, rfl, I2, turn_enT a (s1.heap.objs.size + 1) s1.heap.objs.size, ⟨⟨.none, en⟩, ⟨_, gi, rfl, rfl⟩, Nat.succ_ne_self _⟩, fun b hb => ?_, q⟩
  have hle : s1.heap.objs.size ≤ b := by
    rcases (show b = s1.heap.objs.size + 1 ∨ b = s1.heap.objs.size by simpa using hb) with z | z
    · rw [z]; exact Nat.le_succ _
    · rw [z]; exact Nat.le_refl _
  exact I1.fpOk hle (I1.hok.fresh hle)
def tupItD : D → Option (List D)
  | .tuple xs => some xs
  | _ => none
/-- enumerate of a list or of a tuple -/
@[simp] def iEnT (g : GD) : GI := fun ρ => (g ρ).bind fun r => (tupItD r.2).map fun xs => (r.1, enumD 0 xs)
theorem di_enT {p pos tpos : Pos} {elts : List Expr} {kk : Nat} (hg : Gl X "enumerate") (hm : X.mg "enumerate" = none) (he : PE X e (tD X.K ga)) (hs : starEach [e] X.env = [(false, eval e X.env)]) :
    PI X (.Tuple elts kk tpos) (.Call (.Name "enumerate" p) [e] [] pos) (tI X.K true (iEnT ga)) :=
  PIimp (pi_enT hg hm (pa_cons he pa_nil hs) hs) fun σ H R ⟨F, ρ, ρ', ds, S, eq, q⟩ => by
    obtain ⟨⟨ρ1, d⟩, e1, eq⟩ := Option.bind_eq_some_iff.mp eq
    obtain ⟨xs, e2, e3⟩ := Option.map_eq_some_iff.mp eq
    cases e3
    refine ⟨F, ρ, ρ1, d, S, e1, fun F1 H1 v st rp => ?_⟩
    dsimp only at e2
    unfold tupItD at e2
    split at e2
    · cases e2
      cases rp with
      | tup h r =>
        rename_i a vs
        have sq : ∀ {H' : Hp}, Same F1 H' → SqT X.K H' a vs := fun z => sqt_up z h.sq
        refine ⟨a, vs, rfl, sq st.sim.fz, q F1 H1 _ st ⟨fun i d F' H' e z up z' => ?_, fun i H' e z => ⟨vs, sq z, by rw [enumD_len] at e; rw [RpAll.len r]; exact e⟩⟩⟩
        obtain ⟨y, ey, rfl⟩ := enumD_get e
        obtain ⟨u, eu, ru⟩ := RpAll.get r ey
        refine ⟨⟨vs, u, sq z, eu⟩, fun w H2 hy => .inl ?_⟩
        obtain ⟨t, x, rfl, hn, rfl, hx⟩ := hy
        have := hx vs (sq z)
        rw [eu] at this
        cases this
        refine ⟨⟨t, _, rfl, hn, rfl, rfl⟩, .inr ⟨t, _, _, rfl, rfl, .inl (.inl upd_same), .cons ?_ (.cons (Rp.up up ru) .nil)⟩⟩
        rw [Nat.zero_add]
        exact .int _
    · cases e2
end
end DL

namespace DL
open PySem PySem.Spec L2
open PyProof.Rows hiding St

/-! ### enumerate of a list or a tuple; len(set(tuple of whole numbers)) -/
def ltD2 : D → Option (List D)
  | .list xs => some xs
  | .tuple xs => some xs
  | _ => none
@[simp] def iEn (g : GD) : GI := fun ρ => (g ρ).bind fun r => (ltD2 r.2).map fun xs => (r.1, enumD 0 xs)
def uniq : List Int → List Int
  | [] => []
  | x :: r => if r.contains x then uniq r else x :: uniq r
theorem mem_uniq {x : Int} : ∀ {l : List Int}, x ∈ uniq l ↔ x ∈ l
  | [] => Iff.rfl
  | y :: r => by
    unfold uniq
    split
    · rename_i h
      rw [mem_uniq, List.mem_cons]
      refine ⟨.inr, fun z => z.elim (fun e => ?_) id⟩
      rw [e]
      exact List.contains_iff_mem.mp h
    · rw [List.mem_cons, List.mem_cons, mem_uniq]
theorem uniq_nodup : ∀ l : List Int, (uniq l).Nodup
  | [] => List.nodup_nil
  | y :: r => by
    unfold uniq
    split
    · exact uniq_nodup r
    · rename_i h
      exact List.nodup_cons.mpr ⟨fun z => h (List.contains_iff_mem.mpr (mem_uniq.mp z)), uniq_nodup r⟩
theorem uniq_self {l : List Int} (h : l.Nodup) : uniq l = l := by
  induction l with
  | nil => rfl
  | cons y r ih =>
    obtain ⟨h1, h2⟩ := List.nodup_cons.mp h
    unfold uniq
    rw [if_neg (fun z => h1 (List.contains_iff_mem.mp z)), ih h2]
theorem uniq_le : ∀ l : List Int, (uniq l).length ≤ l.length
  | [] => Nat.le_refl _
  | y :: r => by
    have := uniq_le r
    unfold uniq
    split
    · rw [List.length_cons]; omega
    · rw [List.length_cons, List.length_cons]; omega
@[simp] def setLenD : D → Option D
  | .tuple xs => (intsOf xs).bind fun ns => if decide (ns.length ≤ 1000) then some (.int ((uniq ns).length : Nat)) else none
  | _ => none
@[simp] def gLset (ga : GD) : GD := fun ρ => (ga ρ).bind fun r => (setLenD r.2).map fun d => (r.1, d)
section
variable {X : Cx} {e : Expr} {ga : GD} {tg : Expr}
theorem di_en {p pos tpos : Pos} {elts : List Expr} {kk : Nat} (hg : Gl X "enumerate") (hm : X.mg "enumerate" = none) (he : PE X e (tD X.K ga)) (hs : starEach [e] X.env = [(false, eval e X.env)]) :
    PI X (.Tuple elts kk tpos) (.Call (.Name "enumerate" p) [e] [] pos) (tI X.K true (iEn ga)) :=
  PIimp (PIor (di_enL hg hm he hs) (di_enT hg hm he hs)) fun σ H R ⟨F, ρ, ρ', ds, S, eq, q⟩ => by
    obtain ⟨⟨ρ1, d⟩, e1, eq⟩ := Option.bind_eq_some_iff.mp eq
    obtain ⟨xs, e2, e3⟩ := Option.map_eq_some_iff.mp eq
    cases e3
    dsimp only at e2
    unfold ltD2 at e2
    split at e2
    · cases e2
      exact .inl ⟨F, ρ, ρ1, _, S, by simp only [iEnL, e1, Option.bind_some, listOfD, Option.map_some], q⟩
    · cases e2
      exact .inr ⟨F, ρ, ρ1, _, S, by simp only [iEnT, e1, Option.bind_some, tupItD, Option.map_some], q⟩
    · cases e2
theorem rp_intsOf {K : PySem.W.Frag} {F : Hp} : ∀ {vs : List V} {ds : List D} {ns : List Int}, RpAll K F vs ds → intsOf ds = some ns → vs = ns.map V.int
  | _, _, _, .nil, h => by cases h; rfl
  | _, _, ns, .cons (d := d) (ds := ds) a r, h => by
    cases a with
    | int i =>
      obtain ⟨t, e1, e2⟩ := Option.map_eq_some_iff.mp (show (intsOf ds).map (fun t => i :: t) = some ns from h)
      subst e2
      rw [rp_intsOf r e1]; rfl
    | _ => cases h
theorem setR_count {w : World} {h : Heap} {a : Addr} {ns : List Int} {c : Nat} (R : SetR w h a (fun j => decide (j ∈ ns)) c) : c = (uniq ns).length := by
  obtain ⟨o, es, ep, t, _, _, _, _, nd, hm, _, _, hn, _⟩ := R
  have := (List.perm_ext_iff_of_nodup nd (uniq_nodup ns)).mpr fun x => by
    rw [mem_uniq, ← hm x]
    exact decide_eq_true_iff
  have := this.length_eq
  rw [List.length_map, Array.length_toList, hn] at this
  exact this
theorem de_lset {p p2 q pos : Pos} (hc : X.calm = true) (hg : Gl X "len") (hm : X.mg "len" = none) (hg2 : Gl X "set") (hm2 : X.mg "set" = none) (ha : PE X e (tD X.K ga)) (na : starEach [e] X.env = (false, eval e X.env) :: starEach [] X.env) :
    PE X (.Call (.Name "len" p) [.Call (.Name "set" p2) [e] [] q] [] pos) (tD X.K (gLset ga)) := by
  constructor
  intro pins s σ H Q I ⟨F, ρ, ρ', d, S, eq, qq⟩
  obtain ⟨⟨ρ1, x⟩, e1, eq⟩ := Option.bind_eq_some_iff.mp eq
  obtain ⟨y, e2, e3⟩ := Option.map_eq_some_iff.mp eq
  cases e3
  refine Call_ (ld_blt I hg hm boot_len (PyProof.Rows.callWith_builtin1 (PyProof.Rows.args_cons ?_ rfl) rfl rfl))
  refine Call_ (ld_blt I hg2 hm2 PyProof.Rows.boot_set ?_)
  refine PyProof.Rows.callWith_type1 (PyProof.Rows.args_cons (thn (ha.run pins s σ H (fun v H1 => ∃ F1, Ste X.K F H σ ρ F1 H1 ρ1 ∧ Rp X.K F1 v x) I ⟨F, ρ, ρ1, x, S, e1, fun F1 H1 v st rp => ⟨F1, st, rp⟩⟩) ?_) na) na rfl
  rintro u s1 ⟨v, H1, I1, rv, F1, st, rp⟩
  refine PyProof.Rows.args_nil ?_
  cases x with
  | tuple xs =>
    obtain ⟨ns, e4, e5⟩ := Option.bind_eq_some_iff.mp e2
    split at e5
    · rename_i hz
      have hz := of_decide_eq_true hz
      cases e5
      cases rp with
      | tup h r =>
        rename_i a vs
        have ev := rp_intsOf r e4
        subst ev
        have eu : u = .ref a := rv
        subst eu
        obtain ⟨its, rl, tp, _⟩ := I1.tuple (sqt_up st.sim.fz h.sq)
        have tp : s1.heap.IsTuple a its.toArray := tp
        refine call_set_tupI ns (I1.ok.hd hc) tp (by simpa using RZ.intsAre_vals rl) (by unfold scanBound; omega) fun g tk c R _ kp => ?_
        have cc := setR_count R
        refine PyProof.Rows.args_nil ?_
        obtain ⟨o, es, ep, t, g1, g2, g3, _, _, _, _, g4, g5, _⟩ := R
        have I2 : Inv X pins σ H1 { s1 with heap := g, toks := tk } := I1.kept kp
        have sz : es.size < 2 ^ 63 := by
          rw [g5, cc]
          have := uniq_le ns
          omega
        refine call_len_set g1 g2 g3 g4 (by omega) ⟨.int ((uniq ns).length : Nat), H1, I2.tok _, ⟨_, by rw [g5, cc]⟩, qq F1 H1 _ st (.int _)⟩
    · cases e5
  | _ => cases e2
end
end DL

namespace DL
open PySem PySem.Spec L2
open PyProof.Rows hiding St

/-! ### xs[::-1] of lists and tuples -/
section
variable {prog : Program} {w : World} {A : Around} {E : Value → Shared → Prop} {s : Shared}
theorem rev_adjust (k : Nat) : Builtin.Slice.sliceAdjust none none (-1) (k : Int) = ((k : Int) - 1, -1) := by
  unfold Builtin.Slice.sliceAdjust
  simp
theorem rev_places (k : Nat) : Builtin.Slice.slicePlaces ((k : Int) - 1) (-1) (-1) = k := by
  unfold Builtin.Slice.slicePlaces
  rw [if_neg (by decide)]
  split
  · rw [show (-(-1) : Int) = 1 by decide, Int.ediv_one]; omega
  · omega
theorem rev_pick (xs : Array Value) : ((List.range xs.size).filterMap fun (m : Nat) => xs[(((xs.size : Int) - 1) + (m : Int) * (-1)).toNat]?).toArray = xs.toList.reverse.toArray := by
  have e : ((List.range xs.size).filterMap fun (m : Nat) => xs[(((xs.size : Int) - 1) + (m : Int) * (-1)).toNat]?) = ((List.range xs.size).map fun k => xs.size - 1 - k).filterMap (xs[·]?) := by
    rw [List.filterMap_map]
    have g : ∀ (l : List Nat), (∀ k ∈ l, k < xs.size) → (l.filterMap fun (m : Nat) => xs[(((xs.size : Int) - 1) + (m : Int) * (-1)).toNat]?) = l.filterMap ((fun x => xs[x]?) ∘ fun k => xs.size - 1 - k) := fun l => by
      induction l with
      | nil => intro _; rfl
      | cons k r ih =>
        intro h
        have hk : (((xs.size : Int) - 1) + (k : Int) * (-1)).toNat = xs.size - 1 - k := by
          have := h k List.mem_cons_self
          omega
        simp only [List.filterMap_cons, Function.comp, hk, ih fun j hj => h j (List.mem_cons_of_mem _ hj)]
    exact g _ fun k hk => List.mem_range.mp hk
  rw [e, PySem.W.krv_range, List.filterMap_reverse, PySem.W.krv_all]
theorem rev_applied {sl : Addr} {vs : Value} {k : Nat} {Q : Int × Int × Nat → Shared → Prop} (hs : s.heap.IsSliceOf sl .none .none vs) (ps : IsPart vs (some (-1)))
    (h : Q ((k : Int) - 1, -1, k) s) : wpAny (model prog w) A (Builtin.Slice.sliceApplied (.ref sl) (pure (k : Int))) Q E s := by
  obtain ⟨os, hos, hcs, hds⟩ := id hs
  unfold Builtin.Slice.sliceApplied Builtin.Slice.sliceFields
  refine wpAny_bind (wpAny_bind (wpAny_field hos hds (x := .none) rfl (wpAny_bind (wpAny_field hos hds (x := .none) rfl (wpAny_bind (wpAny_field hos hds (x := vs) rfl (wpAny_pure ?_)))))))
  refine wpAny_bind (HT.slicePart_ ps ?_)
  show wpAny _ _ (if ((-1 : Int) == 0) = true then _ else _) _ _ s
  rw [if_neg (by decide)]
  refine wpAny_bind (HT.slicePart_ .none (wpAny_bind (HT.slicePart_ .none (wpAny_bind (wpAny_pure ?_)))))
  show wpAny _ _ (match Builtin.Slice.sliceAdjust none none (-1) (k : Int) with | (lo, hi) => pure (lo, (-1 : Int), Builtin.Slice.slicePlaces lo hi (-1))) _ _ s
  rw [rev_adjust]
  show wpAny _ _ (pure ((k : Int) - 1, (-1 : Int), Builtin.Slice.slicePlaces ((k : Int) - 1) (-1) (-1))) _ _ s
  rw [rev_places]
  exact wpAny_pure h
theorem getItem_tuple_rev {t sl : Addr} {its : Array Value} {vs : Value} {Q : Value → Shared → Prop} (ht : IsTup s.heap t its) (hs : s.heap.IsSliceOf sl .none .none vs) (ps : IsPart vs (some (-1)))
    (h : Q (.ref s.heap.objs.size) { s with heap := s.heap.push { cls := .type "tuple", data := .seq its.toList.reverse.toArray } }) (hz : its.size ≤ sizeLine) :
    wpAny (model prog w) A (getItem (.ref t) (.ref sl)) Q E s := by
  have hk : sizeOk (.seq its.toList.reverse.toArray) := by
    show its.toList.reverse.toArray.size ≤ sizeLine
    rw [List.size_toArray, List.length_reverse, Array.length_toList]
    exact hz
  obtain ⟨os, hos, hcs, hds⟩ := id hs
  have hT : s.TypeIs (.ref sl) "slice" := ⟨os, hos, hcs⟩
  unfold getItem
  try with_reducible refine wpAny_holding ?_
  first | refine wpAny_bind (wpAny_pure ?_) | skip
  refine wpAny_bind (wpAny_sequenceKey ht.typeIs (by decide) ?_)
  refine wpAny_bind (wpAny_callSpecial?_slot (name := Str.ofString "__getitem__") ht.typeIs slot_tuple_getitem (wpAny_call_entry slot_tuple_getitem ht.typeIs entry_tuple_getitem ?_ (args_tuple_getitem _ _)))
  show wpAny _ _ (Builtin.Tuple.tupleItemsOf (.ref t) >>= _) _ _ s
  refine wpAny_bind (tupleItemsOf_ ht (wpAny_bind (wpAny_typeOf hT ?_)))
  rw [if_pos (by decide)]
  refine wpAny_bind (rev_applied hs ps ?_)
  have no : ¬ ((((its.size : Int) - 1) == 0 && (-1 : Int) == 1 && its.size == its.size) = true) := by simp
  show wpAny _ _ (if (((its.size : Int) - 1) == 0 && (-1 : Int) == 1 && its.size == its.size) = true then _ else _) _ _ s
  rw [if_neg no, rev_pick]
  first
    | exact wpAny_bind (m := Builtin.Tuple.tupleExact _) (wpAny_newObj_type (wpAny_pure ⟨_, rfl, wpAny_pure h⟩) hk)
    | exact wpAny_bind (wpAny_bind (m := Builtin.Tuple.tupleExact _) (wpAny_newObj_type (wpAny_pure ⟨_, rfl, wpAny_pure h⟩) hk))
    | exact wpAny_bind (m := Builtin.Tuple.tupleExact _) (wpAny_newObj_type (wpAny_bind (wpAny_pure (wpAny_pure ⟨_, rfl, wpAny_pure h⟩))) hk)
    | exact wpAny_bind (wpAny_bind (m := Builtin.Tuple.tupleExact _) (wpAny_newObj_type (wpAny_pure (wpAny_pure ⟨_, rfl, wpAny_pure h⟩)) hk))
end
@[simp] def revD : D → Option Sl
  | .list xs => some (.l xs.reverse)
  | .tuple xs => some (.d (.tuple xs.reverse))
  | _ => none
section
variable {X : Cx}
def rRev (K : PySem.W.Frag) : V → Hp → VK → Prop := fun x H Q => ∃ F a r, Same F H ∧ Rp K F x a ∧ revD a = some r ∧ ∀ F' H' z, Nw F H F' H' → Rs K H F' H' z r → Q z H'
theorem pe_rev {e : Expr} {te : TE} {k : Nat} {q1 q2 q3 pos : Pos} (he : PE X e te) : PE X (.Subscript e (.Slice none none (some (.UnaryOp .USub (.Constant (.int 1) k q1) q2)) q3) pos) (fun σ H Q => te σ H fun x H1 => rRev X.K x H1 Q) := by
  refine ⟨fun pins s σ H Q I h => ?_⟩
  refine Subscript_ (thn (he.run pins s σ H _ I h) fun v s1 ⟨x, H1, I1, r1, w⟩ => ?_)
  obtain ⟨F, d, r, z, rp, er, q⟩ := w
  have hst : PO X (some (.UnaryOp .USub (.Constant (.int 1) k q1) q2)) (tPart (tUn (rU fun i => .int (-i)) (tC (.int 1)))) := po_some (pe_un un_neg pe_int)
  refine wpAny_Slice (thn (po_none.run pins s1 σ H1 (fun o J => o = none ∧ J = H1) I1 ⟨rfl, rfl⟩) fun vl s2 ⟨l, J2, I2, pl, el, e2⟩ => ?_)
  subst el e2
  refine thn (po_none.run pins s2 σ J2 (fun o J => o = none ∧ J = J2) I2 ⟨rfl, rfl⟩) fun vu s3 ⟨u, J3, I3, pu, eu, e3⟩ => ?_
  subst eu e3
  refine thn (hst.run pins s3 σ J3 (fun o J => o = some (-1) ∧ J = J3) I3 ⟨1, rfl, -1, rfl, rfl, rfl⟩) fun vs s4 ⟨o, J4, I4, ps, eo, e4⟩ => ?_
  subst eo e4
  have I5 : Inv X pins σ J4 { s4 with heap := s4.heap.push { cls := .type "slice", data := .fields #[vl, vu, vs] } } := I4.kept (t' := s4.toks) fun b ob q => Heap.get?_push_of_some _ q
  show wpAny (model X.prog X.w) X.A (subscriptTail e (.Slice none none (some (.UnaryOp .USub (.Constant (.int 1) k q1) q2)) q3) v (.ref s4.heap.objs.size)) (EP X pins σ Q) X.xe { s4 with heap := s4.heap.push { cls := .type "slice", data := .fields #[vl, vu, vs] } }
  cases rp with
  | lst h rr =>
    cases er
    cases r1
    have hq : SqL X.K J4 _ _ := .inl (.inl (z _ _ h))
    obtain ⟨its, r, ht, hz⟩ := I5.list hq
    have hlen := r.length
    refine tail_any (ops := [.ref _, .ref s4.heap.objs.size]) ht.isList.typeIs (PySem.slot_list_getitem.lookup) ?_ (by with_unfolding_all rfl)
    refine wpAny_getItem_list_slice ht.isList (Heap.IsSliceOf.new _ vl vu vs) pl pu ps (by decide) ?_ (by rw [List.size_toArray]; omega)
    rw [PySem.W.krv_pick]
    refine ⟨.ref _, _, I5.laid (t' := s4.toks) (o := .lst (List.reverse _)) (fun b ob q => Heap.get?_push_of_some _ q) (Nat.le_refl _) ?_, rfl, fin_lst z q (RpAll.rev rr) (I5.hok.fresh (Nat.le_refl _))⟩
    exact ⟨by rw [List.length_reverse]; exact hz, _, 0, r.reverse, Heap.get?_push_size _ rfl⟩
  | tup h rr =>
    cases er
    cases r1
    cases pl
    cases pu
    obtain ⟨its, r, ht, hz⟩ := I5.tuple (sqt_up z h.sq)
    have hlen := r.length
    refine tail_any (ops := [.ref _, .ref s4.heap.objs.size]) ht.typeIs (PyProof.Rows.slot_tuple_getitem.lookup) ?_ (by with_unfolding_all rfl)
    refine getItem_tuple_rev ht (Heap.IsSliceOf.new _ .none .none vs) ps ?_ (by rw [List.size_toArray]; omega)
    exact lay_tup I5 r.reverse (by rw [List.length_reverse]; exact hz) fun p o hp ho => fin_tup z q (RpAll.rev rr) hp ho
  | _ => cases er
theorem de_rev {e : Expr} {ga : GD} {k : Nat} {q1 q2 q3 pos : Pos} (ha : PE X e (tD X.K ga)) : PE X (.Subscript e (.Slice none none (some (.UnaryOp .USub (.Constant (.int 1) k q1) q2)) q3) pos) (tX X.K (gUn ga revD)) :=
  PEimp (pe_rev ha) fun σ H Q h => un_imp σ H Q h
end
end DL

namespace DL
open PySem PySem.Spec L2
open PyProof.Rows hiding St

/-! ### a, b, .. = x, y, ..: through a pair, where a name is not a plain local one -/
theorem Tm.later {K : PySem.W.Frag} {F H F1 H1 F2 H2 : Hp} {σ : St} {ρ ρ1 ρ2 : Ev} {vs : List V} {ss : List Sl} (a : Ste K F H σ ρ F1 H1 ρ1) (t : Tm K H σ ρ F1 H1 ρ1 vs ss) (b : Ste K F1 H1 σ ρ1 F2 H2 ρ2) : Tm K H σ ρ F2 H2 ρ2 vs ss :=
  ⟨t.len, fun i v s e1 e2 => (t.ok i v s e1 e2).later a b, t.ap⟩
@[simp] def gParN (is : List Nat) (g : GM) : GS := fun ρ => (g ρ).bind fun r => if decide (r.2.length = is.length) && is.all (fun i => decide (i < r.1.length)) then some (putS is r.2 r.1, .nx) else none
theorem put_all {K : PySem.W.Frag} {fx : List Nat} {F H F1 H1 : Hp} {σ0 : St} {ρ0 : Ev} : ∀ (is : List Nat) (vs : List V) (ss : List Sl) (σ : St) (ρ : Ev), Sts K fx F H σ0 ρ0 F1 H1 σ ρ → (∀ i ∈ is, i < ρ.length) → (∀ i ∈ is, i ∉ fx) → vs.length = ss.length → ss.length = is.length →
    (∀ (j : Nat) (v : V) (s : Sl), vs[j]? = some v → ss[j]? = some s → SlOk K F1 H1 v s ∧ (s.own = true → ∀ p, v = .ref p → (Own σ0 ρ0 p ∨ H p = none) ∧ ¬ Own σ ρ p)) →
    (∀ (i j : Nat) (s t : Sl) (p : Addr), ss[i]? = some s → ss[j]? = some t → s.own = true → t.own = true → vs[i]? = some (.ref p) → vs[j]? = some (.ref p) → i = j) → Sts K fx F H σ0 ρ0 F1 H1 (putV is vs σ) (putS is ss ρ)
  | [], vs, ss, σ, ρ, a, _, _, h1, h2, _, _ => by
    have : ss = [] := List.eq_nil_of_length_eq_zero h2
    subst this
    have : vs = [] := List.eq_nil_of_length_eq_zero h1
    subst this
    exact a
  | i :: is, [], ss, σ, ρ, a, _, _, h1, h2, _, _ => by
    rw [← h1] at h2
    cases h2
  | i :: is, v :: vs, [], σ, ρ, a, _, _, h1, h2, _, _ => by cases h1
  | i :: is, v :: vs, s :: ss, σ, ρ, a, hi, hx, h1, h2, ok, ap => by
    have b1 : i < ρ.length := hi i List.mem_cons_self
    have hσ : i < σ.length := by rw [a.sim.len]; exact b1
    obtain ⟨o0, f0⟩ := ok 0 v s rfl rfl
    have s1 := a.put b1 (hx i List.mem_cons_self) o0 f0
    refine put_all is vs ss _ _ s1 (fun j hj => by rw [List.length_set]; exact hi j (List.mem_cons_of_mem _ hj)) (fun j hj => hx j (List.mem_cons_of_mem _ hj)) (by simpa using h1) (by simpa using h2) (fun j w t ew et => ?_) (fun j k t u p e1 e2 o1 o2 q1 q2 => by
      have := ap (j + 1) (k + 1) t u p (by simpa using e1) (by simpa using e2) o1 o2 (by simpa using q1) (by simpa using q2)
      omega)
    obtain ⟨o1, f1⟩ := ok (j + 1) w t (by simpa using ew) (by simpa using et)
    refine ⟨o1, fun o p e => ⟨(f1 o p e).1, fun z => ?_⟩⟩
    rcases z.set hσ b1 with ⟨z1, z2⟩ | z
    · subst e
      have := ap 0 (j + 1) s t p rfl (by simpa using et) z1 o (by rw [List.getElem?_cons_zero, z2]) (by simpa using ew)
      omega
    · exact (f1 o p e).2 z
def gsN : List Nat → TGs
  | [] => L2.gNil
  | i :: r => L2.gCons (gName i) (gsN r)
theorem gsN_of : ∀ (is : List Nat) (vs : List V) (σ : St) (H : Hp) (Q : St → Hp → Prop), vs.length = is.length → Q (putV is vs σ) H → gsN is vs σ H Q
  | [], vs, σ, H, Q, h, q => by
    have : vs = [] := List.eq_nil_of_length_eq_zero h
    subst this
    exact ⟨rfl, q⟩
  | i :: is, [], σ, H, Q, h, q => by cases h
  | i :: is, v :: vs, σ, H, Q, h, q => ⟨v, vs, rfl, gsN_of is vs _ H Q (by simpa using h) q⟩
section
variable {X : Cx} {fx : List Nat} {pos pt pt2 : Pos} {kt k2 : Nat} {ts es : List Expr} {g : GM} {is : List Nat}
theorem ds_parN (hc : X.calm = true) (ha : PA X es (tM X.K g)) (hg : PGs X ts (gsN is)) (hn : (assignEach ts X.env).length = is.length) (hst : (assignEach ts X.env).findIdx? (·.1) = none) (hs : swapsWithSole [.Tuple ts kt pt] (.Tuple es k2 pt2) pos.line X.env = pure false)
    (hw : swappedStores [.Tuple ts kt pt] (.Tuple es k2 pt2) X.env = pure none) (h1 : (assignEach [.Tuple ts kt pt] X.env).map (·.2) = [assign (.Tuple ts kt pt) X.env]) (hz : is.length ≤ 1000) (hx : ∀ i ∈ is, i ∉ fx) :
    PS X (.Assign [.Tuple ts kt pt] (.Tuple es k2 pt2) pos) (tS X.K fx (gParN is g)) :=
  PSimp (ps_asg (pe_tupF ha) (pg_tup hc hg hn hst) hs hw h1) fun D σ H ⟨F, ρ, ρ', fl, S, eq, q⟩ => by
    obtain ⟨⟨ρ1, ss⟩, e1, eq⟩ := Option.bind_eq_some_iff.mp eq
    dsimp only at eq
    split at eq
    · rename_i hb
      obtain ⟨b1, b2⟩ := (Bool.and_eq_true _ _).mp hb
      have b1 := of_decide_eq_true b1
      have b2 : ∀ i ∈ is, i < ρ1.length := fun i hi => of_decide_eq_true (List.all_eq_true.mp b2 i hi)
      cases eq
      refine ⟨F, ρ, ρ1, _, S, e1, fun F1 H1 vs st tm => ⟨?_, fun p o hp ho => ?_⟩⟩
      · rw [tm.len, b1, sizeLine_eq]
        omega
      · have nw : Nw F1 H1 F1 (upd H1 p (.frz o (.tup vs))) := Nw.mine st.sim.fz hp
        have st2 := nw.ste st.sim
        have tm2 := tm.later st st2
        refine ⟨p, vs, rfl, .inl (.inr ⟨o, upd_same⟩), by rw [tm.len, b1], gsN_of is vs σ _ _ (by rw [tm.len, b1]) ?_⟩
        refine q F1 _ _ (put_all is vs ss σ ρ1 (st.trans st2).sts b2 hx tm2.len b1 (fun j v s ev es => ?_) tm2.ap)
        have r := tm2.ok j v s ev es
        exact ⟨r.ok, fun o p e => ⟨(r.fr o p e).1.symm, (r.fr o p e).2⟩⟩
    · cases eq
end
end DL

namespace DL
open PySem PySem.Spec L2
open PyProof.Rows hiding St

/-! ### slices of lists that stay owned -/
@[simp] def gSliV (i : Nat) (gl gh : GO) : GX := fun ρ => ((ρ[i]?).bind id).bind fun _ => (gl ρ).bind fun l => (gh l.1).bind fun h => (slotS h.1 i).map fun xs => (h.1, .l (cutD xs l.2 h.2))
@[simp] def gRevV (i : Nat) : GX := fun ρ => (slotS ρ i).map fun xs => (ρ, .l xs.reverse)
section
variable {X : Cx} {i : Nat} {x : Str} {p pos p2 : Pos} {lo hi : Option Expr} {gl gh : GO}
theorem de_sliV (hl : PO X lo (tO X.K gl)) (hh : PO X hi (tO X.K gh)) (hN : X.N[i]? = some x) (hvi : Vis X.env.scope x) (hd : (x == ("__debug__" : Str)) = false) (hcd : (x == ("__classdict__" : Str)) = false) :
    PE X (.Subscript (.Name x p) (.Slice lo hi none p2) pos) (tX X.K (gSliV i gl gh)) :=
  PEimp (pe_slice sl_list (pe_var hN hvi hd hcd) hl hh) fun σ H Q ⟨F, ρ, ρ', s, S, eq, q⟩ => by
    obtain ⟨_, e0, eq⟩ := Option.bind_eq_some_iff.mp eq
    obtain ⟨⟨ρ2, l⟩, e2, eq⟩ := Option.bind_eq_some_iff.mp eq
    obtain ⟨⟨ρ3, h⟩, e3, eq⟩ := Option.bind_eq_some_iff.mp eq
    obtain ⟨xs, e4, e5⟩ := Option.map_eq_some_iff.mp eq
    cases e5
    obtain ⟨v0, ev0⟩ := S.val e0
    refine ⟨v0, ev0, F, ρ, ρ2, l, S, e2, fun F2 H2 st2 => ⟨F2, ρ2, ρ3, h, st2.sim, e3, fun F3 H3 st3 => ?_⟩⟩
    have st := st2.trans st3
    obtain ⟨a, vs, ev, sq, al⟩ := slotS_some st.sim e4
    rw [ev] at ev0
    cases ev0
    refine ⟨a, vs, rfl, sq, fun l hl => ?_⟩
    exact fin_lst st.sim.fz (fun F4 H4 z nw rs => q F4 H4 z (st.trans (nw.ste st.sim)) (rs.res st)) al.cut hl
theorem de_revV {k : Nat} {q1 q2 q3 : Pos} (hN : X.N[i]? = some x) (hvi : Vis X.env.scope x) (hd : (x == ("__debug__" : Str)) = false) (hcd : (x == ("__classdict__" : Str)) = false) :
    PE X (.Subscript (.Name x p) (.Slice none none (some (.UnaryOp .USub (.Constant (.int 1) k q1) q2)) q3) pos) (tX X.K (gRevV i)) :=
  PEimp (pe_revL (pe_var hN hvi hd hcd)) fun σ H Q ⟨F, ρ, ρ', s, S, eq, q⟩ => by
    obtain ⟨xs, e4, e5⟩ := Option.map_eq_some_iff.mp eq
    cases e5
    obtain ⟨a, vs, ev, sq, al⟩ := slotS_some S e4
    refine ⟨_, ev, a, vs, rfl, sq, fun l hl => ?_⟩
    exact fin_lst S.fz (fun F4 H4 z nw rs => q F4 H4 z (nw.ste S) (rs.res (Ste.refl S))) (RpAll.rev al) hl
end
end DL

namespace DL
open PySem PySem.Spec L2
open PyProof.Rows hiding St

/-! ### is True, is not True -/
@[simp] def isBD : D → D → Option Sl
  | .bool a, .bool b => some (.d (.bool (decide (a = b))))
  | _, _ => none
@[simp] def isnBD : D → D → Option Sl
  | .bool a, .bool b => some (.d (.bool (!decide (a = b))))
  | _, _ => none
section
variable {X : Cx}
theorem o_is : OpR X (compareOp .Is) (rD2 X.K isBD) := by
  refine OpRimp op_is_bl fun x y H Q ⟨F, a, b, r, z, ra, rb, e, q⟩ => ?_
  unfold isBD at e
  split at e
  · cases e; cases ra; cases rb
    exact ⟨_, _, rfl, rfl, fin_same z q (.bl _)⟩
  · cases e
theorem o_isn : OpR X (compareOp .IsNot) (rD2 X.K isnBD) := by
  refine OpRimp op_isnot_bl fun x y H Q ⟨F, a, b, r, z, ra, rb, e, q⟩ => ?_
  unfold isnBD at e
  split at e
  · cases e; cases ra; cases rb
    exact ⟨_, _, rfl, rfl, fin_same z q (.bl _)⟩
  · cases e
end
/-! ### < of tuples of whole numbers -/
@[simp] def ltE : D → D → Option Sl
  | .int i, .int j => some (.d (.bool (decide (i < j))))
  | .str i, .str j => some (.d (.bool (decide (i.cps.toList < j.cps.toList))))
  | .tuple xs, .tuple ys => (intsOf xs).bind fun a => (intsOf ys).map fun b => .d (.bool (HT.lexLt a b))
  | _, _ => none
section
variable {X : Cx}
theorem o_ltE (hu : X.A.units + 150 < cLine) : OpR X (compareOp .Lt) (rD2 X.K ltE) := by
  refine OpRimp (OpRor (OpRor op_lt op_lt_str) (op_ltT (by omega))) fun x y H Q ⟨F, a, b, r, z, ra, rb, e, q⟩ => ?_
  unfold ltE at e
  split at e
  · cases e; cases ra; cases rb
    exact .inl (.inl ⟨_, _, rfl, rfl, fin_same z q (.bl _)⟩)
  · cases e; cases ra; cases rb
    exact .inl (.inr ⟨_, _, rfl, rfl, fin_same z q (.bl _)⟩)
  · obtain ⟨ns, e1, e⟩ := Option.bind_eq_some_iff.mp e
    obtain ⟨ms, e2, e⟩ := Option.map_eq_some_iff.mp e
    cases e
    cases ra with
    | tup h1 r1 =>
      cases rb with
      | tup h2 r2 =>
        have v1 := rp_intsOf r1 e1
        have v2 := rp_intsOf r2 e2
        subst v1 v2
        exact .inr ⟨_, _, ns, ms, rfl, rfl, sqt_up z h1.sq, sqt_up z h2.sq, fin_same z q (.bl _)⟩
  · cases e
end
end DL

namespace DL
open PySem PySem.Spec L2
open PyProof.Rows hiding St

/-! ### the small language: names are slots -/
/-- builtin functions over data -/
inductive B where
  | len | tuple | list | max | min | abs | int | str | sum | all | any | sorted | repr
  deriving DecidableEq
/-- methods of data -/
inductive M where
  | index | count | join
  deriving DecidableEq
@[simp] def bF : B → List D → Option Sl
  | .len => lenD
  | .tuple => tupleD
  | .list => listD
  | .max => maxD
  | .min => minD
  | .abs => absD
  | .int => intD
  | .str => strD
  | .sum => sumD
  | .all => allD
  | .any => anyD
  | .sorted => sortedD
  | .repr => reprD
@[simp] def mF : M → D → List D → Option Sl
  | .index => idxOfD
  | .count => countD
  | .join => joinD
@[simp] def oF : Operator → D → D → Option Sl
  | .Add => addD
  | .Sub => subD
  | .Mult => mulD
  | .FloorDiv => fdivD
  | .Mod => modD
  | .Pow => powD
  | _ => fun _ _ => none
@[simp] def cF : CmpOp → D → D → Option Sl
  | .Eq => eqD
  | .NotEq => neD
  | .Lt => ltE
  | .LtE => leD
  | .Gt => gtD
  | .GtE => geD
  | .In => inD
  | .NotIn => notInD
  | .Is => isBD
  | .IsNot => isnBD
mutual
inductive E where
  | var (i : Nat)
  | mv (i : Nat)
  | cst (d : D)
  | glb (k : Nat)
  | bin (o : Operator) (a b : E)
  | cmp (o : CmpOp) (a b : E)
  | cmpR (o : CmpOp) (a : E) (i : Nat)
  | cmpL (o : CmpOp) (i : Nat) (b : E)
  | isN (a : E)
  | notN (a : E)
  | chn (o1 o2 : CmpOp) (a b c : E)
  | and (a b : E)
  | or (a b : E)
  | not (a : E)
  | ite (c a b : E)
  | neg (a : E)
  | tup (es : Es)
  | lst (es : Es)
  | idx (a b : E)
  | idxV (i : Nat) (b : E)
  | sli (a : E) (lo hi : Oe)
  | call (f : Nat) (as : As)
  | blt (b : B) (es : Es)
  | bor (b : B) (i : Nat)
  | lenV (i : Nat)
  | tupV (i : Nat)
  | listV (i : Nat)
  | isa (a : E) (t : String)
  | meth (m : M) (a : E) (es : Es)
  | app (i : Nat) (a : E)
  | ext (i : Nat) (a : E)
  | pop (i : Nat)
  | popAt (i : Nat) (a : E)
  | lc (vs : List Nat) (s : Src) (t : T) (c : Oe) (el : E)
  | dct (es : Es)
  | dget (i : Nat) (k z : E)
  | dIdx (i : Nat) (k : E)
  | lRg (s : Src)
  | tRg (s : Src)
  | lset (a : E)
  | rev (a : E)
  | sliV (i : Nat) (lo hi : Oe)
  | revV (i : Nat)
inductive Es where
  | nil
  | cons (a : E) (r : Es)
inductive As where
  | nil
  | d (a : E) (r : As)
  | s (i : Nat) (r : As)
inductive Oe where
  | no
  | so (a : E)
inductive Src where
  | seq (a : E)
  | rng (a : E)
  | rg2 (a b : E)
  | enL (a : E)
  | zp (a b : E)
end
mutual
inductive Tg where
  | n (i : Nat)
  | ix (i : Nat) (a : E)
  | fr (i : Nat) (a : E)
  | t (n : Nat) (ts : Tgs)
inductive Tgs where
  | nil
  | cons (t : Tg) (r : Tgs)
end
mutual
inductive S where
  | pass
  | brk
  | cont
  | never
  | expr (a : E)
  | ret (a : E)
  | retN
  | ite (c : E) (a b : Ss)
  | set (i : Nat) (k : Bool) (a : E)
  | par2 (i j : Nat) (k1 k2 : Bool) (a b : E)
  | par3 (i j l : Nat) (k1 k2 k3 : Bool) (a b c : E)
  | parN (is : List Nat) (ks : List Bool) (es : Es)
  | unp (t : T) (a : E)
  | asg (t : Tg) (a : E)
  | whl (n : Nat) (c : E) (b : Ss)
  | for (s : Src) (t : T) (b : Ss)
inductive Ss where
  | nil
  | cons (a : S) (r : Ss)
end
/-- a value, and a test -/
structure R where
  x : GX
  b : GB
@[simp] def rX (x : GX) : R := ⟨x, gb (gd x)⟩
section
variable (cl : Nat → List Sl → Option (List Sl × Sl)) (gl : Nat → Option D)
mutual
@[simp] def ev : E → R
  | .var i => rX (gx (gVar i))
  | .mv i => rX (gMv i)
  | .cst d => rX (fun ρ => some (ρ, .d d))
  | .glb k => rX (fun ρ => (gl k).map fun d => (ρ, .d d))
  | .bin o a b => rX (gOp (gd (ev a).x) (gd (ev b).x) (oF o))
  | .cmp o a b => rX (gOp (gd (ev a).x) (gd (ev b).x) (cF o))
  | .cmpR o a i => rX (gx (gBorR (gd (ev a).x) i (cF o)))
  | .cmpL o i b => rX (gx (gBorL i (gd (ev b).x) (cF o)))
  | .isN a => rX (gx (gIsN (gd (ev a).x)))
  | .notN a => rX (gx (gNotN (gd (ev a).x)))
  | .chn o1 o2 a b c => rX (gx (gChain (cF o1) (cF o2) (gd (ev a).x) (gd (ev b).x) (gd (ev c).x)))
  | .and a b => ⟨gx (gAndV (gd (ev a).x) (gd (ev b).x)), gAndB (ev a).b (ev b).b⟩
  | .or a b => ⟨gx (gOrV (gd (ev a).x) (gd (ev b).x)), gOrB (ev a).b (ev b).b⟩
  | .not a => ⟨gx (gNotV (gd (ev a).x)), gNotB (ev a).b⟩
  | .ite c a b => ⟨gIf (ev c).b (ev a).x (ev b).x, gIfB (ev c).b (ev a).b (ev b).b⟩
  | .neg a => rX (gUn (gd (ev a).x) negD)
  | .tup es => rX (gFn (evA es) tupD)
  | .lst es => rX (gFn (evA es) lstD)
  | .idx a b => rX (gOp (gd (ev a).x) (gd (ev b).x) idxD)
  | .idxV i b => rX (gx (gIdxV i (gd (ev b).x)))
  | .sli a lo hi => rX (gSlice (gd (ev a).x) (evO lo) (evO hi))
  | .call f as => rX (gCall (cl f) (evR as))
  | .blt b es => rX (gFn (evA es) (bF b))
  | .bor b i => rX (gx (gBor i (bF b)))
  | .lenV i => rX (gx (gLenV i))
  | .tupV i => rX (gx (gTupV i))
  | .listV i => rX (gListV i)
  | .isa a t => rX (gx (gIsa (gd (ev a).x) t))
  | .meth m a es => rX (gMeth (gd (ev a).x) (evA es) (mF m))
  | .app i a => rX (gx (gApp i (gd (ev a).x)))
  | .ext i a => rX (gx (gExt i (gd (ev a).x)))
  | .pop i => rX (gx (gPop i))
  | .popAt i a => rX (gx (gPopAt i (gd (ev a).x)))
  | .lc vs s t c el => rX (gLc vs (evI s) (gT t) (evC c) (gd (ev el).x))
  | .dct es => rX (gDct (evA es))
  | .dget i k z => rX (gx (gDGet2 i (gd (ev k).x) (gd (ev z).x)))
  | .dIdx i k => rX (gx (gDIdx i (gd (ev k).x)))
  | .lRg s => rX (gLRg (evRg s))
  | .tRg s => rX (gTRg (evRg s))
  | .lset a => rX (gx (gLset (gd (ev a).x)))
  | .rev a => rX (gUn (gd (ev a).x) revD)
  | .sliV i lo hi => rX (gSliV i (evO lo) (evO hi))
  | .revV i => rX (gRevV i)
@[simp] def evA : Es → GA
  | .nil => gNil
  | .cons a r => gCons (gd (ev a).x) (evA r)
@[simp] def evR : As → List Ar
  | .nil => []
  | .d a r => .d (gd (ev a).x) :: evR r
  | .s i r => .s i :: evR r
@[simp] def evO : Oe → GO
  | .no => gNo
  | .so a => gSome (gd (ev a).x)
@[simp] def evC : Oe → GB
  | .no => gYes
  | .so a => (ev a).b
@[simp] def evI : Src → GI
  | .seq a => iSeq (gd (ev a).x)
  | .rng a => iRng (gd (ev a).x)
  | .rg2 a b => iRg2 (gd (ev a).x) (gd (ev b).x)
  | .enL a => iEn (gd (ev a).x)
  | .zp a b => iZp (gd (ev a).x) (gd (ev b).x)
@[simp] def evRg : Src → GR
  | .rng a => gR1 (gd (ev a).x)
  | .rg2 a b => gR2 (gd (ev a).x) (gd (ev b).x)
  | _ => fun _ => none
end
@[simp] abbrev evX (a : E) : GX := (ev cl gl a).x
@[simp] abbrev evB (a : E) : GB := (ev cl gl a).b
@[simp] def evM : List Bool → Es → GM
  | k :: ks, .cons a r => gmCons (evX cl gl a) k (evM ks r)
  | [], .nil => gmNil
  | _, _ => fun _ => none
mutual
@[simp] def evG : Tg → FT
  | .n i => gT (.n i)
  | .ix i a => ftIdx i (gd (evX cl gl a))
  | .fr i a => ftFrom i (gd (evX cl gl a))
  | .t n ts => ftTup n (evGs ts)
@[simp] def evGs : Tgs → FTs
  | .nil => ftNil
  | .cons t r => ftCons (evG t) (evGs r)
end
mutual
@[simp] def evS : S → GS
  | .pass => gSkip
  | .brk => fun ρ => some (ρ, .bk)
  | .cont => fun ρ => some (ρ, .ct)
  | .never => fun _ => none
  | .expr a => gDrop (evX cl gl a)
  | .ret a => gRet (evX cl gl a)
  | .retN => gRetN
  | .ite c a b => gIfS (evB cl gl c) (evSs a) (evSs b)
  | .set i k a => gSet i k (evX cl gl a)
  | .par2 i j k1 k2 a b => gPar2 i j (gmCons (evX cl gl a) k1 (gmCons (evX cl gl b) k2 gmNil))
  | .par3 i j l k1 k2 k3 a b c => gPar3 i j l (gmCons (evX cl gl a) k1 (gmCons (evX cl gl b) k2 (gmCons (evX cl gl c) k3 gmNil)))
  | .parN is ks es => gParN is (evM cl gl ks es)
  | .unp t a => gAsg t (gd (evX cl gl a))
  | .asg t a => gAsg2 (evG cl gl t) (gd (evX cl gl a))
  | .whl n c b => whileF (evB cl gl c) (evSs b) n
  | .for s t b => gFor (evI cl gl s) (gT t) (evSs b)
@[simp] def evSs : Ss → GS
  | .nil => gSkip
  | .cons a r => gSeq (evS a) (evSs r)
end
end
/-- a def: how many parameters, which of them are handed over (and back), how many slots, the body -/
structure Fn where
  ps : Nat
  fx : List Nat
  ns : Nat
  body : Ss
@[simp] def collect (fx : List Nat) (ρ : Ev) : Nat → List Sl → Option (List Sl)
  | _, [] => some []
  | k, s :: r => (if s.own then if fx.contains k then (ρ[k]?).bind id else none else some s).bind fun t => (collect fx ρ (k + 1) r).map fun u => t :: u
@[simp] def runB (f : Fn) (g : GS) : List Sl → Option (List Sl × Sl) := fun ss => if ss.length = f.ps then (g (ss.map some ++ List.replicate (f.ns - f.ps) none)).bind fun t => match t.2 with
  | .rt s => (collect f.fx t.1 0 ss).map fun ss' => (ss', s)
  | .nx => (collect f.fx t.1 0 ss).map fun ss' => (ss', .d .none)
  | _ => none
  else none
/-- the defs by number -/
def run (fs : Nat → Option Fn) (gl : Nat → Option D) : Nat → Nat → List Sl → Option (List Sl × Sl)
  | 0, _, _ => none
  | n + 1, f, ss => (fs f).bind fun d => runB d (evSs (run fs gl n) gl d.body) ss
end DL

namespace DL
open PySem PySem.Spec L2
open PyProof.Rows hiding St

/-! ### is this term of the small language that text? -/
structure Nm where
  fns : List (Nat × (Str × Nat))
  gls : List (Nat × Str)
  bs : List Str
def dbg : Str := "__debug__"
def cdc : Str := "__classdict__"
def notDbg (x : Str) : Bool := !(x == ("__debug__" : Str)) && !(x == ("__classdict__" : Str))
def visB (sc : Scope) (x : Str) : Bool := match sc.names.lookup x with
  | some .local => true
  | some .cell => true
  | some .free => true
  | _ => false
def nmB (N : List Str) (sc : Scope) (i : Nat) (x : Str) : Bool := decide (N[i]? = some x) && visB sc x && notDbg x
def gloB (sc : Scope) (x : Str) : Bool := decide (sc.names.lookup x = some .globalImplicit) && notDbg x
def stB (N : List Str) (ss : Scope) (i : Nat) (x : Str) : Bool := decide (N[i]? = some x) && (match ss.names.lookup x with
  | some .local => true
  | some .cell => true
  | _ => false)
def nst : Expr → Bool
  | .Starred _ _ => false
  | _ => true
def nsl : Expr → Bool
  | .Slice _ _ _ _ => false
  | _ => true
def nset : Expr → Bool
  | .Set _ _ _ => false
  | _ => true
def plT : Expr → Bool
  | .UnaryOp .Not _ _ => false
  | .BoolOp _ _ _ => false
  | .IfExp _ _ _ _ => false
  | .Compare _ _ _ _ => false
  | _ => true
def isCmp : Expr → Bool
  | .Compare _ _ _ _ => true
  | _ => false
def noComp : Expr → Bool
  | .ListComp _ _ _ _ => false
  | .SetComp _ _ _ _ => false
  | .DictComp _ _ _ _ _ => false
  | _ => true
def noCall0 : Expr → Bool
  | .Call _ [] _ _ => false
  | _ => true
def cstB : Const → D → Bool
  | .none, .none => true
  | .bool a, .bool b => decide (a = b)
  | .int a, .int b => decide (a = b)
  | .str a, .str b => decide (a = b)
  | _, _ => false
def oOk : Operator → Bool
  | .Add => true
  | .Sub => true
  | .Mult => true
  | .FloorDiv => true
  | .Mod => true
  | .Pow => true
  | _ => false
def cOk : CmpOp → Bool
  | _ => true
def bNm : B → Str
  | .len => "len"
  | .tuple => "tuple"
  | .list => "list"
  | .max => "max"
  | .min => "min"
  | .abs => "abs"
  | .int => "int"
  | .str => "str"
  | .sum => "sum"
  | .all => "all"
  | .any => "any"
  | .sorted => "sorted"
  | .repr => "repr"
def mNm : M → Str
  | .index => "index"
  | .count => "count"
  | .join => "join"
def rawS : Src → Bool
  | .seq _ => false
  | .rng _ => false
  | .rg2 _ _ => false
  | .enL _ => true
  | .zp _ _ => true
def isRg : Src → Bool
  | .rng _ => true
  | .rg2 _ _ => true
  | _ => false
def isTup : Expr → Bool
  | .Tuple _ _ _ => true
  | _ => false
section
variable (n : Nm) (N : List Str)
mutual
def chkT (ss : Scope) (fx : List Nat) : T → Expr → Bool
  | .n i, .Name x _ => stB N ss i x && !fx.contains i
  | .t ts, .Tuple es _ _ => chkTs ss fx ts es
  | _, _ => false
def chkTs (ss : Scope) (fx : List Nat) : Ts → List Expr → Bool
  | .nil, [] => true
  | .cons t r, e :: es => nst e && chkT ss fx t e && chkTs ss fx r es
  | _, _ => false
end
/-- what is looked at: an expression, or the rest of a chain of and, or -/
inductive Qy where
  | e (x : Expr)
  | a (es : List Expr)
  | o (es : List Expr)
def tlA : List Expr → Qy
  | [x] => .e x
  | es => .a es
def tlO : List Expr → Qy
  | [x] => .e x
  | es => .o es
mutual
def ck : E → Scope → Qy → Bool
  | .var i, sc, q => (match q with | .e (.Name x _) => nmB N sc i x | _ => false)
  | .mv i, sc, q => (match q with | .e (.Name x _) => nmB N sc i x | _ => false)
  | .cst d, _, q => (match q with | .e (.Constant c _ _) => cstB c d | _ => false)
  | .glb k, sc, q => (match q with | .e (.Name x _) => gloB sc x && decide (n.gls.lookup k = some x) | _ => false)
  | .bin o a b, sc, q => (match q with | .e (.BinOp l op r _) => decide (o = op) && oOk o && ck a sc (.e l) && ck b sc (.e r) | _ => false)
  | .cmp o a b, sc, q => (match q with | .e (.Compare l [op] [r] _) => decide (o = op) && cOk o && !behindInMarks op r && ck a sc (.e l) && ck b sc (.e r) | _ => false)
  | .cmpR o a i, sc, q => (match q with | .e (.Compare l [op] [.Name x _] _) => decide (o = op) && cOk o && ck a sc (.e l) && nmB N sc i x | _ => false)
  | .cmpL o i b, sc, q => (match q with | .e (.Compare (.Name x _) [op] [r] _) => decide (o = op) && cOk o && !behindInMarks op r && nmB N sc i x && ck b sc (.e r) | _ => false)
  | .isN a, sc, q => (match q with | .e (.Compare l [.Is] [.Constant .none _ _] _) => ck a sc (.e l) | _ => false)
  | .notN a, sc, q => (match q with | .e (.Compare l [.IsNot] [.Constant .none _ _] _) => ck a sc (.e l) | _ => false)
  | .chn o1 o2 a b c, sc, q => (match q with | .e (.Compare l [p1, p2] [m, r] _) => decide (o1 = p1) && decide (o2 = p2) && cOk o1 && cOk o2 && !lastMarks [p1, p2] [m, r] && ck a sc (.e l) && ck b sc (.e m) && ck c sc (.e r) | _ => false)
  | .and a b, sc, q => (match q with
    | .e (.BoolOp .And (l :: r :: rest) _) => ck a sc (.e l) && ck b sc (tlA (r :: rest))
    | .a (l :: r :: rest) => ck a sc (.e l) && ck b sc (tlA (r :: rest))
    | _ => false)
  | .or a b, sc, q => (match q with
    | .e (.BoolOp .Or (l :: r :: rest) _) => ck a sc (.e l) && ck b sc (tlO (r :: rest))
    | .o (l :: r :: rest) => ck a sc (.e l) && ck b sc (tlO (r :: rest))
    | _ => false)
  | .not a, sc, q => (match q with | .e (.UnaryOp .Not x _) => ck a sc (.e x) | _ => false)
  | .ite c a b, sc, q => (match q with | .e (.IfExp t x y _) => ck c sc (.e t) && ck a sc (.e x) && ck b sc (.e y) | _ => false)
  | .neg a, sc, q => (match q with | .e (.UnaryOp .USub x _) => ck a sc (.e x) | _ => false)
  | .tup es, sc, q => (match q with | .e (.Tuple xs _ _) => chkA es sc xs | _ => false)
  | .lst es, sc, q => (match q with | .e (.List xs _) => chkA es sc xs | _ => false)
  | .idx a b, sc, q => (match q with | .e (.Subscript x y _) => nsl y && ck a sc (.e x) && ck b sc (.e y) | _ => false)
  | .idxV i b, sc, q => (match q with | .e (.Subscript (.Name x _) y _) => nsl y && nmB N sc i x && ck b sc (.e y) | _ => false)
  | .rev a, sc, q => (match q with | .e (.Subscript x (.Slice none none (some (.UnaryOp .USub (.Constant (.int 1) _ _) _)) _) _) => ck a sc (.e x) | _ => false)
  | .sliV i lo hi, sc, q => (match q with | .e (.Subscript (.Name x _) (.Slice l h none _) _) => nmB N sc i x && chkO lo sc l && chkO hi sc h | _ => false)
  | .revV i, sc, q => (match q with | .e (.Subscript (.Name x _) (.Slice none none (some (.UnaryOp .USub (.Constant (.int 1) _ _) _)) _) _) => nmB N sc i x | _ => false)
  | .sli a lo hi, sc, q => (match q with | .e (.Subscript x (.Slice l h none _) _) => ck a sc (.e x) && chkO lo sc l && chkO hi sc h | _ => false)
  | .call f as, sc, q => (match q with | .e (.Call (.Name x _) args [] _) => gloB sc x && decide (n.fns.lookup f = some (x, args.length)) && chkR as sc args | _ => false)
  | .blt b es, sc, q => (match q with | .e (.Call (.Name x _) args [] _) => gloB sc x && decide (x = bNm b) && n.bs.contains x && !args.isEmpty && chkA es sc args | _ => false)
  | .bor b i, sc, q => (match q with | .e (.Call (.Name x _) [.Name y _] [] _) => gloB sc x && decide (x = bNm b) && n.bs.contains x && nmB N sc i y | _ => false)
  | .lenV i, sc, q => (match q with | .e (.Call (.Name x _) [.Name y _] [] _) => gloB sc x && decide (x = ("len" : Str)) && n.bs.contains x && nmB N sc i y | _ => false)
  | .tupV i, sc, q => (match q with | .e (.Call (.Name x _) [.Name y _] [] _) => gloB sc x && decide (x = ("tuple" : Str)) && n.bs.contains x && nmB N sc i y | _ => false)
  | .listV i, sc, q => (match q with | .e (.Call (.Name x _) [.Name y _] [] _) => gloB sc x && decide (x = ("list" : Str)) && n.bs.contains x && nmB N sc i y | _ => false)
  | .isa a t, sc, q => (match q with | .e (.Call (.Name f _) [x, .Name c _] [] _) => gloB sc f && decide (f = ("isinstance" : Str)) && n.bs.contains f && gloB sc c && n.bs.contains c && decide (c = Str.ofString t) && decide (t = "int" ∨ t = "bool" ∨ t = "str" ∨ t = "tuple" ∨ t = "list") && nst x && ck a sc (.e x) | _ => false)
  | .meth m a es, sc, q => (match q with | .e (.Call (.Attribute o nme apos) args [] cpos) => decide (nme = mNm m) && noCall0 o && decide (apos.endLine = cpos.line) && !args.isEmpty && decide (args.length < 20) && ck a sc (.e o) && chkA es sc args | _ => false)
  | .app i a, sc, q => (match q with | .e (.Call (.Attribute (.Name x _) nme apos) [e] [] cpos) => decide (nme = ("append" : Str)) && decide (apos.endLine = cpos.line) && nst e && nmB N sc i x && ck a sc (.e e) | _ => false)
  | .ext i a, sc, q => (match q with | .e (.Call (.Attribute (.Name x _) nme apos) [e] [] cpos) => decide (nme = ("extend" : Str)) && decide (apos.endLine = cpos.line) && nst e && nmB N sc i x && ck a sc (.e e) | _ => false)
  | .pop i, sc, q => (match q with | .e (.Call (.Attribute (.Name x _) nme apos) [] [] cpos) => decide (nme = ("pop" : Str)) && decide (apos.endLine = cpos.line) && nmB N sc i x | _ => false)
  | .popAt i a, sc, q => (match q with | .e (.Call (.Attribute (.Name x _) nme apos) [e] [] cpos) => decide (nme = ("pop" : Str)) && decide (apos.endLine = cpos.line) && nst e && nmB N sc i x && ck a sc (.e e) | _ => false)
  | .lc vs s t c el, sc, q => (match q with | .e (.ListComp elt [⟨tg, iter, ifs, 0⟩] scope _) => (vs.all fun i => decide (i < N.length)) && blkC N sc scope (vs.map fun i => (N.getD i dbg, i)) && nset iter && chkI s sc iter && (!rawS s || isTup tg) && chkT N scope (others N.length vs) t tg && chkC c (relS scope sc) ifs && ck el (relS scope sc) (.e elt) | _ => false)
  | .dct es, sc, q => (match q with | .e (.Dict ks vs _) => !ks.isEmpty && decide (ks.length ≤ 15) && chkD es sc ks vs | _ => false)
  | .dget i k z, sc, q => (match q with | .e (.Call (.Attribute (.Name x _) nme apos) [e, f] [] cpos) => decide (nme = ("get" : Str)) && decide (apos.endLine = cpos.line) && nst e && nst f && nmB N sc i x && ck k sc (.e e) && ck z sc (.e f) | _ => false)
  | .dIdx i k, sc, q => (match q with | .e (.Subscript (.Name x _) y _) => nsl y && nmB N sc i x && ck k sc (.e y) | _ => false)
  | .lRg s, sc, q => (match q with | .e (.Call (.Name x _) [e] [] _) => gloB sc x && decide (x = ("list" : Str)) && n.bs.contains x && nst e && isRg s && chkI s sc e | _ => false)
  | .tRg s, sc, q => (match q with | .e (.Call (.Name x _) [e] [] _) => gloB sc x && decide (x = ("tuple" : Str)) && n.bs.contains x && nst e && isRg s && chkI s sc e | _ => false)
  | .lset a, sc, q => (match q with | .e (.Call (.Name x _) [.Call (.Name y _) [e] [] _] [] _) => gloB sc x && decide (x = ("len" : Str)) && n.bs.contains x && gloB sc y && decide (y = ("set" : Str)) && n.bs.contains y && nst e && ck a sc (.e e) | _ => false)
def chkD : Es → Scope → List (Option Expr) → List Expr → Bool
  | .nil, _, [], [] => true
  | .cons k (.cons v r), sc, some ke :: ks, ve :: vs => ck k sc (.e ke) && ck v sc (.e ve) && chkD r sc ks vs
  | _, _, _, _ => false
def chkA : Es → Scope → List Expr → Bool
  | .nil, _, [] => true
  | .cons a r, sc, e :: es => nst e && ck a sc (.e e) && chkA r sc es
  | _, _, _ => false
def chkR : As → Scope → List Expr → Bool
  | .nil, _, [] => true
  | .d a r, sc, e :: es => nst e && ck a sc (.e e) && chkR r sc es
  | .s i r, sc, .Name x _ :: es => nmB N sc i x && chkR r sc es
  | _, _, _ => false
def chkO : Oe → Scope → Option Expr → Bool
  | .no, _, none => true
  | .so a, sc, some e => ck a sc (.e e)
  | _, _, _ => false
def chkC : Oe → Scope → List Expr → Bool
  | .no, _, [] => true
  | .so a, sc, [e] => ck a sc (.e e)
  | _, _, _ => false
def chkI : Src → Scope → Expr → Bool
  | .seq a, sc, e => ck a sc (.e e)
  | .rng a, sc, x_ => (match x_ with | .Call (.Name x _) [e] [] _ => gloB sc x && decide (x = ("range" : Str)) && n.bs.contains x && nst e && ck a sc (.e e) | _ => false)
  | .rg2 a b, sc, x_ => (match x_ with | .Call (.Name x _) [e, f] [] _ => gloB sc x && decide (x = ("range" : Str)) && n.bs.contains x && nst e && nst f && ck a sc (.e e) && ck b sc (.e f) | _ => false)
  | .enL a, sc, x_ => (match x_ with | .Call (.Name x _) [e] [] _ => gloB sc x && decide (x = ("enumerate" : Str)) && n.bs.contains x && nst e && ck a sc (.e e) | _ => false)
  | .zp a b, sc, x_ => (match x_ with | .Call (.Name x _) [e, f] [] _ => gloB sc x && decide (x = ("zip" : Str)) && n.bs.contains x && nst e && nst f && ck a sc (.e e) && ck b sc (.e f) | _ => false)
end
mutual
def chkG (fx : List Nat) (sc : Scope) : Tg → Expr → Bool
  | .n i, .Name x _ => stB N sc i x && !fx.contains i
  | .ix i a, .Subscript (.Name x _) e _ => nsl e && nmB N sc i x && ck n N a sc (.e e)
  | .fr i a, .Subscript (.Name x _) (.Slice (some e) none none _) _ => nmB N sc i x && ck n N a sc (.e e)
  | .t k ts, .Tuple es _ _ => decide (es.length = k) && chkGs fx sc ts es
  | _, _ => false
def chkGs (fx : List Nat) (sc : Scope) : Tgs → List Expr → Bool
  | .nil, [] => true
  | .cons t r, e :: es => nst e && chkG fx sc t e && chkGs fx sc r es
  | _, _ => false
end
/-- the stores of a tuple assignment are in order -/
def isLoc (sc : Scope) : Expr → Bool
  | .Name x _ => decide (sc.names.lookup x = some .local)
  | _ => false
def isCst : Expr → Bool
  | .Constant _ _ _ => true
  | _ => false
def swNo (sc : Scope) (tg e : Expr) : Bool := match tg, e with
  | .Tuple ts _ _, .Tuple vs _ _ => !(decide (ts.length = 2) || decide (ts.length = 3)) || !(ts.all (isLoc sc)) || vs.all isCst
  | .List _ _, _ => false
  | _, _ => true
def lineOf (e : Expr) : Nat := e.pos.line
def swYes (sc : Scope) (xs : List Str) (ps : List Pos) (vs : List Expr) : Bool :=
  (xs.all fun x => decide (sc.names.lookup x = some .local)) && (ps.all fun p => decide (p.line = (ps.headD ⟨0, 0, 0, 0⟩).line)) && decide xs.Nodup && vs.all nst && !(vs.all (constantsAlone 8)) && !(vs.all (foldedForSure 8))
def ntg : Tg → Bool
  | .n _ => false
  | _ => true
def swOk (sc : Scope) (x : Str) (py : Pos) : Expr → Bool
  | .ListComp _ _ scope lp => (decide (sc.names.lookup x = some .local) && decide (py.line = lp.line) && !(scope.names.any fun (m, k) => m == x && (k == .local || k == .cell))) || decide (sc.names.lookup x = some .cell)
  | .SetComp _ _ _ _ => false
  | .DictComp _ _ _ _ _ => false
  | _ => true
def nmsB (N : List Str) (fx : List Nat) (sc : Scope) : List Nat → List Expr → Bool
  | [], [] => true
  | i :: r, .Name x _ :: es => stB N sc i x && !fx.contains i && nmsB N fx sc r es
  | _, _ => false
def mB (sc : Scope) : List Bool → Es → List Expr → Bool
  | [], .nil, [] => true
  | _ :: ks, .cons a r, e :: es => nst e && ck n N a sc (.e e) && mB sc ks r es
  | _, _, _ => false
mutual
def chkS (fx : List Nat) (sc : Scope) : S → Stmt → Bool
  | .pass, x_ => (match x_ with | .Pass _ => true | _ => false)
  | .brk, x_ => (match x_ with | .Break _ => true | _ => false)
  | .cont, x_ => (match x_ with | .Continue _ => true | _ => false)
  | .never, _ => true
  | .expr a, x_ => (match x_ with | .Expr e _ => noComp e && ck n N a sc (.e e) | _ => false)
  | .ret a, x_ => (match x_ with | .Return (some e) _ => ck n N a sc (.e e) | _ => false)
  | .retN, x_ => (match x_ with | .Return none _ => true | _ => false)
  | .ite c a b, x_ => (match x_ with | .If t x y _ => ck n N c sc (.e t) && chkSs fx sc a x && chkSs fx sc b y | _ => false)
  | .set i _ a, x_ => (match x_ with | .Assign [.Name x py] e _ => stB N sc i x && !fx.contains i && ck n N a sc (.e e) && swOk sc x py e | _ => false)
  | .par2 i j _ _ a b, x_ => (match x_ with | .Assign [.Tuple [.Name x px, .Name y py] _ _] (.Tuple [e, f] _ _) _ => decide (N[i]? = some x) && decide (N[j]? = some y) && !fx.contains i && !fx.contains j && swYes sc [x, y] [px, py] [e, f] && nst e && nst f && ck n N a sc (.e e) && ck n N b sc (.e f) | _ => false)
  | .par3 i j l _ _ _ a b c, x_ => (match x_ with | .Assign [.Tuple [.Name x px, .Name y py, .Name z pz] _ _] (.Tuple [e, f, g] _ _) _ => decide (N[i]? = some x) && decide (N[j]? = some y) && decide (N[l]? = some z) && !fx.contains i && !fx.contains j && !fx.contains l && swYes sc [x, y, z] [px, py, pz] [e, f, g] && nst e && nst f && nst g && ck n N a sc (.e e) && ck n N b sc (.e f) && ck n N c sc (.e g) | _ => false)
  | .parN is ks es, x_ => (match x_ with | .Assign [.Tuple ts k p] (.Tuple vs k2 p2) _ => swNo sc (.Tuple ts k p) (.Tuple vs k2 p2) && decide (is.length ≤ 1000) && nmsB N fx sc is ts && mB n N sc ks es vs | _ => false)
  | .unp t a, x_ => (match x_ with | .Assign [tg] e _ => isTup tg && swNo sc tg e && chkT N sc fx t tg && ck n N a sc (.e e) | _ => false)
  | .asg t a, x_ => (match x_ with | .Assign [tg] e _ => nst tg && ntg t && swNo sc tg e && chkG n N fx sc t tg && ck n N a sc (.e e) | _ => false)
  | .whl _ c b, x_ => (match x_ with | .While t x [] _ => ck n N c sc (.e t) && chkSs fx sc b x | _ => false)
  | .for s t b, x_ => (match x_ with | .For tg iter x [] _ => nset iter && chkI n N s sc iter && (!rawS s || isTup tg) && chkT N sc fx t tg && chkSs fx sc b x | _ => false)
def chkSs (fx : List Nat) (sc : Scope) : Ss → List Stmt → Bool
  | .nil, [] => true
  | .cons a r, s :: ss => chkS fx sc a s && chkSs fx sc r ss
  | _, _ => false
end
end
end DL

namespace DL
open PySem PySem.Spec L2
open PyProof.Rows hiding St

structure Ct (n : Nm) (N : List Str) (cl : Nat → List Sl → Option (List Sl × Sl)) (gl : Nat → Option D) (ss sc : Scope) (X : Cx) : Prop where
  hN : X.N = N
  nd : N.Nodup
  es : X.env.scope = sc
  calm : X.calm = true
  xe : X.xe = fun _ _ => False
  hu : X.A.units + 150 < cLine
  gd : X.A.guards = some []
  fk : sc.kind = .function
  st : ∀ x, (ss.names.lookup x = some .local ∨ ss.names.lookup x = some .cell) → L2.Loc sc x ∧ (X.fn x = true ∨ sc.names.lookup x = some .local)
  fn : ∀ (f : Nat) (x : Str) (m : Nat), n.fns.lookup f = some (x, m) → ∃ a fd ps k, ps.length = m ∧ FnG X.prog X.w X.K X.mg X.base CX0 k a fd ps (spF X.K ps.length (cl f)) ∧ Room k X.A ∧ X.mg x = some (.ref a) ∧ PySem.W.keepIn X.K (.ref a) = true ∧ Binds X.K fd ps []
  gb : ∀ (k : Nat) (x : Str) (d : D), n.gls.lookup k = some x → gl k = some d → ∃ v u, X.mg x = some u ∧ RelV v u ∧ ∀ F, Rp X.K F v d
  bl : ∀ x, n.bs.contains x = true → X.mg x = none

section
variable {n : Nm} {N : List Str} {cl : Nat → List Sl → Option (List Sl × Sl)} {gl : Nat → Option D} {ss sc : Scope} {X : Cx}
theorem gd_gx (g : GD) : gd (gx g) = g := by
  funext ρ
  unfold gd gx
  cases g ρ with
  | none => rfl
  | some r => rfl
theorem dbg_of {x : Str} (h : notDbg x = true) : (x == ("__debug__" : Str)) = false ∧ (x == ("__classdict__" : Str)) = false := by
  unfold notDbg at h
  obtain ⟨h1, h2⟩ := (Bool.and_eq_true _ _).mp h
  exact ⟨by simpa using h1, by simpa using h2⟩
theorem vis_of {x : Str} (h : visB sc x = true) : Vis sc x := by
  unfold visB at h
  split at h
  · exact .inl ‹_›
  · exact .inr (.inl ‹_›)
  · exact .inr (.inr ‹_›)
  · cases h
theorem nm_of (C : Ct n N cl gl ss sc X) {i : Nat} {x : Str} (h : nmB N sc i x = true) : X.N[i]? = some x ∧ Vis X.env.scope x ∧ (x == ("__debug__" : Str)) = false ∧ (x == ("__classdict__" : Str)) = false := by
  unfold nmB at h
  obtain ⟨h, h3⟩ := (Bool.and_eq_true _ _).mp h
  obtain ⟨h1, h2⟩ := (Bool.and_eq_true _ _).mp h
  rw [C.hN, C.es]
  exact ⟨of_decide_eq_true h1, vis_of h2, dbg_of h3⟩
theorem glo_of (C : Ct n N cl gl ss sc X) {x : Str} (h : gloB sc x = true) : Gl X x ∧ (x == ("__debug__" : Str)) = false := by
  unfold gloB at h
  obtain ⟨h1, h2⟩ := (Bool.and_eq_true _ _).mp h
  refine ⟨?_, (dbg_of h2).1⟩
  show X.env.scope.names.lookup x = _
  rw [C.es]
  exact of_decide_eq_true h1
theorem st_of (C : Ct n N cl gl ss sc X) {i : Nat} {x : Str} (h : stB N ss i x = true) : X.N[i]? = some x ∧ L2.Loc X.env.scope x ∧ (X.fn x = true ∨ X.env.scope.names.lookup x = some .local) := by
  unfold stB at h
  obtain ⟨h1, h2⟩ := (Bool.and_eq_true _ _).mp h
  have := C.st x (by
    split at h2
    · exact .inl ‹_›
    · exact .inr ‹_›
    · cases h2)
  rw [C.hN, C.es]
  exact ⟨of_decide_eq_true h1, this.1, this.2⟩
theorem star_of {e : Expr} {es : List Expr} {env : Env} (h : nst e = true) : starEach (e :: es) env = (false, eval e env) :: starEach es env := by
  cases e <;> first | rfl | cases h
theorem asgE_of {e : Expr} {es : List Expr} {env : Env} (h : nst e = true) : (assignEach (e :: es) env) = (false, assign e env) :: assignEach es env := by
  cases e <;> first | rfl | cases h
theorem ix_of {e : Expr} (h : nsl e = true) : PlainIx e := by
  intro o i
  cases e <;> first | rfl | cases h
theorem asgIx_of {o e : Expr} {pos : Pos} {env : Env} (h : nsl e = true) (v : Value) : assign (.Subscript o e pos) env v = (do
      let ov ← holding [v] (eval o env)
      let iv ← holding [v, ov] (eval e env)
      standAt pos
      holding [v, ov, iv] (setItem ov iv v)
      release [v, ov, iv] []) := by
  cases e <;> first | rfl | cases h
theorem nset_of {e : Expr} {env : Env} (h : nset e = true) : ∀ x, foldedSetIterable e env x = pure x := by
  intro x
  cases e <;> first | rfl | cases h
theorem swap_of {e : Expr} {t : Option Expr} {l : Nat} {env : Env} (h : noComp e = true) : swapsWith e t l env = pure false := by
  cases e <;> first | rfl | cases h
theorem isT_of {e : Expr} {env : Env} (h : plT e = true) : ∀ whole, PySem.isTrue e env whole = (do let v ← whole; standAt e.pos; holding [v] (truthy v)) := by
  intro whole
  cases e with
  | UnaryOp op x p => cases op <;> first | rfl | cases h
  | _ => first | rfl | cases h
theorem base_of {o : Expr} {nme : Str} {env : Env} (h : noCall0 o = true) : attributeBase o nme env (eval o env) = eval o env := by
  cases o with
  | Call f a k p =>
    cases a with
    | nil => cases h
    | cons x r => unfold attributeBase; split <;> first | rfl | contradiction | (rename_i h; cases h)
  | _ => rfl
theorem o_of (o : Operator) (h : oOk o = true) : OpR X (binaryOp o) (rD2 X.K (oF o)) := by
  cases o <;> first | exact o_add | exact o_sub | exact o_mul | exact o_fdiv | exact o_mod | exact o_pow | cases h
theorem c_of (C : Ct n N cl gl ss sc X) (o : CmpOp) (h : cOk o = true) : OpR X (compareOp o) (rD2 X.K (cF o)) := by
  cases o <;> first | exact o_eq C.hu | exact o_ne C.hu | exact o_ltE C.hu | exact o_le | exact o_gt | exact o_ge | exact o_in C.hu | exact o_notIn C.hu | exact o_is | exact o_isn | cases h
theorem bt_tuple : bootBuiltins "tuple" = some (.type "tuple") := by first | exact PySem.boot_tuple | exact PyProof.Rows.boot_tuple | decide +kernel
theorem bt_list : bootBuiltins "list" = some (.type "list") := by first | exact PySem.boot_list | exact PyProof.Rows.boot_list | decide +kernel
theorem bt_int : bootBuiltins "int" = some (.type "int") := by first | exact PySem.boot_int | exact PyProof.Rows.boot_int | decide +kernel
theorem bt_str : bootBuiltins "str" = some (.type "str") := by first | exact PySem.boot_str | exact PyProof.Rows.boot_str | decide +kernel
theorem bt_bool : bootBuiltins "bool" = some (.type "bool") := by first | exact PySem.boot_bool | exact PyProof.Rows.boot_bool | decide +kernel
theorem bt_len : bootBuiltins "len" = some (.builtin "len") := by first | exact PySem.boot_len | exact PyProof.Rows.boot_len | decide +kernel
theorem bt_max : bootBuiltins "max" = some (.builtin "max") := by first | exact PySem.boot_max | exact PyProof.Rows.boot_max | decide +kernel
theorem bt_min : bootBuiltins "min" = some (.builtin "min") := by first | exact PySem.boot_min | exact PyProof.Rows.boot_min | decide +kernel
theorem bt_abs : bootBuiltins "abs" = some (.builtin "abs") := by first | exact PySem.boot_abs | exact PyProof.Rows.boot_abs | decide +kernel
theorem bt_sum : bootBuiltins "sum" = some (.builtin "sum") := by first | exact PySem.boot_sum | exact PyProof.Rows.boot_sum | decide +kernel
theorem bt_all : bootBuiltins "all" = some (.builtin "all") := by first | exact PySem.boot_all | exact PyProof.Rows.boot_all | decide +kernel
theorem bt_any : bootBuiltins "any" = some (.builtin "any") := by first | exact PySem.boot_any | exact PyProof.Rows.boot_any | decide +kernel
theorem bt_sorted : bootBuiltins "sorted" = some (.builtin "sorted") := by first | exact PySem.boot_sorted | exact PyProof.Rows.boot_sorted | decide +kernel
theorem bt_repr : bootBuiltins "repr" = some (.builtin "repr") := by first | exact PySem.boot_repr | exact PyProof.Rows.boot_repr | decide +kernel
theorem bt_isi : bootBuiltins "isinstance" = some (.builtin "isinstance") := by first | exact PySem.boot_isinstance | exact PyProof.Rows.boot_isinstance | decide +kernel
/-- a builtin's name stands for the builtin -/
theorem b_name {x : Str} (C : Ct n N cl gl ss sc X) (hg : Gl X x) (hd : (x == ("__debug__" : Str)) = false) (hb : n.bs.contains x = true) {e : Expr} {es : List Expr} {p pos : Pos} {gs : GA} (b : B) (hx : x = bNm b) (ha : PA X (e :: es) (tAr X.K gs)) (he : nst e = true)
    (hpl : (backTo pos (starEach es X.env)).any (·.1) = false) : PE X (.Call (.Name x p) (e :: es) [] pos) (tX X.K (gFn gs (bF b))) := by
  have hm := C.bl x hb
  have hs := star_of (es := es) (env := X.env) he
  subst hx
  cases b with
  | len => exact PEimp (pe_callB c_len hg hm bt_len ha (by decide) hd hs hpl) fn_imp
  | tuple => exact PEimp (pe_callTy c_tuple hg hm bt_tuple ha (by decide) hd hs hpl) fn_imp
  | list => exact PEimp (pe_callTy c_list hg hm bt_list ha (by decide) hd hs hpl) fn_imp
  | max => exact PEimp (pe_callB (c_max C.calm) hg hm bt_max ha (by decide) hd hs hpl) fn_imp
  | min => exact PEimp (pe_callB (c_min C.calm) hg hm bt_min ha (by decide) hd hs hpl) fn_imp
  | abs => exact PEimp (pe_callB c_abs hg hm bt_abs ha (by decide) hd hs hpl) fn_imp
  | int => exact PEimp (pe_callTy c_int hg hm bt_int ha (by decide) hd hs hpl) fn_imp
  | str => exact PEimp (pe_callTy c_str hg hm bt_str ha (by decide) hd hs hpl) fn_imp
  | sum => exact PEimp (pe_callB (c_sum C.calm) hg hm bt_sum ha (by decide) hd hs hpl) fn_imp
  | all => exact PEimp (pe_callB (c_all C.calm) hg hm bt_all ha (by decide) hd hs hpl) fn_imp
  | any => exact PEimp (pe_callB (c_any C.calm) hg hm bt_any ha (by decide) hd hs hpl) fn_imp
  | sorted => exact PEimp (pe_callB c_sorted hg hm bt_sorted ha (by decide) hd hs hpl) fn_imp
  | repr => exact PEimp (pe_callB (c_repr C.hu C.gd) hg hm bt_repr ha (by decide) hd hs hpl) fn_imp
theorem b_bor {x y : Str} {i : Nat} (C : Ct n N cl gl ss sc X) (hg : Gl X x) (hd : (x == ("__debug__" : Str)) = false) (hb : n.bs.contains x = true) {p p' pos : Pos} (b : B) (hx : x = bNm b)
    (hN : X.N[i]? = some y) (hvi : Vis X.env.scope y) (hd2 : (y == ("__debug__" : Str)) = false) (hcd : (y == ("__classdict__" : Str)) = false) : PE X (.Call (.Name x p) [.Name y p'] [] pos) (tD X.K (gBor i (bF b))) := by
  have hm := C.bl x hb
  subst hx
  cases b with
  | len => exact de_borB c_len hg hm bt_len (by decide) hd hN hvi hd2 hcd
  | tuple => exact de_borT c_tuple hg hm bt_tuple (by decide) hd hN hvi hd2 hcd
  | list => exact de_borT c_list hg hm bt_list (by decide) hd hN hvi hd2 hcd
  | max => exact de_borB (c_max C.calm) hg hm bt_max (by decide) hd hN hvi hd2 hcd
  | min => exact de_borB (c_min C.calm) hg hm bt_min (by decide) hd hN hvi hd2 hcd
  | abs => exact de_borB c_abs hg hm bt_abs (by decide) hd hN hvi hd2 hcd
  | int => exact de_borT c_int hg hm bt_int (by decide) hd hN hvi hd2 hcd
  | str => exact de_borT c_str hg hm bt_str (by decide) hd hN hvi hd2 hcd
  | sum => exact de_borB (c_sum C.calm) hg hm bt_sum (by decide) hd hN hvi hd2 hcd
  | all => exact de_borB (c_all C.calm) hg hm bt_all (by decide) hd hN hvi hd2 hcd
  | any => exact de_borB (c_any C.calm) hg hm bt_any (by decide) hd hN hvi hd2 hcd
  | sorted => exact de_borB c_sorted hg hm bt_sorted (by decide) hd hN hvi hd2 hcd
  | repr => exact de_borB (c_repr C.hu C.gd) hg hm bt_repr (by decide) hd hN hvi hd2 hcd
theorem m_of (C : Ct n N cl gl ss sc X) (m : M) : MtD X (mNm m) (mF m) := by
  cases m with
  | index => exact m_index C.hu
  | count => exact m_count C.hu
  | join => exact m_join
end
end DL

namespace DL
open PySem PySem.Spec L2
open PyProof.Rows hiding St

section
variable {n : Nm} {N : List Str} {cl : Nat → List Sl → Option (List Sl × Sl)} {gl : Nat → Option D}
theorem ct_blk {ss sc : Scope} {X : Cx} (C : Ct n N cl gl ss sc X) {scope : Scope} (hk : scope.kind = .function) (s : Shared) (H : Hp) (A : Addr) (cs : List (Str × Addr)) (fp : List Addr) : Ct n N cl gl scope (relS scope sc) (X.blk s H scope (compEnvC scope cs A X.env) fp) where
  hN := C.hN
  nd := C.nd
  es := by
    show relS scope X.env.scope = _
    rw [C.es]
  calm := C.calm
  xe := rfl
  hu := C.hu
  gd := C.gd
  fk := hk
  st := fun x h => by
    rcases h with h | h
    · have := lookup_relS_keep (sc := sc) (by decide) h
      exact ⟨.inl this, .inr this⟩
    · have := lookup_relS_keep (sc := sc) (by decide) h
      refine ⟨.inr this, .inl ?_⟩
      show (scope.names.lookup x == some .cell) = true
      rw [h]; rfl
  fn := C.fn
  gb := C.gb
  bl := C.bl
theorem and2 {a b : Bool} (h : (a && b) = true) : a = true ∧ b = true := (Bool.and_eq_true _ _).mp h
theorem not1 {a : Bool} (h : (!a) = true) : a = false := by cases a <;> first | rfl | cases h
theorem back_any {es : List Expr} {env : Env} {pos : Pos} (h : es.all nst = true) : (backTo pos (starEach es env)).any (·.1) = false := by
  induction es with
  | nil => rfl
  | cons e r ih =>
    obtain ⟨h1, h2⟩ := and2 (show (nst e && r.all nst) = true from h)
    rw [star_of h1]
    show (false || (backTo pos (starEach r env)).any (·.1)) = false
    rw [ih h2]; rfl
theorem back_few {es : List Expr} {env : Env} {pos : Pos} (h : es.all nst = true) (hl : es.length < 20) : ((backTo pos (starEach es env)).all (fun x => !x.1) && (backToKw pos (keywordEach [] env)).all (fun x => x.1.isSome) && decide (es.length + ([] : List Keyword).length + (if ([] : List Keyword).isEmpty then 0 else 1) < 30)) = true := by
  have h1 : (backTo pos (starEach es env)).all (fun x => !x.1) = true := by
    clear hl
    induction es with
    | nil => rfl
    | cons e r ih =>
      obtain ⟨h1, h2⟩ := and2 (show (nst e && r.all nst) = true from h)
      rw [star_of h1]
      show (true && (backTo pos (starEach r env)).all (fun x => !x.1)) = true
      rw [ih h2]; rfl
  rw [h1]
  have h2 : es.length + ([] : List Keyword).length + (if ([] : List Keyword).isEmpty then 0 else 1) < 30 := by
    show es.length + 0 + 0 < 30
    omega
  rw [decide_eq_true h2]; rfl
theorem nosl_of {e : Expr} (h : nsl e = true) : NoSl e := fun o i => ix_of h o i
/-! targets of loops -/
theorem gTs_n : ∀ (ts : Ts) (es : List Expr) (ss : Scope) (fx : List Nat), chkTs N ss fx ts es = true → ∀ (ds : List D) (ρ ρ' : Ev), gTs ts ds ρ = some ρ' → ds.length = es.length
  | .nil, [], _, _, _, ds, ρ, ρ', e => by
    unfold gTs at e
    split at e
    · rfl
    · cases e
  | .nil, _ :: _, _, _, h, _, _, _, _ => by simp [chkTs] at h
  | .cons _ _, [], _, _, h, _, _, _, _ => by simp [chkTs] at h
  | .cons t r, e :: es, ss, fx, h, ds, ρ, ρ', eq => by
    unfold chkTs at h
    obtain ⟨_, h⟩ := and2 h
    unfold gTs at eq
    split at eq
    · cases eq
    · obtain ⟨ρ1, e1, e2⟩ := Option.bind_eq_some_iff.mp eq
      rw [List.length_cons, List.length_cons, gTs_n r es ss fx h _ _ _ e2]
theorem asg_len {env : Env} : ∀ es : List Expr, (assignEach es env).length = es.length
  | [] => rfl
  | e :: r => by
    cases e <;> (show (assignEach r env).length + 1 = r.length + 1; rw [asg_len r])
theorem asg_find {env : Env} : ∀ es : List Expr, es.all nst = true → (assignEach es env).findIdx? (·.1) = none
  | [], _ => rfl
  | e :: r, h => by
    obtain ⟨h1, h2⟩ := and2 (show (nst e && r.all nst) = true from h)
    rw [asgE_of h1, List.findIdx?_cons]
    simp [asg_find r h2]
theorem chkTs_nst : ∀ (ts : Ts) (es : List Expr) (ss : Scope) (fx : List Nat), chkTs N ss fx ts es = true → es.all nst = true
  | .nil, [], _, _, _ => rfl
  | .nil, _ :: _, _, _, h => by simp [chkTs] at h
  | .cons _ _, [], _, _, h => by simp [chkTs] at h
  | .cons t r, e :: es, ss, fx, h => by
    unfold chkTs at h
    obtain ⟨h, h3⟩ := and2 h
    obtain ⟨h1, _⟩ := and2 h
    show (nst e && es.all nst) = true
    rw [h1, chkTs_nst r es ss fx h3]; rfl
mutual
theorem sT : ∀ (t : T) (ss sc : Scope) (X : Cx) (fx : List Nat), Ct n N cl gl ss sc X → ∀ e, chkT N ss fx t e = true → PG X e (tG X.K fx (gT t))
  | .n i, ss, sc, X, fx, C, e, h => by
    cases e with
    | Name x p =>
      unfold chkT at h
      obtain ⟨h1, h2⟩ := and2 h
      obtain ⟨a, b, c⟩ := st_of C h1
      exact dg_name (by rw [C.hN]; exact C.nd) a b (by simpa using not1 h2) c
    | _ => simp [chkT] at h
  | .t ts, ss, sc, X, fx, C, e, h => by
    cases e with
    | Tuple es k p =>
      unfold chkT at h
      exact dg_y (dg_tup C.calm (sTs ts ss sc X fx C es h) (asg_len es) (asg_find es (chkTs_nst ts es ss fx h)) (gTs_n ts es ss fx h))
    | _ => simp [chkT] at h
theorem sTs : ∀ (ts : Ts) (ss sc : Scope) (X : Cx) (fx : List Nat), Ct n N cl gl ss sc X → ∀ es, chkTs N ss fx ts es = true → PGs X es (tGs X.K fx (gTs ts))
  | .nil, ss, sc, X, fx, C, [], h => dgs_nil
  | .nil, _, _, _, _, _, _ :: _, h => by simp [chkTs] at h
  | .cons _ _, _, _, _, _, _, [], h => by simp [chkTs] at h
  | .cons t r, ss, sc, X, fx, C, e :: es, h => by
    unfold chkTs at h
    obtain ⟨h, h3⟩ := and2 h
    obtain ⟨h1, h2⟩ := and2 h
    exact dgs_cons (sT t ss sc X fx C e h2) (sTs r ss sc X fx C es h3) (by rw [asgE_of h1]; rfl)
end
theorem sTy (t : T) (ss sc : Scope) (X : Cx) (fx : List Nat) (C : Ct n N cl gl ss sc X) (e : Expr) (h : chkT N ss fx t e = true) (ht : isTup e = true) : PG X e (tY X.K fx (gT t)) := by
  cases e with
  | Tuple es k p =>
    cases t with
    | n i => simp [chkT] at h
    | t ts =>
      unfold chkT at h
      exact dg_tup C.calm (sTs ts ss sc X fx C es h) (asg_len es) (asg_find es (chkTs_nst ts es ss fx h)) (gTs_n ts es ss fx h)
  | _ => cases ht
theorem sTr (raw : Bool) (t : T) (ss sc : Scope) (X : Cx) (fx : List Nat) (C : Ct n N cl gl ss sc X) (e : Expr) (h : chkT N ss fx t e = true) (ht : (!raw || isTup e) = true) : PG X e (if raw then tY X.K fx (gT t) else tG X.K fx (gT t)) := by
  cases raw with
  | true => exact sTy t ss sc X fx C e h ht
  | false => exact sT t ss sc X fx C e h
theorem chkA_nst : ∀ (as : Es) (sc : Scope) (es : List Expr), chkA n N as sc es = true → es.all nst = true
  | .nil, _, [], _ => rfl
  | .nil, _, _ :: _, h => by simp [chkA] at h
  | .cons _ _, _, [], h => by simp [chkA] at h
  | .cons t r, sc, e :: es, h => by
    unfold chkA at h
    obtain ⟨h, h3⟩ := and2 h
    obtain ⟨h1, _⟩ := and2 h
    show (nst e && es.all nst) = true
    rw [h1, chkA_nst r sc es h3]; rfl
theorem chkR_nst : ∀ (as : As) (sc : Scope) (es : List Expr), chkR n N as sc es = true → es.all nst = true ∧ es.length = (evR cl gl as).length
  | .nil, _, [], _ => ⟨rfl, rfl⟩
  | .nil, _, _ :: _, h => by simp [chkR] at h
  | .d _ _, _, [], h => by simp [chkR] at h
  | .s _ _, _, [], h => by simp [chkR] at h
  | .d t r, sc, e :: es, h => by
    unfold chkR at h
    obtain ⟨h, h3⟩ := and2 h
    obtain ⟨h1, _⟩ := and2 h
    obtain ⟨a, b⟩ := chkR_nst r sc es h3
    refine ⟨?_, by show es.length + 1 = (evR cl gl r).length + 1; rw [b]⟩
    show (nst e && es.all nst) = true
    rw [h1, a]; rfl
  | .s i r, sc, e :: es, h => by
    cases e with
    | Name x p =>
      unfold chkR at h
      obtain ⟨_, h3⟩ := and2 h
      obtain ⟨a, b⟩ := chkR_nst r sc es h3
      exact ⟨a, by show es.length + 1 = (evR cl gl r).length + 1; rw [b]⟩
    | _ => simp [chkR] at h

theorem blk_kind {sc scope : Scope} {own : List (Str × Nat)} (h : BlkOk N sc scope own) : scope.kind = .function := h.kind
/-- what is shown of a term that was looked at -/
def Shown (cl : Nat → List Sl → Option (List Sl × Sl)) (gl : Nat → Option D) (X : Cx) (a : E) : Qy → Prop
  | .e e => PE X e (tX X.K (evX cl gl a)) ∧ PT X e (tT X.K (evB cl gl a))
  | .a es => ∀ pos, PE X (.BoolOp .And es pos) (tX X.K (evX cl gl a)) ∧ PW X (.BoolOp .And es pos) (tT X.K (evB cl gl a))
  | .o es => ∀ pos, PE X (.BoolOp .Or es pos) (tX X.K (evX cl gl a)) ∧ PW X (.BoolOp .Or es pos) (tT X.K (evB cl gl a))
variable {X : Cx}
/-- a value that is no test of its own -/
theorem both {e : Expr} {g : GX} (h : PE X e (tX X.K g)) (hp : plT e = true) : PE X e (tX X.K g) ∧ PT X e (tT X.K (gb (gd g))) := ⟨h, dt_val (d_of h) (isT_of hp)⟩
theorem bothD {e : Expr} {g : GD} (h : PE X e (tD X.K g)) (hp : plT e = true) : PE X e (tX X.K (gx g)) ∧ PT X e (tT X.K (gb (gd (gx g)))) := both (x_of h) hp
theorem bothT {e : Expr} {g : GD} (h : PE X e (tD X.K g)) (h2 : PT X e (tT X.K (gb g))) : PE X e (tX X.K (gx g)) ∧ PT X e (tT X.K (gb (gd (gx g)))) := ⟨x_of h, by rw [gd_gx]; exact h2⟩
theorem tailA {b : E} {r : Expr} {rest : List Expr} (h : Shown cl gl X b (tlA (r :: rest))) (pos : Pos) : PE X (.BoolOp .And (r :: rest) pos) (tD X.K (gd (evX cl gl b))) ∧ PW X (.BoolOp .And (r :: rest) pos) (tT X.K (evB cl gl b)) := by
  cases rest with
  | nil => exact ⟨dv_one (d_of h.1), dw_and1 h.2⟩
  | cons s t => exact ⟨d_of (h pos).1, (h pos).2⟩
theorem tailO {b : E} {r : Expr} {rest : List Expr} (h : Shown cl gl X b (tlO (r :: rest))) (pos : Pos) : PE X (.BoolOp .Or (r :: rest) pos) (tD X.K (gd (evX cl gl b))) ∧ PW X (.BoolOp .Or (r :: rest) pos) (tT X.K (evB cl gl b)) := by
  cases rest with
  | nil => exact ⟨dv_one (d_of h.1), dw_or1 h.2⟩
  | cons s t => exact ⟨d_of (h pos).1, (h pos).2⟩
theorem cst_of {c : Const} {d : D} {k : Nat} {pos : Pos} (h : cstB c d = true) : PE X (.Constant c k pos) (tX X.K fun ρ => some (ρ, .d d)) := by
  have key : ∀ {v : V}, PE X (.Constant c k pos) (tC v) → (∀ K F, Rp K F v d) → PE X (.Constant c k pos) (tX X.K fun ρ => some (ρ, .d d)) := fun hv r => x_of (de_cst hv r)
  cases c with
  | none => cases d <;> first | exact key pe_non fun _ _ => .non | cases h
  | bool a =>
    cases d with
    | bool b => cases of_decide_eq_true (show decide (a = b) = true from h); exact key pe_bl fun _ _ => .bl _
    | _ => cases h
  | int a =>
    cases d with
    | int b => cases of_decide_eq_true (show decide (a = b) = true from h); exact key pe_int fun _ _ => .int _
    | _ => cases h
  | str a =>
    cases d with
    | str b => cases of_decide_eq_true (show decide (a = b) = true from h); exact key pe_str fun _ _ => .str _
    | _ => cases h
  | _ => cases d <;> cases h
theorem glb_of {ss sc : Scope} (C : Ct n N cl gl ss sc X) {k : Nat} {x : Str} {pos : Pos} (h1 : gloB sc x = true) (h2 : n.gls.lookup k = some x) : PE X (.Name x pos) (tX X.K fun ρ => (gl k).map fun d => (ρ, .d d)) := by
  obtain ⟨g1, g2⟩ := glo_of C h1
  cases e : gl k with
  | none => exact ⟨fun _ _ _ _ _ _ h => by obtain ⟨_, _, _, _, _, eq, _⟩ := h; cases eq⟩
  | some d =>
    obtain ⟨v, u, m, r, rp⟩ := C.gb k x d h2 e
    refine PEimp (pe_glob g1 m r g2) fun σ H Q ⟨F, ρ, ρ', s, S, eq, q⟩ => ?_
    cases eq
    exact q F H v (Ste.refl S) ⟨rp F, fun z => nomatch z⟩
theorem len_ne {es : List Expr} (h : es.isEmpty = false) : ∃ e r, es = e :: r := by
  cases es with
  | nil => cases h
  | cons e r => exact ⟨e, r, rfl⟩
set_option maxHeartbeats 4000000 in
mutual
theorem snd : ∀ (a : E) (ss sc : Scope) (X : Cx), Ct n N cl gl ss sc X → ∀ q, ck n N a sc q = true → Shown cl gl X a q
  | .var i, ss, sc, X, C, q, h => by
    unfold ck at h
    split at h
    · obtain ⟨h1, h2, h3, h4⟩ := nm_of C h
      exact bothD (de_var h1 h2 h3 h4) rfl
    · cases h
  | .mv i, ss, sc, X, C, q, h => by
    unfold ck at h
    split at h
    · obtain ⟨h1, h2, h3, h4⟩ := nm_of C h
      exact both (de_mv h1 h2 h3 h4) rfl
    · cases h
  | .cst d, ss, sc, X, C, q, h => by
    unfold ck at h
    split at h
    · exact both (cst_of h) rfl
    · cases h
  | .glb k, ss, sc, X, C, q, h => by
    unfold ck at h
    split at h
    · obtain ⟨h1, h2⟩ := and2 h
      exact both (glb_of C h1 (of_decide_eq_true h2)) rfl
    · cases h
  | .bin o a b, ss, sc, X, C, q, h => by
    unfold ck at h
    split at h
    · obtain ⟨h, h4⟩ := and2 h
      obtain ⟨h, h3⟩ := and2 h
      obtain ⟨h1, h2⟩ := and2 h
      cases of_decide_eq_true h1
      exact both (de_op (o_of o h2) (d_of (snd a ss sc X C _ h3).1) (d_of (snd b ss sc X C _ h4).1)) rfl
    · cases h
  | .cmp o a b, ss, sc, X, C, q, h => by
    unfold ck at h
    split at h
    · obtain ⟨h, h5⟩ := and2 h
      obtain ⟨h, h4⟩ := and2 h
      obtain ⟨h, h3⟩ := and2 h
      obtain ⟨h1, h2⟩ := and2 h
      cases of_decide_eq_true h1
      have ha := d_of (snd a ss sc X C _ h4).1
      have hb := d_of (snd b ss sc X C _ h5).1
      exact ⟨de_cmp (c_of C o h2) ha hb (not1 h3), dt_cmp (c_of C o h2) ha hb (not1 h3)⟩
    · cases h
  | .cmpR o a i, ss, sc, X, C, q, h => by
    unfold ck at h
    split at h
    · obtain ⟨h, h4⟩ := and2 h
      obtain ⟨h, h3⟩ := and2 h
      obtain ⟨h1, h2⟩ := and2 h
      cases of_decide_eq_true h1
      have ha := d_of (snd a ss sc X C _ h3).1
      obtain ⟨g1, g2, g3, g4⟩ := nm_of C h4
      exact bothT (de_cmpR (c_of C o h2) ha g1 g2 g3 g4) (dt_cmpR (c_of C o h2) ha g1 g2 g3 g4)
    · cases h
  | .cmpL o i b, ss, sc, X, C, q, h => by
    unfold ck at h
    split at h
    · obtain ⟨h, h5⟩ := and2 h
      obtain ⟨h, h4⟩ := and2 h
      obtain ⟨h, h3⟩ := and2 h
      obtain ⟨h1, h2⟩ := and2 h
      cases of_decide_eq_true h1
      have hb := d_of (snd b ss sc X C _ h5).1
      obtain ⟨g1, g2, g3, g4⟩ := nm_of C h4
      exact bothT (de_cmpL (c_of C o h2) hb (not1 h3) g1 g2 g3 g4) (dt_cmpL (c_of C o h2) hb (not1 h3) g1 g2 g3 g4)
    · cases h
  | .isN a, ss, sc, X, C, q, h => by
    unfold ck at h
    split at h
    · have ha := d_of (snd a ss sc X C _ h).1
      exact bothT (de_isN ha) (dt_isN ha)
    · cases h
  | .notN a, ss, sc, X, C, q, h => by
    unfold ck at h
    split at h
    · have ha := d_of (snd a ss sc X C _ h).1
      exact bothT (de_notN ha) (dt_notN ha)
    · cases h
  | .chn o1 o2 a b c, ss, sc, X, C, q, h => by
    unfold ck at h
    split at h
    · obtain ⟨h, h8⟩ := and2 h
      obtain ⟨h, h7⟩ := and2 h
      obtain ⟨h, h6⟩ := and2 h
      obtain ⟨h, h5⟩ := and2 h
      obtain ⟨h, h4⟩ := and2 h
      obtain ⟨h, h3⟩ := and2 h
      obtain ⟨h1, h2⟩ := and2 h
      cases of_decide_eq_true h1
      cases of_decide_eq_true h2
      have ha := d_of (snd a ss sc X C _ h6).1
      have hb := d_of (snd b ss sc X C _ h7).1
      have hc := d_of (snd c ss sc X C _ h8).1
      exact bothT (de_chain (c_of C _ h3) (c_of C _ h4) ha hb hc (not1 h5)) (dt_chain (c_of C _ h3) (c_of C _ h4) ha hb hc (not1 h5))
    · cases h
  | .and a b, ss, sc, X, C, q, h => by
    unfold ck at h
    split at h
    · obtain ⟨h1, h2⟩ := and2 h
      have ha := snd a ss sc X C _ h1
      obtain ⟨t1, t2⟩ := tailA (snd b ss sc X C _ h2) _
      exact ⟨x_of (dv_and (d_of ha.1) t1), PW.pt (dw_and ha.2 t2)⟩
    · obtain ⟨h1, h2⟩ := and2 h
      have ha := snd a ss sc X C _ h1
      intro pos
      obtain ⟨t1, t2⟩ := tailA (snd b ss sc X C _ h2) pos
      exact ⟨x_of (dv_and (d_of ha.1) t1), dw_and ha.2 t2⟩
    · cases h
  | .or a b, ss, sc, X, C, q, h => by
    unfold ck at h
    split at h
    · obtain ⟨h1, h2⟩ := and2 h
      have ha := snd a ss sc X C _ h1
      obtain ⟨t1, t2⟩ := tailO (snd b ss sc X C _ h2) _
      exact ⟨x_of (dv_or (d_of ha.1) t1), PW.pt (dw_or ha.2 t2)⟩
    · obtain ⟨h1, h2⟩ := and2 h
      have ha := snd a ss sc X C _ h1
      intro pos
      obtain ⟨t1, t2⟩ := tailO (snd b ss sc X C _ h2) pos
      exact ⟨x_of (dv_or (d_of ha.1) t1), dw_or ha.2 t2⟩
    · cases h
  | .not a, ss, sc, X, C, q, h => by
    unfold ck at h
    split at h
    · have ha := snd a ss sc X C _ h
      exact ⟨x_of (dv_not (d_of ha.1)), dt_not ha.2⟩
    · cases h
  | .ite c a b, ss, sc, X, C, q, h => by
    unfold ck at h
    split at h
    · obtain ⟨h, h3⟩ := and2 h
      obtain ⟨h1, h2⟩ := and2 h
      have hc := snd c ss sc X C _ h1
      have ha := snd a ss sc X C _ h2
      have hb := snd b ss sc X C _ h3
      exact ⟨de_if hc.2 ha.1 hb.1, dt_if hc.2 ha.2 hb.2⟩
    · cases h
  | .neg a, ss, sc, X, C, q, h => by
    unfold ck at h
    split at h
    · exact both (de_un u_neg (d_of (snd a ss sc X C _ h).1)) rfl
    · cases h
  | .tup es, ss, sc, X, C, q, h => by
    unfold ck at h
    split at h
    · exact both (de_tup (sA es ss sc X C _ h)) rfl
    · cases h
  | .lst es, ss, sc, X, C, q, h => by
    unfold ck at h
    split at h
    · exact both (de_lst (sA es ss sc X C _ h)) rfl
    · cases h
  | .idx a b, ss, sc, X, C, q, h => by
    unfold ck at h
    split at h
    · obtain ⟨h, h3⟩ := and2 h
      obtain ⟨h1, h2⟩ := and2 h
      exact both (de_idx (d_of (snd a ss sc X C _ h2).1) (d_of (snd b ss sc X C _ h3).1) (ix_of h1)) rfl
    · cases h
  | .idxV i b, ss, sc, X, C, q, h => by
    unfold ck at h
    split at h
    · obtain ⟨h, h3⟩ := and2 h
      obtain ⟨h1, h2⟩ := and2 h
      obtain ⟨g1, g2, g3, g4⟩ := nm_of C h2
      exact bothD (de_idxV (d_of (snd b ss sc X C _ h3).1) (ix_of h1) g1 g2 g3 g4) rfl
    · cases h
  | .rev a, ss, sc, X, C, q, h => by
    unfold ck at h
    split at h
    · exact both (de_rev (d_of (snd a ss sc X C _ h).1)) rfl
    · cases h
  | .sliV i lo hi, ss, sc, X, C, q, h => by
    unfold ck at h
    split at h
    · obtain ⟨h, h3⟩ := and2 h
      obtain ⟨h1, h2⟩ := and2 h
      obtain ⟨g1, g2, g3, g4⟩ := nm_of C h1
      exact both (de_sliV (sO lo ss sc X C _ h2) (sO hi ss sc X C _ h3) g1 g2 g3 g4) rfl
    · cases h
  | .revV i, ss, sc, X, C, q, h => by
    unfold ck at h
    split at h
    · obtain ⟨g1, g2, g3, g4⟩ := nm_of C h
      exact both (de_revV g1 g2 g3 g4) rfl
    · cases h
  | .sli a lo hi, ss, sc, X, C, q, h => by
    unfold ck at h
    split at h
    · obtain ⟨h, h3⟩ := and2 h
      obtain ⟨h1, h2⟩ := and2 h
      exact both (de_slice (d_of (snd a ss sc X C _ h1).1) (sO lo ss sc X C _ h2) (sO hi ss sc X C _ h3)) rfl
    · cases h
  | .call f as, ss, sc, X, C, q, h => by
    unfold ck at h
    split at h
    · rename_i x p args pos
      obtain ⟨h, h4⟩ := and2 h
      obtain ⟨h1, h2⟩ := and2 h
      obtain ⟨g1, g2⟩ := glo_of C h1
      obtain ⟨ad, fd, ps, k, pl, G, hr, m, kp, bi⟩ := C.fn f x _ (of_decide_eq_true h2)
      obtain ⟨w1, w2⟩ := chkR_nst (cl := cl) (gl := gl) as sc args h4
      have ha := sR as ss sc X C args h4
      cases args with
      | nil =>
        refine both (PEimp (de_go0 G hr C.gd g1 m kp bi g2) fun σ H Q hh => ?_) rfl
        have hh2 : tGo (spF X.K ps.length (cl f)) (tArs X.K (evR cl gl as)) σ H Q := call_imp (by rw [← w2, pl]) σ H Q hh
        obtain ⟨F, ρ, ρ', as2, S, eq, q⟩ := hh2
        cases as with
        | nil =>
          cases eq
          exact q F H [] (Ste.refl S) .nil
        | d _ _ => simp [chkR] at h4
        | s _ _ => simp [chkR] at h4
      | cons e r =>
        obtain ⟨n1, n2⟩ := and2 (show (nst e && r.all nst) = true from w1)
        exact both (PEimp (de_go G hr C.gd g1 m kp bi g2 ha (star_of n1) (back_any n2)) (call_imp (by rw [← w2, pl]))) rfl
    · cases h
  | .blt b es, ss, sc, X, C, q, h => by
    unfold ck at h
    split at h
    · rename_i x p args pos
      obtain ⟨h, h5⟩ := and2 h
      obtain ⟨h, h4⟩ := and2 h
      obtain ⟨h, h3⟩ := and2 h
      obtain ⟨h1, h2⟩ := and2 h
      obtain ⟨g1, g2⟩ := glo_of C h1
      have ha := sA es ss sc X C args h5
      have w := chkA_nst es sc args h5
      obtain ⟨e, r, rfl⟩ := len_ne (not1 h4)
      obtain ⟨n1, n2⟩ := and2 (show (nst e && r.all nst) = true from w)
      exact both (b_name C g1 g2 h3 b (of_decide_eq_true h2) ha n1 (back_any n2)) rfl
    · cases h
  | .bor b i, ss, sc, X, C, q, h => by
    unfold ck at h
    split at h
    · obtain ⟨h, h4⟩ := and2 h
      obtain ⟨h, h3⟩ := and2 h
      obtain ⟨h1, h2⟩ := and2 h
      obtain ⟨g1, g2⟩ := glo_of C h1
      obtain ⟨k1, k2, k3, k4⟩ := nm_of C h4
      exact bothD (b_bor C g1 g2 h3 b (of_decide_eq_true h2) k1 k2 k3 k4) rfl
    · cases h
  | .lenV i, ss, sc, X, C, q, h => by
    unfold ck at h
    split at h
    · obtain ⟨h, h4⟩ := and2 h
      obtain ⟨h, h3⟩ := and2 h
      obtain ⟨h1, h2⟩ := and2 h
      obtain ⟨g1, g2⟩ := glo_of C h1
      obtain ⟨k1, k2, k3, k4⟩ := nm_of C h4
      have m := C.bl _ h3
      cases of_decide_eq_true h2
      exact bothD (de_lenV g1 m k1 k2 k3 k4) rfl
    · cases h
  | .tupV i, ss, sc, X, C, q, h => by
    unfold ck at h
    split at h
    · obtain ⟨h, h4⟩ := and2 h
      obtain ⟨h, h3⟩ := and2 h
      obtain ⟨h1, h2⟩ := and2 h
      obtain ⟨g1, g2⟩ := glo_of C h1
      obtain ⟨k1, k2, k3, k4⟩ := nm_of C h4
      have m := C.bl _ h3
      cases of_decide_eq_true h2
      exact bothD (de_tupV g1 m bt_tuple k1 k2 k3 k4) rfl
    · cases h
  | .listV i, ss, sc, X, C, q, h => by
    unfold ck at h
    split at h
    · obtain ⟨h, h4⟩ := and2 h
      obtain ⟨h, h3⟩ := and2 h
      obtain ⟨h1, h2⟩ := and2 h
      obtain ⟨g1, g2⟩ := glo_of C h1
      obtain ⟨k1, k2, k3, k4⟩ := nm_of C h4
      have m := C.bl _ h3
      cases of_decide_eq_true h2
      exact both (de_listV g1 m bt_list k1 k2 k3 k4) rfl
    · cases h
  | .isa a t, ss, sc, X, C, q, h => by
    unfold ck at h
    split at h
    · obtain ⟨h, h9⟩ := and2 h
      obtain ⟨h, h8⟩ := and2 h
      obtain ⟨h, h7⟩ := and2 h
      obtain ⟨h, h6⟩ := and2 h
      obtain ⟨h, h5⟩ := and2 h
      obtain ⟨h, h4⟩ := and2 h
      obtain ⟨h, h3⟩ := and2 h
      obtain ⟨h1, h2⟩ := and2 h
      obtain ⟨g1, g2⟩ := glo_of C h1
      obtain ⟨g3, g4⟩ := glo_of C h4
      have m := C.bl _ h3
      have m2 := C.bl _ h5
      cases of_decide_eq_true h2
      have hx := d_of (snd a ss sc X C _ h9).1
      have ht := of_decide_eq_true h7
      cases of_decide_eq_true h6
      rcases ht with rfl | rfl | rfl | rfl | rfl
      · exact bothD (de_isa hx g1 m bt_isi g3 m2 bt_int (by decide) g4 (star_of h8)) rfl
      · exact bothD (de_isa hx g1 m bt_isi g3 m2 bt_bool (by decide) g4 (star_of h8)) rfl
      · exact bothD (de_isa hx g1 m bt_isi g3 m2 bt_str (by decide) g4 (star_of h8)) rfl
      · exact bothD (de_isa hx g1 m bt_isi g3 m2 bt_tuple (by decide) g4 (star_of h8)) rfl
      · exact bothD (de_isa hx g1 m bt_isi g3 m2 bt_list (by decide) g4 (star_of h8)) rfl
    · cases h
  | .meth m a es, ss, sc, X, C, q, h => by
    unfold ck at h
    split at h
    · rename_i o nme apos args cpos
      obtain ⟨h, h7⟩ := and2 h
      obtain ⟨h, h6⟩ := and2 h
      obtain ⟨h, h5⟩ := and2 h
      obtain ⟨h, h4⟩ := and2 h
      obtain ⟨h, h3⟩ := and2 h
      obtain ⟨h1, h2⟩ := and2 h
      cases of_decide_eq_true h1
      have ha := sA es ss sc X C args h7
      have w := chkA_nst es sc args h7
      obtain ⟨e, r, rfl⟩ := len_ne (not1 h4)
      obtain ⟨n1, n2⟩ := and2 (show (nst e && r.all nst) = true from w)
      exact both (de_meth (m_of C m) (d_of (snd a ss sc X C _ h6).1) ha (base_of h2) (back_few w (of_decide_eq_true h5)) (by rw [of_decide_eq_true h3]; exact beq_self_eq_true _) (star_of n1) (back_any n2)) rfl
    · cases h
  | .app i a, ss, sc, X, C, q, h => by
    unfold ck at h
    split at h
    · obtain ⟨h, h5⟩ := and2 h
      obtain ⟨h, h4⟩ := and2 h
      obtain ⟨h, h3⟩ := and2 h
      obtain ⟨h1, h2⟩ := and2 h
      cases of_decide_eq_true h1
      obtain ⟨k1, k2, k3, k4⟩ := nm_of C h4
      exact bothD (de_app (d_of (snd a ss sc X C _ h5).1) k1 k2 k3 k4 (by rw [of_decide_eq_true h2]; exact beq_self_eq_true _) (star_of h3) (back_few (by show (nst _ && true) = true; rw [h3]; rfl) (by simp))) rfl
    · cases h
  | .ext i a, ss, sc, X, C, q, h => by
    unfold ck at h
    split at h
    · obtain ⟨h, h5⟩ := and2 h
      obtain ⟨h, h4⟩ := and2 h
      obtain ⟨h, h3⟩ := and2 h
      obtain ⟨h1, h2⟩ := and2 h
      cases of_decide_eq_true h1
      obtain ⟨k1, k2, k3, k4⟩ := nm_of C h4
      exact bothD (de_ext (d_of (snd a ss sc X C _ h5).1) k1 k2 k3 k4 (by rw [of_decide_eq_true h2]; exact beq_self_eq_true _) (star_of h3) (back_few (by show (nst _ && true) = true; rw [h3]; rfl) (by simp))) rfl
    · cases h
  | .pop i, ss, sc, X, C, q, h => by
    unfold ck at h
    split at h
    · obtain ⟨h, h3⟩ := and2 h
      obtain ⟨h1, h2⟩ := and2 h
      cases of_decide_eq_true h1
      obtain ⟨k1, k2, k3, k4⟩ := nm_of C h3
      exact bothD (de_pop k1 k2 k3 k4 (by rw [of_decide_eq_true h2]; exact beq_self_eq_true _)) rfl
    · cases h
  | .popAt i a, ss, sc, X, C, q, h => by
    unfold ck at h
    split at h
    · obtain ⟨h, h5⟩ := and2 h
      obtain ⟨h, h4⟩ := and2 h
      obtain ⟨h, h3⟩ := and2 h
      obtain ⟨h1, h2⟩ := and2 h
      cases of_decide_eq_true h1
      obtain ⟨k1, k2, k3, k4⟩ := nm_of C h4
      exact bothD (de_popAt (d_of (snd a ss sc X C _ h5).1) k1 k2 k3 k4 (by rw [of_decide_eq_true h2]; exact beq_self_eq_true _) (star_of h3) (back_few (by show (nst _ && true) = true; rw [h3]; rfl) (by simp))) rfl
    · cases h
  | .lc vs s t c el, ss, sc, X, C, q, h => by
    unfold ck at h
    split at h
    · rename_i elt tg iter ifs scope pos
      obtain ⟨h, h8⟩ := and2 h
      obtain ⟨h, h7⟩ := and2 h
      obtain ⟨h, h6⟩ := and2 h
      obtain ⟨h, h5⟩ := and2 h
      obtain ⟨h, h4⟩ := and2 h
      obtain ⟨h, h3⟩ := and2 h
      obtain ⟨h1, h2⟩ := and2 h
      have ok := blkOk_by h2
      have ids : (vs.map fun i => (N.getD i dbg, i)).map (·.2) = vs := by rw [List.map_map]; exact List.map_id' vs
      have ok' : BlkOk X.N X.env.scope scope (vs.map fun i => (N.getD i dbg, i)) := by rw [C.hN, C.es]; exact ok
      have ln : X.N.length = N.length := by rw [C.hN]
      have := de_lc (X := X) (pos := pos) (raw := rawS s) (src := evI cl gl s) (t := t) (cd := evC cl gl c) (el := gd (evX cl gl el)) C.calm (by rw [C.hN]; exact C.nd) (sI s ss sc X C _ _ h4 h5) ok'
        (fun s' H' A cs fp => by rw [ids, ln]; exact sTr (rawS s) t _ _ _ _ (ct_blk C ok.kind s' H' A cs fp) _ h6 h5)
        (fun s' H' A cs fp => sC c _ _ _ (ct_blk C ok.kind s' H' A cs fp) _ h7)
        (fun s' H' A cs fp => d_of (snd el _ _ _ (ct_blk C ok.kind s' H' A cs fp) _ h8).1) (nset_of h3)
      rw [ids] at this
      exact both this rfl
    · cases h
  | .dct es, ss, sc, X, C, q, h => by
    unfold ck at h
    split at h
    · rename_i ks vs pos
      obtain ⟨h, h3⟩ := and2 h
      obtain ⟨h1, h2⟩ := and2 h
      refine both (de_dct (sD es ss sc X C pos ks vs h3) (fun z => ?_) (of_decide_eq_true h2)) rfl
      subst z
      cases h1
    · cases h
  | .dget i k z, ss, sc, X, C, q, h => by
    unfold ck at h
    split at h
    · rename_i x p nme apos e f cpos
      obtain ⟨h, h7⟩ := and2 h
      obtain ⟨h, h6⟩ := and2 h
      obtain ⟨h, h5⟩ := and2 h
      obtain ⟨h, h4⟩ := and2 h
      obtain ⟨h, h3⟩ := and2 h
      obtain ⟨h1, h2⟩ := and2 h
      obtain ⟨k1, k2, k3, k4⟩ := nm_of C h5
      cases of_decide_eq_true h1
      have tr : backTo cpos (starEach [e, f] X.env) = [(false, eval e X.env), (false, eval f X.env)] := by rw [star_of h3, star_of h4]; rfl
      refine bothD (de_dget2 (Nat.lt_of_le_of_lt (Nat.add_le_add_left (by decide) _) C.hu) (d_of (snd k ss sc X C _ h6).1) (d_of (snd z ss sc X C _ h7).1) k1 k2 k3 k4 ⟨rfl, back_few (by show (nst _ && (nst _ && true)) = true; rw [h3, h4]; rfl) (by simp), by rw [of_decide_eq_true h2]; exact beq_self_eq_true _, tr⟩) rfl
    · cases h
  | .dIdx i k, ss, sc, X, C, q, h => by
    unfold ck at h
    split at h
    · obtain ⟨h, h3⟩ := and2 h
      obtain ⟨h1, h2⟩ := and2 h
      obtain ⟨g1, g2, g3, g4⟩ := nm_of C h2
      exact bothD (de_dIdx (Nat.lt_of_le_of_lt (Nat.add_le_add_left (by decide) _) C.hu) (d_of (snd k ss sc X C _ h3).1) (nosl_of h1) g1 g2 g3 g4) rfl
    · cases h
  | .lRg s, ss, sc, X, C, q, h => by
    unfold ck at h
    split at h
    · obtain ⟨h, h6⟩ := and2 h
      obtain ⟨h, h5⟩ := and2 h
      obtain ⟨h, h4⟩ := and2 h
      obtain ⟨h, h3⟩ := and2 h
      obtain ⟨h1, h2⟩ := and2 h
      obtain ⟨g1, g2⟩ := glo_of C h1
      have m := C.bl _ h3
      cases of_decide_eq_true h2
      exact both (de_listRg C.calm g1 m (sRg s ss sc X C _ h6) (star_of h4)) rfl
    · cases h
  | .tRg s, ss, sc, X, C, q, h => by
    unfold ck at h
    split at h
    · obtain ⟨h, h6⟩ := and2 h
      obtain ⟨h, h5⟩ := and2 h
      obtain ⟨h, h4⟩ := and2 h
      obtain ⟨h, h3⟩ := and2 h
      obtain ⟨h1, h2⟩ := and2 h
      obtain ⟨g1, g2⟩ := glo_of C h1
      have m := C.bl _ h3
      cases of_decide_eq_true h2
      exact both (de_tupRg C.calm g1 m (sRg s ss sc X C _ h6) (star_of h4)) rfl
    · cases h
  | .lset a, ss, sc, X, C, q, h => by
    unfold ck at h
    split at h
    · obtain ⟨h, h8⟩ := and2 h
      obtain ⟨h, h7⟩ := and2 h
      obtain ⟨h, h6⟩ := and2 h
      obtain ⟨h, h5⟩ := and2 h
      obtain ⟨h, h4⟩ := and2 h
      obtain ⟨h, h3⟩ := and2 h
      obtain ⟨h1, h2⟩ := and2 h
      obtain ⟨g1, _⟩ := glo_of C h1
      obtain ⟨g2, _⟩ := glo_of C h4
      have m1 := C.bl _ h3
      have m2 := C.bl _ h6
      cases of_decide_eq_true h2
      cases of_decide_eq_true h5
      exact bothD (de_lset C.calm g1 m1 g2 m2 (d_of (snd a ss sc X C _ h8).1) (star_of h7)) rfl
    · cases h
theorem sD : ∀ (es : Es) (ss sc : Scope) (X : Cx), Ct n N cl gl ss sc X → ∀ (pos : Pos) (ks : List (Option Expr)) (vs : List Expr), chkD n N es sc ks vs = true → Prs X pos ks vs (evA cl gl es)
  | .nil, ss, sc, X, C, pos, [], [], h => prs_nil
  | .cons k (.cons v r), ss, sc, X, C, pos, some ke :: ks, ve :: vs, h => by
    unfold chkD at h
    obtain ⟨h, h3⟩ := and2 h
    obtain ⟨h1, h2⟩ := and2 h
    exact prs_cons (d_of (snd k ss sc X C _ h1).1) (d_of (snd v ss sc X C _ h2).1) (sD r ss sc X C pos ks vs h3)
  | .nil, _, _, _, _, _, _ :: _, _, h => by simp [chkD] at h
  | .nil, _, _, _, _, _, [], _ :: _, h => by simp [chkD] at h
  | .cons _ .nil, _, _, _, _, _, _, _, h => by simp [chkD] at h
  | .cons _ (.cons _ _), _, _, _, _, _, [], _, h => by simp [chkD] at h
  | .cons _ (.cons _ _), _, _, _, _, _, none :: _, _, h => by simp [chkD] at h
  | .cons _ (.cons _ _), _, _, _, _, _, some _ :: _, [], h => by simp [chkD] at h
theorem sRg : ∀ (s : Src) (ss sc : Scope) (X : Cx), Ct n N cl gl ss sc X → ∀ e, chkI n N s sc e = true → PR X e (evRg cl gl s)
  | .rng a, ss, sc, X, C, e, h => by
    unfold chkI at h
    split at h
    · obtain ⟨h, h5⟩ := and2 h
      obtain ⟨h, h4⟩ := and2 h
      obtain ⟨h, h3⟩ := and2 h
      obtain ⟨h1, h2⟩ := and2 h
      obtain ⟨g1, g2⟩ := glo_of C h1
      have m := C.bl _ h3
      cases of_decide_eq_true h2
      exact dr_1 g1 m (d_of (snd a ss sc X C _ h5).1) (star_of h4)
    · cases h
  | .rg2 a b, ss, sc, X, C, e, h => by
    unfold chkI at h
    split at h
    · obtain ⟨h, h7⟩ := and2 h
      obtain ⟨h, h6⟩ := and2 h
      obtain ⟨h, h5⟩ := and2 h
      obtain ⟨h, h4⟩ := and2 h
      obtain ⟨h, h3⟩ := and2 h
      obtain ⟨h1, h2⟩ := and2 h
      obtain ⟨g1, g2⟩ := glo_of C h1
      have m := C.bl _ h3
      cases of_decide_eq_true h2
      exact dr_2 g1 m (d_of (snd a ss sc X C _ h6).1) (d_of (snd b ss sc X C _ h7).1) (star_of h4) (star_of h5) (back_any (by show (nst _ && true) = true; rw [h5]; rfl))
    · cases h
  | .seq a, ss, sc, X, C, e, h => fun pins s σ H Q I ⟨F, ρ, ρ', i, j, S, eq, q⟩ => nomatch eq
  | .enL a, ss, sc, X, C, e, h => fun pins s σ H Q I ⟨F, ρ, ρ', i, j, S, eq, q⟩ => nomatch eq
  | .zp a b, ss, sc, X, C, e, h => fun pins s σ H Q I ⟨F, ρ, ρ', i, j, S, eq, q⟩ => nomatch eq
theorem sC : ∀ (o : Oe) (ss sc : Scope) (X : Cx), Ct n N cl gl ss sc X → ∀ es, chkC n N o sc es = true → PTs X es (tT X.K (evC cl gl o))
  | .no, ss, sc, X, C, [], h => ⟨fun pins s σ H Q I ⟨F, ρ, ρ', b, S, eq, q⟩ => by
    cases eq
    exact pts_nil.run pins s σ H Q I (q F H (Ste.refl S))⟩
  | .no, _, _, _, _, _ :: _, h => by simp [chkC] at h
  | .so _, _, _, _, _, [], h => by simp [chkC] at h
  | .so _, _, _, _, _, _ :: _ :: _, h => by simp [chkC] at h
  | .so a, ss, sc, X, C, [e], h => by
    unfold chkC at h
    exact pts_one (snd a ss sc X C _ h).2
theorem sI : ∀ (s : Src) (ss sc : Scope) (X : Cx), Ct n N cl gl ss sc X → ∀ tg e, chkI n N s sc e = true → (!rawS s || isTup tg) = true → PI X tg e (tI X.K (rawS s) (evI cl gl s))
  | .seq a, ss, sc, X, C, tg, e, h, ht => by
    unfold chkI at h
    exact di_seq (d_of (snd a ss sc X C _ h).1)
  | .rng a, ss, sc, X, C, tg, e, h, ht => by
    unfold chkI at h
    split at h
    · obtain ⟨h, h5⟩ := and2 h
      obtain ⟨h, h4⟩ := and2 h
      obtain ⟨h, h3⟩ := and2 h
      obtain ⟨h1, h2⟩ := and2 h
      obtain ⟨g1, g2⟩ := glo_of C h1
      have m := C.bl _ h3
      cases of_decide_eq_true h2
      exact di_rng g1 m (d_of (snd a ss sc X C _ h5).1) (star_of h4)
    · cases h
  | .rg2 a b, ss, sc, X, C, tg, e, h, ht => by
    unfold chkI at h
    split at h
    · obtain ⟨h, h7⟩ := and2 h
      obtain ⟨h, h6⟩ := and2 h
      obtain ⟨h, h5⟩ := and2 h
      obtain ⟨h, h4⟩ := and2 h
      obtain ⟨h, h3⟩ := and2 h
      obtain ⟨h1, h2⟩ := and2 h
      obtain ⟨g1, g2⟩ := glo_of C h1
      have m := C.bl _ h3
      cases of_decide_eq_true h2
      exact di_rg2 g1 m (d_of (snd a ss sc X C _ h6).1) (d_of (snd b ss sc X C _ h7).1) (by rw [star_of h4, star_of h5]; rfl) (star_of h5)
    · cases h
  | .enL a, ss, sc, X, C, tg, e, h, ht => by
    unfold chkI at h
    split at h
    · obtain ⟨h, h5⟩ := and2 h
      obtain ⟨h, h4⟩ := and2 h
      obtain ⟨h, h3⟩ := and2 h
      obtain ⟨h1, h2⟩ := and2 h
      obtain ⟨g1, g2⟩ := glo_of C h1
      have m := C.bl _ h3
      cases of_decide_eq_true h2
      cases tg with
      | Tuple es k p => exact di_en g1 m (d_of (snd a ss sc X C _ h5).1) (star_of h4)
      | _ => cases ht
    · cases h
  | .zp a b, ss, sc, X, C, tg, e, h, ht => by
    unfold chkI at h
    split at h
    · obtain ⟨h, h7⟩ := and2 h
      obtain ⟨h, h6⟩ := and2 h
      obtain ⟨h, h5⟩ := and2 h
      obtain ⟨h, h4⟩ := and2 h
      obtain ⟨h, h3⟩ := and2 h
      obtain ⟨h1, h2⟩ := and2 h
      obtain ⟨g1, g2⟩ := glo_of C h1
      have m := C.bl _ h3
      cases of_decide_eq_true h2
      cases tg with
      | Tuple es k p => exact di_zip g1 m (d_of (snd a ss sc X C _ h6).1) (d_of (snd b ss sc X C _ h7).1) (by rw [star_of h4, star_of h5]; rfl) (star_of h5)
      | _ => cases ht
    · cases h
theorem sA : ∀ (as : Es) (ss sc : Scope) (X : Cx), Ct n N cl gl ss sc X → ∀ es, chkA n N as sc es = true → PA X es (tAr X.K (evA cl gl as))
  | .nil, ss, sc, X, C, [], h => da_nil
  | .nil, _, _, _, _, _ :: _, h => by simp [chkA] at h
  | .cons _ _, _, _, _, _, [], h => by simp [chkA] at h
  | .cons a r, ss, sc, X, C, e :: es, h => by
    unfold chkA at h
    obtain ⟨h, h3⟩ := and2 h
    obtain ⟨h1, h2⟩ := and2 h
    exact da_cons (d_of (snd a ss sc X C _ h2).1) (sA r ss sc X C es h3) (star_of h1)
theorem sR : ∀ (as : As) (ss sc : Scope) (X : Cx), Ct n N cl gl ss sc X → ∀ es, chkR n N as sc es = true → PA X es (tArs X.K (evR cl gl as))
  | .nil, ss, sc, X, C, [], h => dr_nil
  | .nil, _, _, _, _, _ :: _, h => by simp [chkR] at h
  | .d _ _, _, _, _, _, [], h => by simp [chkR] at h
  | .s _ _, _, _, _, _, [], h => by simp [chkR] at h
  | .d a r, ss, sc, X, C, e :: es, h => by
    unfold chkR at h
    obtain ⟨h, h3⟩ := and2 h
    obtain ⟨h1, h2⟩ := and2 h
    exact dr_d (d_of (snd a ss sc X C _ h2).1) (sR r ss sc X C es h3) (star_of h1)
  | .s i r, ss, sc, X, C, e :: es, h => by
    cases e with
    | Name x p =>
      unfold chkR at h
      obtain ⟨h1, h2⟩ := and2 h
      obtain ⟨k1, k2, k3, k4⟩ := nm_of C h1
      exact dr_s k1 k2 k3 k4 (sR r ss sc X C es h2) (star_of rfl)
    | _ => simp [chkR] at h
theorem sO : ∀ (o : Oe) (ss sc : Scope) (X : Cx), Ct n N cl gl ss sc X → ∀ e, chkO n N o sc e = true → PO X e (tO X.K (evO cl gl o))
  | .no, ss, sc, X, C, none, h => dp_none
  | .no, _, _, _, _, some _, h => by simp [chkO] at h
  | .so _, _, _, _, _, none, h => by simp [chkO] at h
  | .so a, ss, sc, X, C, some e, h => by
    unfold chkO at h
    exact dp_some (d_of (snd a ss sc X C _ h).1)
end
end
end DL

namespace DL
open PySem PySem.Spec L2
open PyProof.Rows hiding St

section
variable {n : Nm} {N : List Str} {cl : Nat → List Sl → Option (List Sl × Sl)} {gl : Nat → Option D}
theorem blockKind_of {env : Env} (h : env.scope.kind = .function) : env.blockKind = .function := by
  unfold Env.blockKind
  rw [h]; rfl
theorem all_cst_folded {vs : List Expr} (h : vs.all isCst = true) : vs.all (foldedForSure 8) = true := by
  rw [List.all_eq_true] at h ⊢
  intro e he
  have := h e he
  cases e <;> first | rfl | cases this
theorem names_short {sc : Scope} {f : Expr → Option Str} (hf : ∀ t, isLoc sc t = false → f t = none) : ∀ {ts : List Expr}, ts.all (isLoc sc) = false → (ts.filterMap f).length < ts.length
  | [], h => by cases h
  | t :: r, h => by
    rw [List.all_cons] at h
    cases ht : isLoc sc t with
    | false =>
      rw [List.filterMap_cons_none (hf t ht)]
      exact Nat.lt_succ_of_le (List.length_filterMap_le _ _)
    | true =>
      rw [ht, Bool.true_and] at h
      have := names_short hf h
      cases e : f t with
      | none => rw [List.filterMap_cons_none e]; exact Nat.lt_succ_of_lt this
      | some y => rw [List.filterMap_cons_some e]; exact Nat.succ_lt_succ this
theorem swNo_ok {sc : Scope} {tg e : Expr} {env : Env} (hs : env.scope = sc) (h : swNo sc tg e = true) : swappedStores [tg] e env = pure none := by
  subst hs
  unfold swappedStores
  cases tg with
  | Tuple ts k p =>
    cases e with
    | Tuple vs k2 p2 =>
      have h : ((!(decide (ts.length = 2) || decide (ts.length = 3)) || !(ts.all (isLoc env.scope))) || vs.all isCst) = true := h
      simp only
      split
      · rfl
      · split
        · rfl
        · rename_i hl _
          rcases (Bool.or_eq_true _ _).mp h with h | h
          · rcases (Bool.or_eq_true _ _).mp h with h | h
            · exfalso
              have h := not1 h
              apply hl
              have e2 : (ts.length == 2) = decide (ts.length = 2) := rfl
              have e3 : (ts.length == 3) = decide (ts.length = 3) := rfl
              rw [e2, e3, h]; rfl
            · rw [if_pos]
              rw [Bool.or_eq_true]
              left
              refine bne_iff_ne.mpr (Nat.ne_of_lt (names_short (sc := env.scope) (fun t ht => ?_) (not1 h)))
              cases t with
              | Name x p =>
                have h2 : ¬ env.scope.names.lookup x = some .local := of_decide_eq_false ht
                have h3 : (env.kindOf x == some NameKind.local) = false := by
                  rw [beq_eq_false_iff_ne]; exact h2
                simp only [h3, Bool.false_and, Bool.false_eq_true, if_false]
              | _ => rfl
          · split
            · rfl
            · rw [if_pos (all_cst_folded h)]
    | _ => rfl
  | List ts p => cases h
  | _ => cases e <;> rfl
theorem notStar_any {vs : List Expr} (h : vs.all nst = true) : (vs.any fun | .Starred .. => true | _ => false) = false := by
  rw [List.any_eq_false]
  intro e he
  have := List.all_eq_true.mp h e he
  cases e <;> first | exact Bool.false_ne_true | cases this
theorem swYes2 {sc : Scope} {x y : Str} {px py pt pt2 : Pos} {kt k2 : Nat} {a b : Expr} {env : Env} (hs : env.scope = sc) (hk : sc.kind = .function) (h : swYes sc [x, y] [px, py] [a, b] = true) :
    swappedStores [.Tuple [.Name x px, .Name y py] kt pt] (.Tuple [a, b] k2 pt2) env = pure (some [x, y]) := by
  subst hs
  unfold swYes at h
  obtain ⟨h, h6⟩ := and2 h
  obtain ⟨h, h5⟩ := and2 h
  obtain ⟨h, h4⟩ := and2 h
  obtain ⟨h, h3⟩ := and2 h
  obtain ⟨h1, h2⟩ := and2 h
  have lx : env.kindOf x = some .local := of_decide_eq_true (List.all_eq_true.mp h1 x (by simp))
  have ly : env.kindOf y = some .local := of_decide_eq_true (List.all_eq_true.mp h1 y (by simp))
  have lp : py.line = px.line := of_decide_eq_true (List.all_eq_true.mp h2 py (by simp))
  have nd : x ≠ y := by
    have := of_decide_eq_true h3
    simpa using this
  unfold swappedStores
  simp only [blockKind_of hk, List.length_cons, List.length_nil, notStar_any h4, not1 h5, not1 h6, List.filterMap_cons, List.filterMap_nil, lx, ly, Expr.pos, List.head?_cons, Option.map_some, Option.getD_some, lp]
  simp [nd, Ne.symm nd, List.eraseDups_cons]
  obtain ⟨na, nb⟩ := and2 (show (nst a && [b].all nst) = true from h4)
  obtain ⟨nb, _⟩ := and2 (show (nst b && [].all nst) = true from nb)
  intro hh
  rcases hh with hh | hh
  · (exfalso; revert hh; cases a <;> first | (intro hh; cases hh; done) | (cases na; done))
  · (exfalso; revert hh; cases b <;> first | (intro hh; cases hh; done) | (cases nb; done))
theorem swYes3 {sc : Scope} {x y z : Str} {px py pz pt pt2 : Pos} {kt k2 : Nat} {a b c : Expr} {env : Env} (hs : env.scope = sc) (hk : sc.kind = .function) (h : swYes sc [x, y, z] [px, py, pz] [a, b, c] = true) :
    swappedStores [.Tuple [.Name x px, .Name y py, .Name z pz] kt pt] (.Tuple [a, b, c] k2 pt2) env = pure (some [x, y, z]) := by
  subst hs
  unfold swYes at h
  obtain ⟨h, h6⟩ := and2 h
  obtain ⟨h, h5⟩ := and2 h
  obtain ⟨h, h4⟩ := and2 h
  obtain ⟨h, h3⟩ := and2 h
  obtain ⟨h1, h2⟩ := and2 h
  have lx : env.kindOf x = some .local := of_decide_eq_true (List.all_eq_true.mp h1 x (by simp))
  have ly : env.kindOf y = some .local := of_decide_eq_true (List.all_eq_true.mp h1 y (by simp))
  have lz : env.kindOf z = some .local := of_decide_eq_true (List.all_eq_true.mp h1 z (by simp))
  have lp : py.line = px.line := of_decide_eq_true (List.all_eq_true.mp h2 py (by simp))
  have lq : pz.line = px.line := of_decide_eq_true (List.all_eq_true.mp h2 pz (by simp))
  have nd : (¬x = y ∧ ¬x = z) ∧ ¬y = z := by
    have := of_decide_eq_true h3
    simpa using this
  unfold swappedStores
  simp only [blockKind_of hk, List.length_cons, List.length_nil, notStar_any h4, not1 h5, not1 h6, List.filterMap_cons, List.filterMap_nil, lx, ly, lz, Expr.pos, List.head?_cons, Option.map_some, Option.getD_some, lp, lq]
  simp [nd.1.1, nd.1.2, nd.2, Ne.symm nd.1.1, Ne.symm nd.1.2, Ne.symm nd.2, List.eraseDups_cons]
  obtain ⟨na, nb⟩ := and2 (show (nst a && [b, c].all nst) = true from h4)
  obtain ⟨nb, nc⟩ := and2 (show (nst b && [c].all nst) = true from nb)
  obtain ⟨nc, _⟩ := and2 (show (nst c && [].all nst) = true from nc)
  intro hh
  rcases hh with hh | hh | hh
  · (exfalso; revert hh; cases a <;> first | (intro hh; cases hh; done) | (cases na; done))
  · (exfalso; revert hh; cases b <;> first | (intro hh; cases hh; done) | (cases nb; done))
  · (exfalso; revert hh; cases c <;> first | (intro hh; cases hh; done) | (cases nc; done))
theorem nodup2 {x y : Str} {sc : Scope} {px py : Pos} {vs : List Expr} (h : swYes sc [x, y] [px, py] vs = true) : x ≠ y := by
  unfold swYes at h
  obtain ⟨h, _⟩ := and2 h
  obtain ⟨h, _⟩ := and2 h
  obtain ⟨h, _⟩ := and2 h
  obtain ⟨_, h3⟩ := and2 h
  have := of_decide_eq_true h3
  simpa using this
theorem nodup3 {x y z : Str} {sc : Scope} {px py pz : Pos} {vs : List Expr} (h : swYes sc [x, y, z] [px, py, pz] vs = true) : x ≠ y ∧ x ≠ z ∧ y ≠ z := by
  unfold swYes at h
  obtain ⟨h, _⟩ := and2 h
  obtain ⟨h, _⟩ := and2 h
  obtain ⟨h, _⟩ := and2 h
  obtain ⟨_, h3⟩ := and2 h
  have := of_decide_eq_true h3
  simp at this
  exact ⟨this.1.1, this.1.2, this.2⟩
theorem locs {xs : List Str} {sc : Scope} {ps : List Pos} {vs : List Expr} (h : swYes sc xs ps vs = true) : ∀ x ∈ xs, sc.names.lookup x = some .local := by
  unfold swYes at h
  obtain ⟨h, _⟩ := and2 h
  obtain ⟨h, _⟩ := and2 h
  obtain ⟨h, _⟩ := and2 h
  obtain ⟨h, _⟩ := and2 h
  obtain ⟨h1, _⟩ := and2 h
  exact fun x hx => of_decide_eq_true (List.all_eq_true.mp h1 x hx)
theorem fx_of {fx : List Nat} {i : Nat} (h : (!fx.contains i) = true) : i ∉ fx := by simpa using not1 h
theorem ix_ne {i j : Nat} {x y : Str} (hi : N[i]? = some x) (hj : N[j]? = some y) (h : x ≠ y) : i ≠ j := fun e => by
  subst e
  rw [hi] at hj
  exact h (Option.some.inj hj)
mutual
theorem sG : ∀ (t : Tg) (sc : Scope) (X : Cx) (fx : List Nat), Ct n N cl gl sc sc X → ∀ e, chkG n N fx sc t e = true → PG X e (tG2 X.K fx (evG cl gl t))
  | .n i, sc, X, fx, C, e, h => by
    cases e with
    | Name x p =>
      unfold chkG at h
      obtain ⟨h1, h2⟩ := and2 h
      obtain ⟨a, b, c⟩ := st_of C h1
      exact d2_of (dg_name (by rw [C.hN]; exact C.nd) a b (fx_of h2) c)
    | _ => simp [chkG] at h
  | .ix i a, sc, X, fx, C, e, h => by
    cases e with
    | Subscript o e p =>
      cases o with
      | Name x p2 =>
        unfold chkG at h
        obtain ⟨h, h3⟩ := and2 h
        obtain ⟨h1, h2⟩ := and2 h
        obtain ⟨k1, k2, k3, k4⟩ := nm_of C h2
        exact d2_idx k1 k2 k3 k4 (d_of (snd a sc sc X C _ h3).1) (asgIx_of h1)
      | _ => simp [chkG] at h
    | _ => simp [chkG] at h
  | .fr i a, sc, X, fx, C, e, h => by
    cases e with
    | Subscript o e p =>
      cases o with
      | Name x p2 =>
        cases e with
        | Slice lo hi st p3 =>
          cases lo with
          | none => simp [chkG] at h
          | some lo =>
            cases hi with
            | some _ => simp [chkG] at h
            | none =>
              cases st with
              | some _ => simp [chkG] at h
              | none =>
                unfold chkG at h
                obtain ⟨h1, h2⟩ := and2 h
                obtain ⟨k1, k2, k3, k4⟩ := nm_of C h1
                exact d2_from k1 k2 k3 k4 (d_of (snd a sc sc X C _ h2).1)
        | _ => simp [chkG] at h
      | _ => simp [chkG] at h
    | _ => simp [chkG] at h
  | .t k ts, sc, X, fx, C, e, h => by
    cases e with
    | Tuple es k2 p =>
      unfold chkG at h
      obtain ⟨h1, h2⟩ := and2 h
      exact d2_tup C.calm (sGs ts sc X fx C es h2) (by rw [asg_len, of_decide_eq_true h1]) (asg_find es (chkGs_nst ts es sc fx h2))
    | _ => simp [chkG] at h
theorem sGs : ∀ (ts : Tgs) (sc : Scope) (X : Cx) (fx : List Nat), Ct n N cl gl sc sc X → ∀ es, chkGs n N fx sc ts es = true → PGs X es (tGs2 X.K fx (evGs cl gl ts))
  | .nil, sc, X, fx, C, [], h => d2s_nil
  | .nil, _, _, _, _, _ :: _, h => by simp [chkGs] at h
  | .cons _ _, _, _, _, _, [], h => by simp [chkGs] at h
  | .cons t r, sc, X, fx, C, e :: es, h => by
    unfold chkGs at h
    obtain ⟨h, h3⟩ := and2 h
    obtain ⟨h1, h2⟩ := and2 h
    exact d2s_cons (sG t sc X fx C e h2) (sGs r sc X fx C es h3) (by rw [asgE_of h1]; rfl)
theorem chkGs_nst : ∀ (ts : Tgs) (es : List Expr) (sc : Scope) (fx : List Nat), chkGs n N fx sc ts es = true → es.all nst = true
  | .nil, [], _, _, _ => rfl
  | .nil, _ :: _, _, _, h => by simp [chkGs] at h
  | .cons _ _, [], _, _, h => by simp [chkGs] at h
  | .cons t r, e :: es, sc, fx, h => by
    unfold chkGs at h
    obtain ⟨h, h3⟩ := and2 h
    obtain ⟨h1, _⟩ := and2 h
    show (nst e && es.all nst) = true
    rw [h1, chkGs_nst r es sc fx h3]; rfl
end
theorem asg_tup {tg : Expr} {env : Env} (h : isTup tg = true) : (assignEach [tg] env).map (·.2) = [assign tg env] := by
  cases tg with
  | Tuple es k p => rfl
  | _ => cases h
theorem sw_tup {tg e : Expr} {l : Nat} {env : Env} (h : isTup tg = true) : swapsWithSole [tg] e l env = pure false := by
  cases tg with
  | Tuple es k p => cases e <;> rfl
  | _ => cases h
theorem sw_g {tg e : Expr} {l : Nat} {env : Env} {fx : List Nat} {sc : Scope} {t : Tg} (ht : ntg t = true) (h : chkG n N fx sc t tg = true) : swapsWithSole [tg] e l env = pure false := by
  cases tg with
  | Name x p =>
    cases t with
    | n i => cases ht
    | _ => simp [chkG] at h
  | _ => cases e <;> rfl
theorem set_lc {sc : Scope} {X : Cx} {fx : List Nat} {i : Nat} {k : Bool} {x : Str} {py spos lp : Pos} {elt : Expr} {gens : List Comprehension} {scope : Scope} {vs : List Nat} {s : Src} {t : T} {c : Oe} {el : E} (C : Ct n N cl gl sc sc X) (hy : X.N[i]? = some x) (hyl : X.env.scope.names.lookup x = some .local)
    (hsw : swapsWith (.ListComp elt gens scope lp) (some (.Name x py)) spos.line X.env = pure true) (hx : i ∉ fx) (h : ck n N (.lc vs s t c el) sc (.e (.ListComp elt gens scope lp)) = true) :
    PS X (.Assign [.Name x py] (.ListComp elt gens scope lp) spos) (tS X.K fx (gSet i k (evX cl gl (.lc vs s t c el)))) := by
  unfold ck at h
  split at h
  · rename_i e1
    cases e1
    obtain ⟨h, h8⟩ := and2 h
    obtain ⟨h, h7⟩ := and2 h
    obtain ⟨h, h6⟩ := and2 h
    obtain ⟨h, h5⟩ := and2 h
    obtain ⟨h, h4⟩ := and2 h
    obtain ⟨h, h3⟩ := and2 h
    obtain ⟨h1, h2⟩ := and2 h
    have ok := blkOk_by h2
    have ids : (vs.map fun i => (N.getD i dbg, i)).map (·.2) = vs := by rw [List.map_map]; exact List.map_id' vs
    have ok' : BlkOk X.N X.env.scope scope (vs.map fun i => (N.getD i dbg, i)) := by rw [C.hN, C.es]; exact ok
    have ln : X.N.length = N.length := by rw [C.hN]
    have := ds_setLc (X := X) (fx := fx) (i := i) (k := k) (pos := lp) (raw := rawS s) (src := evI cl gl s) (t := t) (cd := evC cl gl c) (el := gd (evX cl gl el)) C.calm (by rw [C.hN]; exact C.nd) hy hyl hsw hx (sI s sc sc X C _ _ h4 h5) ok'
      (fun s' H' A cs fp => by rw [ids, ln]; exact sTr (rawS s) t _ _ _ _ (ct_blk C ok.kind s' H' A cs fp) _ h6 h5)
      (fun s' H' A cs fp => sC c _ _ _ (ct_blk C ok.kind s' H' A cs fp) _ h7)
      (fun s' H' A cs fp => d_of (snd el _ _ _ (ct_blk C ok.kind s' H' A cs fp) _ h8).1) (nset_of h3)
    rw [ids] at this
    exact this
  · cases h
theorem nms_ok {sc : Scope} {X : Cx} {fx : List Nat} (C : Ct n N cl gl sc sc X) : ∀ (is : List Nat) (es : List Expr), nmsB N fx sc is es = true → PGs X es (gsN is) ∧ es.length = is.length ∧ es.all nst = true ∧ ∀ i ∈ is, i ∉ fx
  | [], [], _ => ⟨pgs_nil, rfl, rfl, fun _ h => by cases h⟩
  | [], _ :: _, h => by simp [nmsB] at h
  | _ :: _, [], h => by simp [nmsB] at h
  | i :: r, e :: es, h => by
    cases e with
    | Name x p =>
      obtain ⟨h, h3⟩ := and2 (show ((stB N sc i x && !fx.contains i) && nmsB N fx sc r es) = true from h)
      obtain ⟨h1, h2⟩ := and2 h
      obtain ⟨a1, a2, a3, a4⟩ := nms_ok C r es h3
      obtain ⟨b1, b2, b3⟩ := st_of C h1
      refine ⟨pgs_cons (pg_name (by rw [C.hN]; exact C.nd) b1 b2 b3) a1 rfl, by rw [List.length_cons, List.length_cons, a2], a3, fun j hj => ?_⟩
      rcases List.mem_cons.mp hj with rfl | hj
      · exact fx_of h2
      · exact a4 j hj
    | _ => simp [nmsB] at h
theorem m_ok {sc : Scope} {X : Cx} (C : Ct n N cl gl sc sc X) : ∀ (ks : List Bool) (as : Es) (es : List Expr), mB n N sc ks as es = true → PA X es (tM X.K (evM cl gl ks as))
  | [], .nil, [], _ => dm_nil
  | [], .nil, _ :: _, h => by simp [mB] at h
  | [], .cons _ _, _, h => by simp [mB] at h
  | _ :: _, .nil, _, h => by simp [mB] at h
  | _ :: _, .cons _ _, [], h => by simp [mB] at h
  | k :: ks, .cons a r, e :: es, h => by
    obtain ⟨h, h3⟩ := and2 (show ((nst e && ck n N a sc (.e e)) && mB n N sc ks r es) = true from h)
    obtain ⟨h1, h2⟩ := and2 h
    exact dm_cons (snd a sc sc X C _ h2).1 (m_ok C ks r es h3) (star_of h1)
set_option maxHeartbeats 4000000 in
mutual
theorem sS : ∀ (a : S) (sc : Scope) (X : Cx) (fx : List Nat), Ct n N cl gl sc sc X → ∀ st, chkS n N fx sc a st = true → PS X st (tS X.K fx (evS cl gl a))
  | .pass, sc, X, fx, C, st, h => by
    unfold chkS at h
    split at h
    · exact ds_pass
    · cases h
  | .brk, sc, X, fx, C, st, h => by
    unfold chkS at h
    split at h
    · exact ds_brk
    · cases h
  | .cont, sc, X, fx, C, st, h => by
    unfold chkS at h
    split at h
    · exact ds_cont
    · cases h
  | .never, sc, X, fx, C, st, h => ds_never
  | .expr a, sc, X, fx, C, st, h => by
    unfold chkS at h
    split at h
    · obtain ⟨h1, h2⟩ := and2 h
      exact ds_expr (snd a sc sc X C _ h2).1 (swap_of h1)
    · cases h
  | .ret a, sc, X, fx, C, st, h => by
    unfold chkS at h
    split at h
    · exact ds_ret (snd a sc sc X C _ h).1
    · cases h
  | .retN, sc, X, fx, C, st, h => by
    unfold chkS at h
    split at h
    · exact ds_retN
    · cases h
  | .ite c a b, sc, X, fx, C, st, h => by
    unfold chkS at h
    split at h
    · obtain ⟨h, h3⟩ := and2 h
      obtain ⟨h1, h2⟩ := and2 h
      exact ds_if (snd c sc sc X C _ h1).2 (sSs a sc X fx C _ h2) (sSs b sc X fx C _ h3)
    · cases h
  | .set i k a, sc, X, fx, C, st, h => by
    unfold chkS at h
    split at h
    · rename_i x py e pos
      obtain ⟨h, h4⟩ := and2 h
      obtain ⟨h, h3⟩ := and2 h
      obtain ⟨h1, h2⟩ := and2 h
      obtain ⟨g1, g2, g3⟩ := st_of C h1
      have he := (snd a sc sc X C _ h3).1
      have nd : X.N.Nodup := by rw [C.hN]; exact C.nd
      by_cases hc : noComp e = true
      · exact ds_set nd g1 g2 he (fx_of h2) (swap_of hc) g3
      · cases e with
        | ListComp elt gens scope lp =>
          unfold swOk at h4
          rcases (Bool.or_eq_true _ _).mp h4 with h4 | h4
          · cases a with
            | lc vs s t c el =>
              obtain ⟨h4, h7⟩ := and2 h4
              obtain ⟨h5, h6⟩ := and2 h4
              have hl : X.env.scope.names.lookup x = some .local := by rw [C.es]; exact of_decide_eq_true h5
              exact set_lc C g1 hl (sw_true (by rw [C.es]; exact C.fk) hl (by rw [of_decide_eq_true h6]; exact beq_self_eq_true _) (not1 h7)) (fx_of h2) h3
            | _ => simp [ck] at h3
          · have h5 : X.env.scope.names.lookup x = some .cell := by rw [C.es]; exact of_decide_eq_true h4
            refine ds_set nd g1 g2 he (fx_of h2) ?_ g3
            have kx : X.env.kindOf x = some .cell := h5
            unfold swapsWith
            simp only [kx]
            show pure (X.env.blockKind == ScopeKind.function && (some NameKind.cell == some NameKind.local) && _ && _) = pure false
            rw [show (some NameKind.cell == some NameKind.local) = false from rfl, Bool.and_false, Bool.false_and, Bool.false_and]
        | SetComp _ _ _ _ => cases h4
        | DictComp _ _ _ _ _ => cases h4
        | _ => exact absurd rfl hc
    · cases h
  | .par2 i j k1 k2 a b, sc, X, fx, C, st, h => by
    unfold chkS at h
    split at h
    · obtain ⟨h, h9⟩ := and2 h
      obtain ⟨h, h8⟩ := and2 h
      obtain ⟨h, h7⟩ := and2 h
      obtain ⟨h, h6⟩ := and2 h
      obtain ⟨h, h5⟩ := and2 h
      obtain ⟨h, h4⟩ := and2 h
      obtain ⟨h, h3⟩ := and2 h
      obtain ⟨h1, h2⟩ := and2 h
      have n1 := of_decide_eq_true h1
      have n2 := of_decide_eq_true h2
      have lo := locs h5
      refine ds_par2 C.calm (by rw [C.hN]; exact C.nd) (by rw [C.hN]; exact n1) (by rw [C.hN]; exact n2) (ix_ne n1 n2 (nodup2 h5)) (by rw [C.es]; exact lo _ (by simp)) (by rw [C.es]; exact lo _ (by simp))
        (dm_cons (snd a sc sc X C _ h8).1 (dm_cons (snd b sc sc X C _ h9).1 dm_nil (star_of h7)) (star_of h6)) (swYes2 C.es C.fk h5) (fx_of h3) (fx_of h4)
    · cases h
  | .par3 i j l k1 k2 k3 a b c, sc, X, fx, C, st, h => by
    unfold chkS at h
    split at h
    · obtain ⟨h, h13⟩ := and2 h
      obtain ⟨h, h12⟩ := and2 h
      obtain ⟨h, h11⟩ := and2 h
      obtain ⟨h, h10⟩ := and2 h
      obtain ⟨h, h9⟩ := and2 h
      obtain ⟨h, h8⟩ := and2 h
      obtain ⟨h, h7⟩ := and2 h
      obtain ⟨h, h6⟩ := and2 h
      obtain ⟨h, h5⟩ := and2 h
      obtain ⟨h, h4⟩ := and2 h
      obtain ⟨h, h3⟩ := and2 h
      obtain ⟨h1, h2⟩ := and2 h
      have n1 := of_decide_eq_true h1
      have n2 := of_decide_eq_true h2
      have n3 := of_decide_eq_true h3
      have lo := locs h7
      obtain ⟨d1, d2, d3⟩ := nodup3 h7
      refine ds_par3 C.calm (by rw [C.hN]; exact C.nd) (by rw [C.hN]; exact n1) (by rw [C.hN]; exact n2) (by rw [C.hN]; exact n3) (ix_ne n1 n2 d1) (ix_ne n1 n3 d2) (ix_ne n2 n3 d3) (by rw [C.es]; exact lo _ (by simp)) (by rw [C.es]; exact lo _ (by simp)) (by rw [C.es]; exact lo _ (by simp))
        (dm_cons (snd a sc sc X C _ h11).1 (dm_cons (snd b sc sc X C _ h12).1 (dm_cons (snd c sc sc X C _ h13).1 dm_nil (star_of h10)) (star_of h9)) (star_of h8)) (swYes3 C.es C.fk h7) (fx_of h4) (fx_of h5) (fx_of h6)
    · cases h
  | .parN is ks es, sc, X, fx, C, st, h => by
    unfold chkS at h
    split at h
    · obtain ⟨h, h4⟩ := and2 h
      obtain ⟨h, h3⟩ := and2 h
      obtain ⟨h1, h2⟩ := and2 h
      obtain ⟨a1, a2, a3, a4⟩ := nms_ok C is _ h3
      exact ds_parN C.calm (m_ok C ks es _ h4) a1 (by rw [asg_len, a2]) (asg_find _ a3) (sw_tup rfl) (swNo_ok C.es h1) (asg_tup rfl) (of_decide_eq_true h2) a4
    · cases h
  | .unp t a, sc, X, fx, C, st, h => by
    unfold chkS at h
    split at h
    · obtain ⟨h, h4⟩ := and2 h
      obtain ⟨h, h3⟩ := and2 h
      obtain ⟨h1, h2⟩ := and2 h
      refine ds_unp (d_of (snd a sc sc X C _ h4).1) (sT t sc sc X fx C _ h3) (sw_tup h1) (swNo_ok C.es h2) ?_
      exact asg_tup h1
    · cases h
  | .asg t a, sc, X, fx, C, st, h => by
    unfold chkS at h
    split at h
    · obtain ⟨h, h4⟩ := and2 h
      obtain ⟨h, h3⟩ := and2 h
      obtain ⟨h, h2⟩ := and2 h
      obtain ⟨h1, h0⟩ := and2 h
      exact ds_asg2 (d_of (snd a sc sc X C _ h4).1) (sG t sc X fx C _ h3) (sw_g h0 h3) (swNo_ok C.es h2) (by rw [asgE_of h1]; rfl)
    · cases h
  | .whl m c b, sc, X, fx, C, st, h => by
    unfold chkS at h
    split at h
    · obtain ⟨h1, h2⟩ := and2 h
      exact ds_while m (by rw [C.xe]; exact PassesOwn.never) (snd c sc sc X C _ h1).2 (sSs b sc X fx C _ h2)
    · cases h
  | .for s t b, sc, X, fx, C, st, h => by
    unfold chkS at h
    split at h
    · obtain ⟨h, h5⟩ := and2 h
      obtain ⟨h, h4⟩ := and2 h
      obtain ⟨h, h3⟩ := and2 h
      obtain ⟨h1, h2⟩ := and2 h
      exact ds_for (by rw [C.xe]; exact PassesOwn.never) C.calm (sI s sc sc X C _ _ h2 h3) (sTr (rawS s) t sc sc X fx C _ h4 h3) (sSs b sc X fx C _ h5) (nset_of h1)
    · cases h
theorem sSs : ∀ (a : Ss) (sc : Scope) (X : Cx) (fx : List Nat), Ct n N cl gl sc sc X → ∀ st, chkSs n N fx sc a st = true → PSs X st (tS X.K fx (evSs cl gl a))
  | .nil, sc, X, fx, C, [], h => ds_nil
  | .nil, _, _, _, _, _ :: _, h => by simp [chkSs] at h
  | .cons _ _, _, _, _, _, [], h => by simp [chkSs] at h
  | .cons a r, sc, X, fx, C, st :: rest, h => by
    unfold chkSs at h
    obtain ⟨h1, h2⟩ := and2 h
    exact ds_cons (sS a sc X fx C st h1) (sSs r sc X fx C rest h2)
end
end
end DL

namespace DL
open PySem PySem.Spec L2
open PyProof.Rows hiding St

/-! ### defs: from the body to the promise -/
theorem app_none {α : Type} {l : List (Option α)} {k i : Nat} {x : α} (h : (l ++ List.replicate k none)[i]? = some (some x)) : l[i]? = some (some x) := by
  by_cases hi : i < l.length
  · rwa [List.getElem?_append_left hi] at h
  · rw [List.getElem?_append_right (by omega)] at h
    obtain ⟨h1, h2⟩ := List.getElem?_eq_some_iff.mp h
    rw [List.getElem_replicate] at h2
    cases h2
theorem app_some {α : Type} {l : List (Option α)} {k i : Nat} {x : α} (h : l[i]? = some (some x)) : (l ++ List.replicate k none)[i]? = some (some x) := by
  rw [List.getElem?_append_left (List.getElem?_eq_some_iff.mp h).1]
  exact h
theorem own_app {σ : St} {ρ : Ev} {j k : Nat} {p : Addr} : Own (σ ++ List.replicate j none) (ρ ++ List.replicate k none) p ↔ Own σ ρ p :=
  ⟨fun ⟨i, s, e, o, q⟩ => ⟨i, s, app_none e, o, app_none q⟩, fun ⟨i, s, e, o, q⟩ => ⟨i, s, app_some e, o, app_some q⟩⟩
theorem Sim.more {K : PySem.W.Frag} {F H : Hp} {σ : St} {ρ : Ev} (S : Sim K F H σ ρ) (k : Nat) : Sim K F H (σ ++ List.replicate k none) (ρ ++ List.replicate k none) :=
  ⟨S.fz, by rw [List.length_append, List.length_append, S.len, List.length_replicate, List.length_replicate], fun i s e => by
    obtain ⟨v, e1, ok⟩ := S.sl i s (app_none e)
    exact ⟨v, app_some e1, ok⟩, fun i j s t p e1 e2 o1 o2 q1 q2 => S.ap i j s t p (app_none e1) (app_none e2) o1 o2 (app_none q1) (app_none q2)⟩
theorem collect_get {fx : List Nat} {ρ : Ev} : ∀ {ss ss' : List Sl} {k : Nat}, collect fx ρ k ss = some ss' → ss'.length = ss.length ∧ ∀ (i : Nat) (t : Sl), ss'[i]? = some t → ∃ s, ss[i]? = some s ∧ (s.own = true → (k + i) ∈ fx ∧ ρ[k + i]? = some (some t)) ∧ (s.own = false → t = s)
  | [], ss', k, h => by
    cases h
    exact ⟨rfl, fun i t e => by simp at e⟩
  | s :: r, ss', k, h => by
    unfold collect at h
    obtain ⟨t, e1, e2⟩ := Option.bind_eq_some_iff.mp h
    obtain ⟨u, e3, e4⟩ := Option.map_eq_some_iff.mp e2
    subst e4
    obtain ⟨l, g⟩ := collect_get e3
    refine ⟨by rw [List.length_cons, List.length_cons, l], fun i t' e => ?_⟩
    cases i with
    | zero =>
      simp only [List.getElem?_cons_zero, Option.some.injEq] at e
      subst e
      refine ⟨s, rfl, fun o => ?_, fun o => ?_⟩
      · rw [if_pos o] at e1
        split at e1
        · rename_i hc
          obtain ⟨o', eo, e1⟩ := Option.bind_eq_some_iff.mp e1
          have e1 : o' = some t := e1
          subst e1
          exact ⟨List.contains_iff_mem.mp hc, eo⟩
        · cases e1
      · rw [if_neg (by rw [o]; decide)] at e1
        cases e1
        rfl
    | succ i =>
      obtain ⟨s', e5, h1, h2⟩ := g i t' (by simpa using e)
      refine ⟨s', by simpa using e5, fun o => ?_, h2⟩
      have := h1 o
      rwa [Nat.add_right_comm] at this
/-- what the body has left, seen by the caller -/
theorem Sts.out {K : PySem.W.Frag} {fx : List Nat} {F H F' H' : Hp} {vs : List V} {ss ss' : List Sl} {σ' : St} {ρ' : Ev} {j : Nat} (S : Sim K F H (vs.map some) (ss.map some))
    (a : Sts K fx F H (vs.map some ++ List.replicate j none) (ss.map some ++ List.replicate j none) F' H' σ' ρ') (hc : collect fx ρ' 0 ss = some ss') :
    Ste K F H (vs.map some) (ss.map some) F' H' (ss'.map some) ∧ ∀ p, Own (vs.map some) (ss'.map some) p → Own σ' ρ' p := by
  obtain ⟨ll, g⟩ := collect_get hc
  have key : ∀ (i : Nat) (t : Sl), (ss'.map some)[i]? = some (some t) → ∃ s v, (ss.map some)[i]? = some (some s) ∧ (vs.map some)[i]? = some (some v) ∧ SlOk K F H v s ∧ ((s.own = true ∧ i ∈ fx ∧ ρ'[i]? = some (some t) ∧ σ'[i]? = some (some v)) ∨ (s.own = false ∧ t = s)) := fun i t e => by
    rw [get_map] at e
    obtain ⟨t', e, z⟩ := Option.map_eq_some_iff.mp e
    cases z
    obtain ⟨s, es, h1, h2⟩ := g i t e
    have es' : (ss.map some)[i]? = some (some s) := by rw [get_map, es]; rfl
    obtain ⟨v, ev, ok⟩ := S.sl i s es'
    refine ⟨s, v, es', ev, ok, ?_⟩
    cases o : s.own with
    | true =>
      obtain ⟨m, e1⟩ := h1 o
      rw [Nat.zero_add] at m e1
      exact .inl ⟨rfl, m, e1, (a.fx i m).trans (app_some ev)⟩
    | false => exact .inr ⟨rfl, h2 o⟩
  have lift : ∀ p, Own (vs.map some) (ss'.map some) p → Own σ' ρ' p ∧ Own (vs.map some) (ss.map some) p := fun p ⟨i, t, e, o, q⟩ => by
    obtain ⟨s, v, es, ev, ok, h⟩ := key i t e
    rw [q] at ev; cases ev
    rcases h with ⟨so, m, e1, e2⟩ | ⟨so, rfl⟩
    · exact ⟨⟨i, t, e1, o, e2⟩, ⟨i, s, es, so, q⟩⟩
    · rw [so] at o; cases o
  refine ⟨⟨⟨a.go.f, fun p o h z => a.go.k p o h fun y => z (own_app.mp y), fun p o h => ?_⟩, ⟨a.sim.fz, by have := S.len; simp only [List.length_map] at this ⊢; omega, fun i t e => ?_, fun i k s t p e1 e2 o1 o2 q1 q2 => ?_⟩, fun p h => (lift p h).2⟩, fun p h => (lift p h).1⟩
  · rcases a.go.n p o h with q | q | q
    · exact .inl q
    · exact .inr (.inl q)
    · exact .inr (.inr (own_app.mp q))
  · obtain ⟨s, v, es, ev, ok, h⟩ := key i t e
    refine ⟨v, ev, ?_⟩
    rcases h with ⟨so, m, e1, e2⟩ | ⟨so, rfl⟩
    · obtain ⟨v', e3, ok'⟩ := a.sim.sl i t e1
      rw [e2] at e3; cases e3
      exact ok'
    · exact ok.nw a.go.f fun p o => by rw [so] at o; cases o
  · obtain ⟨s1, v1, es1, ev1, ok1, h1⟩ := key i s e1
    obtain ⟨s2, v2, es2, ev2, ok2, h2⟩ := key k t e2
    rcases h1 with ⟨so, m, e3, e4⟩ | ⟨so, rfl⟩
    · rcases h2 with ⟨so', m', e3', e4'⟩ | ⟨so', rfl⟩
      · rw [q1] at ev1; cases ev1
        rw [q2] at ev2; cases ev2
        exact a.sim.ap i k s t p e3 e3' o1 o2 e4 e4'
      · rw [so'] at o2; cases o2
    · rw [so] at o1; cases o1
/-- the check of a def's head -/
def fsB (N ps : List Str) (sc : Scope) : Bool := (match sc.kind with | .function => true | _ => false) && !sc.isCoroutine && !sc.isGenerator && decide N.Nodup && decide (N.take ps.length = ps) &&
  (ps.all fun x => match sc.names.lookup x with | some .local => true | some .cell => true | _ => false) && (sc.names.all fun y => match y.2 with | .free => false | _ => true)
theorem fsB_ok {N ps : List Str} {sc : Scope} (h : fsB N ps sc = true) : FnScope N ps sc := by
  unfold fsB at h
  obtain ⟨h, h7⟩ := and2 h
  obtain ⟨h, h6⟩ := and2 h
  obtain ⟨h, h5⟩ := and2 h
  obtain ⟨h, h4⟩ := and2 h
  obtain ⟨h, h3⟩ := and2 h
  obtain ⟨h1, h2⟩ := and2 h
  refine ⟨?_, by simpa using h2, by simpa using h3, of_decide_eq_true h4, of_decide_eq_true h5, fun x hx => ?_, fun y hy => ?_⟩
  · split at h1
    · assumption
    · cases h1
  · have := List.all_eq_true.mp h6 x hx
    split at this
    · exact .inl ‹_›
    · exact .inr ‹_›
    · cases this
  · have := List.all_eq_true.mp h7 y hy
    intro e
    rw [e] at this
    cases this
/-- a def as the law has it -/
structure Fe where
  x : Str
  st : Stmt
  N : List Str
  ps : List Str
  d : Fn
def feB (n : Nm) (e : Fe) : Bool := fsB e.N e.ps (defScope e.st) && decide (e.ps.length = e.d.ps) && decide (e.N.length = e.d.ns) && chkSs n e.N e.d.fx (defScope e.st) e.d.body (defBody e.st)
theorem lookup_map {α β : Type} (g : α → β) (f : Nat) : ∀ l : List (Nat × α), (l.map fun p => (p.1, g p.2)).lookup f = (l.lookup f).map g
  | [] => rfl
  | (k, a) :: r => by
    rw [List.map_cons, List.lookup_cons, List.lookup_cons]
    by_cases h : (f == k) = true
    · simp only [h]; rfl
    · have h : (f == k) = false := by simpa using h
      simp only [h]; exact lookup_map g f r
/-- the defs lie in the module -/
structure Lies (K : PySem.W.Frag) (mg : Str → Option Value) (e : Fe) (a : Addr) (fd : FuncData) : Prop where
  fn : Fun K e.x e.x e.st a fd
  at_ : mg e.x = some (.ref a)
  bi : Binds K fd e.ps []
structure Lay (P : Program) (w : World) (K : PySem.W.Frag) (mg : Str → Option Value) (base : Heap) (n : Nm) (gl : Nat → Option D) (tb : List (Nat × Fe)) : Prop where
  nf : n.fns = tb.map fun p => (p.1, (p.2.x, p.2.ps.length))
  ck : ∀ (f : Nat) (e : Fe), tb.lookup f = some e → feB n e = true
  ly : ∀ (f : Nat) (e : Fe), tb.lookup f = some e → ∃ a fd, Lies K mg e a fd
  gb : ∀ (k : Nat) (x : Str) (d : D), n.gls.lookup k = some x → gl k = some d → ∃ v u, mg x = some u ∧ RelV v u ∧ ∀ F, Rp K F v d
  bl : ∀ x, n.bs.contains x = true → mg x = none
def fsOf (tb : List (Nat × Fe)) (f : Nat) : Option Fn := (tb.lookup f).map Fe.d
theorem all_fns {P : Program} {w : World} {K : PySem.W.Frag} {mg : Str → Option Value} {base : Heap} {n : Nm} {gl : Nat → Option D} {tb : List (Nat × Fe)} (L : Lay P w K mg base n gl tb) :
    ∀ (m f : Nat) (e : Fe) (a : Addr) (fd : FuncData), tb.lookup f = some e → Lies K mg e a fd → FnG P w K mg base CX0 m a fd e.ps (spF K e.ps.length (run (fsOf tb) gl m f))
  | 0, f, e, a, fd, he, hl => ⟨fun vs H Q E h => h.1, fun A outer s H args us vs Q E _ _ _ _ _ h => by
      obtain ⟨_, F, ss, ss', r, _, eq, _⟩ := h
      cases eq⟩
  | m + 1, f, e, a, fd, he, hl => by
    have hc := L.ck f e he
    unfold feB at hc
    obtain ⟨hc, h4⟩ := and2 hc
    obtain ⟨hc, h3⟩ := and2 hc
    obtain ⟨h1, h2⟩ := and2 hc
    have S := fsB_ok h1
    have h2 := of_decide_eq_true h2
    have h3 := of_decide_eq_true h3
    refine fnG_of hl.fn S (fun vs H Q E h => h.1) fun cdv A outer s H vs Q E hr hg hsp => ?_
    obtain ⟨lv, F, ss, ss', r, Si, eq, q⟩ := hsp
    have C : Ct n e.N (run (fsOf tb) gl m) gl (defScope e.st) (defScope e.st) (cxOf CX0 P w K mg base e.N e.x (defScope e.st) a cdv A outer s H E).nox := by
      refine ⟨rfl, S.nd, rfl, rfl, rfl, ?_, hg, S.kind, fun x hx => ⟨hx, .inl rfl⟩, fun g x k hx => ?_, L.gb, L.bl⟩
      · have := hr.un
        show (A.deeper _).units + 150 < _
        omega
      · rw [L.nf, lookup_map fun e : Fe => (e.x, e.ps.length)] at hx
        obtain ⟨e', h5, h6⟩ := Option.map_eq_some_iff.mp hx
        obtain ⟨a', fd', l'⟩ := L.ly g e' h5
        injection h6 with h6 h7
        refine ⟨a', fd', e'.ps, m, h7, all_fns L m g e' a' fd' h5 l', hr, h6 ▸ l'.at_, l'.fn.kp, l'.bi⟩
    refine ⟨_, (sSs e.d.body _ _ e.d.fx C _ h4).nox, ?_⟩
    have eq : (fsOf tb f).bind (fun d => runB d (evSs (run (fsOf tb) gl m) gl d.body) ss) = some (ss', r) := eq
    rw [show fsOf tb f = some e.d by unfold fsOf; rw [he]; rfl] at eq
    have eq : runB e.d (evSs (run (fsOf tb) gl m) gl e.d.body) ss = some (ss', r) := eq
    unfold runB at eq
    split at eq
    · rename_i hls
      obtain ⟨⟨ρ', fl⟩, e1, e2⟩ := Option.bind_eq_some_iff.mp eq
      have sz : e.N.length - vs.length = e.d.ns - e.d.ps := by rw [lv, h2, h3]
      have S0 : Sim K F H (start e.N vs) (ss.map some ++ List.replicate (e.d.ns - e.d.ps) none) := by
        show Sim K F H (vs.map some ++ List.replicate (e.N.length - vs.length) none) _
        rw [sz]
        exact Si.more _
      refine ⟨F, _, ρ', fl, S0, e1, fun F' H' σ' st => ?_⟩
      have st : Sts K e.d.fx F H (vs.map some ++ List.replicate (e.d.ns - e.d.ps) none) (ss.map some ++ List.replicate (e.d.ns - e.d.ps) none) F' H' σ' ρ' := by
        have : start e.N vs = vs.map some ++ List.replicate (e.d.ns - e.d.ps) none := by
          show vs.map some ++ List.replicate (e.N.length - vs.length) none = _
          rw [sz]
        rw [← this]
        exact st
      cases fl with
      | nx =>
        obtain ⟨ss1, e3, e4⟩ := Option.map_eq_some_iff.mp e2
        cases e4
        obtain ⟨o1, o2⟩ := st.out Si e3
        exact q F' H' .non o1 ⟨.non, fun z => nomatch z⟩
      | rt s =>
        obtain ⟨ss1, e3, e4⟩ := Option.map_eq_some_iff.mp e2
        cases e4
        obtain ⟨o1, o2⟩ := st.out Si e3
        intro v rt
        refine q F' H' v o1 ⟨rt.ok, fun o p ep => ?_⟩
        obtain ⟨r1, r2⟩ := rt.fr o p ep
        refine ⟨r1.imp id fun z => ?_, fun z => r2 (o2 p z)⟩
        obtain ⟨i, s1, z1, z2, z3⟩ := z
        exact ⟨i, s1, app_none z1, z2, by
          have z3 : (vs.map some ++ List.replicate (e.N.length - vs.length) none)[i]? = some (some (.ref p)) := z3
          exact app_none z3⟩
      | bk => cases e2
      | ct => cases e2
    · cases eq
end DL

namespace DL
open PySem PySem.Spec L2
open PyProof.Rows hiding St

/-! ### the end of a law -/
section
variable {P : Program} {w : World} {K : PySem.W.Frag} {mg mb : Str → Option Value} {k : Nat} {fa a : Addr} {fd : FuncData} {x : Str} {t : Shared} {us : List Value} {ns : List Int} {g : List Sl → Option (List Sl × Sl)}
/-- what the caller of a law looks at -/
def Good (t : Shared) (r : Except Value Flow) (t' : Shared) : Prop := r = .ok (.ret (.bool true)) ∧ OldK t.heap t'.heap ∧ t'.os = t.os ∧ AllBare t'.gens
/-- the law's def, from a heap of which nothing but the script is tracked -/
theorem go_from {H : Hp} (KX : K.In t.heap) (h1 : t.heap.Ns mainGlobals mg) (h2 : t.heap.Ns builtinsNs mb) (h3 : ∀ y : Str, y ≠ "__name__" → mb y = bootBuiltins y) (h4 : t.heap.NoLimit) (h5 : t.gens = #[])
    (h6 : t.heap.get? a = some { cls := .type "list", data := .seq us.toArray }) (hr : Room k callerA)
    (G : ∀ base : Heap, K.In base → base.Ns mainGlobals mg → FnG P w K mg base CX0 k fa fd [x] (spF K 1 g)) (hbi : ∀ u : Value, BindsTo t fd ⟨[u], []⟩ [(x, u)])
    (hrun : ∃ ss', g [.s (ns.map PyData.int)] = some (ss', .d (.bool true)))
    (hO : Only H) (hS : SqL K H a (ns.map V.int)) (hok : HOk P w H t.heap) (hA : ∀ b, H b ≠ none → b = a) (hK : H a ≠ none → K.lookup a = none) :
    codeAny (model P w) callerA (.call (.ref fa) ⟨[.ref a], []⟩) (fun r t' => Good t r t') t := by
  have only : ∀ {b : Addr} {u : HO}, H b = some u → b = a := fun {b u} q => hA b fun z => by rw [q] at z; cases z
  have free : ∀ {b : Addr} {o : Obj}, t.heap.get? b = some o → (∀ z, o.data ≠ .seq z) → H b = none := fun {b o} e n => by
    cases q : H b with
    | none => rfl
    | some u =>
      rw [only q, h6] at e
      cases e
      exact absurd rfl (n _)
  have names : ∀ {b : Addr} {m : Str → Option Value}, t.heap.Ns b m → (hidT t.heap H).Ns b m := fun {b m} ⟨o, es, ep, e, d, r⟩ => ⟨o, es, ep, hidT_get e (free e fun z y => by rw [d] at y; cases y), d, r⟩
  have kin : K.In (hidT t.heap H) := fun b o e => hidT_get (KX b o e) (by
    cases q : H b with
    | none => rfl
    | some u =>
      have eb := only q
      subst eb
      rw [hK fun z => by rw [q] at z; cases z] at e
      cases e)
  obtain ⟨mc, l1, l2⟩ := h4
  have e0 : Env0 P w K mg (hidT t.heap H) callerA [] t H :=
    ⟨rfl, ⟨kin, names h1, ⟨mb, names h2, h3⟩, ⟨mc, names l1, l2⟩⟩, fun b o e => of_hidT e, Nat.le_of_eq (hidT_size _ _), trivial, (fun b hb => absurd (show b ∈ ([] : List Addr) from hb) (by simp)), hok, .of_eq h5⟩
  obtain ⟨ss', er⟩ := hrun
  have sim : Sim K H H ([V.ref a].map some) ([Sl.s (ns.map PyData.int)].map some) := by
    refine ⟨Same.refl H, rfl, fun i s e => ?_, fun i j s u p e1 e2 o1 => ?_⟩
    · cases i with
      | zero => cases e; exact ⟨_, rfl, a, _, rfl, hS, rp_ints ns⟩
      | succ i => simp at e
    · cases i with
      | zero => cases e1; cases o1
      | succ i => simp at e1
  refine codeAny_mono ((G _ kin (names h1)).goes callerA [] t H ⟨[.ref a], []⟩ [.ref a] [.ref a] (fun v _ => v = .bl true) (fun _ _ _ => False) hr rfl e0 (hbi (.ref a)) (.cons rfl .nil)
    ⟨rfl, H, [.s (ns.map PyData.int)], ss', .d (.bool true), sim, er, fun F' H' v st rs => ?_⟩) fun r t' h => ?_
  · have q : Rp K F' v (.bool true) := rs.ok
    cases q
    rfl
  · cases r with
    | error e => exact False.elim h
    | ok fl =>
      cases fl with
      | next => exact False.elim h
      | brk => exact False.elim h
      | cont => exact False.elim h
      | ret u =>
        obtain ⟨v, H', os, bare, un, hok', rv, q⟩ := h
        have q : v = .bl true := q
        subst q
        have rv : u = Value.bool true := rv
        subst rv
        refine ⟨rfl, OldK.of_keep fun b o e => ?_, os, bare⟩
        cases q : H b with
        | none => exact un.keep b o e q (fun z => absurd (show b ∈ ([] : List Addr) from z) (by simp)) (by simp)
        | some y =>
          obtain z | ⟨ob, xs, z⟩ := hO b
          · rw [q] at z; cases z
          · have e1 := (hok b _ z).1
            have e2 := (hok' b _ (un.frzs b ob _ z)).1
            rw [e] at e1
            cases e1
            exact e2
theorem law_go (KX : K.In t.heap) (h1 : t.heap.Ns mainGlobals mg) (h2 : t.heap.Ns builtinsNs mb) (h3 : ∀ y : Str, y ≠ "__name__" → mb y = bootBuiltins y) (h4 : t.heap.NoLimit) (h5 : t.gens = #[])
    (h6 : t.heap.get? a = some { cls := .type "list", data := .seq us.toArray }) (hi : IntsAre us ns) (hl : ns.length ≤ sizeLine) (hr : Room k callerA)
    (G : ∀ base : Heap, K.In base → base.Ns mainGlobals mg → FnG P w K mg base CX0 k fa fd [x] (spF K 1 g)) (hbi : ∀ u : Value, BindsTo t fd ⟨[u], []⟩ [(x, u)])
    (hrun : ∃ ss', g [.s (ns.map PyData.int)] = some (ss', .d (.bool true))) : codeAny (model P w) callerA (.call (.ref fa) ⟨[.ref a], []⟩) (fun r t' => Good t r t') t := by
  have rv := vals_ints hi
  cases hk : K.lookup a with
  | some o =>
    have e := KX a o hk
    rw [h6] at e
    cases e
    have sq : SqL K (fun _ => none) a (ns.map V.int) := .inr ⟨_, us.toArray, _, hk, rfl, rfl, rfl, by rw [List.size_toArray, hi.length]; exact hl, by simpa using rv⟩
    exact go_from (H := fun _ => none) KX h1 h2 h3 h4 h5 h6 hr G hbi hrun (fun _ => .inl rfl) sq (fun _ _ z => by cases z) (fun _ z => absurd rfl z) fun z => absurd rfl z
  | none =>
    let ob : Obj := { cls := .type "list", data := .seq us.toArray }
    let H : Hp := fun b => if b = a then some (.frz ob (.lst (ns.map V.int))) else none
    have yes : H a = some (.frz ob (.lst (ns.map V.int))) := if_pos rfl
    have no : ∀ b, b ≠ a → H b = none := fun b n => if_neg n
    refine go_from (H := H) KX h1 h2 h3 h4 h5 h6 hr G hbi hrun (fun b => ?_) (.inl (.inr ⟨ob, yes⟩)) (fun b u z => ?_) (fun b z => ?_) fun _ => hk
    · by_cases n : b = a
      · subst n; exact .inr ⟨ob, _, yes⟩
      · exact .inl (no b n)
    · by_cases n : b = a
      · subst n
        rw [yes] at z
        cases z
        exact ⟨h6, by rw [List.length_map]; exact hl, us, _, rv, h6⟩
      · rw [no b n] at z; cases z
    · by_cases n : b = a
      · exact n
      · exact absurd (no b n) z
end
theorem mem_look {α : Type} {f : Nat} {a : α} : ∀ {l : List (Nat × α)}, l.lookup f = some a → (f, a) ∈ l
  | [], h => nomatch h
  | (k, b) :: r, h => by
    rw [List.lookup_cons] at h
    by_cases e : (f == k) = true
    · simp only [e] at h
      cases h
      rw [eq_of_beq e]
      exact List.mem_cons_self
    · have e : (f == k) = false := by simpa using e
      simp only [e] at h
      exact List.mem_cons_of_mem _ (mem_look h)
/-- a law whose defs are a table: what is left is the run of the small language -/
theorem walk_tb {l : PySem.W.OpenLaw} {n k : Nat} {q : Program} {loose : List Str} {XP : (Str → Option Value) → Heap → Prop} {YP : World → Heap → Prop} {d : DefRec} {K : Params → PySem.W.Frag} {x : Str} (nm : Nm) (gl : Nat → Option D) (tb : List (Nat × Fe)) (f : Nat) (e : Fe)
    (hn : l.most = some n) (hn2 : n ≤ sizeLine) (hdf : d.params.defaults = []) (hr : Room k callerA) (hY : ∀ (w : World) (h : Heap), YP w h → (K w.params).In h)
    (nf : nm.fns = tb.map fun p => (p.1, (p.2.x, p.2.ps.length))) (ck : (tb.all fun p => feB nm p.2) = true) (he : tb.lookup f = some e) (hx : e.x = d.name) (hps : e.ps = [x])
    (F : ∀ (w : World) (mg : Str → Option Value) (h : Heap), (K w.params).In h → h.Ns mainGlobals mg → (∀ p ∈ tb, ∃ a fd, Lies (K w.params) mg p.2 a fd) ∧
      (∀ (k : Nat) (x : Str) (d : D), nm.gls.lookup k = some x → gl k = some d → ∃ v u, mg x = some u ∧ RelV v u ∧ ∀ F, Rp (K w.params) F v d) ∧ ∀ x, nm.bs.contains x = true → mg x = none)
    (hrun : ∀ ns : List Int, ns.length ≤ n → (∀ z ∈ ns, Builtin.Int.intBits z ≤ 1048576) → ∃ ss', run (fsOf tb) gl k f [.s (ns.map PyData.int)] = some (ss', .d (.bool true))) :
    PySem.W.WalkO q loose XP YP l.row.toRowW d [] (fun f vs => PySem.call f vs) := by
  refine Att.attach_callB hn hdf fun w t0 t mg mb fa o pm cd doc a us ns G Y ho hd hcd hmg hobj hints hlen hbits hg => ?_
  have KX := hY w _ Y
  obtain ⟨F1, F2, F3⟩ := F w mg _ KX G.T.g
  obtain ⟨a', fd, L⟩ := F1 (f, e) (mem_look he)
  have ea : a' = fa := by
    have z := L.at_
    rw [hx, hmg] at z
    cases z
    rfl
  subst ea
  have B := L.bi
  rw [hps] at B
  have sz : e.ps.length = 1 := by rw [hps]; rfl
  refine law_go (g := run (fsOf tb) gl k f) (x := x) (fd := fd) KX G.T.g G.T.b G.T.builtins G.T.nolimit hg hobj hints (Nat.le_trans hlen hn2) hr (fun base KB NB => ?_) ?_ (hrun ns hlen hbits)
  · have lay : Lay l.prog w (K w.params) mg base nm gl tb := ⟨nf, fun i e' h => List.all_eq_true.mp ck (i, e') (mem_look h), fun i e' h => F1 (i, e') (mem_look h), F2, F3⟩
    have := all_fns lay k f e a' fd he L
    rw [sz, hps] at this
    exact this
  · exact fun u => B t [u] KX rfl
/-- a def of the table lies in the module: from what the top has written -/
theorem lies_mk {K : PySem.W.Frag} {h : Heap} {mg : Str → Option Value} {e : Fe} {f : Addr} {oc : Value} {od an : Option Addr} {osl : Array (Option Value)} {kV doc pm cd ct : Value} (X : K.In h) (G : h.Ns mainGlobals mg)
    (hb : ∀ (kV doc pm : Value) (an : Option Addr) (cdv ct : Value) (us : List Value), us.length = e.ps.length → bindArgs (PySem.W.fnOf e.x e.x (defArgs e.st) (defBody e.st) (defScope e.st) .none kV doc pm an cdv ct) ⟨us, []⟩ = pure (e.ps.zip us))
    (a : PySem.W.nsIn K mainGlobals e.x = some (some (.ref f))) (l : K.lookup f = some ⟨oc, od, .func (PySem.W.fnOf e.x e.x (defArgs e.st) (defBody e.st) (defScope e.st) .none kV doc pm an cd ct), osl⟩)
    (c : PySem.W.codeIn K cd e.x = true) (k : PySem.W.keepIn K (.ref f) = true) : ∃ a fd, Lies K mg e a fd :=
  have F := fun_mk (st := e.st) l c k
  ⟨f, _, F, PySem.W.mg_of X G a, F.binds hb⟩
theorem none_all {l : List Str} {mg : Str → Option Value} (h : ∀ x ∈ l, mg x = none) : ∀ x, l.contains x = true → mg x = none := fun x hx => h x (List.contains_iff_mem.mp hx)
theorem glb_int {K : PySem.W.Frag} {h : Heap} {mg : Str → Option Value} {x : Str} {i : Int} {t : Tok} {d : D} (X : K.In h) (G : h.Ns mainGlobals mg) (a : PySem.W.nsIn K mainGlobals x = some (some (.int i t))) (e : d = .int i) : ∃ v u, mg x = some u ∧ RelV v u ∧ ∀ F, Rp K F v d :=
  ⟨.int i, _, PySem.W.mg_of X G a, ⟨t, rfl⟩, fun F => e ▸ .int i⟩
theorem glb_str {K : PySem.W.Frag} {h : Heap} {mg : Str → Option Value} {x y : Str} {t : Tok} {d : D} (X : K.In h) (G : h.Ns mainGlobals mg) (a : PySem.W.nsIn K mainGlobals x = some (some (.str y t))) (e : d = .str y) : ∃ v u, mg x = some u ∧ RelV v u ∧ ∀ F, Rp K F v d :=
  ⟨.str y, _, PySem.W.mg_of X G a, ⟨t, rfl⟩, fun F => e ▸ .str y⟩
theorem glbs {K : PySem.W.Frag} {mg : Str → Option Value} {l : List (Nat × Str)} {gl : Nat → Option D} (h : ∀ p ∈ l, ∀ d, gl p.1 = some d → ∃ v u, mg p.2 = some u ∧ RelV v u ∧ ∀ F, Rp K F v d) :
    ∀ (k : Nat) (x : Str) (d : D), l.lookup k = some x → gl k = some d → ∃ v u, mg x = some u ∧ RelV v u ∧ ∀ F, Rp K F v d := fun k x d e1 e2 => h (k, x) (mem_look e1) d e2
end DL

namespace DL
open PySem PySem.Spec L2
open PyProof.Rows hiding St
theorem run_step {fs : Nat → Option Fn} {gl : Nat → Option D} {n f : Nat} {F : Fn} (h : fs f = some F) (ss : List Sl) : run fs gl (n + 1) f ss = runB F (evSs (run fs gl n) gl F.body) ss := by
  show (fs f).bind _ = _
  rw [h]; rfl
/-- is_whole -/
def F0 : Fn := ⟨1, [], 1, (.cons (.ret (.and (.isa (.var 0) "int") (.not (.isa (.var 0) "bool"))))
 .nil)⟩
/-- is_among -/
def F1 : Fn := ⟨3, [], 3, (.cons (.ret (.and (.call 0 (.d (.var 0) .nil)) (.chn .LtE .LtE (.var 1) (.var 0) (.var 2))))
 .nil)⟩
/-- are_some -/
def F2 : Fn := ⟨3, [], 3, (.cons (.ret (.and (.isa (.var 0) "tuple") (.chn .LtE .LtE (.var 1) (.blt .len (.cons (.var 0) .nil)) (.var 2))))
 .nil)⟩
/-- is_frame -/
def F3 : Fn := ⟨1, [], 1, (.cons (.ret (.and (.call 2 (.d (.var 0) (.d (.cst (.int 2)) (.d (.cst (.int 2)) .nil)))) (.and (.call 1 (.d (.idx (.var 0) (.cst (.int 0))) (.d (.cst (.int 1)) (.d (.glb 1) .nil)))) (.call 1 (.d (.idx (.var 0) (.cst (.int 1))) (.d (.cst (.int 1)) (.d (.glb 0) .nil)))))))
 .nil)⟩
/-- need_frame -/
def F4 : Fn := ⟨1, [], 1, (.cons (.ite (.not (.call 3 (.d (.var 0) .nil))) (.cons .never
 .nil) .nil)
 .nil)⟩
variable {fs : Nat → Option Fn} {gl : Nat → Option D} {n : Nat}
theorem whole_int (h0 : fs 0 = some F0) (i : Int) : run fs gl (n + 1) 0 [.d (.int i)] = some ([.d (.int i)], .d (.bool true)) := by
  rw [run_step h0]
  rfl
theorem among_int (h0 : fs 0 = some F0) (h1 : fs 1 = some F1) (i a b : Int) : run fs gl (n + 2) 1 [.d (.int i), .d (.int a), .d (.int b)] = some ([.d (.int i), .d (.int a), .d (.int b)], .d (.bool (decide (a ≤ i) && decide (i ≤ b)))) := by
  rw [run_step h1]
  simp [F1, whole_int h0]
  by_cases h : a ≤ i
  · simp [h]
  · simp [h]
theorem some_tup (h2 : fs 2 = some F2) (xs : List D) (a b : Int) : run fs gl (n + 1) 2 [.d (.tuple xs), .d (.int a), .d (.int b)] = some ([.d (.tuple xs), .d (.int a), .d (.int b)], .d (.bool (decide (a ≤ xs.length) && decide ((xs.length : Int) ≤ b)))) := by
  rw [run_step h2]
  simp [F2, PyData.isTuple]
  by_cases h : a ≤ xs.length
  · simp [h]
  · simp [h]
/-- the defs of boards that say what a frame is -/
structure HasFrame (fs : Nat → Option Fn) (gl : Nat → Option D) : Prop where
  h0 : fs 0 = some F0
  h1 : fs 1 = some F1
  h2 : fs 2 = some F2
  h3 : fs 3 = some F3
  h4 : fs 4 = some F4
  g0 : gl 0 = some (.int 12)
  g1 : gl 1 = some (.int 5)
def frameD (m l : Int) : D := .tuple [.int m, .int l]
structure Frm (m l : Int) : Prop where
  m1 : 1 ≤ m
  m2 : m ≤ 5
  l1 : 1 ≤ l
  l2 : l ≤ 12
theorem is_frame_ok (h : HasFrame fs gl) {m l : Int} (f : Frm m l) : run fs gl (n + 3) 3 [.d (frameD m l)] = some ([.d (frameD m l)], .d (.bool true)) := by
  rw [run_step h.h3]
  simp [F3, frameD, some_tup h.h2, among_int h.h0 h.h1, h.g0, h.g1, atD, ixD, f.m1, f.m2, f.l1, f.l2]
theorem need_frame_ok (h : HasFrame fs gl) {m l : Int} (f : Frm m l) : run fs gl (n + 4) 4 [.d (frameD m l)] = some ([.d (frameD m l)], .d .none) := by
  rw [run_step h.h4]
  simp [F4, is_frame_ok h f]
/-- is_cut -/
def F5 : Fn := ⟨2, [], 5, (.cons (.unp (.t (.cons (.n 2) (.cons (.n 3) .nil))) (.var 0))
 (.cons (.ite (.or (.not (.call 2 (.d (.var 1) (.d (.cst (.int 3)) (.d (.cst (.int 3)) .nil))))) (.not (.call 1 (.d (.idx (.var 1) (.cst (.int 0))) (.d (.cst (.int 0)) (.d (.bin .Sub (.var 3) (.cst (.int 1))) .nil)))))) (.cons (.ret (.cst (.bool false)))
 .nil) .nil)
 (.cons (.ret (.and (.blt .all (.cons (.lc [4] (.seq (.sli (.var 1) (.so (.cst (.int 1))) .no)) (.n 4) .no (.call 1 (.d (.var 4) (.d (.cst (.int 0)) (.d (.bin .Sub (.var 2) (.cst (.int 1))) .nil))))) .nil)) (.cmp .Lt (.idx (.var 1) (.cst (.int 1))) (.idx (.var 1) (.cst (.int 2))))))
 .nil)))⟩
/-- is_row -/
def F6 : Fn := ⟨2, [], 3, (.cons (.ret (.and (.isa (.var 1) "tuple") (.blt .all (.cons (.lc [2] (.seq (.var 1)) (.n 2) .no (.call 5 (.d (.var 0) (.d (.var 2) .nil)))) .nil))))
 .nil)⟩
/-- need_row -/
def F7 : Fn := ⟨2, [], 2, (.cons (.expr (.call 4 (.d (.var 0) .nil)))
 (.cons (.ite (.not (.call 6 (.d (.var 0) (.d (.var 1) .nil)))) (.cons .never
 .nil) .nil)
 .nil))⟩
/-- one turn of a comprehension -/
@[simp] def turnC (vs : List Nat) (tg : D → Ev → Option Ev) (cd : GB) (el : GD) (d : D) (ρ : Ev) : Option (Ev × Option D) := (tg d ρ).bind fun ρ1 => (cd ρ1).bind fun b => if b.2 then (el b.1).map fun y => (wipeE y.1 vs, some y.2) else some (wipeE b.1 vs, none)
theorem loopC_turn {vs : List Nat} {tg : D → Ev → Option Ev} {cd : GB} {el : GD} {d : D} {r : List D} {ρ ρ' : Ev} {o : Option D} {acc : List D} (h : turnC vs tg cd el d ρ = some (ρ', o)) (hz : acc.length < 16777216) :
    loopC vs tg cd el (d :: r) ρ acc = loopC vs tg cd el r ρ' (acc ++ o.toList) := by
  unfold turnC at h
  obtain ⟨ρ1, e1, h⟩ := Option.bind_eq_some_iff.mp h
  obtain ⟨⟨ρ2, b⟩, e2, h⟩ := Option.bind_eq_some_iff.mp h
  rw [show loopC vs tg cd el (d :: r) ρ acc = (tg d ρ).bind fun ρ1 => (cd ρ1).bind fun b => if b.2 then (el b.1).bind fun y => if decide (acc.length < 16777216) then loopC vs tg cd el r (wipeE y.1 vs) (acc ++ [y.2]) else none
    else loopC vs tg cd el r (wipeE b.1 vs) acc from rfl]
  rw [e1, Option.bind_some, e2, Option.bind_some]
  cases b with
  | true =>
    simp only [if_true] at h ⊢
    obtain ⟨⟨ρ3, y⟩, e3, h⟩ := Option.map_eq_some_iff.mp h
    cases h
    simp only [e3, Option.bind_some, hz, decide_true, if_true]
    rfl
  | false =>
    simp only [Bool.false_eq_true, if_false] at h ⊢
    cases h
    simp
/-- a comprehension that changes nothing -/
theorem loopC_map {vs : List Nat} {tg : D → Ev → Option Ev} {cd : GB} {el : GD} {ρ : Ev} (f : D → D) : ∀ (xs : List D) (acc : List D), acc.length + xs.length ≤ 16777216 →
    (∀ d ∈ xs, turnC vs tg cd el d ρ = some (ρ, some (f d))) → loopC vs tg cd el xs ρ acc = some (ρ, acc ++ xs.map f)
  | [], acc, _, _ => by simp [loopC]
  | d :: r, acc, hl, h => by
    rw [List.length_cons] at hl
    rw [loopC_turn (h d List.mem_cons_self) (by omega), loopC_map f r _ (by simp; omega) fun x hx => h x (List.mem_cons_of_mem _ hx)]
    simp
def cutT (p a b : Int) : D := .tuple [.int p, .int a, .int b]
structure Cut (m l p a b : Int) : Prop where
  p1 : 0 ≤ p
  p2 : p ≤ l - 1
  a1 : 0 ≤ a
  ab : a < b
  b2 : b ≤ m - 1
structure HasRow (fs : Nat → Option Fn) (gl : Nat → Option D) : Prop extends HasFrame fs gl where
  h5 : fs 5 = some F5
  h6 : fs 6 = some F6
  h7 : fs 7 = some F7
theorem is_cut_ok (h : HasRow fs gl) {m l p a b : Int} (c : Cut m l p a b) : run fs gl (n + 3) 5 [.d (frameD m l), .d (cutT p a b)] = some ([.d (frameD m l), .d (cutT p a b)], .d (.bool true)) := by
  rw [run_step h.h5]
  have a2 : a ≤ m - 1 := by have := c.ab; have := c.b2; omega
  have b1 : 0 ≤ b := by have := c.ab; have := c.a1; omega
  simp [F5, frameD, cutT, some_tup h.h2, among_int h.h0 h.h1, atD, ixD, c.p1, c.p2, cutD, slD, HT.sIx, loopC, c.a1, a2, b1, c.b2, c.ab, boolsOf]
abbrev CT := Int × Int × Int
def cutOf (c : CT) : D := cutT c.1 c.2.1 c.2.2
def rowD (cs : List CT) : D := .tuple (cs.map cutOf)
def Row (m l : Int) (cs : List CT) : Prop := ∀ c ∈ cs, Cut m l c.1 c.2.1 c.2.2
theorem bools_true {α : Type} : ∀ (xs : List α), boolsOf (xs.map fun _ => PyData.bool true) = some (xs.map fun _ => true)
  | [] => rfl
  | x :: r => by simp [boolsOf, bools_true r]
theorem all_true {α : Type} : ∀ (xs : List α), (xs.map fun _ => true).all id = true
  | [] => rfl
  | x :: r => by simp
theorem is_row_ok (h : HasRow fs gl) {m l : Int} {cs : List CT} (r : Row m l cs) (hl : cs.length ≤ 10000) : run fs gl (n + 4) 6 [.d (frameD m l), .d (rowD cs)] = some ([.d (frameD m l), .d (rowD cs)], .d (.bool true)) := by
  rw [run_step h.h6]
  have key : loopC [2] (gT (.n 2)) gYes (gd (evX (run fs gl (n + 3)) gl (.call 5 (.d (.var 0) (.d (.var 2) .nil))))) (cs.map cutOf) [some (.d (frameD m l)), some (.d (rowD cs)), none] [] = some (_, [] ++ (cs.map cutOf).map fun _ => .bool true) := loopC_map (fun _ => .bool true) _ _ (by simp; omega) (fun d hd => by
    obtain ⟨c, hc, rfl⟩ := List.mem_map.mp hd
    simp [cutOf, is_cut_ok h (r c hc)])
  simp [F6, rowD, -List.map_map] at key ⊢
  simp [key, PyData.isTuple, bools_true, Function.comp_def]
theorem need_row_ok (h : HasRow fs gl) {m l : Int} (f : Frm m l) {cs : List CT} (r : Row m l cs) (hl : cs.length ≤ 10000) : run fs gl (n + 5) 7 [.d (frameD m l), .d (rowD cs)] = some ([.d (frameD m l), .d (rowD cs)], .d .none) := by
  rw [run_step h.h7]
  simp [F7, need_frame_ok h.toHasFrame f, is_row_ok h r hl]
/-- _law_cell -/
def F11 : Fn := ⟨2, [], 2, (.cons (.ite (.cmp .Lt (.var 1) (.lenV 0)) (.cons (.ret (.idxV 0 (.var 1)))
 .nil) .nil)
 (.cons (.ret (.cst (.int 0)))
 .nil))⟩
/-- _law_pen -/
def F12 : Fn := ⟨1, [], 1, (.cons (.ret (.lst (.cons (.blt .max (.cons (.cst (.int 0)) (.cons (.bin .Sub (.var 0) (.bin .Pow (.cst (.int 10)) (.cst (.int 18)))) .nil))) (.cons (.bin .Mod (.var 0) (.cst (.int 1000000007))) (.cons (.cst (.int 0)) .nil)))))
 .nil)⟩
/-- _law_draw -/
def F13 : Fn := ⟨2, [0], 4, (.cons (.ite (.cmp .Gt (.idxV 0 (.cst (.int 0))) (.cst (.int 0))) (.cons (.set 2 false (.bin .Mod (.idxV 0 (.cst (.int 0))) (.var 1)))
 (.cons (.asg (.ix 0 (.cst (.int 0))) (.bin .FloorDiv (.idxV 0 (.cst (.int 0))) (.var 1)))
 (.cons (.ret (.var 2))
 .nil))) .nil)
 (.cons (.asg (.ix 0 (.cst (.int 2))) (.bin .Add (.idxV 0 (.cst (.int 2))) (.cst (.int 1))))
 (.cons (.set 3 false (.bin .Mod (.bin .Mult (.bin .Add (.idxV 0 (.cst (.int 1))) (.bin .Mult (.cst (.int 17)) (.idxV 0 (.cst (.int 2))))) (.bin .Add (.cst (.int 69621)) (.bin .Mult (.cst (.int 2)) (.idxV 0 (.cst (.int 2)))))) (.cst (.int 2147483647))))
 (.cons (.set 3 false (.bin .Mod (.bin .Add (.bin .Add (.bin .Mult (.var 3) (.var 3)) (.bin .Mult (.cst (.int 40503)) (.idxV 0 (.cst (.int 2))))) (.cst (.int 5))) (.cst (.int 2147483629))))
 (.cons (.ret (.bin .Mod (.bin .FloorDiv (.bin .Mod (.bin .Mult (.var 3) (.cst (.int 48271))) (.cst (.int 2147483647))) (.cst (.int 32))) (.var 1)))
 .nil)))))⟩
/-- _law_pick -/
def F14 : Fn := ⟨2, [0], 2, (.cons (.ret (.idx (.var 1) (.call 13 (.s 0 (.d (.blt .len (.cons (.var 1) .nil)) .nil)))))
 .nil)⟩
/-- _law_frame -/
def F15 : Fn := ⟨3, [0], 3, (.cons (.ret (.tup (.cons (.bin .Add (.cst (.int 1)) (.call 13 (.s 0 (.d (.var 1) .nil)))) (.cons (.bin .Add (.cst (.int 1)) (.call 13 (.s 0 (.d (.var 2) .nil)))) .nil))))
 .nil)⟩
/-- a pen that may be asked k times more -/
def Pen (k : Nat) (p : List D) : Prop := ∃ a b c : Int, p = [.int a, .int b, .int c] ∧ 0 ≤ b ∧ b < 2 ^ 30 ∧ 0 ≤ c ∧ c + k ≤ 2 ^ 40
theorem Pen.less {j k : Nat} {p : List D} (h : Pen k p) (e : j ≤ k) : Pen j p := by
  obtain ⟨a, b, c, rfl, h1, h2, h3, h4⟩ := h
  exact ⟨a, b, c, rfl, h1, h2, h3, by omega⟩
theorem draw_ok (h : fs 13 = some F13) {k : Nat} {p : List D} {m : Int} (hp : Pen (k + 1) p) (m1 : 1 ≤ m) (m2 : m < 2 ^ 60) :
    ∃ p' d, run fs gl (n + 1) 13 [.l p, .d (.int m)] = some ([.l p', .d (.int m)], .d (.int d)) ∧ 0 ≤ d ∧ d < m ∧ Pen k p' := by
  obtain ⟨a, b, c, rfl, h1, h2, h3, h4⟩ := hp
  have m0 : 0 < m := by omega
  have mz : m.natAbs < 2 ^ 8000 := Nat.lt_trans (show m.natAbs < 2 ^ 60 by omega) (Nat.pow_lt_pow_right (by decide) (by decide))
  have z32 : (32 : Nat) < 2 ^ 8000 := Nat.lt_of_lt_of_le (show 32 < 2 ^ 6 by decide) (Nat.pow_le_pow_right (by decide) (by decide))
  rw [run_step h]
  by_cases ha : 0 < a
  · refine ⟨[.int (a / m), .int b, .int c], a % m, ?_, Int.emod_nonneg _ (by omega), Int.emod_lt_of_pos _ m0, _, b, c, rfl, h1, h2, h3, by omega⟩
    simp [F13, atD, ixD, ha, m0, mz]
  · have e1 : c + 1 < 2 ^ 41 := by omega
    generalize hs : ((b + 17 * (c + 1)) * (69621 + 2 * (c + 1)) % 2147483647) = s1
    have s0 : 0 ≤ s1 := by rw [← hs]; exact Int.emod_nonneg _ (by decide)
    have s2 : s1 < 2147483647 := by rw [← hs]; exact Int.emod_lt_of_pos _ (by decide)
    generalize ht : ((s1 * s1 + 40503 * (c + 1) + 5) % 2147483629) = t1
    have t0 : 0 ≤ t1 := by rw [← ht]; exact Int.emod_nonneg _ (by decide)
    have t2 : t1 < 2147483629 := by rw [← ht]; exact Int.emod_lt_of_pos _ (by decide)
    have u1 : (b + 17 * (c + 1)).natAbs < 2 ^ 64 := by omega
    have u2 : s1.natAbs < 2 ^ 64 := by omega
    have u3 : t1.natAbs < 2 ^ 64 := by omega
    refine ⟨[.int a, .int b, .int (c + 1)], t1 * 48271 % 2147483647 / 32 % m, ?_, Int.emod_nonneg _ (by omega), Int.emod_lt_of_pos _ m0, _, b, c + 1, rfl, h1, h2, by omega, by omega⟩
    simp [F13, atD, ixD, ha, m0, hs, ht, u1, u2, u3, z32]
theorem pick_ok (h3 : fs 13 = some F13) (h4 : fs 14 = some F14) {k : Nat} {p : List D} {xs : List D} (hp : Pen (k + 1) p) (x1 : xs ≠ []) (x2 : xs.length < 2 ^ 60) :
    (∃ p' d, run fs gl (n + 2) 14 [.l p, .d (.list xs)] = some ([.l p', .d (.list xs)], .d d) ∧ d ∈ xs ∧ Pen k p') ∧ (∃ p' d, run fs gl (n + 2) 14 [.l p, .d (.tuple xs)] = some ([.l p', .d (.tuple xs)], .d d) ∧ d ∈ xs ∧ Pen k p') := by
  have lx : 0 < xs.length := List.length_pos_iff.mpr x1
  obtain ⟨p', d, e, d1, d2, q⟩ := draw_ok (n := n) (gl := gl) h3 hp (show (1 : Int) ≤ xs.length by omega) (by omega)
  have hd : d.toNat < xs.length := by omega
  have at_ : xs[d.toNat]? = some xs[d.toNat] := List.getElem?_eq_getElem hd
  constructor
  all_goals
    refine ⟨p', xs[d.toNat], ?_, List.getElem_mem hd, q⟩
    rw [run_step h4]
    simp [F14, e, atD, ixD, d1, d2, at_]
theorem law_frame_ok (h3 : fs 13 = some F13) (h5 : fs 15 = some F15) {k : Nat} {p : List D} {a b : Int} (hp : Pen (k + 2) p) (a1 : 1 ≤ a) (a2 : a ≤ 5) (b1 : 1 ≤ b) (b2 : b ≤ 12) :
    ∃ p' m l, run fs gl (n + 2) 15 [.l p, .d (.int a), .d (.int b)] = some ([.l p', .d (.int a), .d (.int b)], .d (frameD m l)) ∧ 1 ≤ m ∧ m ≤ a ∧ 1 ≤ l ∧ l ≤ b ∧ Pen k p' := by
  obtain ⟨p1, d1, e1, x1, y1, q1⟩ := draw_ok (n := n) (gl := gl) h3 hp a1 (by omega)
  obtain ⟨p2, d2, e2, x2, y2, q2⟩ := draw_ok (n := n) (gl := gl) h3 q1 b1 (by omega)
  refine ⟨p2, 1 + d1, 1 + d2, ?_, by omega, by omega, by omega, by omega, q2⟩
  rw [run_step h5]
  have z : (2 : Nat) ≤ sizeLine := by rw [sizeLine_eq]; decide
  simp [F15, e1, e2, frameD, z]
theorem law_cell_ok (h : fs 11 = some F11) (ns : List Int) (k : Nat) : ∃ i, run fs gl (n + 1) 11 [.s (ns.map PyData.int), .d (.int k)] = some ([.s (ns.map PyData.int), .d (.int k)], .d (.int i)) := by
  rw [run_step h]
  by_cases hk : k < ns.length
  · have e : (ns.map PyData.int)[k]? = some (.int ns[k]) := by rw [List.getElem?_map, List.getElem?_eq_getElem hk]; rfl
    refine ⟨ns[k], ?_⟩
    simp [F11, hk, atD, ixD]
  · refine ⟨0, ?_⟩
    simp [F11, hk]
theorem law_pen_ok (h : fs 12 = some F12) (i : Int) : ∃ p, run fs gl (n + 1) 12 [.d (.int i)] = some ([.d (.int i)], .l p) ∧ Pen (2 ^ 39) p := by
  rw [run_step h]
  refine ⟨[.int (if i - 10 ^ 18 > 0 then i - 10 ^ 18 else 0), .int (i % 1000000007), .int 0], ?_, _, _, _, rfl, Int.emod_nonneg _ (by decide), ?_, by decide, by decide⟩
  · have z : (3 : Nat) ≤ sizeLine := by rw [sizeLine_eq]; decide
    simp [F12, z]
  · have := Int.emod_lt_of_pos i (show (0 : Int) < 1000000007 by decide)
    omega
/-! ### what repr tells -/
structure Tame (d : D) (k w : Nat) : Prop where
  sh : shw d = true
  dp : d.depth ≤ k
  wg : wt d ≤ w
theorem Tame.int {i : Int} (h : i.natAbs < 10 ^ 18) : Tame (.int i) 0 20 := by
  refine ⟨?_, ?_, ?_⟩
  · unfold shw
    exact decide_eq_true (Nat.lt_of_lt_of_le h (Nat.le_trans (show 10 ^ 18 ≤ 2 ^ 60 by decide) (Nat.pow_le_pow_right (by decide) (by decide))))
  · simp [PyData.depth]
  · unfold wt
    rw [if_pos h]
    exact Nat.le_refl _
theorem Tame.less {d : D} {k w k' w' : Nat} (h : Tame d k w) (h1 : k ≤ k') (h2 : w ≤ w') : Tame d k' w' := ⟨h.sh, Nat.le_trans h.dp h1, Nat.le_trans h.wg h2⟩
theorem Tame.all {k w : Nat} : ∀ {xs : List D}, (∀ x ∈ xs, Tame x k w) → shwAll xs = true ∧ PyData.depthAll xs ≤ k ∧ wtAll xs ≤ (w + 2) * xs.length
  | [], _ => ⟨rfl, by simp [PyData.depthAll], by simp [wtAll]⟩
  | x :: r, h => by
    obtain ⟨h1, h2, h3⟩ := h x List.mem_cons_self
    obtain ⟨r1, r2, r3⟩ := Tame.all (xs := r) fun y hy => h y (List.mem_cons_of_mem _ hy)
    refine ⟨by unfold shwAll; rw [h1, r1]; rfl, by unfold PyData.depthAll; omega, ?_⟩
    unfold wtAll
    rw [List.length_cons, Nat.mul_add, Nat.mul_one]
    omega
theorem Tame.tup {k w : Nat} {xs : List D} (h : ∀ x ∈ xs, Tame x k w) : Tame (.tuple xs) (k + 1) ((w + 2) * xs.length + 4) := by
  obtain ⟨r1, r2, r3⟩ := Tame.all h
  exact ⟨by unfold shw; exact r1, by unfold PyData.depth; omega, by unfold wt; omega⟩
theorem Tame.lst {k w : Nat} {xs : List D} (h : ∀ x ∈ xs, Tame x k w) : Tame (.list xs) (k + 1) ((w + 2) * xs.length + 4) := by
  obtain ⟨r1, r2, r3⟩ := Tame.all h
  exact ⟨by unfold shw; exact r1, by unfold PyData.depth; omega, by unfold wt; omega⟩
theorem Tame.repr {d : D} {k w : Nat} (h : Tame d k w) (h1 : k ≤ 100) (h2 : w ≤ 16777216) : reprD [d] = some (.d (.str d.shown)) := by
  have e1 : decide (d.depth ≤ 100) = true := decide_eq_true (Nat.le_trans h.dp h1)
  have e2 : fit (wt d) = true := decide_eq_true (Nat.le_trans h.wg h2)
  simp only [reprD, h.sh, e1, e2, Bool.and_self, if_true]
theorem eqv_str (s : Str) : PyData.eqv (.str s) (.str s) = true := by simp [PyData.eqv]
theorem depth_str (s : Str) : PyData.depth (.str s) = 0 := by simp [PyData.depth]
/-- whole numbers below 10^18 -/
def Few (c : CT) : Prop := c.1.natAbs < 10 ^ 18 ∧ c.2.1.natAbs < 10 ^ 18 ∧ c.2.2.natAbs < 10 ^ 18
theorem tame_cut {c : CT} (h : Few c) : Tame (cutOf c) 1 70 := by
  refine (Tame.tup (k := 0) (w := 20) fun x hx => ?_).less (Nat.le_refl _) (by simp)
  simp only [List.mem_cons, List.not_mem_nil, or_false] at hx
  obtain ⟨h1, h2, h3⟩ := h
  rcases hx with rfl | rfl | rfl
  · exact .int h1
  · exact .int h2
  · exact .int h3
theorem tame_row {cs : List CT} (h : ∀ c ∈ cs, Few c) : Tame (rowD cs) 2 (72 * cs.length + 4) := by
  refine (Tame.tup (k := 1) (w := 70) fun x hx => ?_).less (Nat.le_refl _) (by simp)
  obtain ⟨c, hc, rfl⟩ := List.mem_map.mp hx
  exact tame_cut (h c hc)
theorem tame_frame {m l : Int} (f : Frm m l) : Tame (frameD m l) 1 48 := by
  obtain ⟨h1, h2, h3, h4⟩ := f
  refine (Tame.tup (k := 0) (w := 20) fun x hx => ?_).less (Nat.le_refl _) (by simp)
  simp only [List.mem_cons, List.not_mem_nil, or_false] at hx
  rcases hx with rfl | rfl
  · exact .int (by omega)
  · exact .int (by omega)
theorem Cut.few {m l : Int} {c : CT} (h : Cut m l c.1 c.2.1 c.2.2) (f : Frm m l) : Few c := by
  obtain ⟨p1, p2, a1, ab, b2⟩ := h
  obtain ⟨h1, h2, h3, h4⟩ := f
  exact ⟨by omega, by omega, by omega⟩
end DL

namespace DL
open PySem PySem.Spec L2
open PyProof.Rows hiding St
/-- called_by -/
def F8 : Fn := ⟨2, [], 7, (.cons (.unp (.t (.cons (.n 2) (.cons (.n 3) (.cons (.n 4) .nil)))) (.var 0))
 (.cons (.set 5 true (.dct (.cons (.idx (.var 1) (.cst (.int 1))) (.cons (.idx (.var 1) (.cst (.int 2))) (.cons (.idx (.var 1) (.cst (.int 2))) (.cons (.idx (.var 1) (.cst (.int 1))) .nil))))))
 (.cons (.set 6 false (.blt .sorted (.cons (.lst (.cons (.dget 5 (.var 3) (.var 3)) (.cons (.dget 5 (.var 4) (.var 4)) .nil))) .nil)))
 (.cons (.ret (.tup (.cons (.var 2) (.cons (.idx (.var 6) (.cst (.int 0))) (.cons (.idx (.var 6) (.cst (.int 1))) .nil)))))
 .nil))))⟩
/-- exchanged_by -/
def F9 : Fn := ⟨2, [], 5, (.cons (.unp (.t (.cons (.n 2) (.cons (.n 3) .nil))) (.sli (.var 0) (.so (.var 1)) (.so (.bin .Add (.var 1) (.cst (.int 2))))))
 (.cons (.set 4 false (.ite (.cmp .Lt (.idx (.var 2) (.cst (.int 0))) (.idx (.var 3) (.cst (.int 0)))) (.tup (.cons (.call 8 (.d (.var 3) (.d (.var 2) .nil))) (.cons (.var 2) .nil))) (.tup (.cons (.var 3) (.cons (.call 8 (.d (.var 2) (.d (.var 3) .nil))) .nil)))))
 (.cons (.ret (.bin .Add (.bin .Add (.sli (.var 0) .no (.so (.var 1))) (.var 4)) (.sli (.var 0) (.so (.bin .Add (.var 1) (.cst (.int 2)))) .no)))
 .nil)))⟩
/-- exchanged -/
def F10 : Fn := ⟨3, [], 3, (.cons (.expr (.call 7 (.d (.var 0) (.d (.var 1) .nil))))
 (.cons (.ite (.not (.call 1 (.d (.var 2) (.d (.cst (.int 0)) (.d (.bin .Sub (.blt .len (.cons (.var 1) .nil)) (.cst (.int 2))) .nil))))) (.cons .never
 .nil) .nil)
 (.cons (.ret (.call 9 (.d (.var 1) (.d (.var 2) .nil))))
 .nil)))⟩
/-- _law_row -/
def F16 : Fn := ⟨3, [0], 9, (.cons (.par2 3 4 false false (.tup .nil) (.lst (.cons (.cst (.int 0)) (.cons (.bin .Sub (.idx (.var 1) (.cst (.int 1))) (.cst (.int 1))) (.cons (.call 13 (.s 0 (.d (.idx (.var 1) (.cst (.int 1))) .nil))) .nil)))))
 (.cons (.for (.rng (.bin .Mult (.call 13 (.s 0 (.d (.bin .Add (.var 2) (.cst (.int 1))) .nil))) (.blt .int (.cons (.cmp .Gt (.idx (.var 1) (.cst (.int 0))) (.cst (.int 1))) .nil)))) (.n 5) (.cons (.set 6 false (.call 13 (.s 0 (.d (.bin .Sub (.idx (.var 1) (.cst (.int 0))) (.cst (.int 1))) .nil))))
 (.cons (.set 7 false (.bin .Add (.bin .Add (.var 6) (.cst (.int 1))) (.call 13 (.s 0 (.d (.bin .Sub (.bin .Sub (.idx (.var 1) (.cst (.int 0))) (.cst (.int 1))) (.var 6)) .nil)))))
 (.cons (.set 8 false (.idx (.lst (.cons (.call 14 (.s 0 (.d (.var 4) .nil))) (.cons (.call 13 (.s 0 (.d (.idx (.var 1) (.cst (.int 1))) .nil))) .nil))) (.call 13 (.s 0 (.d (.cst (.int 2)) .nil)))))
 (.cons (.set 3 false (.bin .Add (.var 3) (.tup (.cons (.tup (.cons (.var 8) (.cons (.var 6) (.cons (.var 7) .nil)))) .nil))))
 .nil)))))
 (.cons (.ret (.var 3))
 .nil)))⟩
/-- _law_called -/
def F17 : Fn := ⟨2, [], 4, (.cons (.set 2 true (.lst .nil))
 (.cons (.for (.seq (.var 0)) (.n 3) (.cons (.expr (.app 2 (.ite (.cmp .Eq (.var 3) (.idx (.var 1) (.cst (.int 1)))) (.idx (.var 1) (.cst (.int 2))) (.ite (.cmp .Eq (.var 3) (.idx (.var 1) (.cst (.int 2)))) (.idx (.var 1) (.cst (.int 1))) (.var 3)))))
 .nil))
 (.cons (.ret (.blt .tuple (.cons (.blt .sorted (.cons (.var 2) .nil)) .nil)))
 .nil)))⟩
/-- _law_exchanged -/
def F18 : Fn := ⟨2, [], 5, (.cons (.par2 2 3 false false (.idx (.var 0) (.var 1)) (.idx (.var 0) (.bin .Add (.var 1) (.cst (.int 1)))))
 (.cons (.ite (.cmp .Lt (.idx (.var 2) (.cst (.int 0))) (.idx (.var 3) (.cst (.int 0)))) (.cons (.set 4 false (.tup (.cons (.bin .Add (.tup (.cons (.idx (.var 3) (.cst (.int 0))) .nil)) (.call 17 (.d (.sli (.var 3) (.so (.cst (.int 1))) .no) (.d (.var 2) .nil)))) (.cons (.var 2) .nil))))
 .nil) (.cons (.set 4 false (.tup (.cons (.var 3) (.cons (.bin .Add (.tup (.cons (.idx (.var 2) (.cst (.int 0))) .nil)) (.call 17 (.d (.sli (.var 2) (.so (.cst (.int 1))) .no) (.d (.var 3) .nil)))) .nil))))
 .nil))
 (.cons (.ret (.bin .Add (.bin .Add (.sli (.var 0) .no (.so (.var 1))) (.var 4)) (.sli (.var 0) (.so (.bin .Add (.var 1) (.cst (.int 2)))) .no)))
 .nil)))⟩
/-- law -/
def F19 : Fn := ⟨1, [], 10, (.cons (.for (.rng (.blt .max (.cons (.cst (.int 1)) (.cons (.blt .min (.cons (.lenV 0) (.cons (.cst (.int 4)) .nil))) .nil)))) (.n 1) (.cons (.set 2 true (.call 12 (.d (.call 11 (.s 0 (.d (.var 1) .nil))) .nil)))
 (.cons (.for (.rng (.cst (.int 3))) (.n 3) (.cons (.set 4 false (.call 15 (.s 2 (.d (.cst (.int 5)) (.d (.cst (.int 12)) .nil)))))
 (.cons (.set 5 false (.call 16 (.s 2 (.d (.var 4) (.d (.cst (.int 12)) .nil)))))
 (.cons (.for (.rng (.bin .Sub (.blt .len (.cons (.var 5) .nil)) (.cst (.int 1)))) (.n 6) (.cons (.par2 7 8 false false (.blt .repr (.cons (.tup (.cons (.var 4) (.cons (.var 5) .nil))) .nil)) (.blt .repr (.cons (.call 18 (.d (.var 5) (.d (.var 6) .nil))) .nil)))
 (.cons (.ite (.cmp .NotEq (.lc [9] (.rng (.cst (.int 2))) (.n 9) .no (.blt .repr (.cons (.call 10 (.d (.var 4) (.d (.var 5) (.d (.var 6) .nil)))) .nil))) (.bin .Mult (.lst (.cons (.var 8) .nil)) (.cst (.int 2)))) (.cons (.ret (.cst (.bool false)))
 .nil) .nil)
 (.cons (.ite (.cmp .NotEq (.blt .repr (.cons (.tup (.cons (.var 4) (.cons (.var 5) .nil))) .nil)) (.var 7)) (.cons (.ret (.cst (.bool false)))
 .nil) .nil)
 .nil))))
 .nil))))
 .nil)))
 (.cons (.ret (.cst (.bool true)))
 .nil))⟩
variable {fs : Nat → Option Fn} {gl : Nat → Option D} {n : Nat}
@[simp] def Ss.nth : Ss → Nat → S
  | .nil, _ => .pass
  | .cons a _, 0 => a
  | .cons _ r, k + 1 => r.nth k
@[simp] def S.inner : S → Ss
  | .for _ _ b => b
  | .whl _ _ b => b
  | .ite _ a _ => a
  | _ => .nil
/-- one turn of a loop -/
@[simp] def turnF (tg : D → Ev → Option Ev) (body : GS) (d : D) (ρ : Ev) : Option (Ev × Fl) := (tg d ρ).bind body
theorem loopF_turn {tg : D → Ev → Option Ev} {body : GS} {d : D} {r : List D} {ρ ρ' : Ev} (h : turnF tg body d ρ = some (ρ', .nx)) : loopF tg body (d :: r) ρ = loopF tg body r ρ' := by
  unfold turnF at h
  obtain ⟨ρ1, e1, h⟩ := Option.bind_eq_some_iff.mp h
  rw [show loopF tg body (d :: r) ρ = (tg d ρ).bind fun ρ1 => (body ρ1).bind fun t => match t.2 with
    | .nx => loopF tg body r t.1
    | .ct => loopF tg body r t.1
    | .bk => some (t.1, .nx)
    | .rt s => some (t.1, .rt s) from rfl, e1, Option.bind_some, h]
  rfl
theorem loopF_inv {tg : D → Ev → Option Ev} {body : GS} (P : List D → Ev → Prop) (step : ∀ d r ρ, P (d :: r) ρ → ∃ ρ', turnF tg body d ρ = some (ρ', .nx) ∧ P r ρ') : ∀ (xs : List D) (ρ : Ev), P xs ρ → ∃ ρ', loopF tg body xs ρ = some (ρ', .nx) ∧ P [] ρ'
  | [], ρ, h => ⟨ρ, rfl, h⟩
  | d :: r, ρ, h => by
    obtain ⟨ρ1, e1, h1⟩ := step d r ρ h
    obtain ⟨ρ2, e2, h2⟩ := loopF_inv P step r ρ1 h1
    exact ⟨ρ2, by rw [loopF_turn e1, e2], h2⟩
theorem rngD_length (a : Int) (k : Nat) : (rngD a k).length = k := by unfold rngD; simp
theorem row_turn (h13 : fs 13 = some F13) (h14 : fs 14 = some F14) {k : Nat} {p : List D} {m l s : Int} {cs : List CT} {d : D} {v2 v5 v6 v7 v8 : Option Sl} (hp : Pen (k + 5) p) (m1 : 2 ≤ m) (m2 : m ≤ 5) (l1 : 1 ≤ l) (l2 : l ≤ 12) (s1 : 0 ≤ s) (s2 : s < l) (r : Row m l cs) (hc : cs.length < 10000) :
    ∃ p' c v5' v6' v7' v8', turnF (gT (.n 5)) (evSs (run fs gl (n + 2)) gl (F16.body.nth 1).inner) d [some (.l p), some (.d (frameD m l)), v2, some (.d (rowD cs)), some (.d (.list [.int 0, .int (l - 1), .int s])), v5, v6, v7, v8] =
      some ([some (.l p'), some (.d (frameD m l)), v2, some (.d (rowD (cs ++ [c]))), some (.d (.list [.int 0, .int (l - 1), .int s])), v5', v6', v7', v8'], .nx) ∧ Row m l (cs ++ [c]) ∧ Pen k p' := by
  obtain ⟨p1, d1, e1, x1, y1, q1⟩ := draw_ok (n := n + 1) (gl := gl) (m := m - 1) h13 hp (by omega) (by omega)
  obtain ⟨p2, d2, e2, x2, y2, q2⟩ := draw_ok (n := n + 1) (gl := gl) (m := m - 1 - d1) h13 q1 (by omega) (by omega)
  obtain ⟨p3, d3, e3, x3, q3⟩ := (pick_ok (n := n) (gl := gl) (xs := [.int 0, .int (l - 1), .int s]) h13 h14 q2 (by simp) (by simp)).1
  obtain ⟨p4, d4, e4, x4, y4, q4⟩ := draw_ok (n := n + 1) (gl := gl) (m := l) h13 q3 l1 (by omega)
  obtain ⟨p5, d5, e5, x5, y5, q5⟩ := draw_ok (n := n + 1) (gl := gl) (m := 2) h13 q4 (by omega) (by omega)
  obtain ⟨i3, rfl, i30, i31⟩ : ∃ i, d3 = .int i ∧ 0 ≤ i ∧ i ≤ l - 1 := by
    simp only [List.mem_cons, List.not_mem_nil, or_false] at x3
    rcases x3 with e | e | e
    · exact ⟨_, e, by omega, by omega⟩
    · exact ⟨_, e, by omega, by omega⟩
    · exact ⟨_, e, by omega, by omega⟩
  have z1 : (1 : Nat) ≤ sizeLine := by rw [sizeLine_eq]; decide
  have z2 : (2 : Nat) ≤ sizeLine := by rw [sizeLine_eq]; decide
  have z3 : (3 : Nat) ≤ sizeLine := by rw [sizeLine_eq]; decide
  have zf : fit (cs.length + 1) = true := by unfold fit; exact decide_eq_true (by omega)
  have fin : ∀ q : Int, 0 ≤ q → q ≤ l - 1 → Row m l (cs ++ [(q, d1, d1 + 1 + d2)]) := fun q q0 q1 c hc => by
    rcases List.mem_append.mp hc with hc | hc
    · exact r c hc
    · cases List.mem_singleton.mp hc
      exact ⟨q0, q1, x1, by show d1 < d1 + 1 + d2; omega, by show d1 + 1 + d2 ≤ m - 1; omega⟩
  rcases (show d5 = 0 ∨ d5 = 1 by omega) with rfl | rfl
  · refine ⟨p5, (i3, d1, d1 + 1 + d2), some (.d d), some (.d (.int d1)), some (.d (.int (d1 + 1 + d2))), some (.d (.int i3)), ?_, fin _ i30 i31, q5⟩
    simp [F16, e1, e2, e3, e4, e5, frameD, rowD, cutOf, cutT, atD, ixD, z1, z2, z3, zf]
  · refine ⟨p5, (d4, d1, d1 + 1 + d2), some (.d d), some (.d (.int d1)), some (.d (.int (d1 + 1 + d2))), some (.d (.int d4)), ?_, fin _ x4 (by omega), q5⟩
    simp [F16, e1, e2, e3, e4, e5, frameD, rowD, cutOf, cutT, atD, ixD, z1, z2, z3, zf]
theorem law_row_ok (h13 : fs 13 = some F13) (h14 : fs 14 = some F14) (h16 : fs 16 = some F16) {k most : Nat} {p : List D} {m l : Int} (hp : Pen (k + 5 * most + 2) p) (f : Frm m l) (hm : most ≤ 1000) :
    ∃ p' cs, run fs gl (n + 3) 16 [.l p, .d (frameD m l), .d (.int most)] = some ([.l p', .d (frameD m l), .d (.int most)], .d (rowD cs)) ∧ Row m l cs ∧ cs.length ≤ most ∧ Pen k p' := by
  obtain ⟨m1, m2, l1, l2⟩ := f
  obtain ⟨p1, s, e1, s1, s2, q1⟩ := draw_ok (n := n + 1) (gl := gl) (m := l) h13 hp l1 (by omega)
  obtain ⟨p2, c, e2, c1, c2, q2⟩ := draw_ok (n := n + 1) (gl := gl) (m := most + 1) h13 q1 (by omega) (by omega)
  have z3 : (3 : Nat) ≤ sizeLine := by rw [sizeLine_eq]; decide
  have c3 : c.natAbs < 2 ^ 64 := by omega
  by_cases hm1 : 1 < m
  · obtain ⟨ρ', el, p', cs, v5, v6, v7, v8, rfl, hp', hr', hl'⟩ := loopF_inv (tg := gT (.n 5)) (body := evSs (run fs gl (n + 2)) gl (F16.body.nth 1).inner)
      (fun xs ρ => ∃ p' cs v5 v6 v7 v8, ρ = [some (.l p'), some (.d (frameD m l)), some (.d (.int most)), some (.d (rowD cs)), some (.d (.list [.int 0, .int (l - 1), .int s])), v5, v6, v7, v8] ∧ Pen (k + 5 * xs.length) p' ∧ Row m l cs ∧ cs.length + xs.length ≤ most)
      (fun d r ρ ⟨p', cs, v5, v6, v7, v8, eρ, hp', hr', hl'⟩ => by
        subst eρ
        rw [List.length_cons] at hp' hl'
        obtain ⟨p2, c, w5, w6, w7, w8, e, r2, q2⟩ := row_turn (n := n) (gl := gl) (k := k + 5 * r.length) (d := d) (v2 := some (.d (.int most))) (v5 := v5) (v6 := v6) (v7 := v7) (v8 := v8) h13 h14 (hp'.less (by omega)) (by omega) m2 l1 l2 s1 s2 hr' (by omega)
        exact ⟨_, e, p2, cs ++ [c], w5, w6, w7, w8, rfl, q2, r2, by rw [List.length_append, List.length_singleton]; omega⟩)
      (rngD 0 c.toNat) _ ⟨p2, [], none, none, none, none, rfl, q2.less (by rw [rngD_length]; omega), (fun c hc => by cases hc), by rw [rngD_length]; simp; omega⟩
    refine ⟨p', cs, ?_, hr', by simpa using hl', hp'.less (by omega)⟩
    rw [run_step h16]
    have b1 : -4611686018427387904 ≤ c := by omega
    have b2 : c < 4611686018427387904 := by omega
    simp [F16, frameD, rowD] at el e1 e2 ⊢
    simp [e1, e2, atD, ixD, z3, c3, hm1, b1, b2, el]
  · refine ⟨p2, [], ?_, fun c hc => (by cases hc), Nat.zero_le _, q2.less (by omega)⟩
    rw [run_step h16]
    simp [F16, frameD, e1, e2, atD, ixD, z3, c3, hm1, loopF, rngD, rowD]
theorem cut_pre {α : Type} (ys r : List α) : cutD (ys ++ r) none (some (ys.length : Int)) = ys := by
  unfold cutD slD
  rw [HT.sIx_none, HT.sIx_nat]
  simp
theorem cut_mid {α : Type} (ys zs : List α) (a b : α) : cutD (ys ++ a :: b :: zs) (some (ys.length : Int)) (some ((ys.length : Int) + 2)) = [a, b] := by
  have e : ((ys.length : Int) + 2) = ((ys.length + 2 : Nat) : Int) := by omega
  unfold cutD slD
  rw [e, HT.sIx_nat, HT.sIx_nat]
  have h1 : min ys.length (ys ++ a :: b :: zs).length = ys.length := by simp
  have h2 : min (ys.length + 2) (ys ++ a :: b :: zs).length = ys.length + 2 := by simp
  rw [h1, h2, List.drop_left, Nat.add_sub_cancel_left]
  rfl
theorem cut_suf {α : Type} (ys zs : List α) (a b : α) : cutD (ys ++ a :: b :: zs) (some ((ys.length : Int) + 2)) none = zs := by
  have e : ((ys.length : Int) + 2) = ((ys.length + 2 : Nat) : Int) := by omega
  unfold cutD slD
  rw [e, HT.sIx_none, HT.sIx_nat]
  have h2 : min (ys.length + 2) (ys ++ a :: b :: zs).length = ys.length + 2 := by simp
  rw [h2]
  have h3 : List.drop (ys.length + 2) (ys ++ a :: b :: zs) = zs := by rw [List.drop_append, List.drop_eq_nil_of_le (by omega)]; simp
  rw [h3]
  have h4 : (ys ++ a :: b :: zs).length - (ys.length + 2) = zs.length := by rw [List.length_append, List.length_cons, List.length_cons]; omega
  rw [h4, List.take_length]
theorem at_pre {α : Type} (ys zs : List α) (a : α) : atD (ys ++ a :: zs) (ys.length : Int) = some a := by
  have h : (ys.length : Int) < (ys ++ a :: zs).length := by rw [List.length_append, List.length_cons]; omega
  unfold atD ixD
  rw [if_pos (by omega), if_pos h]
  simp
theorem at_pre1 {α : Type} (ys zs : List α) (a b : α) : atD (ys ++ a :: b :: zs) ((ys.length : Int) + 1) = some b := by
  have := at_pre (ys ++ [a]) zs b
  rw [List.append_assoc] at this
  simpa using this
def swp (c d x : Int) : Int := if x = c then d else if x = d then c else x
def calledC (u v : CT) : CT := (u.1, if swp v.2.1 v.2.2 u.2.1 ≤ swp v.2.1 v.2.2 u.2.2 then (swp v.2.1 v.2.2 u.2.1, swp v.2.1 v.2.2 u.2.2) else (swp v.2.1 v.2.2 u.2.2, swp v.2.1 v.2.2 u.2.1))
theorem sort2 (a b : Int) : sortI [a, b] = if a ≤ b then [a, b] else [b, a] := by simp [sortI, insI]
theorem val2 (c d x : Int) (h : c ≠ d) : (valD (mergeD [] [(.inl c, .int d), (.inl d, .int c)]) (.inl x)).getD (.int x) = .int (swp c d x) := by
  have hd : d ≠ c := fun e => h e.symm
  simp [mergeD, putD, valD, h, hd, swp]
  by_cases h1 : x = c
  · subst h1; simp
  · have h1' : c ≠ x := fun e => h1 e.symm
    by_cases h2 : x = d
    · subst h2; simp [h1, h1']
    · have h2' : d ≠ x := fun e => h2 e.symm
      simp [h1, h2, h1', h2']
theorem called_by_ok (h : fs 8 = some F8) (u v : CT) (hv : v.2.1 < v.2.2) : run fs gl (n + 1) 8 [.d (cutOf u), .d (cutOf v)] = some ([.d (cutOf u), .d (cutOf v)], .d (cutOf (calledC u v))) := by
  obtain ⟨p, a, b⟩ := u
  obtain ⟨q, c, d⟩ := v
  have hcd : c ≠ d := by have : c < d := hv; omega
  have z2 : (2 : Nat) ≤ sizeLine := by rw [sizeLine_eq]; decide
  have z3 : (3 : Nat) ≤ sizeLine := by rw [sizeLine_eq]; decide
  rw [run_step h]
  simp [F8, cutOf, cutT, atD, ixD, val2 c d _ hcd, z2, z3, intsOf, sort2, calledC]
  by_cases hs : swp c d a ≤ swp c d b
  · simp [hs, z3]
  · simp [hs, z3]
theorem eqv_int (a b : Int) : PyData.eqv (.int a) (.int b) = decide (a = b) := by
  rw [Bool.eq_iff_iff]
  simp [PyData.eqv]
theorem depth_int (a : Int) : PyData.depth (.int a) = 0 := by
  simp [PyData.depth]
theorem called_turn (q c d x : Int) {v0 v3 : Option Sl} {acc : List D} (hz : acc.length < 16777216) : turnF (gT (.n 3)) (evSs (run fs gl n) gl (F17.body.nth 1).inner) (.int x) [v0, some (.d (cutT q c d)), some (.l acc), v3] =
    some ([v0, some (.d (cutT q c d)), some (.l (acc ++ [.int (swp c d x)])), some (.d (.int x))], .nx) := by
  by_cases h1 : x = c
  · subst h1
    simp [F17, cutT, atD, ixD, eqv_int, dep2, depth_int, swp, hz]
  · by_cases h2 : x = d
    · subst h2
      simp [F17, cutT, atD, ixD, eqv_int, dep2, depth_int, swp, hz, h1]
    · simp [F17, cutT, atD, ixD, eqv_int, dep2, depth_int, swp, hz, h1, h2]
theorem law_called_ok (h : fs 17 = some F17) (p a b : Int) (v : CT) : run fs gl (n + 1) 17 [.d (.tuple [.int a, .int b]), .d (cutOf v)] = some ([.d (.tuple [.int a, .int b]), .d (cutOf v)], .d (.tuple [.int (calledC (p, a, b) v).2.1, .int (calledC (p, a, b) v).2.2])) := by
  obtain ⟨q, c, d⟩ := v
  rw [run_step h]
  have key : loopF (gT (.n 3)) (evSs (run fs gl n) gl (F17.body.nth 1).inner) [.int a, .int b] [some (.d (.tuple [.int a, .int b])), some (.d (cutT q c d)), some (.l []), none] = some ([some (.d (.tuple [.int a, .int b])), some (.d (cutT q c d)), some (.l [.int (swp c d a), .int (swp c d b)]), some (.d (.int b))], .nx) := by
    rw [loopF_turn (called_turn q c d a (by simp)), loopF_turn (called_turn q c d b (by simp))]
    exact rfl
  simp [F17, cutOf] at key ⊢
  simp [key, intsOf, sort2, calledC]
  by_cases hs : swp c d a ≤ swp c d b
  · simp [hs]
  · simp [hs]
/-- the row with the cuts u, v behind ys exchanged -/
def exch (ys : List CT) (u v : CT) (zs : List CT) : List CT := ys ++ ((if u.1 < v.1 then [calledC v u, u] else [v, calledC u v]) ++ zs)
structure HasExch (fs : Nat → Option Fn) (gl : Nat → Option D) : Prop extends HasRow fs gl where
  h8 : fs 8 = some F8
  h9 : fs 9 = some F9
  h10 : fs 10 = some F10
theorem at0 (a : D) (r : List D) : atD (a :: r) 0 = some a := by simp [atD, ixD]
theorem fit_of {k : Nat} (h : k ≤ 16777216) : fit k = true := decide_eq_true h
theorem exchanged_by_ok (h : HasExch fs gl) {m l : Int} {ys zs : List CT} {u v : CT} (r : Row m l (ys ++ u :: v :: zs)) (hl : (ys ++ u :: v :: zs).length ≤ 10000) :
    run fs gl (n + 2) 9 [.d (rowD (ys ++ u :: v :: zs)), .d (.int ys.length)] = some ([.d (rowD (ys ++ u :: v :: zs)), .d (.int ys.length)], .d (rowD (exch ys u v zs))) := by
  have hu : u.2.1 < u.2.2 := (r u (by simp)).ab
  have hv : v.2.1 < v.2.2 := (r v (by simp)).ab
  have z2 : (2 : Nat) ≤ sizeLine := by rw [sizeLine_eq]; decide
  have c1 := cut_pre (ys.map cutOf) (cutOf u :: cutOf v :: zs.map cutOf)
  have c2 := cut_mid (ys.map cutOf) (zs.map cutOf) (cutOf u) (cutOf v)
  have c3 := cut_suf (ys.map cutOf) (zs.map cutOf) (cutOf u) (cutOf v)
  have l1 : ys.length + zs.length ≤ 9998 := by simp at hl; omega
  have f1 : fit (ys.length + 2) = true := fit_of (by omega)
  have f2 : fit (ys.length + 2 + zs.length) = true := fit_of (by omega)
  have f3 : fit (ys.length + (2 + zs.length)) = true := fit_of (by omega)
  rw [List.length_map] at c1 c2 c3
  rw [run_step h.h9]
  have k1 := called_by_ok (n := n) (gl := gl) h.h8 u v hv
  have k2 := called_by_ok (n := n) (gl := gl) h.h8 v u hu
  have a1 : atD [PyData.int u.1, PyData.int u.2.1, PyData.int u.2.2] 0 = some (.int u.1) := at0 _ _
  have a2 : atD [PyData.int v.1, PyData.int v.2.1, PyData.int v.2.2] 0 = some (.int v.1) := at0 _ _
  by_cases hs : u.1 < v.1
  · simp [cutOf, cutT] at k1 k2 c1 c2 c3
    simp [F9, rowD, cutOf, cutT, c1, c2, c3, a1, a2, hs, k1, k2, z2, exch, f1, f2, f3]
  · simp [cutOf, cutT] at k1 k2 c1 c2 c3
    simp [F9, rowD, cutOf, cutT, c1, c2, c3, a1, a2, hs, k1, k2, z2, exch, f1, f2, f3]
theorem exchanged_ok (h : HasExch fs gl) {m l : Int} (f : Frm m l) {ys zs : List CT} {u v : CT} (r : Row m l (ys ++ u :: v :: zs)) (hl : (ys ++ u :: v :: zs).length ≤ 10000) :
    run fs gl (n + 6) 10 [.d (frameD m l), .d (rowD (ys ++ u :: v :: zs)), .d (.int ys.length)] = some ([.d (frameD m l), .d (rowD (ys ++ u :: v :: zs)), .d (.int ys.length)], .d (rowD (exch ys u v zs))) := by
  rw [run_step h.h10]
  have k1 := need_row_ok (n := n) h.toHasRow f r hl
  have k2 := exchanged_by_ok (n := n + 3) h r hl
  have k3 := among_int (n := n + 3) (gl := gl) h.h0 h.h1 ys.length 0 ((ys ++ u :: v :: zs).length - 2)
  have b : (ys.length : Int) ≤ ((ys ++ u :: v :: zs).length : Int) - 2 := by rw [List.length_append, List.length_cons, List.length_cons]; omega
  have b0 : (0 : Int) ≤ (ys.length : Int) := by omega
  rw [decide_eq_true b0, decide_eq_true b] at k3
  generalize (ys ++ u :: v :: zs) = cs at k1 k2 k3
  simp only [rowD] at k1 k2 ⊢
  simp [F10, k1, k2, k3]
theorem law_exchanged_ok (h17 : fs 17 = some F17) (h18 : fs 18 = some F18) {ys zs : List CT} {u v : CT} (hl : (ys ++ u :: v :: zs).length ≤ 10000) :
    run fs gl (n + 2) 18 [.d (rowD (ys ++ u :: v :: zs)), .d (.int ys.length)] = some ([.d (rowD (ys ++ u :: v :: zs)), .d (.int ys.length)], .d (rowD (exch ys u v zs))) := by
  have z1 : (1 : Nat) ≤ sizeLine := by rw [sizeLine_eq]; decide
  have z2 : (2 : Nat) ≤ sizeLine := by rw [sizeLine_eq]; decide
  have c1 := cut_pre (ys.map cutOf) (cutOf u :: cutOf v :: zs.map cutOf)
  have c3 := cut_suf (ys.map cutOf) (zs.map cutOf) (cutOf u) (cutOf v)
  have t1 := at_pre (ys.map cutOf) (cutOf v :: zs.map cutOf) (cutOf u)
  have t2 := at_pre1 (ys.map cutOf) (zs.map cutOf) (cutOf u) (cutOf v)
  have l1 : ys.length + zs.length ≤ 9998 := by simp at hl; omega
  have f0 : fit 3 = true := fit_of (by decide)
  have f1 : fit (ys.length + 2) = true := fit_of (by omega)
  have f2 : fit (ys.length + 2 + zs.length) = true := fit_of (by omega)
  have f3 : fit (ys.length + (2 + zs.length)) = true := fit_of (by omega)
  rw [List.length_map] at c1 c3 t1 t2
  rw [run_step h18]
  have k1 := law_called_ok (n := n) (gl := gl) h17 u.1 u.2.1 u.2.2 v
  have k2 := law_called_ok (n := n) (gl := gl) h17 v.1 v.2.1 v.2.2 u
  have a1 : atD [PyData.int u.1, PyData.int u.2.1, PyData.int u.2.2] 0 = some (.int u.1) := at0 _ _
  have a2 : atD [PyData.int v.1, PyData.int v.2.1, PyData.int v.2.2] 0 = some (.int v.1) := at0 _ _
  have s1 : cutD [PyData.int u.1, PyData.int u.2.1, PyData.int u.2.2] (some 1) none = [.int u.2.1, .int u.2.2] := by simp [cutD, slD, HT.sIx]
  have s2 : cutD [PyData.int v.1, PyData.int v.2.1, PyData.int v.2.2] (some 1) none = [.int v.2.1, .int v.2.2] := by simp [cutD, slD, HT.sIx]
  have e1 : (calledC u v).1 = u.1 := rfl
  have e2 : (calledC v u).1 = v.1 := rfl
  by_cases hs : u.1 < v.1
  · simp [cutOf, cutT] at k1 k2 c1 c3 t1 t2
    simp [F18, rowD, cutOf, cutT, c1, c3, t1, t2, a1, a2, s1, s2, hs, k1, k2, z1, z2, exch, f0, f1, f2, f3, e1, e2]
  · simp [cutOf, cutT] at k1 k2 c1 c3 t1 t2
    simp [F18, rowD, cutOf, cutT, c1, c3, t1, t2, a1, a2, s1, s2, hs, k1, k2, z1, z2, exch, f0, f1, f2, f3, e1, e2]
theorem mem_rng {c : Nat} {d : D} (h : d ∈ rngD 0 c) : ∃ i : Nat, d = .int i ∧ i < c := by
  unfold rngD at h
  obtain ⟨i, hi, rfl⟩ := List.mem_map.mp h
  exact ⟨i, by simp, List.mem_range.mp hi⟩
theorem eqv_ss (s : Str) : PyData.eqv (.list [.str s, .str s]) (.list [.str s, .str s]) = true := by simp [PyData.eqv, PyData.eqvAll]
theorem depth_ss (s t : Str) : PyData.depth (.list [.str s, .str t]) = 1 := by simp [PyData.depth, PyData.depthAll]
end DL

namespace DL
open PySem PySem.Spec L2
open PyProof.Rows hiding St
/-- is_order -/
def F20 : Fn := ⟨2, [], 3, (.cons (.ite (.or (.not (.call 2 (.d (.var 1) (.d (.var 0) (.d (.var 0) .nil))))) (.not (.blt .all (.cons (.lc [2] (.seq (.var 1)) (.n 2) .no (.call 1 (.d (.var 2) (.d (.cst (.int 0)) (.d (.bin .Sub (.var 0) (.cst (.int 1))) .nil))))) .nil)))) (.cons (.ret (.cst (.bool false)))
 .nil) .nil)
 (.cons (.ret (.cmp .Eq (.lset (.var 1)) (.var 0)))
 .nil))⟩
/-- is_effect_by -/
def F21 : Fn := ⟨2, [], 5, (.cons (.unp (.t (.cons (.n 2) (.cons (.n 3) .nil))) (.var 0))
 (.cons (.ret (.and (.call 2 (.d (.var 1) (.d (.var 3) (.d (.var 3) .nil)))) (.blt .all (.cons (.lc [4] (.seq (.var 1)) (.n 4) .no (.call 20 (.d (.var 2) (.d (.var 4) .nil)))) .nil))))
 .nil))⟩
/-- need_effect -/
def F22 : Fn := ⟨2, [], 2, (.cons (.expr (.call 4 (.d (.var 0) .nil)))
 (.cons (.ite (.not (.call 21 (.d (.var 0) (.d (.var 1) .nil)))) (.cons .never
 .nil) .nil)
 .nil))⟩
/-- _law_mixed -/
def F26 : Fn := ⟨2, [0], 4, (.cons (.par2 2 3 true true (.blt .list (.cons (.var 1) .nil)) (.lst .nil))
 (.cons (.whl 1000000 (.cmpL .NotEq 2 (.lst .nil)) (.cons (.expr (.app 3 (.popAt 2 (.call 13 (.s 0 (.d (.lenV 2) .nil))))))
 .nil))
 (.cons (.ret (.tupV 3))
 .nil)))⟩
/-- _law_frame -/
def F27 : Fn := ⟨1, [0], 1, (.cons (.ret (.tup (.cons (.bin .Add (.cst (.int 1)) (.call 13 (.s 0 (.d (.cst (.int 5)) .nil)))) (.cons (.idx (.lst (.cons (.bin .Add (.cst (.int 1)) (.call 13 (.s 0 (.d (.cst (.int 6)) .nil)))) (.cons (.bin .Add (.cst (.int 1)) (.call 13 (.s 0 (.d (.cst (.int 12)) .nil)))) .nil))) (.call 13 (.s 0 (.d (.cst (.int 2)) .nil)))) .nil))))
 .nil)⟩
/-- _law_cuts -/
def F28 : Fn := ⟨2, [], 6, (.cons (.set 2 false (.lst .nil))
 (.cons (.for (.rng (.var 1)) (.n 3) (.cons (.for (.rng (.var 0)) (.n 4) (.cons (.set 2 false (.bin .Add (.var 2) (.lc [5] (.rg2 (.bin .Add (.var 4) (.cst (.int 1))) (.var 0)) (.n 5) .no (.tup (.cons (.var 3) (.cons (.var 4) (.cons (.var 5) .nil)))))))
 .nil))
 .nil))
 (.cons (.ret (.var 2))
 .nil)))⟩
/-- _law_row -/
def F29 : Fn := ⟨4, [0], 6, (.cons (.set 4 false (.call 28 (.d (.var 1) (.d (.var 2) .nil))))
 (.cons (.ret (.blt .tuple (.cons (.lc [5] (.rng (.ite (.cmp .NotEq (.var 4) (.lst .nil)) (.call 13 (.s 0 (.d (.bin .Add (.var 3) (.cst (.int 1))) .nil))) (.cst (.int 0)))) (.n 5) .no (.call 14 (.s 0 (.d (.var 4) .nil)))) .nil)))
 .nil))⟩
variable {fs : Nat → Option Fn} {gl : Nat → Option D} {n : Nat}
/-- a comprehension with what it keeps -/
theorem loopC_inv {vs : List Nat} {tg : D → Ev → Option Ev} {cd : GB} {el : GD} (P : List D → Ev → List D → Prop) (B : Nat) (hB : B ≤ 16777216) (len : ∀ xs ρ acc, P xs ρ acc → acc.length + xs.length ≤ B)
    (step : ∀ d r ρ acc, P (d :: r) ρ acc → ∃ ρ' o, turnC vs tg cd el d ρ = some (ρ', o) ∧ P r ρ' (acc ++ o.toList)) : ∀ (xs : List D) (ρ : Ev) (acc : List D), P xs ρ acc → ∃ ρ' out, loopC vs tg cd el xs ρ acc = some (ρ', out) ∧ P [] ρ' out
  | [], ρ, acc, h => ⟨ρ, acc, rfl, h⟩
  | d :: r, ρ, acc, h => by
    obtain ⟨ρ1, o, e1, h1⟩ := step d r ρ acc h
    have := len _ _ _ h
    rw [List.length_cons] at this
    obtain ⟨ρ2, out, e2, h2⟩ := loopC_inv P B hB len step r ρ1 _ h1
    exact ⟨ρ2, out, by rw [loopC_turn e1 (by omega), e2], h2⟩
def orderD (o : List Int) : D := .tuple (o.map .int)
structure Ord (m : Int) (o : List Int) : Prop where
  len : (o.length : Int) = m
  rng : ∀ x ∈ o, 0 ≤ x ∧ x ≤ m - 1
  nd : o.Nodup
structure HasEff (fs : Nat → Option Fn) (gl : Nat → Option D) : Prop extends HasFrame fs gl where
  h20 : fs 20 = some F20
  h21 : fs 21 = some F21
  h22 : fs 22 = some F22
theorem ints_of (o : List Int) : intsOf (o.map PyData.int) = some o := by
  induction o with
  | nil => rfl
  | cons x r ih => simp [intsOf, ih]
theorem is_order_ok (h : HasEff fs gl) {m : Int} {o : List Int} (r : Ord m o) (hm : m ≤ 1000) : run fs gl (n + 3) 20 [.d (.int m), .d (orderD o)] = some ([.d (.int m), .d (orderD o)], .d (.bool true)) := by
  rw [run_step h.h20]
  have key : loopC [2] (gT (.n 2)) gYes (gd (evX (run fs gl (n + 2)) gl (.call 1 (.d (.var 2) (.d (.cst (.int 0)) (.d (.bin .Sub (.var 0) (.cst (.int 1))) .nil)))))) (o.map PyData.int) [some (.d (.int m)), some (.d (orderD o)), none] [] = some (_, [] ++ (o.map PyData.int).map fun _ => .bool true) := loopC_map (fun _ => .bool true) _ _ (by have := r.len; simp; omega) (fun d hd => by
    obtain ⟨c, hc, rfl⟩ := List.mem_map.mp hd
    obtain ⟨c1, c2⟩ := r.rng c hc
    simp [among_int h.h0 h.h1, c1, c2])
  have st := some_tup (n := n + 1) (gl := gl) h.h2 (o.map PyData.int) m m
  have u : (uniq o).length = o.length := by rw [uniq_self r.nd]
  have l1 : o.length ≤ 1000 := by have := r.len; omega
  have l2 := r.len
  simp [F20, orderD, -List.map_map] at key st ⊢
  simp [key, st, l2, bools_true, Function.comp_def, ints_of, l1, u, eqv_int, dep2, depth_int]
def effD (E : List (List Int)) : D := .tuple (E.map orderD)
structure Eff (m l : Int) (E : List (List Int)) : Prop where
  len : (E.length : Int) = l
  all : ∀ o ∈ E, Ord m o
theorem is_effect_ok (h : HasEff fs gl) {m l : Int} (f : Frm m l) {E : List (List Int)} (r : Eff m l E) : run fs gl (n + 4) 21 [.d (frameD m l), .d (effD E)] = some ([.d (frameD m l), .d (effD E)], .d (.bool true)) := by
  rw [run_step h.h21]
  obtain ⟨m1, m2, l1, l2⟩ := f
  have ln := r.len
  have key : loopC [4] (gT (.n 4)) gYes (gd (evX (run fs gl (n + 3)) gl (.call 20 (.d (.var 2) (.d (.var 4) .nil))))) (E.map orderD) [some (.d (frameD m l)), some (.d (effD E)), some (.d (.int m)), some (.d (.int l)), none] [] = some (_, [] ++ (E.map orderD).map fun _ => .bool true) := loopC_map (fun _ => .bool true) _ _ (by simp; omega) (fun d hd => by
    obtain ⟨o, ho, rfl⟩ := List.mem_map.mp hd
    simp [is_order_ok h (r.all o ho) (by omega)])
  have st := some_tup (n := n + 2) (gl := gl) h.h2 (E.map orderD) l l
  simp [F21, effD, frameD, -List.map_map] at key st ⊢
  simp [key, st, ln, bools_true, Function.comp_def]
theorem need_effect_ok (h : HasEff fs gl) {m l : Int} (f : Frm m l) {E : List (List Int)} (r : Eff m l E) : run fs gl (n + 5) 22 [.d (frameD m l), .d (effD E)] = some ([.d (frameD m l), .d (effD E)], .d .none) := by
  rw [run_step h.h22]
  simp [F22, need_frame_ok h.toHasFrame f, is_effect_ok h f r]
theorem frame72_ok (h13 : fs 13 = some F13) (h27 : fs 27 = some F27) {k : Nat} {p : List D} (hp : Pen (k + 4) p) : ∃ p' m l, run fs gl (n + 2) 27 [.l p] = some ([.l p'], .d (frameD m l)) ∧ Frm m l ∧ Pen k p' := by
  obtain ⟨p1, d1, e1, x1, y1, q1⟩ := draw_ok (n := n) (gl := gl) (m := 5) h13 hp (by decide) (by decide)
  obtain ⟨p2, d2, e2, x2, y2, q2⟩ := draw_ok (n := n) (gl := gl) (m := 6) h13 q1 (by decide) (by decide)
  obtain ⟨p3, d3, e3, x3, y3, q3⟩ := draw_ok (n := n) (gl := gl) (m := 12) h13 q2 (by decide) (by decide)
  obtain ⟨p4, d4, e4, x4, y4, q4⟩ := draw_ok (n := n) (gl := gl) (m := 2) h13 q3 (by decide) (by decide)
  have z2 : (2 : Nat) ≤ sizeLine := by rw [sizeLine_eq]; decide
  rcases (show d4 = 0 ∨ d4 = 1 by omega) with rfl | rfl
  · refine ⟨p4, 1 + d1, 1 + d2, ?_, ⟨by omega, by omega, by omega, by omega⟩, q4⟩
    rw [run_step h27]
    simp [F27, e1, e2, e3, e4, frameD, z2, atD, ixD]
  · refine ⟨p4, 1 + d1, 1 + d3, ?_, ⟨by omega, by omega, by omega, by omega⟩, q4⟩
    rw [run_step h27]
    simp [F27, e1, e2, e3, e4, frameD, z2, atD, ixD]
def cutsAt (m p a : Int) : List CT := (List.range (m - (a + 1)).toNat).map fun (i : Nat) => (p, a, a + 1 + (i : Int))
theorem cutsAt_row {m l p a : Int} (hp0 : 0 ≤ p) (hp : p ≤ l - 1) (ha0 : 0 ≤ a) : Row m l (cutsAt m p a) := fun c hc => by
  obtain ⟨i, hi, rfl⟩ := List.mem_map.mp hc
  have := List.mem_range.mp hi
  exact ⟨hp0, hp, ha0, by show a < a + 1 + (i : Int); omega, by show a + 1 + (i : Int) ≤ m - 1; omega⟩
/-- the cuts of a place and a low ribbon -/
theorem cuts_turn {m p a : Int} (hm0 : 0 ≤ m) (hm : m ≤ 5) (ha0 : 0 ≤ a) (ha : a ≤ 100) {cs : List CT} (hc : cs.length ≤ 10000) {v1 v3 : Option Sl} :
    turnF (gT (.n 4)) (evSs (run fs gl n) gl ((((F28.body.nth 1).inner).nth 0).inner)) (.int a) [some (.d (.int m)), v1, some (.d (.list (cs.map cutOf))), some (.d (.int p)), v3, none] =
      some ([some (.d (.int m)), v1, some (.d (.list ((cs ++ cutsAt m p a).map cutOf))), some (.d (.int p)), some (.d (.int a)), none], .nx) := by
  have key : loopC [5] (gT (.n 5)) gYes (gd (evX (run fs gl n) gl (.tup (.cons (.var 3) (.cons (.var 4) (.cons (.var 5) .nil)))))) (rngD (a + 1) (m - (a + 1)).toNat) [some (.d (.int m)), v1, some (.d (.list (cs.map cutOf))), some (.d (.int p)), some (.d (.int a)), none] [] =
      some (_, [] ++ (rngD (a + 1) (m - (a + 1)).toNat).map fun d => .tuple [.int p, .int a, d]) := loopC_map (fun d => .tuple [.int p, .int a, d]) _ _ (by rw [rngD_length]; simp; omega) (fun d hd => by
    have z3 : (3 : Nat) ≤ sizeLine := by rw [sizeLine_eq]; decide
    simp [z3])
  have e : ((rngD (a + 1) (m - (a + 1)).toNat).map fun d => PyData.tuple [.int p, .int a, d]) = (cutsAt m p a).map cutOf := by
    unfold rngD cutsAt
    rw [List.map_map, List.map_map]
    rfl
  have b1 : -4611686018427387904 ≤ a + 1 := by omega
  have b2 : a + 1 < 4611686018427387904 := by omega
  have b3 : -4611686018427387904 ≤ m := by omega
  have b4 : m < 4611686018427387904 := by omega
  have lc : (cutsAt m p a).length ≤ 5 := by unfold cutsAt; rw [List.length_map, List.length_range]; omega
  have f1 : fit (cs.length + (cutsAt m p a).length) = true := fit_of (by omega)
  rw [e] at key
  simp [F28, -List.map_map] at key ⊢
  simp [key, b1, b2, b3, b4, f1]
theorem cuts_place {m l p : Int} (f : Frm m l) (hp0 : 0 ≤ p) (hp : p ≤ l - 1) {cs : List CT} (r : Row m l cs) (hc : cs.length ≤ 5000) {v3 v4 : Option Sl} :
    ∃ cs' w4, turnF (gT (.n 3)) (evSs (run fs gl n) gl ((F28.body.nth 1).inner)) (.int p) [some (.d (.int m)), some (.d (.int l)), some (.d (.list (cs.map cutOf))), v3, v4, none] =
      some ([some (.d (.int m)), some (.d (.int l)), some (.d (.list (cs'.map cutOf))), some (.d (.int p)), w4, none], .nx) ∧ Row m l cs' ∧ cs'.length ≤ cs.length + 25 := by
  obtain ⟨m1, m2, l1, l2⟩ := f
  obtain ⟨ρ', el, _, cs', w4, rfl, r', hl⟩ := loopF_inv (tg := gT (.n 4)) (body := evSs (run fs gl n) gl ((((F28.body.nth 1).inner).nth 0).inner))
    (fun xs ρ => (∀ d ∈ xs, ∃ i : Nat, d = .int i ∧ i < m.toNat) ∧ ∃ cs' v4, ρ = [some (.d (.int m)), some (.d (.int l)), some (.d (.list (cs'.map cutOf))), some (.d (.int p)), v4, none] ∧ Row m l cs' ∧ cs'.length + 5 * xs.length ≤ cs.length + 25)
    (fun d xs ρ ⟨hx, cs', v4, eρ, r', hl⟩ => by
      subst eρ
      obtain ⟨a, rfl, ha⟩ := hx d List.mem_cons_self
      rw [List.length_cons] at hl
      refine ⟨_, cuts_turn (by omega) m2 (by omega) (by omega) (by omega), fun y hy => hx y (List.mem_cons_of_mem _ hy), _, _, rfl, fun c hc => ?_, ?_⟩
      · rcases List.mem_append.mp hc with z | z
        · exact r' c z
        · exact cutsAt_row hp0 hp (by omega) c z
      · have : (cutsAt m p a).length ≤ 5 := by unfold cutsAt; rw [List.length_map, List.length_range]; omega
        rw [List.length_append]; omega)
    (rngD 0 m.toNat) [some (.d (.int m)), some (.d (.int l)), some (.d (.list (cs.map cutOf))), some (.d (.int p)), v4, none]
    ⟨fun y hy => by
      obtain ⟨i, e, hi⟩ := mem_rng hy
      exact ⟨i, e, hi⟩, cs, _, rfl, r, by rw [rngD_length]; omega⟩
  refine ⟨cs', w4, ?_, r', by simpa using hl⟩
  have b3 : -4611686018427387904 ≤ m := by omega
  have b4 : m < 4611686018427387904 := by omega
  simp [F28] at el ⊢
  simp [b3, b4, el]
theorem law_cuts_ok (h28 : fs 28 = some F28) {m l : Int} (f : Frm m l) : ∃ cs, run fs gl (n + 1) 28 [.d (.int m), .d (.int l)] = some ([.d (.int m), .d (.int l)], .d (.list (cs.map cutOf))) ∧ Row m l cs ∧ cs.length ≤ 300 := by
  obtain ⟨m1, m2, l1, l2⟩ := f
  obtain ⟨ρ', el, _, cs, w3, w4, rfl, r', hl⟩ := loopF_inv (tg := gT (.n 3)) (body := evSs (run fs gl n) gl ((F28.body.nth 1).inner))
    (fun xs ρ => (∀ d ∈ xs, ∃ i : Nat, d = .int i ∧ i < l.toNat) ∧ ∃ cs' v3 v4, ρ = [some (.d (.int m)), some (.d (.int l)), some (.d (.list (cs'.map cutOf))), v3, v4, none] ∧ Row m l cs' ∧ cs'.length + 25 * xs.length ≤ 300)
    (fun d xs ρ ⟨hx, cs', v3, v4, eρ, r', hl⟩ => by
      subst eρ
      obtain ⟨p, rfl, hp⟩ := hx d List.mem_cons_self
      rw [List.length_cons] at hl
      obtain ⟨cs2, w4, e, r2, hl2⟩ := cuts_place (fs := fs) (gl := gl) (n := n) (m := m) (l := l) ⟨m1, m2, l1, l2⟩ (p := p) (by omega) (by omega) r' (by omega) (v3 := v3) (v4 := v4)
      exact ⟨_, e, fun y hy => hx y (List.mem_cons_of_mem _ hy), cs2, _, w4, rfl, r2, by omega⟩)
    (rngD 0 l.toNat) [some (.d (.int m)), some (.d (.int l)), some (.d (.list [])), none, none, none]
    ⟨fun y hy => by
      obtain ⟨i, e, hi⟩ := mem_rng hy
      exact ⟨i, e, hi⟩, [], _, _, rfl, (fun c hc => by cases hc), by rw [rngD_length]; simp; omega⟩
  refine ⟨cs, ?_, r', by simpa using hl⟩
  have b3 : -4611686018427387904 ≤ l := by omega
  have b4 : l < 4611686018427387904 := by omega
  rw [run_step h28]
  simp [F28] at el ⊢
  simp [b3, b4, el]
theorem eqv_nil_list (xs : List D) : PyData.eqv (.list xs) (.list []) = xs.isEmpty := by
  cases xs <;> simp [PyData.eqv, PyData.eqvAll]
theorem depth_nil_list : PyData.depth (.list []) = 1 := by simp [PyData.depth, PyData.depthAll]
theorem row72_ok (h13 : fs 13 = some F13) (h14 : fs 14 = some F14) (h28 : fs 28 = some F28) (h29 : fs 29 = some F29) {k most : Nat} {p : List D} {m l : Int} (hp : Pen (k + most + 1) p) (f : Frm m l) (hm : most ≤ 1000) :
    ∃ p' cs, run fs gl (n + 3) 29 [.l p, .d (.int m), .d (.int l), .d (.int most)] = some ([.l p', .d (.int m), .d (.int l), .d (.int most)], .d (rowD cs)) ∧ Row m l cs ∧ cs.length ≤ most ∧ Pen k p' := by
  obtain ⟨all, e0, ra, la⟩ := law_cuts_ok (n := n + 1) (gl := gl) h28 f
  have z0 : (0 : Nat) ≤ sizeLine := Nat.zero_le _
  by_cases ne : all = []
  · subst ne
    refine ⟨p, [], ?_, (fun c hc => by cases hc), Nat.zero_le _, hp.less (by omega)⟩
    rw [run_step h29]
    simp at e0
    simp [F29, e0, eqv_nil_list, dep2, depth_nil_list, loopC, rngD, rowD]
  · have nl : (all.map cutOf) ≠ [] := by simpa using ne
    have nl2 : (all.map cutOf).isEmpty = false := by simpa using ne
    obtain ⟨p1, c, e1, c1, c2, q1⟩ := draw_ok (n := n + 1) (gl := gl) (m := most + 1) h13 hp (by omega) (by omega)
    obtain ⟨ρ', out, el, p', cs, rfl, rfl, r', hl, hp'⟩ := loopC_inv (vs := [5]) (tg := gT (.n 5)) (cd := gYes) (el := gd (evX (run fs gl (n + 2)) gl (.call 14 (.s 0 (.d (.var 4) .nil)))))
      (fun xs ρ acc => ∃ p' cs, ρ = [some (.l p'), some (.d (.int m)), some (.d (.int l)), some (.d (.int most)), some (.d (.list (all.map cutOf))), none] ∧ acc = cs.map cutOf ∧ Row m l cs ∧ cs.length + xs.length ≤ most ∧ Pen (k + xs.length) p') 1000 (by decide)
      (fun xs ρ acc ⟨p', cs, _, ea, _, hl, _⟩ => by rw [ea, List.length_map]; omega)
      (fun d r ρ acc ⟨p', cs, eρ, ea, r', hl, hp'⟩ => by
        subst eρ ea
        rw [List.length_cons] at hl hp'
        obtain ⟨p2, x, e, hx, q⟩ := (pick_ok (n := n) (gl := gl) (k := k + r.length) (xs := all.map cutOf) h13 h14 (hp'.less (by omega)) nl (by rw [List.length_map]; omega)).1
        obtain ⟨u, hu, rfl⟩ := List.mem_map.mp hx
        refine ⟨_, some (cutOf u), by simp [e], p2, cs ++ [u], rfl, by simp, fun c hc => ?_, by rw [List.length_append, List.length_singleton]; omega, q⟩
        rcases List.mem_append.mp hc with z | z
        · exact r' c z
        · cases List.mem_singleton.mp z
          exact ra u hu)
      (rngD 0 c.toNat) [some (.l p1), some (.d (.int m)), some (.d (.int l)), some (.d (.int most)), some (.d (.list (all.map cutOf))), none] []
      ⟨p1, [], rfl, rfl, (fun c hc => by cases hc), by rw [rngD_length]; simp; omega, q1.less (by rw [rngD_length]; omega)⟩
    refine ⟨p', cs, ?_, r', by simpa using hl, hp'.less (by omega)⟩
    have b3 : -4611686018427387904 ≤ c := by omega
    have b4 : c < 4611686018427387904 := by omega
    have dm : min (PyData.depth (.list (all.map cutOf))) 1 ≤ 100 := by omega
    rw [run_step h29]
    simp [F29, -List.map_map] at el e0 ⊢
    simp [e0, e1, eqv_nil_list, dep2, depth_nil_list, nl2, b3, b4, dm, el, rowD, ne]
theorem whileF_inv {c : GB} {body : GS} (P : Nat → Ev → Prop) (Q : Ev → Prop) (stop : ∀ ρ, P 0 ρ → ∃ ρ', c ρ = some (ρ', false) ∧ Q ρ') (step : ∀ k ρ, P (k + 1) ρ → ∃ ρ1 ρ2, c ρ = some (ρ1, true) ∧ body ρ1 = some (ρ2, .nx) ∧ P k ρ2) :
    ∀ (k fuel : Nat) (ρ : Ev), k < fuel → P k ρ → ∃ ρ', whileF c body fuel ρ = some (ρ', .nx) ∧ Q ρ'
  | _, 0, _, hf, _ => by omega
  | 0, fuel + 1, ρ, _, h => by
    obtain ⟨ρ', e, q⟩ := stop ρ h
    refine ⟨ρ', ?_, q⟩
    unfold whileF
    rw [e]; rfl
  | k + 1, fuel + 1, ρ, hf, h => by
    obtain ⟨ρ1, ρ2, e1, e2, h2⟩ := step k ρ h
    obtain ⟨ρ', e, q⟩ := whileF_inv P Q stop step k fuel ρ2 (by omega) h2
    refine ⟨ρ', ?_, q⟩
    unfold whileF
    rw [e1]
    simp [e2, e]
theorem eqv_list_nil (xs : List D) : PyData.eqv (.list xs) (.list []) = decide (xs.length = 0) := by
  cases xs <;> simp [PyData.eqv, PyData.eqvAll]
theorem dep_nil (xs : List D) : dep2 (.list xs) (.list []) = true := by
  unfold dep2
  rw [depth_nil_list]
  exact decide_eq_true (by omega)
theorem erase_perm {α : Type} : ∀ (l : List α) (i : Nat) (h : i < l.length), (l[i] :: l.eraseIdx i).Perm l
  | x :: r, 0, _ => List.Perm.refl _
  | x :: r, i + 1, h => (List.Perm.swap x _ _).trans ((erase_perm r i (by simpa using h)).cons x)
/-- what is drawn from a lot till none is left is the lot in another order -/
theorem mixed_ok (h13 : fs 13 = some F13) (h26 : fs 26 = some F26) {k : Nat} {p : List D} {xs : List D} (hp : Pen (k + xs.length) p) (hx : xs.length ≤ 1000) :
    ∃ p' ys, run fs gl (n + 2) 26 [.l p, .d (.tuple xs)] = some ([.l p', .d (.tuple xs)], .d (.tuple ys)) ∧ ys.Perm xs ∧ Pen k p' := by
  obtain ⟨ρ', el, p', ys, rfl, hy, hp'⟩ := whileF_inv (c := evB (run fs gl (n + 1)) gl (.cmpL .NotEq 2 (.lst .nil))) (body := evSs (run fs gl (n + 1)) gl (F26.body.nth 1).inner)
    (fun j ρ => ∃ p' zs ys, ρ = [some (.l p'), some (.d (.tuple xs)), some (.l zs), some (.l ys)] ∧ (zs ++ ys).Perm xs ∧ zs.length = j ∧ Pen (k + j) p')
    (fun ρ => ∃ p' ys, ρ = [some (.l p'), some (.d (.tuple xs)), some (.l []), some (.l ys)] ∧ ys.Perm xs ∧ Pen k p')
    (fun ρ ⟨p', zs, ys, eρ, hy, hz, hp'⟩ => by
      subst eρ
      have := List.eq_nil_of_length_eq_zero hz
      subst this
      refine ⟨_, ?_, p', ys, rfl, by simpa using hy, hp'⟩
      simp [eqv_list_nil, dep_nil])
    (fun j ρ ⟨p', zs, ys, eρ, hy, hz, hp'⟩ => by
      subst eρ
      obtain ⟨p2, d, e, d1, d2, q⟩ := draw_ok (n := n) (gl := gl) (k := k + j) (m := (zs.length : Int)) h13 (hp'.less (by omega)) (by omega) (by have := hy.length_eq; rw [List.length_append] at this; omega)
      have hd : d.toNat < zs.length := by omega
      have hl : ys.length < 16777216 := by have := hy.length_eq; rw [List.length_append] at this; omega
      have at_ : zs[d.toNat]? = some zs[d.toNat] := List.getElem?_eq_getElem hd
      have d3 : d < 1152921504606846976 := by have := hy.length_eq; rw [List.length_append] at this; omega
      have ne : ¬ zs.length = 0 := by omega
      have ne2 : ¬ zs = [] := fun z => ne (by rw [z]; rfl)
      refine ⟨[some (.l p'), some (.d (.tuple xs)), some (.l zs), some (.l ys)], [some (.l p2), some (.d (.tuple xs)), some (.l (zs.eraseIdx d.toNat)), some (.l (ys ++ [zs[d.toNat]]))], ?_, ?_, p2, _, _, rfl, ?_, by rw [List.length_eraseIdx_of_lt hd]; omega, q⟩
      · simp [eqv_list_nil, dep_nil, ne, ne2]
      · simp [F26, e, d1, d2, d3, at_, hl]
      · have g1 : (zs[d.toNat] :: zs.eraseIdx d.toNat).Perm zs := erase_perm zs _ hd
        have g2 : (zs.eraseIdx d.toNat ++ (ys ++ [zs[d.toNat]])).Perm (zs[d.toNat] :: (zs.eraseIdx d.toNat ++ ys)) := by
          rw [← List.append_assoc]
          exact List.perm_append_singleton _ _
        exact g2.trans ((g1.append_right ys).trans hy))
    xs.length 1000000 [some (.l p), some (.d (.tuple xs)), some (.l xs), some (.l [])] (by omega) ⟨p, xs, [], rfl, by simp, rfl, hp⟩
  refine ⟨p', ys, ?_, hy, hp'⟩
  rw [run_step h26]
  simp [F26] at el ⊢
  simp [el]
end DL

namespace DL
open PySem PySem.Spec L2
open PyProof.Rows hiding St
/-- pieces_by -/
def F23 : Fn := ⟨2, [], 6, (.cons (.set 2 true (.lst .nil))
 (.cons (.for (.enL (.var 0)) (.t (.cons (.n 3) (.cons (.n 4) .nil))) (.cons (.set 5 false (.idx (.var 4) (.var 1)))
 (.cons (.ite (.and (.cmpL .NotEq 2 (.lst .nil)) (.cmp .Eq (.idx (.idxV 2 (.neg (.cst (.int 1)))) (.cst (.int 0))) (.var 5))) (.cons (.asg (.ix 2 (.neg (.cst (.int 1)))) (.tup (.cons (.var 5) (.cons (.idx (.idxV 2 (.neg (.cst (.int 1)))) (.cst (.int 1))) (.cons (.var 3) .nil)))))
 .nil) (.cons (.expr (.app 2 (.tup (.cons (.var 5) (.cons (.var 3) (.cons (.var 3) .nil))))))
 .nil))
 .nil)))
 (.cons (.ret (.tupV 2))
 .nil)))⟩
/-- pieces -/
def F24 : Fn := ⟨3, [], 3, (.cons (.expr (.call 22 (.d (.var 0) (.d (.var 1) .nil))))
 (.cons (.ite (.not (.call 1 (.d (.var 2) (.d (.cst (.int 0)) (.d (.bin .Sub (.idx (.var 0) (.cst (.int 0))) (.cst (.int 1))) .nil))))) (.cons .never
 .nil) .nil)
 (.cons (.ret (.call 23 (.d (.var 1) (.d (.var 2) .nil))))
 .nil)))⟩
/-- how_many_pieces -/
def F25 : Fn := ⟨2, [], 3, (.cons (.expr (.call 22 (.d (.var 0) (.d (.var 1) .nil))))
 (.cons (.ret (.blt .sum (.cons (.lc [2] (.rng (.idx (.var 0) (.cst (.int 0)))) (.n 2) .no (.blt .len (.cons (.call 23 (.d (.var 1) (.d (.var 2) .nil))) .nil))) .nil)))
 .nil))⟩
/-- _law_behind -/
def F30 : Fn := ⟨2, [], 8, (.cons (.set 2 true (.blt .list (.cons (.var 0) .nil)))
 (.cons (.for (.seq (.var 1)) (.t (.cons (.n 3) (.cons (.n 4) (.cons (.n 5) .nil)))) (.cons (.par2 6 7 false false (.idxV 2 (.var 4)) (.idxV 2 (.var 5)))
 (.cons (.asg (.ix 2 (.var 4)) (.bin .Add (.sli (.var 6) .no (.so (.var 3))) (.sli (.var 7) (.so (.var 3)) .no)))
 (.cons (.asg (.ix 2 (.var 5)) (.bin .Add (.sli (.var 7) .no (.so (.var 3))) (.sli (.var 6) (.so (.var 3)) .no)))
 .nil))))
 (.cons (.ret (.tupV 2))
 .nil)))⟩
/-- _law_does -/
def F31 : Fn := ⟨3, [], 7, (.cons (.set 3 false (.call 30 (.d (.lc [6] (.rng (.var 0)) (.n 6) .no (.bin .Mult (.tup (.cons (.var 6) .nil)) (.var 1))) (.d (.var 2) .nil))))
 (.cons (.ret (.blt .tuple (.cons (.lc [5] (.rng (.var 1)) (.n 5) .no (.blt .tuple (.cons (.lc [4] (.seq (.var 3)) (.n 4) .no (.idx (.var 4) (.var 5))) .nil))) .nil)))
 .nil))⟩
/-- _law_due -/
def F32 : Fn := ⟨2, [], 7, (.cons (.par3 2 3 4 false true false (.lc [6] (.seq (.var 0)) (.n 6) .no (.idx (.var 6) (.var 1))) (.lst .nil) (.cst (.int 0)))
 (.cons (.for (.rg2 (.cst (.int 1)) (.bin .Add (.blt .len (.cons (.var 2) .nil)) (.cst (.int 1)))) (.n 5) (.cons (.ite (.or (.cmp .Eq (.var 5) (.blt .len (.cons (.var 2) .nil))) (.cmp .NotEq (.idx (.var 2) (.var 5)) (.idx (.var 2) (.var 4)))) (.cons (.expr (.app 3 (.tup (.cons (.idx (.var 2) (.var 4)) (.cons (.var 4) (.cons (.bin .Sub (.var 5) (.cst (.int 1))) .nil))))))
 (.cons (.set 4 false (.var 5))
 .nil)) .nil)
 .nil))
 (.cons (.ret (.tupV 3))
 .nil)))⟩
variable {fs : Nat → Option Fn} {gl : Nat → Option D} {n : Nat}
theorem cut_take {α : Type} (xs : List α) (p : Nat) : cutD xs none (some (p : Int)) = xs.take p := by
  unfold cutD slD
  rw [HT.sIx_none, HT.sIx_nat, List.drop_zero, Nat.sub_zero]
  by_cases h : p ≤ xs.length
  · rw [Nat.min_eq_left h]
  · rw [Nat.min_eq_right (by omega), List.take_length, List.take_of_length_le (by omega)]
theorem cut_drop {α : Type} (xs : List α) (p : Nat) : cutD xs (some (p : Int)) none = xs.drop p := by
  unfold cutD slD
  rw [HT.sIx_none, HT.sIx_nat]
  by_cases h : p ≤ xs.length
  · rw [Nat.min_eq_left h, List.take_of_length_le (by rw [List.length_drop]; exact Nat.le_refl _)]
  · rw [Nat.min_eq_right (by omega), List.drop_length, List.drop_eq_nil_of_le (by omega), List.take_nil]
/-- the ribbons a and b exchange their tails from place p on -/
def cutR (R : List (List Int)) (p a b : Nat) : List (List Int) := (R.set a ((R.getD a []).take p ++ (R.getD b []).drop p)).set b ((R.getD b []).take p ++ (R.getD a []).drop p)
theorem behind_turn {R : List (List Int)} {p a b : Nat} (ha : a < R.length) (hb : b < R.length) (hl : ∀ o ∈ R, o.length ≤ 1000) {v0 v1 v3 v4 v5 v6 v7 : Option Sl} :
    turnF (gT (.t (.cons (.n 3) (.cons (.n 4) (.cons (.n 5) .nil))))) (evSs (run fs gl n) gl (F30.body.nth 1).inner) (cutT p a b) [v0, v1, some (.l (R.map orderD)), v3, v4, v5, v6, v7] =
      some ([v0, v1, some (.l ((cutR R p a b).map orderD)), some (.d (.int p)), some (.d (.int a)), some (.d (.int b)), some (.d (orderD (R.getD a []))), some (.d (orderD (R.getD b [])))], .nx) := by
  have ga : R.getD a [] = R[a] := by simp [List.getD, ha]
  have gb : R.getD b [] = R[b] := by simp [List.getD, hb]
  have aa : atD (R.map orderD) (a : Int) = some (orderD R[a]) := by simp [atD, ixD, ha]
  have ab : atD (R.map orderD) (b : Int) = some (orderD R[b]) := by simp [atD, ixD, hb]
  have la : R[a].length ≤ 1000 := hl _ (List.getElem_mem ha)
  have lb : R[b].length ≤ 1000 := hl _ (List.getElem_mem hb)
  have xa : ixD R.length (a : Int) = some a := by simp [ixD, ha]
  have xb : ixD R.length (b : Int) = some b := by simp [ixD, hb]
  have f1 : fit (min p R[a].length + (R[b].length - p)) = true := fit_of (by omega)
  have f2 : fit (min p R[b].length + (R[a].length - p)) = true := fit_of (by omega)
  unfold cutR
  rw [ga, gb]
  simp [F30, cutT, aa, ab, orderD, cut_take, cut_drop, xa, xb, f1, f2]
def atR (R : List (List Int)) (i j : Nat) : Int := (R.getD i []).getD j 0
def swN (a b i : Nat) : Nat := if i = a then b else if i = b then a else i
theorem mix_get (X Y : List Int) {p : Nat} (h : p ≤ X.length) (j : Nat) : (X.take p ++ Y.drop p).getD j 0 = if j < p then X.getD j 0 else Y.getD j 0 := by
  simp only [List.getD_eq_getElem?_getD]
  by_cases hj : j < p
  · rw [if_pos hj, List.getElem?_append_left (by rw [List.length_take]; omega), List.getElem?_take, if_pos hj]
  · rw [if_neg hj, List.getElem?_append_right (by rw [List.length_take]; omega), List.getElem?_drop, List.length_take]
    rw [show p + (j - min p X.length) = j by omega]
structure Rib (m l : Nat) (R : List (List Int)) : Prop where
  len : R.length = m
  lens : ∀ o ∈ R, o.length = l
  rng : ∀ i j, i < m → j < l → 0 ≤ atR R i j ∧ atR R i j < m
  inj : ∀ j, j < l → ∀ i k, i < m → k < m → atR R i j = atR R k j → i = k
theorem Rib.get {m l : Nat} {R : List (List Int)} (r : Rib m l R) {i : Nat} (h : i < m) : (R.getD i []).length = l := by
  have hi : i < R.length := by rw [r.len]; exact h
  have e : R.getD i [] = R[i] := by simp [List.getD, hi]
  rw [e]
  exact r.lens _ (List.getElem_mem hi)
theorem cutR_at {m l p a b : Nat} {R : List (List Int)} (r : Rib m l R) (hp : p ≤ l) (ha : a < m) (hb : b < m) (ab : a ≠ b) (i j : Nat) : atR (cutR R p a b) i j = if j < p then atR R i j else atR R (swN a b i) j := by
  have la := r.get ha
  have lb := r.get hb
  have hlen := r.len
  unfold atR cutR swN
  by_cases h1 : i = b
  · subst h1
    have e : ((R.set a ((R.getD a []).take p ++ (R.getD i []).drop p)).set i ((R.getD i []).take p ++ (R.getD a []).drop p)).getD i [] = (R.getD i []).take p ++ (R.getD a []).drop p := by
      rw [List.getD_eq_getElem?_getD, List.getElem?_set_self (by rw [List.length_set]; omega)]; rfl
    rw [e, mix_get _ _ (by omega), if_neg (Ne.symm ab), if_pos rfl]
  · by_cases h2 : i = a
    · subst h2
      have e : ((R.set i ((R.getD i []).take p ++ (R.getD b []).drop p)).set b ((R.getD b []).take p ++ (R.getD i []).drop p)).getD i [] = (R.getD i []).take p ++ (R.getD b []).drop p := by
        rw [List.getD_eq_getElem?_getD, List.getElem?_set_ne (Ne.symm ab), List.getElem?_set_self (by omega)]; rfl
      rw [e, mix_get _ _ (by omega), if_pos rfl]
    · have e : ((R.set a ((R.getD a []).take p ++ (R.getD b []).drop p)).set b ((R.getD b []).take p ++ (R.getD a []).drop p)).getD i [] = R.getD i [] := by
        rw [List.getD_eq_getElem?_getD, List.getElem?_set_ne (Ne.symm h1), List.getElem?_set_ne (Ne.symm h2), ← List.getD_eq_getElem?_getD]
      rw [e, if_neg h2, if_neg h1]
      split <;> rfl
theorem swN_lt {m a b i : Nat} (ha : a < m) (hb : b < m) (hi : i < m) : swN a b i < m := by
  unfold swN
  split
  · exact hb
  · split
    · exact ha
    · exact hi
theorem swN_inj {a b i k : Nat} (h : swN a b i = swN a b k) : i = k := by
  unfold swN at h
  split at h <;> split at h <;> (try split at h) <;> (try split at h) <;> omega
theorem Rib.cut {m l p a b : Nat} {R : List (List Int)} (r : Rib m l R) (hp : p ≤ l) (ha : a < m) (hb : b < m) (ab : a ≠ b) : Rib m l (cutR R p a b) := by
  have la := r.get ha
  have lb := r.get hb
  refine ⟨by unfold cutR; rw [List.length_set, List.length_set, r.len], fun o ho => ?_, fun i j hi hj => ?_, fun j hj i k hi hk e => ?_⟩
  · unfold cutR at ho
    rcases List.mem_or_eq_of_mem_set ho with h | h
    · rcases List.mem_or_eq_of_mem_set h with h | h
      · exact r.lens o h
      · rw [h, List.length_append, List.length_take, List.length_drop]; omega
    · rw [h, List.length_append, List.length_take, List.length_drop]; omega
  · rw [cutR_at r hp ha hb ab]
    split
    · exact r.rng i j hi hj
    · exact r.rng _ j (swN_lt ha hb hi) hj
  · rw [cutR_at r hp ha hb ab, cutR_at r hp ha hb ab] at e
    by_cases q : j < p
    · rw [if_pos q, if_pos q] at e
      exact r.inj j hj i k hi hk e
    · rw [if_neg q, if_neg q] at e
      exact swN_inj (r.inj j hj _ _ (swN_lt ha hb hi) (swN_lt ha hb hk) e)
def cutC (R : List (List Int)) (c : CT) : List (List Int) := cutR R c.1.toNat c.2.1.toNat c.2.2.toNat
theorem behind_ok (h30 : fs 30 = some F30) {m l : Nat} (hl : l ≤ 1000) {cs : List CT} (rc : Row m l cs) {R : List (List Int)} (r : Rib m l R) :
    ∃ R', run fs gl (n + 1) 30 [.d (.list (R.map orderD)), .d (rowD cs)] = some ([.d (.list (R.map orderD)), .d (rowD cs)], .d (.tuple (R'.map orderD))) ∧ R' = cs.foldl cutC R ∧ Rib m l R' := by
  obtain ⟨ρ', el, cs2, R', v3, v4, v5, v6, v7, e0, rfl, eR, rR⟩ := loopF_inv (tg := gT (.t (.cons (.n 3) (.cons (.n 4) (.cons (.n 5) .nil))))) (body := evSs (run fs gl n) gl (F30.body.nth 1).inner)
    (fun xs ρ => ∃ (cs2 : List CT) (R' : List (List Int)) (v3 v4 v5 v6 v7 : Option Sl), xs = cs2.map cutOf ∧ ρ = [some (.d (.list (R.map orderD))), some (.d (rowD cs)), some (.l (R'.map orderD)), v3, v4, v5, v6, v7] ∧ cs2.foldl cutC R' = cs.foldl cutC R ∧ Rib m l R' ∧ Row m l cs2)
    (fun d xs ρ ⟨cs2, R', v3, v4, v5, v6, v7, ex, eρ, eR, rR, rc2⟩ => by
      subst eρ
      cases cs2 with
      | nil => cases ex
      | cons c cs3 =>
        obtain ⟨q, a, b⟩ := c
        obtain ⟨h1, h2, h3, h4, h5⟩ := rc2 (q, a, b) List.mem_cons_self
        simp only at h1 h2 h3 h4 h5
        rw [List.map_cons] at ex
        cases ex
        have tq : ((q.toNat : Nat) : Int) = q := Int.toNat_of_nonneg h1
        have ta : ((a.toNat : Nat) : Int) = a := Int.toNat_of_nonneg h3
        have tb : ((b.toNat : Nat) : Int) = b := Int.toNat_of_nonneg (by omega)
        have e := behind_turn (fs := fs) (gl := gl) (n := n) (R := R') (p := q.toNat) (a := a.toNat) (b := b.toNat) (by rw [rR.len]; omega) (by rw [rR.len]; omega) (fun o ho => by rw [rR.lens o ho]; exact hl)
          (v0 := some (.d (.list (R.map orderD)))) (v1 := some (.d (rowD cs))) (v3 := v3) (v4 := v4) (v5 := v5) (v6 := v6) (v7 := v7)
        rw [tq, ta, tb] at e
        exact ⟨_, e, cs3, cutR R' q.toNat a.toNat b.toNat, _, _, _, _, _, rfl, rfl, eR, rR.cut (by omega) (by omega) (by omega) (by omega), fun c hc => rc2 c (List.mem_cons_of_mem _ hc)⟩)
    (cs.map cutOf) [some (.d (.list (R.map orderD))), some (.d (rowD cs)), some (.l (R.map orderD)), none, none, none, none, none]
    ⟨cs, R, _, _, _, _, _, rfl, rfl, rfl, r, rc⟩
  have : cs2 = [] := by cases cs2 with | nil => rfl | cons c q => cases e0
  subst this
  refine ⟨R', ?_, eR, rR.1⟩
  rw [run_step h30]
  simp [F30, rowD] at el ⊢
  simp [el]
def rib0 (m l : Nat) : List (List Int) := (List.range m).map fun (i : Nat) => List.replicate l (i : Int)
theorem rib0_ok (m l : Nat) : Rib m l (rib0 m l) := by
  have g : ∀ i j, i < m → j < l → atR (rib0 m l) i j = (i : Int) := fun i j hi hj => by
    unfold atR rib0
    simp only [List.getD_eq_getElem?_getD, List.getElem?_map, List.getElem?_range hi, Option.map_some, Option.getD_some, List.getElem?_replicate, if_pos hj]
  refine ⟨by simp [rib0], fun o ho => ?_, fun i j hi hj => ?_, fun j hj i k hi hk e => ?_⟩
  · obtain ⟨i, _, rfl⟩ := List.mem_map.mp ho
    simp
  · rw [g i j hi hj]; omega
  · rw [g i j hi hj, g k j hk hj] at e; omega
/-- the orders at each place -/
def effOf (l : Nat) (R : List (List Int)) : List (List Int) := (List.range l).map fun q => R.map fun o => o.getD q 0
theorem effOf_ok {m l : Nat} {R : List (List Int)} (r : Rib m l R) : Eff m l (effOf l R) := by
  refine ⟨by simp [effOf], fun o ho => ?_⟩
  obtain ⟨q, hq, rfl⟩ := List.mem_map.mp ho
  have hq := List.mem_range.mp hq
  have at_ : ∀ i, i < m → (R.map fun o => o.getD q 0)[i]? = some (atR R i q) := fun i hi => by
    have hi' : i < R.length := by rw [r.len]; exact hi
    rw [List.getElem?_map, List.getElem?_eq_getElem hi']
    unfold atR
    simp [List.getD, hi']
  refine ⟨by rw [List.length_map, r.len], fun x hx => ?_, ?_⟩
  · obtain ⟨i, hi, e⟩ := List.getElem_of_mem hx
    rw [List.length_map, r.len] at hi
    have := at_ i hi
    rw [List.getElem?_eq_getElem (by rw [List.length_map, r.len]; exact hi), e] at this
    cases this
    have := r.rng i q hi hq
    omega
  · rw [List.Nodup, List.pairwise_iff_getElem]
    intro i k hi hk ik e
    rw [List.length_map, r.len] at hi hk
    have a1 := at_ i hi
    have a2 := at_ k hk
    rw [List.getElem?_eq_getElem (by rw [List.length_map, r.len]; exact hi)] at a1
    rw [List.getElem?_eq_getElem (by rw [List.length_map, r.len]; exact hk)] at a2
    injection a1 with a1
    injection a2 with a2
    rw [a1, a2] at e
    have := r.inj q hq i k hi hk e
    omega
theorem mul_one_tup (d : D) {l : Nat} (h1 : (1 : Int) ≤ l) (h2 : (l : Int) ≤ 1000) : mulD (.tuple [d]) (.int l) = some (.d (.tuple (List.replicate l d))) := by
  have c : ([d] ≠ [] ∧ (1 : Int) ≤ l ∧ (l : Int) ≤ 1000 ∧ [d].length ≤ 1000) := ⟨by simp, h1, h2, by simp⟩
  show (if decide ([d] ≠ [] ∧ (1 : Int) ≤ l ∧ (l : Int) ≤ 1000 ∧ [d].length ≤ 1000) = true then some (Sl.d (.tuple (List.replicate (l : Int).toNat [d]).flatten)) else none) = _
  rw [if_pos (decide_eq_true c)]
  simp
end DL

namespace DL
open PySem PySem.Spec L2
open PyProof.Rows hiding St
variable {fs : Nat → Option Fn} {gl : Nat → Option D} {n : Nat}
/-- range of a whole number that is a cast (the other way the kernel would count down) -/
theorem rng1_nat {k : Nat} (h : k ≤ 1000000) : rng1 (.int k) = some (rngD 0 k) := by
  have g : ∀ z : Int, z = k → rng1 (.int z) = some (rngD 0 z.toNat) := fun z e => by
    have c : (-(2 ^ 62) ≤ z ∧ z < 2 ^ 62) := by constructor <;> omega
    show (if decide (-(2 ^ 62) ≤ z ∧ z < 2 ^ 62) = true then some (rngD 0 z.toNat) else none) = _
    rw [if_pos (decide_eq_true c)]
  exact g _ rfl
theorem does1 {m l : Nat} (f : Frm m l) (c : D) :
    loopC [6] (gT (.n 6)) gYes (gd (evX (run fs gl n) gl (.bin .Mult (.tup (.cons (.var 6) .nil)) (.var 1)))) (rngD 0 m) [some (.d (.int m)), some (.d (.int l)), some (.d c), none, none, none, none] [] =
      some ([some (.d (.int m)), some (.d (.int l)), some (.d c), none, none, none, none], (rib0 m l).map orderD) := by
  obtain ⟨m1, m2, l1, l2⟩ := f
  have k1 : loopC [6] (gT (.n 6)) gYes (gd (evX (run fs gl n) gl (.bin .Mult (.tup (.cons (.var 6) .nil)) (.var 1)))) (rngD 0 m) [some (.d (.int m)), some (.d (.int l)), some (.d c), none, none, none, none] [] =
      some (_, [] ++ (rngD 0 m).map fun d => .tuple (List.replicate l d)) := loopC_map (fun d => .tuple (List.replicate l d)) _ _ (by rw [rngD_length]; simp; omega) (fun d hd => by
    have z1 : (1 : Nat) ≤ sizeLine := by rw [sizeLine_eq]; decide
    have c1 : (1 : Int) ≤ l := by omega
    have c2 : (l : Int) ≤ 1000 := by omega
    simp [-mulD, mul_one_tup d c1 c2, z1])
  have e1 : ((rngD 0 m).map fun d => PyData.tuple (List.replicate l d)) = (rib0 m l).map orderD := by
    unfold rngD rib0
    rw [List.map_map, List.map_map]
    refine List.map_congr_left fun i _ => ?_
    simp [orderD]
  rw [e1] at k1
  exact k1
def tupAt (q : Nat) : D → D
  | .tuple xs => xs.getD q .none
  | _ => .none
theorem does2 {m l : Nat} {R : List (List Int)} (rR : Rib m l R) (hm : m ≤ 1000) {v0 v1 v2 v6 : Option Sl} {q : Nat} (hq : q < l) :
    loopC [4] (gT (.n 4)) gYes (gd (evX (run fs gl n) gl (.idx (.var 4) (.var 5)))) (R.map orderD) [v0, v1, v2, some (.d (.tuple (R.map orderD))), none, some (.d (.int q)), v6] [] =
      some ([v0, v1, v2, some (.d (.tuple (R.map orderD))), none, some (.d (.int q)), v6], (R.map fun o => PyData.int (o.getD q 0))) := by
  have := loopC_map (vs := [4]) (tg := gT (.n 4)) (cd := gYes) (el := gd (evX (run fs gl n) gl (.idx (.var 4) (.var 5)))) (ρ := [v0, v1, v2, some (.d (.tuple (R.map orderD))), none, some (.d (.int q)), v6])
      (tupAt q) (R.map orderD) [] (by rw [List.length_map, rR.len]; simp; omega) (fun d hd => by
        obtain ⟨o, ho, rfl⟩ := List.mem_map.mp hd
        have lo := rR.lens o ho
        have hq' : q < o.length := by omega
        simp [orderD, atD, ixD, hq', List.getD, tupAt])
  rw [this, List.nil_append, List.map_map]
  congr 2
  refine List.map_congr_left fun o ho => ?_
  have hq' : q < o.length := by rw [rR.lens o ho]; exact hq
  simp [orderD, List.getD, hq', tupAt]
def natOf : D → Nat
  | .int q => q.toNat
  | _ => 0
theorem does3 {m l : Nat} {R : List (List Int)} (rR : Rib m l R) (hm : m ≤ 1000) (hl : l ≤ 1000) {v0 v1 v2 v6 : Option Sl} :
    loopC [5] (gT (.n 5)) gYes (gd (evX (run fs gl n) gl (.blt .tuple (.cons (.lc [4] (.seq (.var 3)) (.n 4) .no (.idx (.var 4) (.var 5))) .nil)))) (rngD 0 l) [v0, v1, v2, some (.d (.tuple (R.map orderD))), none, none, v6] [] =
      some ([v0, v1, v2, some (.d (.tuple (R.map orderD))), none, none, v6], (effOf l R).map orderD) := by
  have k3 := loopC_map (vs := [5]) (tg := gT (.n 5)) (cd := gYes) (el := gd (evX (run fs gl n) gl (.blt .tuple (.cons (.lc [4] (.seq (.var 3)) (.n 4) .no (.idx (.var 4) (.var 5))) .nil)))) (ρ := [v0, v1, v2, some (.d (.tuple (R.map orderD))), none, none, v6])
    (fun d => .tuple (R.map fun o => .int (o.getD (natOf d) 0))) (rngD 0 l) [] (by rw [rngD_length]; simp; omega) (fun d hd => by
    obtain ⟨q, rfl, hq⟩ := mem_rng hd
    have := does2 (fs := fs) (gl := gl) (n := n) rR hm (v0 := v0) (v1 := v1) (v2 := v2) (v6 := v6) hq
    simp at this
    simp [this, natOf])
  rw [k3, List.nil_append]
  congr 2
  unfold rngD effOf
  rw [List.map_map, List.map_map]
  refine List.map_congr_left fun i _ => ?_
  simp [orderD, natOf]
/-! ### a def statement by statement -/
theorem evSs_nx {cl : Nat → List Sl → Option (List Sl × Sl)} {a : S} {r : Ss} {ρ ρ1 : Ev} (e : evS cl gl a ρ = some (ρ1, .nx)) : evSs cl gl (.cons a r) ρ = evSs cl gl r ρ1 := by
  simp [e]
theorem evSs_rt {cl : Nat → List Sl → Option (List Sl × Sl)} {a : S} {r : Ss} {ρ ρ1 : Ev} {s : Sl} (e : evS cl gl a ρ = some (ρ1, .rt s)) : evSs cl gl (.cons a r) ρ = some (ρ1, .rt s) := by
  simp [e]
theorem run_of {f : Nat} {F : Fn} {ss ss' : List Sl} {s : Sl} {ρ : Ev} (h : fs f = some F) (hl : ss.length = F.ps) (e : evSs (run fs gl n) gl F.body (ss.map some ++ List.replicate (F.ns - F.ps) none) = some (ρ, .rt s)) (hc : collect F.fx ρ 0 ss = some ss') :
    run fs gl (n + 1) f ss = some (ss', s) := by
  rw [run_step h]
  simp [runB, hl, e, hc]
theorem does_s1 (h30 : fs 30 = some F30) {m l : Nat} {zm zl : Int} (em : zm = m) (el : zl = l) (f : Frm zm zl) {cs : List CT} (rc : Row zm zl cs) :
    ∃ R', evS (run fs gl (n + 1)) gl (F31.body.nth 0) [some (.d (.int zm)), some (.d (.int zl)), some (.d (rowD cs)), none, none, none, none] = some ([some (.d (.int zm)), some (.d (.int zl)), some (.d (rowD cs)), some (.d (.tuple (R'.map orderD))), none, none, none], .nx) ∧ R' = cs.foldl cutC (rib0 m l) ∧ Rib m l R' := by
  have k1 := does1 (fs := fs) (gl := gl) (n := n + 1) (m := m) (l := l) (by rw [← em, ← el]; exact f) (rowD cs)
  rw [← em, ← el] at k1
  obtain ⟨m1, m2, l1, l2⟩ := f
  obtain ⟨R', e, eR, rR⟩ := behind_ok (n := n) (gl := gl) h30 (m := m) (l := l) (by omega) (by rw [← em, ← el]; exact rc) (rib0_ok m l)
  refine ⟨R', ?_, eR, rR⟩
  have r1 : rng1 (.int zm) = some (rngD 0 m) := by rw [em]; exact rng1_nat (by omega)
  clear em el
  generalize rowD cs = C at k1 e ⊢
  generalize (rib0 m l).map orderD = R0 at k1 e ⊢
  generalize R'.map orderD = R1 at e ⊢
  simp [F31, Ss.nth, -mulD, -rng1] at k1 e ⊢
  simp [k1, e, r1, -mulD, -rng1]
theorem does_s2 {m l : Nat} {zm zl : Int} (em : zm = m) (el : zl = l) (f : Frm zm zl) {R : List (List Int)} (rR : Rib m l R) {v0 v2 : Option Sl} :
    evS (run fs gl n) gl (F31.body.nth 1) [v0, some (.d (.int zl)), v2, some (.d (.tuple (R.map orderD))), none, none, none] = some ([v0, some (.d (.int zl)), v2, some (.d (.tuple (R.map orderD))), none, none, none], .rt (.d (effD (effOf l R)))) := by
  obtain ⟨m1, m2, l1, l2⟩ := f
  have k3 := does3 (fs := fs) (gl := gl) (n := n) rR (by omega) (by omega) (v0 := v0) (v1 := some (.d (.int zl))) (v2 := v2) (v6 := none)
  have r1 : rng1 (.int zl) = some (rngD 0 l) := by rw [el]; exact rng1_nat (by omega)
  unfold effD
  clear em el
  generalize (effOf l R).map orderD = E at k3 ⊢
  generalize R.map orderD = R1 at k3 ⊢
  simp [F31, Ss.nth, -rng1] at k3 ⊢
  simp [k3, r1, -rng1]
theorem does_ok (h30 : fs 30 = some F30) (h31 : fs 31 = some F31) {m l : Nat} {zm zl : Int} (em : zm = m) (el : zl = l) (f : Frm zm zl) {cs : List CT} (rc : Row zm zl cs) :
    ∃ R', run fs gl (n + 2) 31 [.d (.int zm), .d (.int zl), .d (rowD cs)] = some ([.d (.int zm), .d (.int zl), .d (rowD cs)], .d (effD (effOf l R'))) ∧ R' = cs.foldl cutC (rib0 m l) ∧ Rib m l R' := by
  obtain ⟨R', e1, eR, rR⟩ := does_s1 (n := n) (gl := gl) h30 em el f rc
  have e2 := does_s2 (fs := fs) (gl := gl) (n := n + 1) em el f rR (v0 := some (.d (.int zm))) (v2 := some (.d (rowD cs)))
  exact ⟨R', run_of h31 rfl ((evSs_nx e1).trans (evSs_rt e2)) rfl, eR, rR⟩
end DL

namespace DL
open PySem PySem.Spec L2
open PyProof.Rows hiding St
variable {fs : Nat → Option Fn} {gl : Nat → Option D} {n : Nat}
abbrev Tr := Int × Nat × Nat
def trD (t : Tr) : D := .tuple [.int t.1, .int t.2.1, .int t.2.2]
/-- the runs that are closed behind the places 0 to k, and the begin of the last one -/
def GP (x : Nat → Int) : Nat → List Tr × Nat
  | 0 => ([], 0)
  | k + 1 => if x (k + 1) = x (GP x k).2 then GP x k else ((GP x k).1 ++ [(x (GP x k).2, (GP x k).2, k)], k + 1)
def runs (x : Nat → Int) (k : Nat) : List Tr := (GP x k).1 ++ [(x (GP x k).2, (GP x k).2, k)]
theorem GP_len (x : Nat → Int) : ∀ k, (GP x k).1.length ≤ k
  | 0 => Nat.le_refl _
  | k + 1 => by
    have := GP_len x k
    unfold GP
    split
    · omega
    · simp; omega
theorem GP_le (x : Nat → Int) : ∀ k, (GP x k).2 ≤ k
  | 0 => Nat.le_refl _
  | k + 1 => by
    have := GP_le x k
    unfold GP
    split
    · omega
    · simp
def colX (es : List (List Int)) (r : Nat) (k : Nat) : Int := (es.getD k []).getD r 0
theorem dep_int (a b : Int) : dep2 (.int a) (.int b) = true := by simp [dep2, depth_int]
theorem at_last {pre : List D} {d : D} : atD (pre ++ [d]) (-1) = some d := by
  have ixm : ixD (pre.length + 1) (-1) = some pre.length := by
    unfold ixD
    rw [if_neg (by decide), if_pos (by omega)]
    congr 1
    omega
  unfold atD
  rw [List.length_append]
  show (ixD (pre.length + 1) (-1)).bind _ = _
  rw [ixm]
  simp
theorem ix_last (k : Nat) : ixD (k + 1) (-1) = some k := by
  unfold ixD
  rw [if_neg (by decide), if_pos (by omega)]
  congr 1
  omega
theorem pieces_turn0 {o : List D} {r k y : Int} (ov : atD o r = some (.int y)) {v0 v3 v4 v5 : Option Sl} :
    turnF (gT (.t (.cons (.n 3) (.cons (.n 4) .nil)))) (evSs (run fs gl n) gl (F23.body.nth 1).inner) (.tuple [.int k, .tuple o]) [v0, some (.d (.int r)), some (.l []), v3, v4, v5] =
      some ([v0, some (.d (.int r)), some (.l [.tuple [.int y, .int k, .int k]]), some (.d (.int k)), some (.d (.tuple o)), some (.d (.int y))], .nx) := by
  have z3 : (3 : Nat) ≤ sizeLine := by rw [sizeLine_eq]; decide
  simp [F23, ov, eqv_list_nil, dep_nil, z3]
theorem pieces_turn1 {o pre : List D} {r k y x b e : Int} (ov : atD o r = some (.int y)) (hf : pre.length ≤ 1000) {v0 v3 v4 v5 : Option Sl} :
    turnF (gT (.t (.cons (.n 3) (.cons (.n 4) .nil)))) (evSs (run fs gl n) gl (F23.body.nth 1).inner) (.tuple [.int k, .tuple o]) [v0, some (.d (.int r)), some (.l (pre ++ [.tuple [.int x, .int b, .int e]])), v3, v4, v5] =
      some ([v0, some (.d (.int r)), some (.l (if y = x then pre ++ [.tuple [.int x, .int b, .int k]] else pre ++ [.tuple [.int x, .int b, .int e]] ++ [.tuple [.int y, .int k, .int k]])), some (.d (.int k)), some (.d (.tuple o)), some (.d (.int y))], .nx) := by
  have z3 : (3 : Nat) ≤ sizeLine := by rw [sizeLine_eq]; decide
  have ne : ¬ (pre.length + 1 = 0) := by omega
  have a0 : ∀ a b c : D, atD [a, b, c] 0 = some a := fun _ _ _ => rfl
  have a1 : ∀ a b c : D, atD [a, b, c] 1 = some b := fun _ _ _ => rfl
  have hl : pre.length + 1 < 16777216 := by omega
  by_cases h : y = x
  · subst h
    simp [F23, ov, eqv_list_nil, dep_nil, at_last, ne, a0, a1, eqv_int, dep_int, ix_last, z3]
  · simp [F23, ov, eqv_list_nil, dep_nil, at_last, ne, a0, a1, eqv_int, dep_int, ix_last, h, Ne.symm h, z3, hl]
theorem colX_at {m l : Int} {E : List (List Int)} (e : Eff m l E) {r k : Nat} (hr : (r : Int) < m) (hk : k < E.length) : atD (E[k].map PyData.int) (r : Int) = some (.int (colX E r k)) := by
  have ho := e.all _ (List.getElem_mem hk)
  have hr' : r < E[k].length := by have := ho.len; omega
  have e1 : E.getD k [] = E[k] := by simp [List.getD, hk]
  have e2 : E[k].getD r 0 = E[k][r] := by simp [List.getD, hr']
  unfold colX
  rw [e1, e2]
  simp [atD, ixD, hr']
def foundD (x : Nat → Int) : Nat → List D
  | 0 => []
  | k + 1 => (runs x k).map trD
theorem foundD_step (x : Nat → Int) (k : Nat) : foundD x (k + 2) = if x (k + 1) = x (GP x k).2 then (GP x k).1.map trD ++ [.tuple [.int (x (GP x k).2), .int (GP x k).2, .int ((k + 1 : Nat) : Int)]]
    else (GP x k).1.map trD ++ [.tuple [.int (x (GP x k).2), .int (GP x k).2, .int k]] ++ [.tuple [.int (x (k + 1)), .int ((k + 1 : Nat) : Int), .int ((k + 1 : Nat) : Int)]] := by
  show (runs x (k + 1)).map trD = _
  unfold runs
  by_cases h : x (k + 1) = x (GP x k).2
  · have e : GP x (k + 1) = GP x k := by rw [GP, if_pos h]
    rw [if_pos h, e]
    simp [trD]
  · have e : GP x (k + 1) = ((GP x k).1 ++ [(x (GP x k).2, (GP x k).2, k)], k + 1) := by rw [GP, if_neg h]
    rw [if_neg h, e]
    simp [trD]
theorem pieces_by_ok (h23 : fs 23 = some F23) {m l : Int} {E : List (List Int)} (e : Eff m l E) (hl : l ≤ 1000) {r : Nat} (hr : (r : Int) < m) :
    run fs gl (n + 1) 23 [.d (effD E), .d (.int r)] = some ([.d (effD E), .d (.int r)], .d (.tuple (foundD (colX E r) E.length))) := by
  have len := e.len
  obtain ⟨ρ', el, k, v3, v4, v5, ex, hk, rfl⟩ := loopF_inv (tg := gT (.t (.cons (.n 3) (.cons (.n 4) .nil)))) (body := evSs (run fs gl n) gl (F23.body.nth 1).inner)
    (fun xs ρ => ∃ k v3 v4 v5, xs = enumD k ((E.drop k).map orderD) ∧ k ≤ E.length ∧ ρ = [some (.d (effD E)), some (.d (.int r)), some (.l (foundD (colX E r) k)), v3, v4, v5])
    (fun d xs ρ ⟨k, v3, v4, v5, ex, hk, eρ⟩ => by
      subst eρ
      have hk' : k < E.length := by
        apply Nat.lt_of_le_of_ne hk
        intro z
        rw [z, List.drop_length] at ex
        cases ex
      rw [List.drop_eq_getElem_cons hk'] at ex
      rw [List.map_cons] at ex
      injection ex with e1 e2
      subst e1 e2
      have ov := colX_at e hr hk'
      cases k with
      | zero =>
        have t := pieces_turn0 (fs := fs) (gl := gl) (n := n) (k := ((0 : Nat) : Int)) ov (v0 := some (.d (effD E))) (v3 := v3) (v4 := v4) (v5 := v5)
        exact ⟨_, t, 1, _, _, _, rfl, hk', rfl⟩
      | succ k =>
        have := GP_len (colX E r) k
        have t := pieces_turn1 (fs := fs) (gl := gl) (n := n) (k := ((k + 1 : Nat) : Int)) (x := colX E r (GP (colX E r) k).2) (b := (GP (colX E r) k).2) (e := (k : Nat)) (pre := (GP (colX E r) k).1.map trD) ov (by rw [List.length_map]; omega) (v0 := some (.d (effD E))) (v3 := v3) (v4 := v4) (v5 := v5)
        rw [← foundD_step] at t
        have e3 : foundD (colX E r) (k + 1) = (GP (colX E r) k).1.map trD ++ [.tuple [.int (colX E r (GP (colX E r) k).2), .int (GP (colX E r) k).2, .int k]] := by
          show (runs (colX E r) k).map trD = _
          simp [runs, trD]
        rw [← e3] at t
        exact ⟨_, t, k + 2, _, _, _, rfl, hk', rfl⟩)
    (enumD 0 (E.map orderD)) [some (.d (effD E)), some (.d (.int r)), some (.l []), none, none, none]
    ⟨0, _, _, _, rfl, Nat.zero_le _, rfl⟩
  have hk2 : k = E.length := by
    apply Nat.le_antisymm hk
    apply Nat.le_of_not_lt
    intro z
    rw [List.drop_eq_getElem_cons z] at ex
    cases ex
  subst hk2
  rw [run_step h23]
  generalize foundD (colX E r) E.length = G at el ⊢
  unfold effD at el ⊢
  generalize E.map orderD = ED at el ⊢
  simp [F23, ltD2] at el ⊢
  simp [el]
end DL

namespace DL
open PySem PySem.Spec L2
open PyProof.Rows hiding St
variable {fs : Nat → Option Fn} {gl : Nat → Option D} {n : Nat}
/-! ### pieces, how many -/
theorem pieces_ok (h : HasEff fs gl) (h23 : fs 23 = some F23) (h24 : fs 24 = some F24) {m l : Int} (f : Frm m l) {E : List (List Int)} (e : Eff m l E) {r : Int} (hr0 : 0 ≤ r) (hr : r < m) :
    run fs gl (n + 6) 24 [.d (frameD m l), .d (effD E), .d (.int r)] = some ([.d (frameD m l), .d (effD E), .d (.int r)], .d (.tuple (foundD (colX E r.toNat) E.length))) := by
  have l2 := f.l2
  have k1 := need_effect_ok (n := n) h f e
  have k2 := among_int (n := n + 3) (gl := gl) h.h0 h.h1 r 0 (m - 1)
  have k3 := pieces_by_ok (n := n + 4) (gl := gl) h23 e (by omega) (r := r.toNat) (by omega)
  rw [Int.toNat_of_nonneg hr0] at k3
  have c : (0 ≤ r ∧ r ≤ m - 1) := by omega
  rw [run_step h24]
  generalize foundD (colX E r.toNat) E.length = G at k3 ⊢
  generalize effD E = ED at k1 k3 ⊢
  unfold frameD at k1 ⊢
  simp [F24, atD, ixD, c] at k1 k2 k3 ⊢
  simp [k1, k2, k3, c, atD, ixD]
theorem ints_map {α : Type} (xs : List α) (f : α → Int) : intsOf (xs.map fun a => PyData.int (f a)) = some (xs.map f) := by
  have := ints_of (xs.map f)
  rw [List.map_map] at this
  exact this
theorem how_many_ok (h : HasEff fs gl) (h23 : fs 23 = some F23) (h25 : fs 25 = some F25) {m l : Int} (f : Frm m l) {E : List (List Int)} (e : Eff m l E) :
    run fs gl (n + 6) 25 [.d (frameD m l), .d (effD E)] = some ([.d (frameD m l), .d (effD E)], .d (.int (((List.range m.toNat).map fun r => ((foundD (colX E r) E.length).length : Int)).sum))) := by
  have l2 := f.l2
  have m1 := f.m1
  have m2 := f.m2
  have k1 := need_effect_ok (n := n) h f e
  have k3 := loopC_map (vs := [2]) (tg := gT (.n 2)) (cd := gYes) (el := gd (evX (run fs gl (n + 5)) gl (.blt .len (.cons (.call 23 (.d (.var 1) (.d (.var 2) .nil))) .nil)))) (ρ := [some (.d (frameD m l)), some (.d (effD E)), none])
    (fun d => .int ((foundD (colX E (natOf d)) E.length).length : Int)) (rngD 0 m.toNat) [] (by rw [rngD_length]; simp; omega) (fun d hd => by
      obtain ⟨q, rfl, hq⟩ := mem_rng hd
      have k2 := pieces_by_ok (n := n + 4) (gl := gl) h23 e (by omega) (r := q) (by omega)
      show turnC _ _ _ _ (.int (q : Int)) _ = some (_, some (.int ((foundD (colX E q) E.length).length : Int)))
      generalize foundD (colX E q) E.length = G at k2 ⊢
      generalize effD E = ED at k2 ⊢
      generalize frameD m l = FD
      simp at k2 ⊢
      simp [k2])
  have e3 : ((rngD 0 m.toNat).map fun d => PyData.int ((foundD (colX E (natOf d)) E.length).length : Int)) = (List.range m.toNat).map fun r => PyData.int ((foundD (colX E r) E.length).length : Int) := by
    unfold rngD
    rw [List.map_map]
    refine List.map_congr_left fun i _ => ?_
    simp [natOf]
  rw [e3, List.nil_append] at k3
  have k4 := ints_map (List.range m.toNat) fun r => ((foundD (colX E r) E.length).length : Int)
  have b1 : m < 4611686018427387904 := by omega
  have b2 : -4611686018427387904 ≤ m := by omega
  rw [run_step h25]
  generalize ((List.range m.toNat).map fun r => PyData.int ((foundD (colX E r) E.length).length : Int)) = G at k3 k4 ⊢
  generalize ((List.range m.toNat).map fun r => ((foundD (colX E r) E.length).length : Int)) = G2 at k4 ⊢
  generalize effD E = ED at k1 k3 ⊢
  unfold frameD at k1 k3 ⊢
  simp [F25, atD, ixD] at k1 k3 ⊢
  simp [k1, k3, k4, b1, b2, atD, ixD]
end DL

namespace DL
open PySem PySem.Spec L2
open PyProof.Rows hiding St
variable {fs : Nat → Option Fn} {gl : Nat → Option D} {n : Nat}
section
variable {cl : Nat → List Sl → Option (List Sl × Sl)} {s : Src} {t : T} {b : Ss} {ρ ρ1 ρ2 ρ3 : Ev} {xs : List D}
theorem for_eq (e : evI cl gl s ρ = some (ρ1, xs)) (el : loopF (gT t) (evSs cl gl b) xs ρ1 = some (ρ2, .nx)) : evS cl gl (.for s t b) ρ = some (ρ2, .nx) := by
  simp [e, el]
theorem rng_eq {a : E} {d : D} (e : gd (evX cl gl a) ρ = some (ρ1, d)) (er : rng1 d = some xs) : evI cl gl (.rng a) ρ = some (ρ1, xs) := by
  show (gd (evX cl gl a) ρ).bind _ = _
  rw [e, Option.bind_some, er]
  rfl
theorem rg2_eq {a b : E} {d f : D} (e : gd (evX cl gl a) ρ = some (ρ1, d)) (e2 : gd (evX cl gl b) ρ1 = some (ρ2, f)) (er : rng2 d f = some xs) : evI cl gl (.rg2 a b) ρ = some (ρ2, xs) := by
  show (gd (evX cl gl a) ρ).bind _ = _
  rw [e, Option.bind_some]
  show (gd (evX cl gl b) ρ1).bind _ = _
  rw [e2, Option.bind_some, er]
  rfl
theorem lc_eq {vs : List Nat} {c : Oe} {el : E} {out : List D} (e : evI cl gl s ρ = some (ρ1, xs)) (l : loopC vs (gT t) (evC cl gl c) (gd (evX cl gl el)) xs (wipeE ρ1 vs) [] = some (ρ2, out)) : evX cl gl (.lc vs s t c el) ρ = some (wipeE ρ2 vs, .l out) := by
  show (evI cl gl s ρ).bind _ = _
  rw [e, Option.bind_some]
  show (loopC vs (gT t) (evC cl gl c) (gd (evX cl gl el)) xs (wipeE ρ1 vs) []).map _ = _
  rw [l]
  rfl
theorem rng2_of {a b : Int} (ha : -1000000 ≤ a) (ha2 : a ≤ 1000000) (hb : -1000000 ≤ b) (hb2 : b ≤ 1000000) : rng2 (.int a) (.int b) = some (rngD a (b - a).toNat) := by
  have c : (-(2 ^ 62) ≤ a ∧ a < 2 ^ 62 ∧ -(2 ^ 62) ≤ b ∧ b < 2 ^ 62) := by refine ⟨?_, ?_, ?_, ?_⟩ <;> omega
  show (if decide (-(2 ^ 62) ≤ a ∧ a < 2 ^ 62 ∧ -(2 ^ 62) ≤ b ∧ b < 2 ^ 62) = true then some (rngD a (b - a).toNat) else none) = _
  rw [if_pos (decide_eq_true c)]
theorem rng1_of {b : Int} (hb : -1000000 ≤ b) (hb2 : b ≤ 1000000) : rng1 (.int b) = some (rngD 0 b.toNat) := by
  have c : (-(2 ^ 62) ≤ b ∧ b < 2 ^ 62) := by refine ⟨?_, ?_⟩ <;> omega
  show (if decide (-(2 ^ 62) ≤ b ∧ b < 2 ^ 62) = true then some (rngD 0 b.toNat) else none) = _
  rw [if_pos (decide_eq_true c)]
end
theorem due_turn1 {own fd : List D} {zl k b x : Int} (hlen : lenD [.list own] = some (.d (.int zl))) (hk : k = zl) (hb : atD own b = some (.int x)) (hf : fd.length ≤ 1000) {v0 v1 v5 v6 : Option Sl} :
    turnF (gT (.n 5)) (evSs (run fs gl n) gl (F32.body.nth 1).inner) (.int k) [v0, v1, some (.d (.list own)), some (.l fd), some (.d (.int b)), v5, v6] =
      some ([v0, v1, some (.d (.list own)), some (.l (fd ++ [.tuple [.int x, .int b, .int (k - 1)]])), some (.d (.int k)), some (.d (.int k)), v6], .nx) := by
  have z3 : (3 : Nat) ≤ sizeLine := by rw [sizeLine_eq]; decide
  have hl : fd.length < 16777216 := by omega
  subst hk
  simp [F32, hlen, eqv_int, dep_int, hb, hl, z3, -lenD]
theorem due_turn2 {own fd : List D} {zl k b x y : Int} (hlen : lenD [.list own] = some (.d (.int zl))) (hk : k ≠ zl) (hb : atD own b = some (.int x)) (hy : atD own k = some (.int y)) (hf : fd.length ≤ 1000) {v0 v1 v5 v6 : Option Sl} :
    turnF (gT (.n 5)) (evSs (run fs gl n) gl (F32.body.nth 1).inner) (.int k) [v0, v1, some (.d (.list own)), some (.l fd), some (.d (.int b)), v5, v6] =
      some ([v0, v1, some (.d (.list own)), some (.l (if y = x then fd else fd ++ [.tuple [.int x, .int b, .int (k - 1)]])), some (.d (.int (if y = x then b else k))), some (.d (.int k)), v6], .nx) := by
  have z3 : (3 : Nat) ≤ sizeLine := by rw [sizeLine_eq]; decide
  have hl : fd.length < 16777216 := by omega
  by_cases h : y = x
  · simp [F32, hlen, eqv_int, dep_int, hb, hy, hl, z3, -lenD, hk, h]
  · simp [F32, hlen, eqv_int, dep_int, hb, hy, hl, z3, -lenD, hk, h]
theorem due_s1 {m l : Int} {E : List (List Int)} (e : Eff m l E) (hl : l ≤ 1000) {r : Nat} (hr : (r : Int) < m) :
    evS (run fs gl n) gl (F32.body.nth 0) [some (.d (effD E)), some (.d (.int r)), none, none, none, none, none] = some ([some (.d (effD E)), some (.d (.int r)), some (.d (.list (E.map fun o => .int (o.getD r 0)))), some (.l []), some (.d (.int 0)), none, none], .nx) := by
  have len := e.len
  have k := loopC_map (vs := [6]) (tg := gT (.n 6)) (cd := gYes) (el := gd (evX (run fs gl n) gl (.idx (.var 6) (.var 1)))) (ρ := [some (.d (effD E)), some (.d (.int r)), none, none, none, none, none])
    (tupAt r) (E.map orderD) [] (by rw [List.length_map]; simp; omega) (fun d hd => by
      obtain ⟨o, ho, rfl⟩ := List.mem_map.mp hd
      have lo := (e.all o ho).len
      have hq : r < o.length := by omega
      simp [orderD, atD, ixD, hq, List.getD, tupAt])
  have e2 : (E.map orderD).map (tupAt r) = E.map fun o => PyData.int (o.getD r 0) := by
    rw [List.map_map]
    refine List.map_congr_left fun o ho => ?_
    have lo := (e.all o ho).len
    have hq : r < o.length := by omega
    simp [orderD, List.getD, hq, tupAt]
  rw [e2, List.nil_append] at k
  generalize (E.map fun o => PyData.int (o.getD r 0)) = OWN at k ⊢
  unfold effD at k ⊢
  generalize E.map orderD = ED at k ⊢
  simp [F32, Ss.nth] at k ⊢
  simp [k]
theorem due_s2 {own RNG : List D} {zl : Int} {ρ' : Ev} {v0 v1 v3 v4 v5 v6 : Option Sl} (hlen : ((own.length : Nat) : Int) = zl) (hr : rng2 (.int 1) (.int (zl + 1)) = some RNG)
    (el : loopF (gT (.n 5)) (evSs (run fs gl n) gl (F32.body.nth 1).inner) RNG [v0, v1, some (.d (.list own)), v3, v4, v5, v6] = some (ρ', .nx)) :
    evS (run fs gl n) gl (F32.body.nth 1) [v0, v1, some (.d (.list own)), v3, v4, v5, v6] = some (ρ', .nx) :=
  for_eq (rg2_eq (a := .cst (.int 1)) (b := .bin .Add (.blt .len (.cons (.var 2) .nil)) (.cst (.int 1))) (ρ1 := [v0, v1, some (.d (.list own)), v3, v4, v5, v6]) (d := .int 1) (by simp) (show _ = some ([v0, v1, some (.d (.list own)), v3, v4, v5, v6], PyData.int (zl + 1)) by simp [hlen]) hr) el
theorem rngD_drop {lo : Int} {k n : Nat} (h : k < n) : (rngD lo n).drop k = .int (lo + k) :: (rngD lo n).drop (k + 1) := by
  rw [List.drop_eq_getElem_cons (by rw [rngD_length]; exact h)]
  simp [rngD]
theorem due_ok (h32 : fs 32 = some F32) {m l : Int} {E : List (List Int)} (e : Eff m l E) (hl : l ≤ 1000) (hl1 : 1 ≤ l) {r : Nat} (hr : (r : Int) < m) :
    run fs gl (n + 1) 32 [.d (effD E), .d (.int r)] = some ([.d (effD E), .d (.int r)], .d (.tuple (foundD (colX E r) E.length))) := by
  have len := e.len
  have s1 := due_s1 (fs := fs) (gl := gl) (n := n) e hl hr
  have at_ : ∀ k : Nat, k < E.length → atD (E.map fun o => PyData.int (o.getD r 0)) (k : Int) = some (.int (colX E r k)) := fun k hk => by
    simp [atD, ixD, hk, colX, List.getD]
  have hlen : lenD [.list (E.map fun o => .int (o.getD r 0))] = some (.d (.int E.length)) := by simp
  have loop := loopF_inv (tg := gT (.n 5)) (body := evSs (run fs gl n) gl (F32.body.nth 1).inner)
    (fun xs ρ => ∃ k v5, xs = (rngD 1 E.length).drop k ∧ ((k < E.length ∧ ρ = [some (.d (effD E)), some (.d (.int r)), some (.d (.list (E.map fun o => .int (o.getD r 0)))), some (.l ((GP (colX E r) k).1.map trD)), some (.d (.int (GP (colX E r) k).2)), v5, none]) ∨
      (k = E.length ∧ ∃ v4, ρ = [some (.d (effD E)), some (.d (.int r)), some (.d (.list (E.map fun o => .int (o.getD r 0)))), some (.l ((runs (colX E r) (k - 1)).map trD)), v4, v5, none])))
    (fun d xs ρ ⟨k, v5, ex, h⟩ => by
      rcases h with ⟨hk, eρ⟩ | ⟨hk, v4, eρ⟩
      · subst eρ
        rw [rngD_drop hk] at ex
        injection ex with e1 e2
        subst e1 e2
        have g1 := GP_len (colX E r) k
        have g2 := GP_le (colX E r) k
        have hb := at_ (GP (colX E r) k).2 (by omega)
        have e4 : (1 : Int) + (k : Int) - 1 = k := by omega
        by_cases hz : k + 1 = E.length
        · have t := due_turn1 (fs := fs) (gl := gl) (n := n) (k := 1 + (k : Int)) (fd := (GP (colX E r) k).1.map trD) hlen (by omega) hb (by rw [List.length_map]; omega) (v0 := some (.d (effD E))) (v1 := some (.d (.int r))) (v5 := v5) (v6 := none)
          rw [e4] at t
          have e3 : (GP (colX E r) k).1.map trD ++ [.tuple [.int (colX E r (GP (colX E r) k).2), .int (GP (colX E r) k).2, .int k]] = (runs (colX E r) (k + 1 - 1)).map trD := by simp [runs, trD]
          rw [e3] at t
          exact ⟨_, t, k + 1, _, rfl, .inr ⟨hz, _, rfl⟩⟩
        · have hk2 : k + 1 < E.length := by omega
          have hy := at_ (k + 1) hk2
          rw [show (((k + 1 : Nat) : Int)) = 1 + (k : Int) by omega] at hy
          have t := due_turn2 (fs := fs) (gl := gl) (n := n) (k := 1 + (k : Int)) (fd := (GP (colX E r) k).1.map trD) hlen (by omega) hb hy (by rw [List.length_map]; omega) (v0 := some (.d (effD E))) (v1 := some (.d (.int r))) (v5 := v5) (v6 := none)
          rw [e4] at t
          have e5 : (if colX E r (k + 1) = colX E r (GP (colX E r) k).2 then (GP (colX E r) k).1.map trD else (GP (colX E r) k).1.map trD ++ [.tuple [.int (colX E r (GP (colX E r) k).2), .int (GP (colX E r) k).2, .int k]]) = (GP (colX E r) (k + 1)).1.map trD := by
            conv => rhs; rw [GP]
            split <;> simp [trD]
          have e6 : (if colX E r (k + 1) = colX E r (GP (colX E r) k).2 then ((GP (colX E r) k).2 : Int) else 1 + (k : Int)) = ((GP (colX E r) (k + 1)).2 : Int) := by
            conv => rhs; rw [GP]
            split
            · rfl
            · show 1 + (k : Int) = ((k + 1 : Nat) : Int)
              omega
          rw [e5, e6] at t
          exact ⟨_, t, k + 1, _, rfl, .inl ⟨hk2, rfl⟩⟩
      · subst hk
        rw [List.drop_eq_nil_of_le (by rw [rngD_length]; exact Nat.le_refl _)] at ex
        cases ex)
    (rngD 1 E.length) [some (.d (effD E)), some (.d (.int r)), some (.d (.list (E.map fun o => .int (o.getD r 0)))), some (.l []), some (.d (.int 0)), none, none]
    ⟨0, _, rfl, .inl ⟨by omega, rfl⟩⟩
  obtain ⟨ρ', el, k, v5, ex, h⟩ := loop
  rcases h with ⟨hk, eρ⟩ | ⟨hk, v4, eρ⟩
  · rw [rngD_drop hk] at ex
    cases ex
  · subst hk eρ
    have hrg := rng2_of (a := 1) (b := (E.length : Int) + 1) (by decide) (by decide) (by omega) (by omega)
    rw [show ((E.length : Int) + 1 - 1).toNat = E.length by omega] at hrg
    have s2 := due_s2 (zl := (E.length : Int)) (by rw [List.length_map]) hrg el
    have e7 : foundD (colX E r) E.length = (runs (colX E r) (E.length - 1)).map trD := by
      have : E.length = (E.length - 1) + 1 := by omega
      conv => lhs; rw [this]
      rfl
    rw [e7]
    have s3 : evS (run fs gl n) gl (F32.body.nth 2) [some (.d (effD E)), some (.d (.int r)), some (.d (.list (E.map fun o => .int (o.getD r 0)))), some (.l ((runs (colX E r) (E.length - 1)).map trD)), v4, v5, none] =
        some ([some (.d (effD E)), some (.d (.int r)), some (.d (.list (E.map fun o => .int (o.getD r 0)))), some (.l ((runs (colX E r) (E.length - 1)).map trD)), v4, v5, none], .rt (.d (.tuple ((runs (colX E r) (E.length - 1)).map trD)))) := by
      simp [F32, Ss.nth]
    exact run_of h32 rfl ((evSs_nx s1).trans ((evSs_nx s2).trans (evSs_rt s3))) rfl
end DL

namespace DL
open PySem PySem.Spec L2
open PyProof.Rows hiding St
variable {fs : Nat → Option Fn} {gl : Nat → Option D} {n : Nat}
/-- no_cut -/
def F34 : Fn := ⟨1, [], 3, (.cons (.unp (.t (.cons (.n 1) (.cons (.n 2) .nil))) (.var 0))
 (.cons (.ret (.bin .Mult (.tup (.cons (.tRg (.rng (.var 1))) .nil)) (.var 2)))
 .nil))⟩
/-- with_two -/
def F35 : Fn := ⟨3, [], 4, (.cons (.set 3 true (.blt .list (.cons (.var 0) .nil)))
 (.cons (.asg (.t 2 (.cons (.ix 3 (.var 1)) (.cons (.ix 3 (.var 2)) .nil))) (.tup (.cons (.idx (.var 0) (.var 2)) (.cons (.idx (.var 0) (.var 1)) .nil))))
 (.cons (.ret (.tupV 3))
 .nil)))⟩
/-- effect_by -/
def F143 : Fn := ⟨2, [], 7, (.cons (.set 2 true (.blt .list (.cons (.call 34 (.d (.var 0) .nil)) .nil)))
 (.cons (.for (.seq (.var 1)) (.t (.cons (.n 3) (.cons (.n 4) (.cons (.n 5) .nil)))) (.cons (.asg (.fr 2 (.var 3)) (.lc [6] (.seq (.sliV 2 (.so (.var 3)) .no)) (.n 6) .no (.call 35 (.d (.var 6) (.d (.var 4) (.d (.var 5) .nil))))))
 .nil))
 (.cons (.ret (.tupV 2))
 .nil)))⟩
/-- does -/
def F144 : Fn := ⟨2, [], 2, (.cons (.expr (.call 7 (.d (.var 0) (.d (.var 1) .nil))))
 (.cons (.ret (.call 143 (.d (.var 0) (.d (.var 1) .nil))))
 .nil))⟩
/-! ### orders and effects of rows -/
theorem small_of' {i : Int} (h1 : -1000000 ≤ i) (h2 : i ≤ 1000000) : smallI i = true := by
  unfold smallI
  refine decide_eq_true ?_
  constructor <;> omega
def iota (m : Nat) : List Int := (List.range m).map fun (i : Nat) => (i : Int)
theorem rgD_iota (m : Int) : PyData.tuple (rgD 0 m) = orderD (iota m.toNat) := by
  unfold rgD orderD iota
  rw [List.map_map]
  simp
theorem iota_ord {m : Int} (hm : 0 ≤ m) : Ord m (iota m.toNat) := by
  refine ⟨by unfold iota; rw [List.length_map, List.length_range]; omega, fun x hx => ?_, ?_⟩
  · obtain ⟨i, hi, rfl⟩ := List.mem_map.mp hx
    have := List.mem_range.mp hi
    omega
  · unfold iota
    refine List.Pairwise.map _ (R := fun a b => a ≠ b) (fun a b hab => ?_) List.nodup_range
    omega
def with2 (o : List Int) (a b : Nat) : List Int := (o.set a (o.getD b 0)).set b (o.getD a 0)
theorem with2_len (o : List Int) (a b : Nat) : (with2 o a b).length = o.length := by unfold with2; rw [List.length_set, List.length_set]
theorem with2_at {o : List Int} {a b : Nat} (ha : a < o.length) (hb : b < o.length) (ab : a ≠ b) (i : Nat) : (with2 o a b).getD i 0 = o.getD (swN a b i) 0 := by
  unfold with2 swN
  simp only [List.getD_eq_getElem?_getD]
  by_cases h1 : i = b
  · subst h1
    rw [List.getElem?_set_self (by rw [List.length_set]; exact hb), if_neg (Ne.symm ab), if_pos rfl]
    rfl
  · rw [List.getElem?_set_ne (Ne.symm h1)]
    by_cases h2 : i = a
    · subst h2
      rw [List.getElem?_set_self ha, if_pos rfl]
      rfl
    · rw [List.getElem?_set_ne (Ne.symm h2), if_neg h2, if_neg h1]
theorem no_cut_ok (h34 : fs 34 = some F34) {m l : Int} (f : Frm m l) : run fs gl (n + 1) 34 [.d (frameD m l)] = some ([.d (frameD m l)], .d (effD (List.replicate l.toNat (iota m.toNat)))) := by
  obtain ⟨m1, m2, l1, l2⟩ := f
  have sm : smallI m = true := small_of' (by omega) (by omega)
  have sm0 : smallI 0 = true := small_of' (by decide) (by decide)
  have z1 : (1 : Nat) ≤ sizeLine := by rw [sizeLine_eq]; decide
  have k := mul_one_tup (orderD (iota m.toNat)) (l := l.toNat) (by omega) (by omega)
  rw [Int.toNat_of_nonneg (by omega)] at k
  have e : effD (List.replicate l.toNat (iota m.toNat)) = .tuple (List.replicate l.toNat (orderD (iota m.toNat))) := by unfold effD; rw [List.map_replicate]
  rw [e]
  rw [run_step h34]
  generalize hh : orderD (iota m.toNat) = O at k ⊢
  have e2 := rgD_iota m
  rw [hh] at e2
  unfold frameD
  simp [F34, sm, sm0, z1, e2, k, -mulD]
theorem with_two_ok (h35 : fs 35 = some F35) {o : List Int} {a b : Int} (ha : 0 ≤ a) (hb : 0 ≤ b) (ha2 : a < o.length) (hb2 : b < o.length) :
    run fs gl (n + 1) 35 [.d (orderD o), .d (.int a), .d (.int b)] = some ([.d (orderD o), .d (.int a), .d (.int b)], .d (orderD (with2 o a.toNat b.toNat))) := by
  have xa : ixD o.length a = some a.toNat := by unfold ixD; rw [if_pos ha, if_pos ha2]
  have xb : ixD o.length b = some b.toNat := by unfold ixD; rw [if_pos hb, if_pos hb2]
  have pa : a.toNat < o.length := by omega
  have pb : b.toNat < o.length := by omega
  have aa : atD (o.map PyData.int) a = some (.int (o.getD a.toNat 0)) := by
    unfold atD
    rw [List.length_map, xa]
    simp [List.getD, pa]
  have ab : atD (o.map PyData.int) b = some (.int (o.getD b.toNat 0)) := by
    unfold atD
    rw [List.length_map, xb]
    simp [List.getD, pb]
  have e : orderD (with2 o a.toNat b.toNat) = .tuple (((o.map PyData.int).set a.toNat (.int (o.getD b.toNat 0))).set b.toNat (.int (o.getD a.toNat 0))) := by
    unfold orderD with2
    rw [List.map_set, List.map_set]
  have z2 : (2 : Nat) ≤ sizeLine := by rw [sizeLine_eq]; decide
  rw [e, run_step h35]
  unfold orderD
  have hl : (o.map PyData.int).length = o.length := List.length_map ..
  generalize o.map PyData.int = O at aa ab hl ⊢
  generalize o.getD a.toNat 0 = va at aa ⊢
  generalize o.getD b.toNat 0 = vb at ab ⊢
  rw [← hl] at xa xb
  simp [F35, aa, ab, xa, xb, z2]
def effStep (E : List (List Int)) (c : CT) : List (List Int) := E.take c.1.toNat ++ (E.drop c.1.toNat).map fun o => with2 o c.2.1.toNat c.2.2.toNat
def effM (m l : Nat) (cs : List CT) : List (List Int) := cs.foldl effStep (List.replicate l (iota m))
theorem effStep_len (E : List (List Int)) (c : CT) : (effStep E c).length = E.length := by
  unfold effStep
  rw [List.length_append, List.length_map, List.length_take, List.length_drop]
  omega
theorem Ord.with2 {m : Int} {o : List Int} (h : Ord m o) {a b : Nat} (ha : a < o.length) (hb : b < o.length) (ab : a ≠ b) : Ord m (with2 o a b) := by
  have at_ : ∀ i, (hi : i < o.length) → (DL.with2 o a b)[i]'(by rw [with2_len]; exact hi) = o[swN a b i]'(swN_lt ha hb hi) := fun i hi => by
    have := with2_at ha hb ab i
    rw [List.getD_eq_getElem?_getD, List.getD_eq_getElem?_getD, List.getElem?_eq_getElem (by rw [with2_len]; exact hi), List.getElem?_eq_getElem (swN_lt ha hb hi)] at this
    exact this
  refine ⟨by rw [with2_len]; exact h.len, fun x hx => ?_, ?_⟩
  · obtain ⟨i, hi, rfl⟩ := List.getElem_of_mem hx
    rw [with2_len] at hi
    rw [at_ i hi]
    exact h.rng _ (List.getElem_mem _)
  · rw [List.Nodup, List.pairwise_iff_getElem]
    intro i j hi hj ij e
    rw [with2_len] at hi hj
    rw [at_ i hi, at_ j hj] at e
    have nd := h.nd
    rw [List.Nodup, List.pairwise_iff_getElem] at nd
    have ne : swN a b i ≠ swN a b j := fun z => by have := swN_inj z; omega
    rcases Nat.lt_or_gt_of_ne ne with z | z
    · exact nd _ _ _ _ z e
    · exact nd _ _ _ _ z e.symm
theorem Eff.step {m l : Int} {E : List (List Int)} (h : Eff m l E) {c : CT} (hc : Cut m l c.1 c.2.1 c.2.2) : Eff m l (effStep E c) := by
  obtain ⟨p1, p2, a1, ab, b2⟩ := hc
  refine ⟨by rw [effStep_len]; exact h.len, fun o ho => ?_⟩
  unfold effStep at ho
  rcases List.mem_append.mp ho with ho | ho
  · exact h.all o (List.mem_of_mem_take ho)
  · obtain ⟨o', ho', rfl⟩ := List.mem_map.mp ho
    have g := h.all o' (List.mem_of_mem_drop ho')
    have := g.len
    exact g.with2 (by omega) (by omega) (by omega)
theorem Eff.fold {m l : Int} : ∀ (cs : List CT) (E : List (List Int)), Eff m l E → Row m l cs → Eff m l (cs.foldl effStep E)
  | [], E, h, _ => h
  | c :: cs, E, h, r => Eff.fold cs _ (h.step (r c List.mem_cons_self)) fun d hd => r d (List.mem_cons_of_mem _ hd)
theorem eff0_ok {m l : Int} (f : Frm m l) : Eff m l (List.replicate l.toNat (iota m.toNat)) := by
  obtain ⟨m1, m2, l1, l2⟩ := f
  refine ⟨by rw [List.length_replicate]; omega, fun o ho => ?_⟩
  rw [(List.mem_replicate.mp ho).2]
  exact iota_ord (by omega)
theorem effM_ok {m l : Int} (f : Frm m l) {cs : List CT} (r : Row m l cs) : Eff m l (effM m.toNat l.toNat cs) := Eff.fold cs _ (eff0_ok f) r
def withD (a b : Int) : D → D
  | .tuple xs => .tuple ((xs.set a.toNat (xs.getD b.toNat .none)).set b.toNat (xs.getD a.toNat .none))
  | _ => .none
theorem withD_ord {o : List Int} {a b : Int} (ha : a.toNat < o.length) (hb : b.toNat < o.length) : withD a b (orderD o) = orderD (with2 o a.toNat b.toNat) := by
  unfold orderD with2
  rw [List.map_set, List.map_set]
  simp [withD, List.getD, ha, hb]
theorem eff_turn80 (h35 : fs 35 = some F35) {m l : Int} (f : Frm m l) {E : List (List Int)} (e : Eff m l E) {c : CT} (hc : Cut m l c.1 c.2.1 c.2.2) {v0 v1 v3 v4 v5 : Option Sl} :
    turnF (gT (.t (.cons (.n 3) (.cons (.n 4) (.cons (.n 5) .nil))))) (evSs (run fs gl (n + 1)) gl (F143.body.nth 1).inner) (cutOf c) [v0, v1, some (.l (E.map orderD)), v3, v4, v5, none] =
      some ([v0, v1, some (.l ((effStep E c).map orderD)), some (.d (.int c.1)), some (.d (.int c.2.1)), some (.d (.int c.2.2)), none], .nx) := by
  obtain ⟨q, a, b⟩ := c
  obtain ⟨p1, p2, a1, ab, b2⟩ := hc
  simp only at p1 p2 a1 ab b2
  have hl := e.len
  have l2 := f.l2
  have k := loopC_map (vs := [6]) (tg := gT (.n 6)) (cd := gYes) (el := gd (evX (run fs gl (n + 1)) gl (.call 35 (.d (.var 6) (.d (.var 4) (.d (.var 5) .nil)))))) (ρ := [v0, v1, some (.l (E.map orderD)), some (.d (.int q)), some (.d (.int a)), some (.d (.int b)), none])
    (withD a b) ((E.drop q.toNat).map orderD) [] (by rw [List.length_map, List.length_drop]; simp; omega) (fun d hd => by
      obtain ⟨o, ho, rfl⟩ := List.mem_map.mp hd
      have g := e.all o (List.mem_of_mem_drop ho)
      have lo := g.len
      have k2 := with_two_ok (n := n) (gl := gl) h35 (o := o) (a := a) (b := b) (by omega) (by omega) (by omega) (by omega)
      rw [withD_ord (by omega) (by omega)]
      generalize orderD o = O at k2 ⊢
      generalize orderD (with2 o a.toNat b.toNat) = O2 at k2 ⊢
      simp at k2 ⊢
      simp [k2])
  have e2 : ((E.drop q.toNat).map orderD).map (withD a b) = ((E.drop q.toNat).map fun o => with2 o a.toNat b.toNat).map orderD := by
    rw [List.map_map, List.map_map]
    refine List.map_congr_left fun o ho => ?_
    have g := e.all o (List.mem_of_mem_drop ho)
    have lo := g.len
    exact withD_ord (by omega) (by omega)
  rw [e2, List.nil_append] at k
  have cd : cutD (E.map orderD) (some q) none = (E.drop q.toNat).map orderD := by
    have := cut_drop (E.map orderD) q.toNat
    rw [Int.toNat_of_nonneg p1] at this
    rw [this, List.map_drop]
  have e3 : (effStep E (q, a, b)).map orderD = (E.map orderD).take q.toNat ++ ((E.drop q.toNat).map fun o => with2 o a.toNat b.toNat).map orderD := by
    unfold effStep
    rw [List.map_append, List.map_take]
  have ft : fit ((E.map orderD).length + (((E.drop q.toNat).map fun o => with2 o a.toNat b.toNat).map orderD).length) = true := fit_of (by rw [List.length_map, List.length_map, List.length_map, List.length_drop]; omega)
  have c1 : (0 ≤ q ∧ q ≤ ((E.map orderD).length : Int)) := by rw [List.length_map]; omega
  rw [e3]
  generalize (((E.drop q.toNat).map fun o => with2 o a.toNat b.toNat).map orderD) = E2 at k ft ⊢
  generalize (E.drop q.toNat).map orderD = E1 at k cd
  generalize E.map orderD = ED at k cd ft c1 ⊢
  simp [F143, cutOf, cutT] at k ⊢
  simp [cd, k, c1, ft]
theorem effect_ok (h34 : fs 34 = some F34) (h35 : fs 35 = some F35) (h143 : fs 143 = some F143) {m l : Int} (f : Frm m l) {cs : List CT} (r : Row m l cs) :
    run fs gl (n + 2) 143 [.d (frameD m l), .d (rowD cs)] = some ([.d (frameD m l), .d (rowD cs)], .d (effD (effM m.toNat l.toNat cs))) := by
  have k0 := no_cut_ok (n := n) (gl := gl) h34 f
  have s0 : evS (run fs gl (n + 1)) gl (F143.body.nth 0) [some (.d (frameD m l)), some (.d (rowD cs)), none, none, none, none, none] = some ([some (.d (frameD m l)), some (.d (rowD cs)), some (.l ((List.replicate l.toNat (iota m.toNat)).map orderD)), none, none, none, none], .nx) := by
    unfold effD at k0
    generalize (List.replicate l.toNat (iota m.toNat)).map orderD = E0 at k0 ⊢
    generalize frameD m l = FD at k0 ⊢
    simp [F143, Ss.nth, k0]
  obtain ⟨ρ', el, cs2, E, v3, v4, v5, e0, rfl, eE, _⟩ := loopF_inv (tg := gT (.t (.cons (.n 3) (.cons (.n 4) (.cons (.n 5) .nil))))) (body := evSs (run fs gl (n + 1)) gl (F143.body.nth 1).inner)
    (fun xs ρ => ∃ (cs2 : List CT) (E : List (List Int)) (v3 v4 v5 : Option Sl), xs = cs2.map cutOf ∧ ρ = [some (.d (frameD m l)), some (.d (rowD cs)), some (.l (E.map orderD)), v3, v4, v5, none] ∧ cs2.foldl effStep E = effM m.toNat l.toNat cs ∧ Eff m l E ∧ Row m l cs2)
    (fun d xs ρ ⟨cs2, E, v3, v4, v5, ex, eρ, eE, hE, rc⟩ => by
      subst eρ
      cases cs2 with
      | nil => cases ex
      | cons c cs3 =>
        rw [List.map_cons] at ex
        injection ex with ex1 ex2
        subst ex1 ex2
        have hc := rc c List.mem_cons_self
        have t := eff_turn80 (n := n) (gl := gl) h35 f hE hc (v0 := some (.d (frameD m l))) (v1 := some (.d (rowD cs))) (v3 := v3) (v4 := v4) (v5 := v5)
        exact ⟨_, t, cs3, effStep E c, _, _, _, rfl, rfl, eE, hE.step hc, fun d hd => rc d (List.mem_cons_of_mem _ hd)⟩)
    (cs.map cutOf) [some (.d (frameD m l)), some (.d (rowD cs)), some (.l ((List.replicate l.toNat (iota m.toNat)).map orderD)), none, none, none, none]
    ⟨cs, _, _, _, _, rfl, rfl, rfl, eff0_ok f, r⟩
  have : cs2 = [] := by cases cs2 with | nil => rfl | cons c q => cases e0
  subst this
  have eE : E = effM m.toNat l.toNat cs := eE
  subst eE
  have s1 : evS (run fs gl (n + 1)) gl (F143.body.nth 1) [some (.d (frameD m l)), some (.d (rowD cs)), some (.l ((List.replicate l.toNat (iota m.toNat)).map orderD)), none, none, none, none] = some ([some (.d (frameD m l)), some (.d (rowD cs)), some (.l ((effM m.toNat l.toNat cs).map orderD)), v3, v4, v5, none], .nx) := by
    refine for_eq (s := .seq (.var 1)) (ρ1 := [some (.d (frameD m l)), some (.d (rowD cs)), some (.l ((List.replicate l.toNat (iota m.toNat)).map orderD)), none, none, none, none]) (xs := cs.map cutOf) ?_ el
    simp [rowD]
  have s2 : evS (run fs gl (n + 1)) gl (F143.body.nth 2) [some (.d (frameD m l)), some (.d (rowD cs)), some (.l ((effM m.toNat l.toNat cs).map orderD)), v3, v4, v5, none] = some ([some (.d (frameD m l)), some (.d (rowD cs)), some (.l ((effM m.toNat l.toNat cs).map orderD)), v3, v4, v5, none], .rt (.d (effD (effM m.toNat l.toNat cs)))) := by
    unfold effD
    generalize (effM m.toNat l.toNat cs).map orderD = E1
    simp [F143, Ss.nth]
  exact run_of h143 rfl ((evSs_nx s0).trans ((evSs_nx s1).trans (evSs_rt s2))) rfl
structure HasDoes (fs : Nat → Option Fn) (gl : Nat → Option D) : Prop extends HasRow fs gl where
  h34 : fs 34 = some F34
  h35 : fs 35 = some F35
  h143 : fs 143 = some F143
  h144 : fs 144 = some F144
theorem doesP_ok (h : HasDoes fs gl) {m l : Int} (f : Frm m l) {cs : List CT} (r : Row m l cs) (hl : cs.length ≤ 10000) :
    run fs gl (n + 6) 144 [.d (frameD m l), .d (rowD cs)] = some ([.d (frameD m l), .d (rowD cs)], .d (effD (effM m.toNat l.toNat cs))) := by
  have k1 := need_row_ok (n := n) h.toHasRow f r hl
  have k2 := effect_ok (n := n + 3) (gl := gl) h.h34 h.h35 h.h143 f r
  rw [run_step h.h144]
  generalize effD (effM m.toNat l.toNat cs) = E at k2 ⊢
  generalize rowD cs = RD at k1 k2 ⊢
  generalize frameD m l = FD at k1 k2 ⊢
  simp [F144, k1, k2]
end DL

namespace DL
open PySem PySem.Spec L2
open PyProof.Rows hiding St
variable {fs : Nat → Option Fn} {gl : Nat → Option D} {n : Nat}
/-- joints_by -/
def F84 : Fn := ⟨2, [], 6, (.cons (.parN [2, 3] [false, true] (.cons (.tRg (.rng (.idx (.var 0) (.cst (.int 0))))) (.cons (.lst .nil) .nil)))
 (.cons (.for (.seq (.var 1)) (.n 4) (.cons (.expr (.app 3 (.blt .tuple (.cons (.lc [5] (.rng (.idx (.var 0) (.cst (.int 0)))) (.n 5) .no (.idx (.var 4) (.meth .index (.var 2) (.cons (.var 5) .nil)))) .nil))))
 (.cons (.set 2 false (.var 4))
 .nil)))
 (.cons (.ret (.tupV 3))
 .nil)))⟩
/-- rounds_of -/
def F42 : Fn := ⟨1, [], 6, (.cons (.par2 1 2 true true (.lst .nil) (.lst .nil))
 (.cons (.for (.rng (.blt .len (.cons (.var 0) .nil))) (.n 3) (.cons (.par2 4 5 true false (.lst .nil) (.var 3))
 (.cons (.whl 1000000 (.cmpR .NotIn (.var 5) 2) (.cons (.expr (.app 4 (.var 5)))
 (.cons (.expr (.app 2 (.var 5)))
 (.cons (.set 5 false (.idx (.var 0) (.var 5)))
 .nil))))
 (.cons (.ite (.cmpL .NotEq 4 (.lst .nil)) (.cons (.expr (.app 1 (.tupV 4)))
 .nil) .nil)
 .nil))))
 (.cons (.ret (.mv 1))
 .nil)))⟩
/-- joint_cost -/
def F44 : Fn := ⟨1, [], 1, (.cons (.ret (.bin .Sub (.blt .len (.cons (.var 0) .nil)) (.blt .len (.cons (.call 42 (.d (.var 0) .nil)) .nil))))
 .nil)⟩
/-- fewest_by -/
def F85 : Fn := ⟨2, [], 3, (.cons (.ret (.blt .sum (.cons (.lc [2] (.seq (.call 84 (.d (.var 0) (.d (.var 1) .nil)))) (.n 2) .no (.call 44 (.d (.var 2) .nil))) .nil)))
 .nil)⟩
theorem iota_len (m : Nat) : (iota m).length = m := by unfold iota; rw [List.length_map, List.length_range]
theorem mem_iota {m : Nat} {x : Int} : x ∈ iota m ↔ 0 ≤ x ∧ x < m := by
  unfold iota
  rw [List.mem_map]
  constructor
  · rintro ⟨i, hi, rfl⟩
    have := List.mem_range.mp hi
    omega
  · intro h
    exact ⟨x.toNat, List.mem_range.mpr (by omega), by omega⟩
theorem Ord.mem {m : Int} {o : List Int} (h : Ord m o) {r : Int} (h0 : 0 ≤ r) (h1 : r < m) : r ∈ o := by
  apply Classical.byContradiction
  intro hn
  have nd : (r :: o).Nodup := List.nodup_cons.mpr ⟨hn, h.nd⟩
  have sub : (r :: o) ⊆ iota m.toNat := fun x hx => by
    rcases List.mem_cons.mp hx with rfl | hx
    · exact mem_iota.mpr ⟨h0, by omega⟩
    · have := h.rng x hx
      exact mem_iota.mpr ⟨this.1, by omega⟩
  have := nd.length_le_of_subset sub
  rw [iota_len, List.length_cons] at this
  have := h.len
  omega
theorem iota_nodup (m : Nat) : (iota m).Nodup := (iota_ord (m := (m : Int)) (by omega)).nd
theorem Ord.perm {m : Int} {o : List Int} (h : Ord m o) : o.Perm (iota m.toNat) := by
  refine (List.perm_ext_iff_of_nodup h.nd (iota_nodup _)).mpr fun a => ⟨fun ha => ?_, fun ha => ?_⟩
  · have := h.rng a ha
    exact mem_iota.mpr ⟨this.1, by omega⟩
  · have := mem_iota.mp ha
    have hl := h.len
    exact h.mem this.1 (by omega)
theorem place_int : ∀ (o : List Int) (r : Int), r ∈ o → SeqAt.dataPlace (o.map PyData.int) (.int r) = some (o.idxOf r)
  | [], r, h => by cases h
  | x :: o, r, h => by
    unfold SeqAt.dataPlace
    rw [List.map_cons, List.findIdx?_cons, List.idxOf_cons, eqv_int]
    by_cases e : x = r
    · subst e
      simp
    · have hr : r ∈ o := by
        rcases List.mem_cons.mp h with z | z
        · exact (e z.symm).elim
        · exact z
      have := place_int o r hr
      unfold SeqAt.dataPlace at this
      have e2 : (x == r) = false := by simpa using e
      rw [this, decide_eq_false e, e2]
      rfl
theorem depths_int : ∀ (o : List Int), PyData.depthAll (o.map PyData.int) = 0
  | [] => by simp [PyData.depthAll]
  | x :: o => by simp [PyData.depthAll, depths_int o, depth_int]
/-- whose bead follows whose -/
def jointOf (p o : List Int) : List Int := (List.range p.length).map fun (r : Nat) => o.getD (p.idxOf (r : Int)) 0
def jointsM : List Int → List (List Int) → List (List Int)
  | _, [] => []
  | p, o :: r => jointOf p o :: jointsM o r
theorem joint_loop {m l : Int} (f : Frm m l) {p o : List Int} (hp : Ord m p) (ho : Ord m o) {v1 v3 : Option Sl} :
    loopC [5] (gT (.n 5)) gYes (gd (evX (run fs gl n) gl (.idx (.var 4) (.meth .index (.var 2) (.cons (.var 5) .nil))))) (rngD 0 m.toNat) [some (.d (frameD m l)), v1, some (.d (orderD p)), v3, some (.d (orderD o)), none] [] =
      some ([some (.d (frameD m l)), v1, some (.d (orderD p)), v3, some (.d (orderD o)), none], (jointOf p o).map PyData.int) := by
  have m2 := f.m2
  have lp := hp.len
  have lo := ho.len
  have k := loopC_map (vs := [5]) (tg := gT (.n 5)) (cd := gYes) (el := gd (evX (run fs gl n) gl (.idx (.var 4) (.meth .index (.var 2) (.cons (.var 5) .nil))))) (ρ := [some (.d (frameD m l)), v1, some (.d (orderD p)), v3, some (.d (orderD o)), none])
    (fun d => .int (o.getD (p.idxOf ((natOf d : Nat) : Int)) 0)) (rngD 0 m.toNat) [] (by rw [rngD_length]; simp; omega) (fun d hd => by
      obtain ⟨q, rfl, hq⟩ := mem_rng hd
      have hm := hp.mem (r := (q : Int)) (by omega) (by omega)
      have k1 := place_int p q hm
      have hi := List.idxOf_lt_length_iff.mpr hm
      have hi2 : p.idxOf (q : Int) < o.length := by omega
      have at_ : atD (o.map PyData.int) ((p.idxOf (q : Int) : Nat) : Int) = some (.int (o.getD (p.idxOf (q : Int)) 0)) := by simp [atD, ixD, hi2, List.getD]
      have dp : min (PyData.depthAll (p.map PyData.int)) (PyData.depth (.int (q : Int))) ≤ 100 := by rw [depths_int]; omega
      show turnC _ _ _ _ (.int (q : Int)) _ = some (_, some (.int (o.getD (p.idxOf (q : Int)) 0)))
      unfold orderD
      generalize frameD m l = FD
      generalize p.map PyData.int = P at k1 dp ⊢
      generalize o.map PyData.int = O at at_ ⊢
      simp [k1, dp, at_])
  rw [k, List.nil_append]
  congr 2
  unfold rngD jointOf
  rw [List.map_map, List.map_map, show p.length = m.toNat by omega]
  refine List.map_congr_left fun i _ => ?_
  simp [natOf]
theorem joints_turn {m l : Int} (f : Frm m l) {p o : List Int} (hp : Ord m p) (ho : Ord m o) {found : List D} (hf : found.length ≤ 1000) {v1 v4 : Option Sl} :
    turnF (gT (.n 4)) (evSs (run fs gl n) gl (F84.body.nth 1).inner) (orderD o) [some (.d (frameD m l)), v1, some (.d (orderD p)), some (.l found), v4, none] =
      some ([some (.d (frameD m l)), v1, some (.d (orderD o)), some (.l (found ++ [orderD (jointOf p o)])), some (.d (orderD o)), none], .nx) := by
  have k := joint_loop (fs := fs) (gl := gl) (n := n) f hp ho (v1 := v1) (v3 := some (.l found))
  have m1 := f.m1
  have m2 := f.m2
  have b1 : m < 4611686018427387904 := by omega
  have b2 : -4611686018427387904 ≤ m := by omega
  have hl : found.length < 16777216 := by omega
  show _ = some ([some (.d (frameD m l)), v1, some (.d (orderD o)), some (.l (found ++ [.tuple ((jointOf p o).map PyData.int)])), some (.d (orderD o)), none], Fl.nx)
  generalize (jointOf p o).map PyData.int = J at k ⊢
  generalize orderD o = O at k ⊢
  generalize orderD p = P at k ⊢
  unfold frameD at k ⊢
  have a0 : atD [PyData.int m, PyData.int l] 0 = some (.int m) := rfl
  simp [F84] at k ⊢
  simp [k, b1, b2, hl, a0]
theorem joints_by_ok (h84 : fs 84 = some F84) {m l : Int} (f : Frm m l) {E : List (List Int)} (e : Eff m l E) :
    run fs gl (n + 1) 84 [.d (frameD m l), .d (effD E)] = some ([.d (frameD m l), .d (effD E)], .d (effD (jointsM (iota m.toNat) E))) := by
  have m1 := f.m1
  have m2 := f.m2
  have l2 := f.l2
  have len := e.len
  have s0 : evS (run fs gl n) gl (F84.body.nth 0) [some (.d (frameD m l)), some (.d (effD E)), none, none, none, none] = some ([some (.d (frameD m l)), some (.d (effD E)), some (.d (orderD (iota m.toNat))), some (.l []), none, none], .nx) := by
    have sm : smallI m = true := small_of' (by omega) (by omega)
    have sm0 : smallI 0 = true := small_of' (by decide) (by decide)
    have a0 : atD [PyData.int m, PyData.int l] 0 = some (.int m) := rfl
    have e2 := rgD_iota m
    generalize orderD (iota m.toNat) = O at e2 ⊢
    generalize effD E = ED
    unfold frameD
    simp [F84, Ss.nth, sm, sm0, a0, e2, putS]
  obtain ⟨ρ', el, E2, p, dn, v4, e0, rfl, eE, _⟩ := loopF_inv (tg := gT (.n 4)) (body := evSs (run fs gl n) gl (F84.body.nth 1).inner)
    (fun xs ρ => ∃ (E2 : List (List Int)) (p : List Int) (dn : List (List Int)) (v4 : Option Sl), xs = E2.map orderD ∧ ρ = [some (.d (frameD m l)), some (.d (effD E)), some (.d (orderD p)), some (.l (dn.map orderD)), v4, none] ∧ dn ++ jointsM p E2 = jointsM (iota m.toNat) E ∧ Ord m p ∧ (∀ o ∈ E2, Ord m o) ∧ dn.length + E2.length = E.length)
    (fun d xs ρ ⟨E2, p, dn, v4, ex, eρ, eE, hp, hE, hl⟩ => by
      subst eρ
      cases E2 with
      | nil => cases ex
      | cons o E3 =>
        rw [List.map_cons] at ex
        injection ex with ex1 ex2
        subst ex1 ex2
        rw [List.length_cons] at hl
        have t := joints_turn (fs := fs) (gl := gl) (n := n) f hp (hE o List.mem_cons_self) (found := dn.map orderD) (by rw [List.length_map]; omega) (v1 := some (.d (effD E))) (v4 := v4)
        refine ⟨_, t, E3, o, dn ++ [jointOf p o], _, rfl, by rw [List.map_append]; rfl, by rw [← eE]; simp [jointsM], hE o List.mem_cons_self, fun x hx => hE x (List.mem_cons_of_mem _ hx), by rw [List.length_append]; show dn.length + 1 + E3.length = E.length; omega⟩)
    (E.map orderD) [some (.d (frameD m l)), some (.d (effD E)), some (.d (orderD (iota m.toNat))), some (.l []), none, none]
    ⟨E, iota m.toNat, [], _, rfl, rfl, rfl, iota_ord (by omega), e.all, by simp⟩
  have : E2 = [] := by cases E2 with | nil => rfl | cons c q => cases e0
  subst this
  have eE : dn = jointsM (iota m.toNat) E := by rw [← eE]; simp [jointsM]
  subst eE
  have s1 : evS (run fs gl n) gl (F84.body.nth 1) [some (.d (frameD m l)), some (.d (effD E)), some (.d (orderD (iota m.toNat))), some (.l []), none, none] = some ([some (.d (frameD m l)), some (.d (effD E)), some (.d (orderD p)), some (.l ((jointsM (iota m.toNat) E).map orderD)), v4, none], .nx) := by
    refine for_eq (s := .seq (.var 1)) (ρ1 := [some (.d (frameD m l)), some (.d (effD E)), some (.d (orderD (iota m.toNat))), some (.l []), none, none]) (xs := E.map orderD) ?_ el
    simp [effD]
  have s2 : evS (run fs gl n) gl (F84.body.nth 2) [some (.d (frameD m l)), some (.d (effD E)), some (.d (orderD p)), some (.l ((jointsM (iota m.toNat) E).map orderD)), v4, none] = some ([some (.d (frameD m l)), some (.d (effD E)), some (.d (orderD p)), some (.l ((jointsM (iota m.toNat) E).map orderD)), v4, none], .rt (.d (effD (jointsM (iota m.toNat) E)))) := by
    show _ = some (_, Fl.rt (.d (.tuple ((jointsM (iota m.toNat) E).map orderD))))
    generalize (jointsM (iota m.toNat) E).map orderD = E1
    simp [F84, Ss.nth]
  exact run_of h84 rfl ((evSs_nx s0).trans ((evSs_nx s1).trans (evSs_rt s2))) rfl
/-! ### rounds -/
def chase (o : List Int) : Nat → List Int → List Int → Int → List Int × List Int
  | 0, row, met, _ => (row, met)
  | f + 1, row, met, here => if here ∈ met then (row, met) else chase o f (row ++ [here]) (met ++ [here]) (o.getD here.toNat 0)
def roundStep (o : List Int) (s : List (List Int) × List Int) (b : Nat) : List (List Int) × List Int :=
  let t := chase o (o.length + 1) [] s.2 (b : Int)
  (if t.1 = [] then s.1 else s.1 ++ [t.1], t.2)
def roundsM (o : List Int) : List (List Int) := ((List.range o.length).foldl (roundStep o) ([], [])).1
def costM (o : List Int) : Int := (o.length : Int) - ((roundsM o).length : Int)
theorem whileF_step {c : GB} {body : GS} {fuel : Nat} {ρ ρ1 ρ2 : Ev} (hc : c ρ = some (ρ1, true)) (hb : body ρ1 = some (ρ2, .nx)) : whileF c body (fuel + 1) ρ = whileF c body fuel ρ2 := by
  conv => lhs; unfold whileF
  simp [hc, hb]
theorem whileF_stop {c : GB} {body : GS} {fuel : Nat} {ρ ρ1 : Ev} (hc : c ρ = some (ρ1, false)) : whileF c body (fuel + 1) ρ = some (ρ1, .nx) := by
  unfold whileF
  simp [hc]
theorem any_int (xs : List Int) (r : Int) : ((xs.map PyData.int).any fun y => PyData.eqv y (.int r)) = decide (r ∈ xs) := by
  rw [Bool.eq_iff_iff]
  simp [eqv_int]
def chC : E := .cmpR .NotIn (.var 5) 2
def chB : Ss := (((F42.body.nth 1).inner).nth 1).inner
theorem ch_cond {xs : List Int} {r : Int} {v0 v1 v3 v4 : Option Sl} : evB (run fs gl n) gl chC [v0, v1, some (.l (xs.map PyData.int)), v3, v4, some (.d (.int r))] = some ([v0, v1, some (.l (xs.map PyData.int)), v3, v4, some (.d (.int r))], !decide (r ∈ xs)) := by
  have dp : min (PyData.depthAll (xs.map PyData.int)) (PyData.depth (.int r)) ≤ 100 := by rw [depths_int]; omega
  have k := any_int xs r
  have e : inB (.int r) (.list (xs.map PyData.int)) = some (decide (r ∈ xs)) := by
    show (if decide (min (PyData.depthAll (xs.map PyData.int)) (PyData.depth (.int r)) ≤ 100) = true then some ((xs.map PyData.int).any fun y => PyData.eqv y (.int r)) else none) = _
    rw [if_pos (decide_eq_true dp), k]
  generalize xs.map PyData.int = XS at e ⊢
  simp [chC, e]
theorem ch_body {o xs row : List Int} {r : Int} (h0 : 0 ≤ r) (h1 : r < o.length) (hx : xs.length ≤ 1000) (hr : row.length ≤ 1000) {v1 v3 : Option Sl} :
    evSs (run fs gl n) gl chB [some (.d (orderD o)), v1, some (.l (xs.map PyData.int)), v3, some (.l (row.map PyData.int)), some (.d (.int r))] =
      some ([some (.d (orderD o)), v1, some (.l ((xs ++ [r]).map PyData.int)), v3, some (.l ((row ++ [r]).map PyData.int)), some (.d (.int (o.getD r.toNat 0)))], .nx) := by
  have xa : ixD o.length r = some r.toNat := by unfold ixD; rw [if_pos h0, if_pos h1]
  have pa : r.toNat < o.length := by omega
  have aa : atD (o.map PyData.int) r = some (.int (o.getD r.toNat 0)) := by
    unfold atD
    rw [List.length_map, xa]
    simp [List.getD, pa]
  have z1 : (xs.map PyData.int).length < 16777216 := by rw [List.length_map]; omega
  have z2 : (row.map PyData.int).length < 16777216 := by rw [List.length_map]; omega
  rw [List.map_append, List.map_append]
  unfold orderD
  generalize o.getD r.toNat 0 = y at aa ⊢
  generalize o.map PyData.int = O at aa ⊢
  generalize xs.map PyData.int = XS at z1 ⊢
  generalize row.map PyData.int = RW at z2 ⊢
  simp [chB, F42, aa, z1, z2]
theorem met_len {m : Int} {met : List Int} (nd : met.Nodup) (rg : ∀ x ∈ met, 0 ≤ x ∧ x < m) : met.length ≤ m.toNat := by
  have sub : met ⊆ iota m.toNat := fun x hx => by
    have := rg x hx
    exact mem_iota.mpr ⟨this.1, by omega⟩
  have := nd.length_le_of_subset sub
  rw [iota_len] at this
  exact this
theorem chase_loop {m : Int} {o : List Int} (ho : Ord m o) (hm : m ≤ 1000) {v1 v3 : Option Sl} : ∀ (k : Nat) (row met : List Int) (here : Int), met.Nodup → (∀ x ∈ met, 0 ≤ x ∧ x < m) → 0 ≤ here → here < m → m.toNat ≤ met.length + k → row.length ≤ met.length → ∀ fuel, k < fuel →
    ∃ h', whileF (evB (run fs gl n) gl chC) (evSs (run fs gl n) gl chB) fuel [some (.d (orderD o)), v1, some (.l (met.map PyData.int)), v3, some (.l (row.map PyData.int)), some (.d (.int here))] =
      some ([some (.d (orderD o)), v1, some (.l ((chase o (k + 1) row met here).2.map PyData.int)), v3, some (.l ((chase o (k + 1) row met here).1.map PyData.int)), some (.d (.int h'))], .nx) ∧ (chase o (k + 1) row met here).2.Nodup ∧ (∀ x ∈ (chase o (k + 1) row met here).2, 0 ≤ x ∧ x < m) := by
  have lo := ho.len
  intro k
  induction k with
  | zero =>
    intro row met here nd rg h0 h1 hl hr fuel hf
    have hin : here ∈ met := by
      have om : Ord m met := ⟨by have := met_len nd rg; omega, fun x hx => by have := rg x hx; omega, nd⟩
      exact om.mem h0 h1
    have e : chase o 1 row met here = (row, met) := by unfold chase; rw [if_pos hin]
    cases fuel with
    | zero => omega
    | succ fuel =>
      refine ⟨here, ?_, by rw [e]; exact nd, by rw [e]; exact rg⟩
      rw [e]
      refine whileF_stop ?_
      rw [ch_cond, decide_eq_true hin]
      rfl
  | succ k ih =>
    intro row met here nd rg h0 h1 hl hr fuel hf
    cases fuel with
    | zero => omega
    | succ fuel =>
      by_cases hin : here ∈ met
      · have e : chase o (k + 1 + 1) row met here = (row, met) := by unfold chase; rw [if_pos hin]
        refine ⟨here, ?_, by rw [e]; exact nd, by rw [e]; exact rg⟩
        rw [e]
        refine whileF_stop ?_
        rw [ch_cond, decide_eq_true hin]
        rfl
      · have e : chase o (k + 1 + 1) row met here = chase o (k + 1) (row ++ [here]) (met ++ [here]) (o.getD here.toNat 0) := by conv => lhs; unfold chase; rw [if_neg hin]
        have hg : here.toNat < o.length := by omega
        have ge : o.getD here.toNat 0 = o[here.toNat] := by simp [List.getD, hg]
        have g := ho.rng _ (List.getElem_mem hg)
        rw [← ge] at g
        obtain ⟨h', w, n2, r2⟩ := ih (row ++ [here]) (met ++ [here]) (o.getD here.toNat 0) (by
            rw [List.nodup_append]
            exact ⟨nd, by simp, fun x hx y hy => by rw [List.mem_singleton] at hy; subst hy; exact fun z => hin (z ▸ hx)⟩)
          (fun x hx => by
            rcases List.mem_append.mp hx with hx | hx
            · exact rg x hx
            · rw [List.mem_singleton] at hx; subst hx; exact ⟨h0, h1⟩) g.1 (by omega) (by rw [List.length_append]; show _ ≤ met.length + 1 + k; omega) (by rw [List.length_append, List.length_append]; show row.length + 1 ≤ met.length + 1; omega) fuel (by omega)
        rw [e]
        refine ⟨h', ?_, n2, r2⟩
        rw [← w]
        refine whileF_step (ρ1 := [some (.d (orderD o)), v1, some (.l (met.map PyData.int)), v3, some (.l (row.map PyData.int)), some (.d (.int here))]) ?_ (ch_body h0 (by omega) (by have := met_len nd rg; omega) (by have := met_len nd rg; omega))
        rw [ch_cond, decide_eq_false hin]
        rfl
theorem round_turn {m : Int} {o : List Int} (ho : Ord m o) (hm : m ≤ 1000) {fd : List (List Int)} {met : List Int} (nd : met.Nodup) (rg : ∀ x ∈ met, 0 ≤ x ∧ x < m) {b : Nat} (hb : (b : Int) < m) (hf : fd.length ≤ 1000) {v3 v4 v5 : Option Sl} :
    ∃ w4 w5, turnF (gT (.n 3)) (evSs (run fs gl n) gl (F42.body.nth 1).inner) (.int b) [some (.d (orderD o)), some (.l (fd.map orderD)), some (.l (met.map PyData.int)), v3, v4, v5] =
      some ([some (.d (orderD o)), some (.l ((roundStep o (fd, met) b).1.map orderD)), some (.l ((roundStep o (fd, met) b).2.map PyData.int)), some (.d (.int b)), w4, w5], .nx) ∧ (roundStep o (fd, met) b).2.Nodup ∧ ∀ x ∈ (roundStep o (fd, met) b).2, 0 ≤ x ∧ x < m := by
  have lo := ho.len
  obtain ⟨h', w, n2, r2⟩ := chase_loop (fs := fs) (gl := gl) (n := n) ho hm (v1 := some (.l (fd.map orderD))) (v3 := some (.d (.int b))) o.length [] met b nd rg (by omega) hb (by omega) (by simp) 1000000 (by omega)
  have s0 : evS (run fs gl n) gl (((F42.body.nth 1).inner).nth 0) [some (.d (orderD o)), some (.l (fd.map orderD)), some (.l (met.map PyData.int)), some (.d (.int b)), v4, v5] = some ([some (.d (orderD o)), some (.l (fd.map orderD)), some (.l (met.map PyData.int)), some (.d (.int b)), some (.l []), some (.d (.int b))], .nx) := by
    generalize orderD o = O
    generalize fd.map orderD = FDD
    generalize met.map PyData.int = MM
    simp [F42, Ss.nth]
  have s1 : evS (run fs gl n) gl (((F42.body.nth 1).inner).nth 1) [some (.d (orderD o)), some (.l (fd.map orderD)), some (.l (met.map PyData.int)), some (.d (.int b)), some (.l []), some (.d (.int b))] =
    some ([some (.d (orderD o)), some (.l (fd.map orderD)), some (.l ((chase o (o.length + 1) [] met b).2.map PyData.int)), some (.d (.int b)), some (.l ((chase o (o.length + 1) [] met b).1.map PyData.int)), some (.d (.int h'))], .nx) := w
  refine ⟨some (.l ((chase o (o.length + 1) [] met b).1.map PyData.int)), some (.d (.int h')), ?_, n2, r2⟩
  have s2 : evS (run fs gl n) gl (((F42.body.nth 1).inner).nth 2) [some (.d (orderD o)), some (.l (fd.map orderD)), some (.l ((chase o (o.length + 1) [] met b).2.map PyData.int)), some (.d (.int b)), some (.l ((chase o (o.length + 1) [] met b).1.map PyData.int)), some (.d (.int h'))] =
      some ([some (.d (orderD o)), some (.l ((roundStep o (fd, met) b).1.map orderD)), some (.l ((roundStep o (fd, met) b).2.map PyData.int)), some (.d (.int b)), some (.l ((chase o (o.length + 1) [] met b).1.map PyData.int)), some (.d (.int h'))], .nx) := by
    unfold roundStep
    generalize chase o (o.length + 1) [] met b = t
    obtain ⟨row, met'⟩ := t
    show _ = some (([some (Sl.d (orderD o)), some (Sl.l ((if row = [] then fd else fd ++ [row]).map orderD)), some (Sl.l (met'.map PyData.int)), some (Sl.d (.int b)), some (Sl.l (row.map PyData.int)), some (Sl.d (.int h'))] : Ev), Fl.nx)
    have hl : fd.length < 16777216 := by omega
    by_cases hr : row = []
    · subst hr
      generalize orderD o = O
      generalize met'.map PyData.int = MM
      simp [F42, Ss.nth, eqv_list_nil, dep_nil]
    · have hr2 : ¬ row.length = 0 := fun z => hr (List.eq_nil_of_length_eq_zero z)
      generalize orderD o = O
      generalize met'.map PyData.int = MM
      simp [F42, Ss.nth, eqv_list_nil, dep_nil, hr, hr2, hl, orderD]
  exact (evSs_nx s0).trans ((evSs_nx s1).trans ((evSs_nx s2).trans rfl))
theorem roundStep_len (o : List Int) (s : List (List Int) × List Int) (b : Nat) : (roundStep o s b).1.length ≤ s.1.length + 1 := by
  unfold roundStep
  show (if (chase o (o.length + 1) [] s.2 (b : Int)).1 = [] then s.1 else s.1 ++ [(chase o (o.length + 1) [] s.2 (b : Int)).1]).length ≤ _
  split
  · omega
  · rw [List.length_append]; exact Nat.le_refl _
theorem rounds_ok (h42 : fs 42 = some F42) {m : Int} {o : List Int} (ho : Ord m o) (hm : m ≤ 900) :
    run fs gl (n + 1) 42 [.d (orderD o)] = some ([.d (orderD o)], .l ((roundsM o).map orderD)) := by
  have lo := ho.len
  have s0 : evS (run fs gl n) gl (F42.body.nth 0) [some (.d (orderD o)), none, none, none, none, none] = some ([some (.d (orderD o)), some (.l []), some (.l []), none, none, none], .nx) := by
    generalize orderD o = O
    simp [F42, Ss.nth]
  obtain ⟨ρ', el, b, s, v3, v4, v5, e0, rfl, eS, nd, rg, hb, hf⟩ := loopF_inv (tg := gT (.n 3)) (body := evSs (run fs gl n) gl (F42.body.nth 1).inner)
    (fun xs ρ => ∃ (b : Nat) (s : List (List Int) × List Int) (v3 v4 v5 : Option Sl), xs = (rngD 0 o.length).drop b ∧ ρ = [some (.d (orderD o)), some (.l (s.1.map orderD)), some (.l (s.2.map PyData.int)), v3, v4, v5] ∧ s = (List.range b).foldl (roundStep o) ([], []) ∧ s.2.Nodup ∧ (∀ x ∈ s.2, 0 ≤ x ∧ x < m) ∧ b ≤ o.length ∧ s.1.length ≤ b)
    (fun d xs ρ ⟨b, s, v3, v4, v5, ex, eρ, eS, nd, rg, hb, hf⟩ => by
      subst eρ
      have hb' : b < o.length := by
        apply Nat.lt_of_le_of_ne hb
        intro z
        rw [List.drop_eq_nil_of_le (by rw [rngD_length]; omega)] at ex
        cases ex
      rw [rngD_drop hb'] at ex
      injection ex with e1 e2
      subst e1 e2
      obtain ⟨w4, w5, t, n2, r2⟩ := round_turn (fs := fs) (gl := gl) (n := n) ho (by omega) nd rg (b := b) (by omega) (fd := s.1) (by omega) (v3 := v3) (v4 := v4) (v5 := v5)
      rw [show ((0 : Int) + (b : Int)) = (b : Int) by omega]
      have := roundStep_len o s b
      refine ⟨_, t, b + 1, roundStep o s b, _, w4, w5, rfl, rfl, ?_, n2, r2, hb', by omega⟩
      rw [List.range_succ, List.foldl_append, ← eS]
      rfl)
    (rngD 0 o.length) [some (.d (orderD o)), some (.l []), some (.l []), none, none, none]
    ⟨0, ([], []), _, _, _, rfl, rfl, rfl, List.nodup_nil, (fun _ h => by cases h), Nat.zero_le _, Nat.le_refl _⟩
  have hb2 : b = o.length := by
    apply Nat.le_antisymm hb
    apply Nat.le_of_not_lt
    intro z
    rw [rngD_drop z] at e0
    cases e0
  subst hb2
  have er : roundsM o = s.1 := by unfold roundsM; rw [← eS]
  rw [er]
  have s1 : evS (run fs gl n) gl (F42.body.nth 1) [some (.d (orderD o)), some (.l []), some (.l []), none, none, none] = some ([some (.d (orderD o)), some (.l (s.1.map orderD)), some (.l (s.2.map PyData.int)), v3, v4, v5], .nx) := by
    refine for_eq (s := .rng (.blt .len (.cons (.var 0) .nil))) (rng_eq (d := .int (o.length : Int)) (ρ1 := [some (.d (orderD o)), some (.l []), some (.l []), none, none, none]) ?_ (rng1_nat (by omega))) el
    simp [orderD]
  have s2 : evS (run fs gl n) gl (F42.body.nth 2) [some (.d (orderD o)), some (.l (s.1.map orderD)), some (.l (s.2.map PyData.int)), v3, v4, v5] = some ([some (.d (orderD o)), none, some (.l (s.2.map PyData.int)), v3, v4, v5], .rt (.l (s.1.map orderD))) := by
    generalize orderD o = O
    generalize s.1.map orderD = FDD
    generalize s.2.map PyData.int = MM
    simp [F42, Ss.nth]
  exact run_of h42 rfl ((evSs_nx s0).trans ((evSs_nx s1).trans (evSs_rt s2))) rfl
theorem cost_ok (h42 : fs 42 = some F42) (h44 : fs 44 = some F44) {m : Int} {o : List Int} (ho : Ord m o) (hm : m ≤ 900) :
    run fs gl (n + 2) 44 [.d (orderD o)] = some ([.d (orderD o)], .d (.int (costM o))) := by
  have k := rounds_ok (n := n) (gl := gl) h42 ho hm
  have e : costM o = ((o.map PyData.int).length : Int) - (((roundsM o).map orderD).length : Int) := by unfold costM; rw [List.length_map, List.length_map]
  rw [e, run_step h44]
  unfold orderD at k ⊢
  generalize (roundsM o).map (fun o => PyData.tuple (o.map PyData.int)) = R at k ⊢
  generalize o.map PyData.int = O at k ⊢
  simp [F44, k]
end DL

namespace DL
open PySem PySem.Spec L2
open PyProof.Rows hiding St
variable {fs : Nat → Option Fn} {gl : Nat → Option D} {n : Nat}
/-- joints -/
def F99 : Fn := ⟨2, [], 2, (.cons (.expr (.call 22 (.d (.var 0) (.d (.var 1) .nil))))
 (.cons (.ret (.call 84 (.d (.var 0) (.d (.var 1) .nil))))
 .nil))⟩
/-- fewest -/
def F100 : Fn := ⟨2, [], 2, (.cons (.expr (.call 22 (.d (.var 0) (.d (.var 1) .nil))))
 (.cons (.ret (.call 85 (.d (.var 0) (.d (.var 1) .nil))))
 .nil))⟩
/-- is_short_by -/
def F147 : Fn := ⟨2, [], 2, (.cons (.ret (.cmp .Eq (.blt .len (.cons (.var 1) .nil)) (.call 85 (.d (.var 0) (.d (.call 143 (.d (.var 0) (.d (.var 1) .nil))) .nil)))))
 .nil)⟩
/-- is_short -/
def F148 : Fn := ⟨2, [], 2, (.cons (.expr (.call 7 (.d (.var 0) (.d (.var 1) .nil))))
 (.cons (.ret (.call 147 (.d (.var 0) (.d (.var 1) .nil))))
 .nil))⟩
/-- undoing -/
def F83 : Fn := ⟨2, [], 2, (.cons (.expr (.call 7 (.d (.var 0) (.d (.var 1) .nil))))
 (.cons (.ret (.rev (.var 1)))
 .nil))⟩
/-- parts_by -/
def F145 : Fn := ⟨3, [], 7, (.cons (.par2 3 4 false false (.call 143 (.d (.var 0) (.d (.var 1) .nil))) (.call 143 (.d (.var 0) (.d (.var 2) .nil))))
 (.cons (.for (.rng (.idx (.var 0) (.cst (.int 1)))) (.n 5) (.cons (.for (.rng (.idx (.var 0) (.cst (.int 0)))) (.n 6) (.cons (.ite (.cmp .NotEq (.idx (.idx (.var 3) (.var 5)) (.var 6)) (.idx (.idx (.var 4) (.var 5)) (.var 6))) (.cons (.ret (.tup (.cons (.var 5) (.cons (.var 6) .nil))))
 .nil) .nil)
 .nil))
 .nil))
 (.cons (.ret (.cst .none))
 .nil)))⟩
/-- parts -/
def F146 : Fn := ⟨3, [], 3, (.cons (.expr (.call 7 (.d (.var 0) (.d (.var 1) .nil))))
 (.cons (.expr (.call 7 (.d (.var 0) (.d (.var 2) .nil))))
 (.cons (.ret (.call 145 (.d (.var 0) (.d (.var 1) (.d (.var 2) .nil)))))
 .nil)))⟩
theorem Ord.idx {m : Int} {p : List Int} (hp : Ord m p) {r : Nat} (hr : (r : Int) < m) : p.idxOf (r : Int) < p.length := List.idxOf_lt_length_iff.mpr (hp.mem (by omega) hr)
theorem jointOf_len (p o : List Int) : (jointOf p o).length = p.length := by unfold jointOf; rw [List.length_map, List.length_range]
theorem jointOf_at {m : Int} {p o : List Int} (hp : Ord m p) (ho : Ord m o) {r : Nat} (hr : (r : Int) < m) : (jointOf p o).getD r 0 = o.getD (p.idxOf (r : Int)) 0 := by
  have lp := hp.len
  unfold jointOf
  have : r < p.length := by omega
  simp [List.getD, this]
theorem jointOf_ord {m : Int} {p o : List Int} (hp : Ord m p) (ho : Ord m o) : Ord m (jointOf p o) := by
  have lp := hp.len
  have lo := ho.len
  refine ⟨by rw [jointOf_len]; exact lp, fun x hx => ?_, ?_⟩
  · unfold jointOf at hx
    obtain ⟨r, hr, rfl⟩ := List.mem_map.mp hx
    have hr := List.mem_range.mp hr
    have hi := hp.idx (r := r) (by omega)
    have hi2 : p.idxOf (r : Int) < o.length := by omega
    have e : o.getD (p.idxOf (r : Int)) 0 = o[p.idxOf (r : Int)] := by simp [List.getD, hi2]
    rw [e]
    exact ho.rng _ (List.getElem_mem hi2)
  · unfold jointOf
    rw [List.Nodup, List.pairwise_iff_getElem]
    intro i j hi hj ij e
    rw [List.length_map, List.length_range] at hi hj
    simp only [List.getElem_map, List.getElem_range] at e
    have xi := hp.idx (r := i) (by omega)
    have xj := hp.idx (r := j) (by omega)
    have yi : p.idxOf (i : Int) < o.length := by omega
    have yj : p.idxOf (j : Int) < o.length := by omega
    have ei : o.getD (p.idxOf (i : Int)) 0 = o[p.idxOf (i : Int)] := by simp [List.getD, yi]
    have ej : o.getD (p.idxOf (j : Int)) 0 = o[p.idxOf (j : Int)] := by simp [List.getD, yj]
    rw [ei, ej] at e
    have nd := ho.nd
    rw [List.Nodup, List.pairwise_iff_getElem] at nd
    have ne : p.idxOf (i : Int) ≠ p.idxOf (j : Int) := fun z => by
      have a := List.getElem_idxOf xi
      have b := List.getElem_idxOf xj
      have : p[p.idxOf (i : Int)] = p[p.idxOf (j : Int)] := by simp only [z]
      rw [a, b] at this
      omega
    rcases Nat.lt_or_gt_of_ne ne with z | z
    · exact nd _ _ _ _ z e
    · exact nd _ _ _ _ z e.symm
theorem jointsM_len : ∀ (E : List (List Int)) (p : List Int), (jointsM p E).length = E.length
  | [], p => rfl
  | o :: E, p => by rw [jointsM, List.length_cons, List.length_cons, jointsM_len E o]
theorem jointsM_ord {m : Int} : ∀ (E : List (List Int)) (p : List Int), Ord m p → (∀ o ∈ E, Ord m o) → ∀ j ∈ jointsM p E, Ord m j
  | [], p, _, _, j, hj => by cases hj
  | o :: E, p, hp, hE, j, hj => by
    rw [jointsM] at hj
    rcases List.mem_cons.mp hj with rfl | hj
    · exact jointOf_ord hp (hE o List.mem_cons_self)
    · exact jointsM_ord E o (hE o List.mem_cons_self) (fun x hx => hE x (List.mem_cons_of_mem _ hx)) j hj
theorem jointsM_eff {m l : Int} (f : Frm m l) {E : List (List Int)} (e : Eff m l E) : Eff m l (jointsM (iota m.toNat) E) :=
  ⟨by rw [jointsM_len]; exact e.len, jointsM_ord E _ (iota_ord (by have := f.m1; omega)) e.all⟩
/-- the fewest cuts -/
def fewM (m : Nat) (E : List (List Int)) : Int := ((jointsM (iota m) E).map costM).sum
def intOf : D → Int
  | .int i => i
  | _ => 0
def ordOf : D → List Int
  | .tuple xs => xs.map intOf
  | _ => []
theorem ordOf_ord (o : List Int) : ordOf (orderD o) = o := by
  show (o.map PyData.int).map intOf = o
  rw [List.map_map]
  conv => rhs; rw [← List.map_id o]
  rfl
structure HasFew (fs : Nat → Option Fn) (gl : Nat → Option D) : Prop where
  h42 : fs 42 = some F42
  h44 : fs 44 = some F44
  h84 : fs 84 = some F84
  h85 : fs 85 = some F85
theorem fewest_by_ok (h : HasFew fs gl) {m l : Int} (f : Frm m l) {E : List (List Int)} (e : Eff m l E) :
    run fs gl (n + 3) 85 [.d (frameD m l), .d (effD E)] = some ([.d (frameD m l), .d (effD E)], .d (.int (fewM m.toNat E))) := by
  have m2 := f.m2
  have l2 := f.l2
  have k1 := joints_by_ok (n := n + 1) (gl := gl) h.h84 f e
  have je := jointsM_eff f e
  have jl := je.len
  have k2 := loopC_map (vs := [2]) (tg := gT (.n 2)) (cd := gYes) (el := gd (evX (run fs gl (n + 2)) gl (.call 44 (.d (.var 2) .nil)))) (ρ := [some (.d (frameD m l)), some (.d (effD E)), none])
    (fun d => .int (costM (ordOf d))) ((jointsM (iota m.toNat) E).map orderD) [] (by rw [List.length_map]; simp; omega) (fun d hd => by
      obtain ⟨o, ho, rfl⟩ := List.mem_map.mp hd
      have k3 := cost_ok (n := n) (gl := gl) h.h42 h.h44 (je.all o ho) (by omega)
      show turnC _ _ _ _ _ _ = some (_, some (.int (costM (ordOf (orderD o)))))
      rw [ordOf_ord]
      generalize orderD o = O at k3 ⊢
      generalize effD E = ED
      generalize frameD m l = FD
      simp at k3 ⊢
      simp [k3])
  have e3 : ((jointsM (iota m.toNat) E).map orderD).map (fun d => PyData.int (costM (ordOf d))) = (jointsM (iota m.toNat) E).map fun o => PyData.int (costM o) := by
    rw [List.map_map]
    refine List.map_congr_left fun o _ => ?_
    show PyData.int (costM (ordOf (orderD o))) = _
    rw [ordOf_ord]
  rw [e3, List.nil_append] at k2
  have k4 := ints_map (jointsM (iota m.toNat) E) costM
  rw [run_step h.h85]
  unfold fewM
  unfold effD at k1 k2 ⊢
  generalize (jointsM (iota m.toNat) E).map (fun o => PyData.int (costM o)) = G at k2 k4
  generalize (jointsM (iota m.toNat) E).map costM = G2 at k4 ⊢
  generalize (jointsM (iota m.toNat) E).map orderD = JD at k1 k2
  generalize E.map orderD = ED at k1 k2 ⊢
  generalize frameD m l = FD at k1 k2 ⊢
  simp [F85] at k1 k2 ⊢
  simp [k1, k2, k4]
theorem is_short_by_ok (h : HasFew fs gl) (hd : HasDoes fs gl) (h147 : fs 147 = some F147) {m l : Int} (f : Frm m l) {cs : List CT} (r : Row m l cs) :
    run fs gl (n + 4) 147 [.d (frameD m l), .d (rowD cs)] = some ([.d (frameD m l), .d (rowD cs)], .d (.bool (decide ((cs.length : Int) = fewM m.toNat (effM m.toNat l.toNat cs))))) := by
  have k1 := effect_ok (n := n + 1) (gl := gl) hd.h34 hd.h35 hd.h143 f r
  have k2 := fewest_by_ok (n := n) h f (effM_ok f r)
  rw [run_step h147]
  generalize fewM m.toNat (effM m.toNat l.toNat cs) = k at k2 ⊢
  generalize effD (effM m.toNat l.toNat cs) = E at k1 k2
  have hl : cs.length = (cs.map cutOf).length := (List.length_map ..).symm
  rw [hl]
  unfold rowD at k1 ⊢
  generalize cs.map cutOf = C at k1 ⊢
  generalize frameD m l = FD at k1 k2 ⊢
  simp [F147, k1, k2, eqv_int, dep_int]
theorem is_short_ok (h : HasFew fs gl) (hd : HasDoes fs gl) (h147 : fs 147 = some F147) (h148 : fs 148 = some F148) {m l : Int} (f : Frm m l) {cs : List CT} (r : Row m l cs) (hl : cs.length ≤ 10000) :
    run fs gl (n + 6) 148 [.d (frameD m l), .d (rowD cs)] = some ([.d (frameD m l), .d (rowD cs)], .d (.bool (decide ((cs.length : Int) = fewM m.toNat (effM m.toNat l.toNat cs))))) := by
  have k1 := need_row_ok (n := n) hd.toHasRow f r hl
  have k2 := is_short_by_ok (n := n + 1) h hd h147 f r
  rw [run_step h148]
  generalize decide ((cs.length : Int) = fewM m.toNat (effM m.toNat l.toNat cs)) = k at k2 ⊢
  generalize rowD cs = C at k1 k2 ⊢
  generalize frameD m l = FD at k1 k2 ⊢
  simp [F148, k1, k2]
theorem joints_ok (h : HasEff fs gl) (h84 : fs 84 = some F84) (h99 : fs 99 = some F99) {m l : Int} (f : Frm m l) {E : List (List Int)} (e : Eff m l E) :
    run fs gl (n + 6) 99 [.d (frameD m l), .d (effD E)] = some ([.d (frameD m l), .d (effD E)], .d (effD (jointsM (iota m.toNat) E))) := by
  have k1 := need_effect_ok (n := n) h f e
  have k2 := joints_by_ok (n := n + 4) (gl := gl) h84 f e
  rw [run_step h99]
  generalize effD (jointsM (iota m.toNat) E) = J at k2 ⊢
  generalize effD E = ED at k1 k2 ⊢
  generalize frameD m l = FD at k1 k2 ⊢
  simp [F99, k1, k2]
theorem fewest_ok (h : HasEff fs gl) (hf : HasFew fs gl) (h100 : fs 100 = some F100) {m l : Int} (f : Frm m l) {E : List (List Int)} (e : Eff m l E) :
    run fs gl (n + 6) 100 [.d (frameD m l), .d (effD E)] = some ([.d (frameD m l), .d (effD E)], .d (.int (fewM m.toNat E))) := by
  have k1 := need_effect_ok (n := n) h f e
  have k2 := fewest_by_ok (n := n + 2) hf f e
  rw [run_step h100]
  generalize fewM m.toNat E = J at k2 ⊢
  generalize effD E = ED at k1 k2 ⊢
  generalize frameD m l = FD at k1 k2 ⊢
  simp [F100, k1, k2]
theorem undoing_ok (h : HasRow fs gl) (h83 : fs 83 = some F83) {m l : Int} (f : Frm m l) {cs : List CT} (r : Row m l cs) (hl : cs.length ≤ 10000) :
    run fs gl (n + 6) 83 [.d (frameD m l), .d (rowD cs)] = some ([.d (frameD m l), .d (rowD cs)], .d (rowD cs.reverse)) := by
  have k1 := need_row_ok (n := n) h f r hl
  rw [run_step h83]
  unfold rowD at k1 ⊢
  rw [List.map_reverse]
  generalize cs.map cutOf = C at k1 ⊢
  generalize frameD m l = FD at k1 ⊢
  simp [F83, k1]
end DL

namespace DL
open PySem PySem.Spec L2
open PyProof.Rows hiding St
/-! ### rows that come to one another by exchanges over unlike places -/
abbrev swC (v : CT) (x : Int) : Int := swp v.2.1 v.2.2 x
def srt (a b : Int) : Int × Int := if a ≤ b then (a, b) else (b, a)
theorem calledC_eq (u v : CT) : calledC u v = (u.1, srt (swC v u.2.1) (swC v u.2.2)) := rfl
theorem srt_comm (a b : Int) : srt a b = srt b a := by
  unfold srt
  split <;> split
  · have : a = b := by omega
    subst this; rfl
  · rfl
  · rfl
  · omega
theorem srt_or (a b : Int) : srt a b = (a, b) ∨ srt a b = (b, a) := by
  unfold srt
  split
  · exact .inl rfl
  · exact .inr rfl
theorem srt_map (g : Int → Int) (a b : Int) : srt (g (srt a b).1) (g (srt a b).2) = srt (g a) (g b) := by
  rcases srt_or a b with e | e
  · rw [e]
  · rw [e]
    exact srt_comm _ _
theorem swp_comm (c d x : Int) : swp c d x = swp d c x := by
  unfold swp
  split <;> split <;> omega
theorem swp_swp (c d x : Int) : swp c d (swp c d x) = x := by
  unfold swp
  split <;> split <;> (try split) <;> omega
theorem swp_inj {c d x y : Int} (h : swp c d x = swp c d y) : x = y := by
  have := congrArg (swp c d) h
  rw [swp_swp, swp_swp] at this
  exact this
theorem swp_conj (v : CT) (a b x : Int) : swp (swC v a) (swC v b) (swC v x) = swC v (swp a b x) := by
  by_cases h1 : x = a
  · subst h1
    have e : swp x b x = b := by unfold swp; rw [if_pos rfl]
    rw [e]
    unfold swp
    rw [if_pos rfl]
  · by_cases h2 : x = b
    · subst h2
      have e : swp a x x = a := by unfold swp; rw [if_neg h1, if_pos rfl]
      rw [e]
      show (if swC v x = swC v a then swC v x else if swC v x = swC v x then swC v a else swC v x) = _
      rw [if_neg fun z => h1 (swp_inj z), if_pos rfl]
    · have e : swp a b x = x := by unfold swp; rw [if_neg h1, if_neg h2]
      rw [e]
      show (if swC v x = swC v a then swC v b else if swC v x = swC v b then swC v a else swC v x) = _
      rw [if_neg fun z => h1 (swp_inj z), if_neg fun z => h2 (swp_inj z)]
theorem swC_called (u v : CT) (x : Int) : swC (calledC u v) (swC v x) = swC v (swC u x) := by
  rw [calledC_eq]
  show swp (srt (swC v u.2.1) (swC v u.2.2)).1 (srt (swC v u.2.1) (swC v u.2.2)).2 (swC v x) = _
  rcases srt_or (swC v u.2.1) (swC v u.2.2) with e | e
  · rw [e]; exact swp_conj v _ _ x
  · rw [e]
    show swp (swC v u.2.2) (swC v u.2.1) (swC v x) = _
    rw [swp_comm]
    exact swp_conj v _ _ x
theorem swp_rng {m c d x : Int} (hc : 0 ≤ c ∧ c ≤ m) (hd : 0 ≤ d ∧ d ≤ m) (hx : 0 ≤ x ∧ x ≤ m) : 0 ≤ swp c d x ∧ swp c d x ≤ m := by
  unfold swp
  split
  · exact hd
  · split
    · exact hc
    · exact hx
theorem called_cut {m l : Int} {u v : CT} (hu : Cut m l u.1 u.2.1 u.2.2) (hv : Cut m l v.1 v.2.1 v.2.2) : Cut m l (calledC u v).1 (calledC u v).2.1 (calledC u v).2.2 := by
  obtain ⟨p1, p2, a1, ab, b2⟩ := hu
  obtain ⟨q1, q2, c1, cd, d2⟩ := hv
  have r1 := swp_rng (m := m - 1) (c := v.2.1) (d := v.2.2) (x := u.2.1) ⟨c1, by omega⟩ ⟨by omega, d2⟩ ⟨a1, by omega⟩
  have r2 := swp_rng (m := m - 1) (c := v.2.1) (d := v.2.2) (x := u.2.2) ⟨c1, by omega⟩ ⟨by omega, d2⟩ ⟨by omega, b2⟩
  have ne : swC v u.2.1 ≠ swC v u.2.2 := fun z => by have := swp_inj z; omega
  rw [calledC_eq]
  unfold srt
  split
  · exact ⟨p1, p2, r1.1, by show swC v u.2.1 < swC v u.2.2; omega, r2.2⟩
  · exact ⟨p1, p2, r2.1, by show swC v u.2.2 < swC v u.2.1; omega, r1.2⟩
theorem called_called {v u : CT} (hv : v.2.1 < v.2.2) : calledC (calledC v u) u = v := by
  rw [calledC_eq (calledC v u) u, calledC_eq v u]
  show (v.1, srt (swC u (srt (swC u v.2.1) (swC u v.2.2)).1) (swC u (srt (swC u v.2.1) (swC u v.2.2)).2)) = v
  rw [srt_map (swC u)]
  show (v.1, srt (swp _ _ (swp _ _ v.2.1)) (swp _ _ (swp _ _ v.2.2))) = v
  rw [swp_swp, swp_swp]
  unfold srt
  rw [if_pos (by omega)]
/-- a ribbon called as the cuts of lesser places exchange it -/
def ren (r : List CT) (p x : Int) : Int := r.foldl (fun x d => if d.1 < p then swC d x else x) x
theorem ren_app (r s : List CT) (p x : Int) : ren (r ++ s) p x = ren s p (ren r p x) := by unfold ren; rw [List.foldl_append]
theorem ren_cons (d : CT) (r : List CT) (p x : Int) : ren (d :: r) p x = ren r p (if d.1 < p then swC d x else x) := rfl
def can : List CT → Int → (Int → Int) → List (Int × Int)
  | [], _, _ => []
  | c :: r, p, g => if c.1 = p then srt (g (ren r p c.2.1)) (g (ren r p c.2.2)) :: can r p g else can r p g
theorem can_app : ∀ (r s : List CT) (p : Int) (g : Int → Int), can (r ++ s) p g = can r p (fun x => g (ren s p x)) ++ can s p g
  | [], s, p, g => rfl
  | c :: r, s, p, g => by
    show (if c.1 = p then srt (g (ren (r ++ s) p c.2.1)) (g (ren (r ++ s) p c.2.2)) :: can (r ++ s) p g else can (r ++ s) p g) = (if c.1 = p then srt (g (ren s p (ren r p c.2.1))) (g (ren s p (ren r p c.2.2))) :: can r p _ else can r p _) ++ _
    rw [can_app r s p g, ren_app, ren_app]
    split <;> rfl
theorem ren_two {u v : CT} (h : v.1 ≤ u.1) (p x : Int) : ren [u, v] p x = ren [v, calledC u v] p x := by
  show (if v.1 < p then swC v (if u.1 < p then swC u x else x) else (if u.1 < p then swC u x else x)) = (if (calledC u v).1 < p then swC (calledC u v) (if v.1 < p then swC v x else x) else (if v.1 < p then swC v x else x))
  have e : (calledC u v).1 = u.1 := rfl
  rw [e]
  by_cases h1 : u.1 < p
  · rw [if_pos h1, if_pos h1, if_pos (by omega), if_pos (by omega), swC_called]
  · rw [if_neg h1, if_neg h1]
theorem can_two {u v : CT} (h : v.1 < u.1) (p : Int) (g : Int → Int) : can [u, v] p g = can [v, calledC u v] p g := by
  show (if u.1 = p then srt (g (ren [v] p u.2.1)) (g (ren [v] p u.2.2)) :: (if v.1 = p then srt (g v.2.1) (g v.2.2) :: [] else []) else (if v.1 = p then srt (g v.2.1) (g v.2.2) :: [] else [])) =
    (if v.1 = p then srt (g (ren [calledC u v] p v.2.1)) (g (ren [calledC u v] p v.2.2)) :: (if (calledC u v).1 = p then srt (g (calledC u v).2.1) (g (calledC u v).2.2) :: [] else []) else (if (calledC u v).1 = p then srt (g (calledC u v).2.1) (g (calledC u v).2.2) :: [] else []))
  have e : (calledC u v).1 = u.1 := rfl
  rw [e]
  by_cases h1 : u.1 = p
  · have h2 : ¬ v.1 = p := by omega
    have r1 : ∀ x, ren [v] p x = swC v x := fun x => by
      show (if v.1 < p then swC v x else x) = _
      rw [if_pos (by omega)]
    rw [if_pos h1, if_neg h2, if_neg h2, if_pos h1, r1, r1, calledC_eq]
    rw [← srt_map g (swC v u.2.1) (swC v u.2.2)]
  · rw [if_neg h1, if_neg h1]
    by_cases h2 : v.1 = p
    · have r1 : ∀ x, ren [calledC u v] p x = x := fun x => by
        show (if u.1 < p then _ else x) = _
        rw [if_neg (by omega)]
      rw [if_pos h2, if_pos h2, r1, r1]
    · rw [if_neg h2, if_neg h2]
/-! ### the effect stays -/
theorem effStep_at (E : List (List Int)) (c : CT) (q : Nat) : (effStep E c)[q]? = (E[q]?).map fun o => if q < c.1.toNat then o else with2 o c.2.1.toNat c.2.2.toNat := by
  unfold effStep
  by_cases h : q < c.1.toNat
  · by_cases h2 : q < E.length
    · rw [List.getElem?_append_left (by rw [List.length_take]; omega), List.getElem?_take, if_pos h]
      simp [h]
    · have e : E[q]? = none := List.getElem?_eq_none (by omega)
      rw [e, List.getElem?_append_right (by rw [List.length_take]; omega), List.getElem?_map, List.getElem?_drop, List.length_take, List.getElem?_eq_none (by omega)]
      rfl
  · rw [List.getElem?_append_right (by rw [List.length_take]; omega), List.getElem?_map, List.getElem?_drop, List.length_take]
    by_cases h2 : q < E.length
    · rw [show c.1.toNat + (q - min c.1.toNat E.length) = q by omega]
      simp [h]
    · rw [List.getElem?_eq_none (by omega), List.getElem?_eq_none (by omega)]
      rfl
theorem swN_swp {a b x : Int} (ha : 0 ≤ a) (hb : 0 ≤ b) (hx : 0 ≤ x) : swN a.toNat b.toNat x.toNat = (swp a b x).toNat := by
  unfold swN swp
  by_cases h1 : x = a
  · have : x.toNat = a.toNat := by omega
    rw [if_pos h1, if_pos this]
  · have n1 : ¬ x.toNat = a.toNat := by omega
    rw [if_neg h1, if_neg n1]
    by_cases h2 : x = b
    · have : x.toNat = b.toNat := by omega
      rw [if_pos h2, if_pos this]
    · have n2 : ¬ x.toNat = b.toNat := by omega
      rw [if_neg h2, if_neg n2]
theorem with2_swap {m : Int} {o : List Int} (ho : Ord m o) {u v : CT} {l : Int} (hu : Cut m l u.1 u.2.1 u.2.2) (hv : Cut m l v.1 v.2.1 v.2.2) :
    with2 (with2 o u.2.1.toNat u.2.2.toNat) v.2.1.toNat v.2.2.toNat = with2 (with2 o v.2.1.toNat v.2.2.toNat) (calledC u v).2.1.toNat (calledC u v).2.2.toNat := by
  have hw := called_cut hu hv
  obtain ⟨p1, p2, a1, ab, b2⟩ := hu
  obtain ⟨q1, q2, c1, cd, d2⟩ := hv
  obtain ⟨_, _, e1, ef, f2⟩ := hw
  have lo := ho.len
  refine List.ext_getElem (by rw [with2_len, with2_len, with2_len, with2_len]) fun i h1 h2 => ?_
  rw [with2_len, with2_len] at h1
  have g : ∀ (xs : List Int) (h : i < xs.length), xs[i] = xs.getD i 0 := fun xs h => by simp [List.getD, h]
  rw [g, g, with2_at (by rw [with2_len]; omega) (by rw [with2_len]; omega) (by omega), with2_at (by omega) (by omega) (by omega), with2_at (by rw [with2_len]; omega) (by rw [with2_len]; omega) (by omega), with2_at (by omega) (by omega) (by omega)]
  have ei : i = ((i : Int)).toNat := by omega
  rw [ei, swN_swp (by omega) (by omega) (by omega)]
  have r1 := swp_rng (m := m - 1) (c := v.2.1) (d := v.2.2) (x := (i : Int)) ⟨by omega, by omega⟩ ⟨by omega, by omega⟩ ⟨by omega, by omega⟩
  have r2 := swp_rng (m := m - 1) (c := (calledC u v).2.1) (d := (calledC u v).2.2) (x := (i : Int)) ⟨by omega, by omega⟩ ⟨by omega, by omega⟩ ⟨by omega, by omega⟩
  rw [swN_swp (by omega) (by omega) r1.1, swN_swp (by omega) (by omega) (by omega), swN_swp (by omega) (by omega) r2.1]
  congr 2
  -- swC u (swC v i) = swC v (swC (u called v) i)
  have k := swC_called u v (swC v (i : Int))
  have k2 : swC v (swC (calledC u v) (i : Int)) = swC v (swC (calledC u v) (swC v (swC v (i : Int)))) := by
    rw [show swC v (swC v (i : Int)) = (i : Int) from swp_swp _ _ _]
  show swC u (swC v (i : Int)) = swC v (swC (calledC u v) (i : Int))
  rw [k2, k]
  exact (swp_swp _ _ _).symm
theorem eff_two {m l : Int} {E : List (List Int)} (e : Eff m l E) {u v : CT} (hu : Cut m l u.1 u.2.1 u.2.2) (hv : Cut m l v.1 v.2.1 v.2.2) (h : v.1 ≤ u.1) : [u, v].foldl effStep E = [v, calledC u v].foldl effStep E := by
  show effStep (effStep E u) v = effStep (effStep E v) (calledC u v)
  refine List.ext_getElem? fun q => ?_
  rw [effStep_at, effStep_at, effStep_at, effStep_at]
  cases hq : E[q]? with
  | none => rfl
  | some o =>
    have ho := e.all o (List.mem_of_getElem? hq)
    have p1 := hu.p1
    have q1 := hv.p1
    show some (if q < v.1.toNat then (if q < u.1.toNat then o else _) else with2 (if q < u.1.toNat then o else _) _ _) = some (if q < u.1.toNat then (if q < v.1.toNat then o else _) else with2 (if q < v.1.toNat then o else _) _ _)
    by_cases h1 : q < v.1.toNat
    · rw [if_pos h1, if_pos (by omega), if_pos (by omega), if_pos h1]
    · rw [if_neg h1, if_neg h1]
      by_cases h2 : q < u.1.toNat
      · rw [if_pos h2, if_pos h2]
      · rw [if_neg h2, if_neg h2, with2_swap ho hu hv]
/-- rows of one frame that are the same up to exchanges over unlike places -/
structure Rq (m l : Int) (r s : List CT) : Prop where
  r1 : Row m l r
  r2 : Row m l s
  cn : ∀ p g, can r p g = can s p g
  rn : ∀ p x, ren r p x = ren s p x
  len : r.length = s.length
  pl : (r.map (·.1)).Perm (s.map (·.1))
  ef : ∀ E, Eff m l E → r.foldl effStep E = s.foldl effStep E
theorem Rq.refl {m l : Int} {r : List CT} (h : Row m l r) : Rq m l r r := ⟨h, h, fun _ _ => rfl, fun _ _ => rfl, rfl, .refl _, fun _ _ => rfl⟩
theorem Rq.symm {m l : Int} {r s : List CT} (h : Rq m l r s) : Rq m l s r := ⟨h.r2, h.r1, fun p g => (h.cn p g).symm, fun p x => (h.rn p x).symm, h.len.symm, h.pl.symm, fun E e => (h.ef E e).symm⟩
theorem Rq.trans {m l : Int} {r s t : List CT} (h : Rq m l r s) (k : Rq m l s t) : Rq m l r t :=
  ⟨h.r1, k.r2, fun p g => (h.cn p g).trans (k.cn p g), fun p x => (h.rn p x).trans (k.rn p x), h.len.trans k.len, h.pl.trans k.pl, fun E e => (h.ef E e).trans (k.ef E e)⟩
theorem Row.app {m l : Int} {r s : List CT} (h : Row m l r) (k : Row m l s) : Row m l (r ++ s) := fun c hc => (List.mem_append.mp hc).elim (h c) (k c)
theorem Rq.app {m l : Int} {r r' s s' : List CT} (h : Rq m l r r') (k : Rq m l s s') : Rq m l (r ++ s) (r' ++ s') := by
  refine ⟨h.r1.app k.r1, h.r2.app k.r2, fun p g => ?_, fun p x => ?_, by rw [List.length_append, List.length_append, h.len, k.len], ?_, fun E e => ?_⟩
  · rw [can_app, can_app, k.cn p g, h.cn p]
    congr 2
    funext x
    rw [k.rn]
  · rw [ren_app, ren_app, h.rn, k.rn]
  · rw [List.map_append, List.map_append]
    exact h.pl.append k.pl
  · rw [List.foldl_append, List.foldl_append, h.ef E e]
    exact k.ef _ (Eff.fold r' E e h.r2)
theorem Rq.two {m l : Int} {u v : CT} (hu : Cut m l u.1 u.2.1 u.2.2) (hv : Cut m l v.1 v.2.1 v.2.2) (h : v.1 < u.1) : Rq m l [u, v] [v, calledC u v] := by
  refine ⟨fun c hc => ?_, fun c hc => ?_, can_two h, ren_two (by omega), rfl, List.Perm.swap _ _ _, fun E e => eff_two e hu hv (by omega)⟩
  · simp only [List.mem_cons, List.not_mem_nil, or_false] at hc
    rcases hc with rfl | rfl
    · exact hu
    · exact hv
  · simp only [List.mem_cons, List.not_mem_nil, or_false] at hc
    rcases hc with rfl | rfl
    · exact hv
    · exact called_cut hu hv
theorem Rq.exch {m l : Int} {ys zs : List CT} {u v : CT} (r : Row m l (ys ++ u :: v :: zs)) (h : u.1 ≠ v.1) : Rq m l (ys ++ u :: v :: zs) (DL.exch ys u v zs) := by
  have hu := r u (by simp)
  have hv := r v (by simp)
  have ry : Row m l ys := fun c hc => r c (by simp [hc])
  have rz : Row m l zs := fun c hc => r c (by simp [hc])
  have k : Rq m l [u, v] (if u.1 < v.1 then [calledC v u, u] else [v, calledC u v]) := by
    split
    · rename_i h1
      have k := Rq.two (called_cut hv hu) hu (show u.1 < (calledC v u).1 from h1)
      rw [called_called hv.ab] at k
      exact k.symm
    · exact Rq.two hu hv (by omega)
  exact (Rq.refl ry).app (k.app (Rq.refl rz))
/-! ### rising rows are told by their cuts of each place -/
abbrev Up (s : List CT) : Prop := s.Pairwise fun a b => a.1 ≤ b.1
theorem ren_id {p : Int} : ∀ {r : List CT}, (∀ d ∈ r, p ≤ d.1) → ∀ x, ren r p x = x
  | [], _, x => rfl
  | d :: r, h, x => by
    rw [ren_cons, if_neg (by have := h d List.mem_cons_self; omega)]
    exact ren_id (fun e he => h e (List.mem_cons_of_mem _ he)) x
theorem can_up {m l : Int} : ∀ {s : List CT}, Up s → Row m l s → ∀ p, can s p id = (s.filter fun c => decide (c.1 = p)).map fun c => c.2
  | [], _, _, p => rfl
  | c :: s, h, r, p => by
    obtain ⟨h1, h2⟩ := List.pairwise_cons.mp h
    have ih := can_up h2 (fun d hd => r d (List.mem_cons_of_mem _ hd)) p
    show (if c.1 = p then srt (ren s p c.2.1) (ren s p c.2.2) :: can s p id else can s p id) = _
    rw [ih]
    by_cases hp : c.1 = p
    · have rn := ren_id (p := p) (r := s) fun d hd => by have := h1 d hd; omega
      have ab := (r c List.mem_cons_self).ab
      rw [if_pos hp, rn, rn, List.filter_cons_of_pos (by simpa using hp), List.map_cons]
      congr 1
      unfold srt
      rw [if_pos (by omega)]
    · rw [if_neg hp, List.filter_cons_of_neg (by simpa using hp)]
theorem up_one : ∀ {s t : List CT}, Up s → Up t → (∀ p, (s.filter fun c => decide (c.1 = p)).map (fun c => c.2) = (t.filter fun c => decide (c.1 = p)).map fun c => c.2) → s = t
  | [], [], _, _, _ => rfl
  | [], b :: t, _, _, h => by
    have := h b.1
    simp at this
  | a :: s, [], _, _, h => by
    have := h a.1
    simp at this
  | a :: s, b :: t, hs, ht, h => by
    obtain ⟨s1, s2⟩ := List.pairwise_cons.mp hs
    obtain ⟨t1, t2⟩ := List.pairwise_cons.mp ht
    have key : ∀ (x : CT) (r : List CT) (p : Int), (∀ d ∈ r, x.1 ≤ d.1) → p < x.1 → ((x :: r).filter fun c => decide (c.1 = p)) = [] := fun x r p hr hp => by
      rw [List.filter_eq_nil_iff]
      intro d hd
      rcases List.mem_cons.mp hd with rfl | hd
      · simp; omega
      · have := hr d hd
        simp; omega
    have e1 : a.1 = b.1 := by
      rcases Int.lt_trichotomy a.1 b.1 with z | z | z
      · have := h a.1
        rw [key b t a.1 t1 z] at this
        simp at this
      · exact z
      · have := h b.1
        rw [key a s b.1 s1 z] at this
        simp at this
    have hh := h a.1
    rw [List.filter_cons_of_pos (by simp), List.filter_cons_of_pos (by simpa using e1.symm), List.map_cons, List.map_cons] at hh
    injection hh with e2 e3
    have e : a = b := Prod.ext e1 e2
    subst e
    congr 1
    refine up_one s2 t2 fun p => ?_
    by_cases hp : a.1 = p
    · subst hp; exact e3
    · have := h p
      rw [List.filter_cons_of_neg (by simpa using hp), List.filter_cons_of_neg (by simpa using hp)] at this
      exact this
theorem Rq.one {m l : Int} {s t : List CT} (h : Rq m l s t) (hs : Up s) (ht : Up t) : s = t := up_one hs ht fun p => by rw [← can_up hs h.r1, ← can_up ht h.r2]; exact h.cn p id
end DL

namespace DL
open PySem PySem.Spec L2
open PyProof.Rows hiding St
variable {fs : Nat → Option Fn} {gl : Nat → Option D} {n : Nat}
/-- rising_by -/
def F38 : Fn := ⟨1, [], 4, (.cons (.set 1 true (.lst .nil))
 (.cons (.for (.rg2 (.cst (.int 1)) (.blt .len (.cons (.var 0) .nil))) (.n 2) (.cons (.set 3 false (.bin .Sub (.var 2) (.cst (.int 1))))
 (.cons (.whl 1000000 (.and (.cmp .GtE (.var 3) (.cst (.int 0))) (.cmp .Gt (.idx (.idx (.var 0) (.var 3)) (.cst (.int 0))) (.idx (.idx (.var 0) (.bin .Add (.var 3) (.cst (.int 1)))) (.cst (.int 0))))) (.cons (.set 0 false (.call 9 (.d (.var 0) (.d (.var 3) .nil))))
 (.cons (.expr (.app 1 (.var 3)))
 (.cons (.set 3 false (.bin .Sub (.var 3) (.cst (.int 1))))
 .nil))))
 .nil)))
 (.cons (.ret (.tup (.cons (.var 0) (.cons (.tupV 1) .nil))))
 .nil)))⟩
/-- rising -/
def F39 : Fn := ⟨2, [], 2, (.cons (.expr (.call 7 (.d (.var 0) (.d (.var 1) .nil))))
 (.cons (.ret (.idx (.call 38 (.d (.var 1) .nil)) (.cst (.int 0))))
 .nil))⟩
def upC : E := .and (.cmp .GtE (.var 3) (.cst (.int 0))) (.cmp .Gt (.idx (.idx (.var 0) (.var 3)) (.cst (.int 0))) (.idx (.idx (.var 0) (.bin .Add (.var 3) (.cst (.int 1)))) (.cst (.int 0))))
def upB : Ss := (((F38.body.nth 1).inner).nth 1).inner
theorem up_cond {RD : List D} {i p q a b c d : Int} (h0 : 0 ≤ i) (c1 : atD RD i = some (cutT p a b)) (c2 : atD RD (i + 1) = some (cutT q c d)) {v1 v2 : Option Sl} :
    evB (run fs gl n) gl upC [some (.d (.tuple RD)), v1, v2, some (.d (.int i))] = some ([some (.d (.tuple RD)), v1, v2, some (.d (.int i))], decide (p > q)) := by
  unfold cutT at c1 c2
  have a0 : ∀ x y z : D, atD [x, y, z] 0 = some x := fun _ _ _ => rfl
  simp [upC, h0, c1, c2, a0]
theorem up_cond0 {X : D} {v1 v2 : Option Sl} {i : Int} (h : i < 0) : evB (run fs gl n) gl upC [some (.d X), v1, v2, some (.d (.int i))] = some ([some (.d X), v1, v2, some (.d (.int i))], false) := by
  have h0 : ¬ 0 ≤ i := by omega
  simp [upC, h, h0]
theorem up_body {X Y : D} {nums : List D} {i : Int} (k9 : run fs gl n 9 [.d X, .d (.int i)] = some ([.d X, .d (.int i)], .d Y)) (hn : nums.length ≤ 100000) {v2 : Option Sl} :
    evSs (run fs gl n) gl upB [some (.d X), some (.l nums), v2, some (.d (.int i))] = some ([some (.d Y), some (.l (nums ++ [.int i])), v2, some (.d (.int (i - 1)))], .nx) := by
  have hl : nums.length < 16777216 := by omega
  simp [upB, F38, k9, hl]
theorem at_row {L R : List CT} {c : CT} : atD ((L ++ c :: R).map cutOf) (L.length : Int) = some (cutT c.1 c.2.1 c.2.2) := by
  have hl : ((L ++ c :: R).map cutOf).length = L.length + (R.length + 1) := by simp
  unfold atD ixD
  rw [hl, if_pos (by omega), if_pos (by omega)]
  show ((L ++ c :: R).map cutOf)[((L.length : Int)).toNat]? = _
  rw [Int.toNat_natCast]
  simp [cutOf]
theorem ins_loop (h : HasExch fs gl) {m l : Int} : ∀ (k : Nat) (L : List CT), L.length = k → ∀ (x : CT) (R Z : List CT) (nums : List D) (v2 : Option Sl) (fuel : Nat), Row m l (L ++ x :: (R ++ Z)) → (L ++ x :: (R ++ Z)).length ≤ 10000 → nums.length + k ≤ 100000 → Up (L ++ R) → (∀ d ∈ R, x.1 ≤ d.1) → k < fuel →
    ∃ (T : List CT) (nums' : List D) (at' : Int), whileF (evB (run fs gl (n + 2)) gl upC) (evSs (run fs gl (n + 2)) gl upB) fuel [some (.d (rowD (L ++ x :: (R ++ Z)))), some (.l nums), v2, some (.d (.int ((k : Int) - 1)))] =
      some ([some (.d (rowD (T ++ Z))), some (.l nums'), v2, some (.d (.int at'))], .nx) ∧ Up T ∧ Rq m l (L ++ x :: (R ++ Z)) (T ++ Z) ∧ T.length = L.length + 1 + R.length ∧ nums'.length ≤ nums.length + k := by
  intro k
  induction k with
  | zero =>
    intro L hL x R Z nums v2 fuel r hl hn hu hx hf
    have : L = [] := List.eq_nil_of_length_eq_zero hL
    subst this
    cases fuel with
    | zero => omega
    | succ fuel =>
      refine ⟨x :: R, nums, _, whileF_stop (up_cond0 (by omega)), List.pairwise_cons.mpr ⟨hx, hu⟩, Rq.refl r, by simp; omega, by omega⟩
  | succ k ih =>
    intro L hL x R Z nums v2 fuel r hl hn hu hx hf
    cases fuel with
    | zero => omega
    | succ fuel =>
      obtain ⟨L', w, rfl⟩ : ∃ L' w, L = L' ++ [w] := ⟨L.dropLast, L.getLast (by intro z; rw [z] at hL; cases hL), (List.dropLast_concat_getLast _).symm⟩
      have hk : L'.length = k := by rw [List.length_append] at hL; exact Nat.succ.inj hL
      subst hk
      have e1 : L' ++ [w] ++ x :: (R ++ Z) = L' ++ w :: x :: (R ++ Z) := by simp
      rw [e1] at r hl ⊢
      have ei : (((L'.length + 1 : Nat) : Int) - 1) = (L'.length : Int) := by omega
      rw [ei]
      have c1 : atD ((L' ++ w :: x :: (R ++ Z)).map cutOf) (L'.length : Int) = some (cutT w.1 w.2.1 w.2.2) := at_row
      have c2 : atD ((L' ++ w :: x :: (R ++ Z)).map cutOf) ((L'.length : Int) + 1) = some (cutT x.1 x.2.1 x.2.2) := by
        have := at_row (L := L' ++ [w]) (c := x) (R := R ++ Z)
        rw [e1, List.length_append] at this
        exact this
      have cond := up_cond (fs := fs) (gl := gl) (n := n + 2) (by omega) c1 c2 (v1 := some (.l nums)) (v2 := v2)
      have hu2 : Up (L' ++ w :: R) := by
        have : L' ++ [w] ++ R = L' ++ w :: R := by simp
        rw [this] at hu
        exact hu
      by_cases hp : w.1 > x.1
      · rw [decide_eq_true hp] at cond
        have k9 := exchanged_by_ok (n := n) h r hl
        have ex : exch L' w x (R ++ Z) = L' ++ x :: ((calledC w x :: R) ++ Z) := by
          unfold exch
          rw [if_neg (by omega)]
          simp
        rw [ex] at k9
        have rq := Rq.exch r (by omega)
        rw [ex] at rq
        obtain ⟨T, nums', at', w1, uT, rT, lT, nT⟩ := ih L' rfl x (calledC w x :: R) Z (nums ++ [.int (L'.length : Int)]) v2 fuel rq.r2 (by rw [← rq.len]; exact hl) (by rw [List.length_append]; show nums.length + 1 + _ ≤ _; omega)
          (by
            have cw : (calledC w x).1 = w.1 := rfl
            rw [Up, List.pairwise_append] at hu2 ⊢
            obtain ⟨a1, a2, a3⟩ := hu2
            obtain ⟨b1, b2⟩ := List.pairwise_cons.mp a2
            refine ⟨a1, List.pairwise_cons.mpr ⟨fun d hd => by rw [cw]; exact b1 d hd, b2⟩, fun a ha d hd => ?_⟩
            rcases List.mem_cons.mp hd with rfl | hd
            · rw [cw]; exact a3 a ha w List.mem_cons_self
            · exact a3 a ha d (List.mem_cons_of_mem _ hd))
          (fun d hd => by
            rcases List.mem_cons.mp hd with rfl | hd
            · show x.1 ≤ w.1; omega
            · exact hx d hd) (by omega)
        refine ⟨T, nums', at', ?_, uT, rq.trans rT, ?_, ?_⟩
        · rw [← w1]
          exact whileF_step cond (up_body k9 (by omega))
        · rw [lT, List.length_append, List.length_cons]; show _ = L'.length + 1 + 1 + R.length; omega
        · rw [List.length_append] at nT
          have : nums'.length ≤ nums.length + 1 + L'.length := nT
          omega
      · rw [decide_eq_false hp] at cond
        have e2 : L' ++ w :: x :: (R ++ Z) = (L' ++ w :: x :: R) ++ Z := by simp
        refine ⟨L' ++ w :: x :: R, nums, (L'.length : Int), ?_, ?_, ?_, ?_, by omega⟩
        · rw [← e2]
          exact whileF_stop cond
        · rw [Up, List.pairwise_append] at hu2 ⊢
          obtain ⟨a1, a2, a3⟩ := hu2
          obtain ⟨b1, b2⟩ := List.pairwise_cons.mp a2
          refine ⟨a1, List.pairwise_cons.mpr ⟨fun d hd => ?_, List.pairwise_cons.mpr ⟨hx, b2⟩⟩, fun a ha d hd => ?_⟩
          · rcases List.mem_cons.mp hd with rfl | hd
            · omega
            · exact b1 d hd
          · rcases List.mem_cons.mp hd with rfl | hd
            · exact a3 a ha d List.mem_cons_self
            · rcases List.mem_cons.mp hd with rfl | hd
              · have := a3 a ha w List.mem_cons_self
                omega
              · exact a3 a ha d (List.mem_cons_of_mem _ hd)
        · rw [← e2]
          exact Rq.refl r
        · rw [List.length_append, List.length_append, List.length_cons, List.length_cons]; show _ = L'.length + 1 + 1 + R.length; omega
theorem rise_turn (h : HasExch fs gl) {m l : Int} {T Z : List CT} {x : CT} (r : Row m l (T ++ x :: Z)) (hl : (T ++ x :: Z).length ≤ 10000) (hu : Up T) {nums : List D} (hn : nums.length + T.length ≤ 100000) {v2 v3 : Option Sl} :
    ∃ T' nums' at', turnF (gT (.n 2)) (evSs (run fs gl (n + 2)) gl (F38.body.nth 1).inner) (.int (T.length : Int)) [some (.d (rowD (T ++ x :: Z))), some (.l nums), v2, v3] =
      some ([some (.d (rowD (T' ++ Z))), some (.l nums'), some (.d (.int (T.length : Int))), some (.d (.int at'))], .nx) ∧ Up T' ∧ Rq m l (T ++ x :: Z) (T' ++ Z) ∧ T'.length = T.length + 1 ∧ nums'.length ≤ nums.length + T.length := by
  obtain ⟨T', nums', at', w, uT, rT, lT, nT⟩ := ins_loop (n := n) h (m := m) (l := l) T.length T rfl x [] Z nums (some (.d (.int (T.length : Int)))) 1000000 r hl hn (by simpa using hu) (fun d hd => by cases hd) (by omega)
  refine ⟨T', nums', at', ?_, uT, rT, by rw [lT]; rfl, nT⟩
  have s0 : evS (run fs gl (n + 2)) gl (((F38.body.nth 1).inner).nth 0) [some (.d (rowD (T ++ x :: Z))), some (.l nums), some (.d (.int (T.length : Int))), v3] = some ([some (.d (rowD (T ++ x :: Z))), some (.l nums), some (.d (.int (T.length : Int))), some (.d (.int ((T.length : Int) - 1)))], .nx) := by
    generalize rowD (T ++ x :: Z) = X
    simp [F38, Ss.nth]
  exact (evSs_nx s0).trans ((evSs_nx (a := ((F38.body.nth 1).inner).nth 1) w).trans rfl)
theorem rising_by_ok (h : HasExch fs gl) (h38 : fs 38 = some F38) {m l : Int} {cs : List CT} (r : Row m l cs) (hl : cs.length ≤ 100) :
    ∃ T nums, run fs gl (n + 3) 38 [.d (rowD cs)] = some ([.d (rowD cs)], .d (.tuple [rowD T, .tuple nums])) ∧ Up T ∧ Rq m l cs T := by
  have s0 : evS (run fs gl (n + 2)) gl (F38.body.nth 0) [some (.d (rowD cs)), none, none, none] = some ([some (.d (rowD cs)), some (.l []), none, none], .nx) := by
    generalize rowD cs = X
    simp [F38, Ss.nth]
  have hrg := rng2_of (a := 1) (b := (cs.length : Int)) (by decide) (by decide) (by omega) (by omega)
  have loop : ∃ ρ', loopF (gT (.n 2)) (evSs (run fs gl (n + 2)) gl (F38.body.nth 1).inner) (rngD 1 ((cs.length : Int) - 1).toNat) [some (.d (rowD cs)), some (.l []), none, none] = some (ρ', .nx) ∧
      ∃ T nums v2 v3, ρ' = [some (.d (rowD T)), some (.l nums), v2, v3] ∧ Up T ∧ Rq m l cs T := by
    by_cases hc : cs = []
    · subst hc
      exact ⟨_, rfl, [], [], _, _, rfl, List.Pairwise.nil, Rq.refl r⟩
    · have hpos : 0 < cs.length := List.length_pos_iff.mpr hc
      obtain ⟨ρ', el, k, T, Z, nums, v2, v3, ex, rfl, hu, rq, hk, hn, hz⟩ := loopF_inv (tg := gT (.n 2)) (body := evSs (run fs gl (n + 2)) gl (F38.body.nth 1).inner)
        (fun xs ρ => ∃ (k : Nat) (T Z : List CT) (nums : List D) (v2 v3 : Option Sl), xs = (rngD 1 ((cs.length : Int) - 1).toNat).drop k ∧ ρ = [some (.d (rowD (T ++ Z))), some (.l nums), v2, v3] ∧ Up T ∧ Rq m l cs (T ++ Z) ∧ T.length = k + 1 ∧ nums.length ≤ 200 * k ∧ T.length + Z.length = cs.length)
        (fun d xs ρ ⟨k, T, Z, nums, v2, v3, ex, eρ, hu, rq, hk, hn, hz⟩ => by
          subst eρ
          have hk2 : k < ((cs.length : Int) - 1).toNat := by
            apply Nat.lt_of_not_le
            intro z
            rw [List.drop_eq_nil_of_le (by rw [rngD_length]; exact z)] at ex
            cases ex
          rw [rngD_drop hk2] at ex
          injection ex with e1 e2
          subst e1 e2
          cases Z with
          | nil => simp at hz; omega
          | cons x Z =>
            have ek : ((1 : Int) + (k : Int)) = (T.length : Int) := by omega
            rw [ek]
            obtain ⟨T', nums', at', t, uT, rT, lT, nT⟩ := rise_turn (n := n) h rq.r2 (by rw [← rq.len]; omega) hu (nums := nums) (by omega) (v2 := v2) (v3 := v3)
            rw [List.length_cons] at hz
            exact ⟨_, t, k + 1, T', Z, nums', _, _, rfl, rfl, uT, rq.trans rT, by omega, by omega, by omega⟩)
        (rngD 1 ((cs.length : Int) - 1).toNat) [some (.d (rowD cs)), some (.l []), none, none]
        (by
          cases cs with
          | nil => exact (hc rfl).elim
          | cons c cs => exact ⟨0, [c], cs, [], _, _, rfl, rfl, List.pairwise_singleton _ _, Rq.refl r, rfl, Nat.le_refl _, by simp; omega⟩)
      have hk3 : ((cs.length : Int) - 1).toNat ≤ k := by
        apply Nat.le_of_not_lt
        intro z
        rw [rngD_drop z] at ex
        cases ex
      have : Z = [] := List.eq_nil_of_length_eq_zero (by omega)
      subst this
      rw [List.append_nil] at el rq
      exact ⟨_, el, T, nums, _, _, rfl, hu, rq⟩
  obtain ⟨ρ', el, T, nums, v2, v3, rfl, hu, rq⟩ := loop
  refine ⟨T, nums, ?_, hu, rq⟩
  have s1 : evS (run fs gl (n + 2)) gl (F38.body.nth 1) [some (.d (rowD cs)), some (.l []), none, none] = some ([some (.d (rowD T)), some (.l nums), v2, v3], .nx) := by
    refine for_eq (rg2_eq (a := .cst (.int 1)) (b := .blt .len (.cons (.var 0) .nil)) (ρ1 := [some (.d (rowD cs)), some (.l []), none, none]) (ρ2 := [some (.d (rowD cs)), some (.l []), none, none]) (d := .int 1) (f := .int (cs.length : Int)) (by simp) ?_ hrg) el
    simp [rowD]
  have z2 : (2 : Nat) ≤ sizeLine := by rw [sizeLine_eq]; decide
  have s2 : evS (run fs gl (n + 2)) gl (F38.body.nth 2) [some (.d (rowD T)), some (.l nums), v2, v3] = some ([some (.d (rowD T)), some (.l nums), v2, v3], .rt (.d (.tuple [rowD T, .tuple nums]))) := by
    generalize rowD T = X
    simp [F38, Ss.nth, z2]
  exact run_of h38 rfl ((evSs_nx s0).trans ((evSs_nx s1).trans (evSs_rt s2))) rfl
theorem rising_ok (h : HasExch fs gl) (h38 : fs 38 = some F38) (h39 : fs 39 = some F39) {m l : Int} (f : Frm m l) {cs : List CT} (r : Row m l cs) (hl : cs.length ≤ 100) :
    ∃ T, run fs gl (n + 6) 39 [.d (frameD m l), .d (rowD cs)] = some ([.d (frameD m l), .d (rowD cs)], .d (rowD T)) ∧ Up T ∧ Rq m l cs T := by
  obtain ⟨T, nums, k1, hu, rq⟩ := rising_by_ok (n := n + 2) h h38 r hl
  refine ⟨T, ?_, hu, rq⟩
  have k2 := need_row_ok (n := n) h.toHasRow f r (by omega)
  have a0 : ∀ x y : D, atD [x, y] 0 = some x := fun _ _ => rfl
  rw [run_step h39]
  generalize rowD cs = C at k1 k2 ⊢
  generalize rowD T = TD at k1 ⊢
  generalize frameD m l = FD at k2 ⊢
  simp [F39, k1, k2, a0]
/-! ### parts: none where the effects are one -/
theorem parts_inner {m l : Int} (f : Frm m l) {E : List (List Int)} (e : Eff m l E) {q : Nat} (hq : q < E.length) {v0 v1 v2 v6 : Option Sl} :
    loopF (gT (.n 6)) (evSs (run fs gl n) gl (((F145.body.nth 1).inner).nth 0).inner) (rngD 0 m.toNat) [v0, v1, v2, some (.d (effD E)), some (.d (effD E)), some (.d (.int q)), v6] = some ([v0, v1, v2, some (.d (effD E)), some (.d (effD E)), some (.d (.int q)), some (.d (.int (m - 1)))], .nx) := by
  have m1 := f.m1
  have o := e.all _ (List.getElem_mem hq)
  have lo := o.len
  have at1 : atD (E.map orderD) (q : Int) = some (orderD E[q]) := by simp [atD, ixD, hq]
  obtain ⟨ρ', el, k, v, ex, rfl, hk, hv⟩ := loopF_inv (tg := gT (.n 6)) (body := evSs (run fs gl n) gl (((F145.body.nth 1).inner).nth 0).inner)
    (fun xs ρ => ∃ (k : Nat) (v : Option Sl), xs = (rngD 0 m.toNat).drop k ∧ ρ = [v0, v1, v2, some (.d (effD E)), some (.d (effD E)), some (.d (.int q)), v] ∧ k ≤ m.toNat ∧ (0 < k → v = some (.d (.int ((k : Int) - 1)))))
    (fun d xs ρ ⟨k, v, ex, eρ, hk, hv⟩ => by
      subst eρ
      have hk2 : k < m.toNat := by
        apply Nat.lt_of_not_le
        intro z
        rw [List.drop_eq_nil_of_le (by rw [rngD_length]; exact z)] at ex
        cases ex
      rw [rngD_drop hk2] at ex
      injection ex with e1 e2
      subst e1 e2
      have hk3 : k < E[q].length := by omega
      have at2 : atD (E[q].map PyData.int) ((0 : Int) + k) = some (.int E[q][k]) := by
        rw [show (0 : Int) + (k : Int) = (k : Int) by omega]
        simp [atD, ixD, hk3]
      refine ⟨[v0, v1, v2, some (.d (effD E)), some (.d (effD E)), some (.d (.int q)), some (.d (.int ((0 : Int) + k)))], ?_, k + 1, _, rfl, rfl, hk2, fun _ => by congr 3; omega⟩
      unfold orderD at at1
      generalize E[q][k] = y at at2
      generalize E[q].map PyData.int = O at at1 at2
      unfold effD
      have hd : (E.map fun o => PyData.tuple (o.map PyData.int)) = E.map orderD := rfl
      rw [← hd]
      generalize (E.map fun o => PyData.tuple (o.map PyData.int)) = ED at at1 ⊢
      generalize ((0 : Int) + (k : Int)) = z at at2 ⊢
      simp [F145, Ss.nth, at1, at2, eqv_int, dep_int])
    (rngD 0 m.toNat) [v0, v1, v2, some (.d (effD E)), some (.d (effD E)), some (.d (.int q)), v6] ⟨0, _, rfl, rfl, Nat.zero_le _, fun z => by omega⟩
  have hk4 : k = m.toNat := by
    apply Nat.le_antisymm hk
    apply Nat.le_of_not_lt
    intro z
    rw [rngD_drop z] at ex
    cases ex
  subst hk4
  have e9 : ((m.toNat : Nat) : Int) - 1 = m - 1 := by omega
  rw [el, hv (by omega), e9]
theorem parts_outer {m l : Int} (f : Frm m l) {E : List (List Int)} (e : Eff m l E) {v1 v2 v5 v6 : Option Sl} :
    ∃ w5 w6, loopF (gT (.n 5)) (evSs (run fs gl n) gl (F145.body.nth 1).inner) (rngD 0 l.toNat) [some (.d (frameD m l)), v1, v2, some (.d (effD E)), some (.d (effD E)), v5, v6] = some ([some (.d (frameD m l)), v1, v2, some (.d (effD E)), some (.d (effD E)), w5, w6], .nx) := by
  have m1 := f.m1
  have m2 := f.m2
  have len := e.len
  obtain ⟨ρ', el, _, w5, w6, rfl⟩ := loopF_inv (tg := gT (.n 5)) (body := evSs (run fs gl n) gl (F145.body.nth 1).inner)
    (fun xs ρ => (∀ d ∈ xs, ∃ q : Nat, d = .int q ∧ q < E.length) ∧ ∃ v5 v6, ρ = [some (.d (frameD m l)), v1, v2, some (.d (effD E)), some (.d (effD E)), v5, v6])
    (fun d xs ρ ⟨hx, v5, v6, eρ⟩ => by
      subst eρ
      obtain ⟨q, rfl, hq⟩ := hx d List.mem_cons_self
      have k := parts_inner (fs := fs) (gl := gl) (n := n) f e hq (v0 := some (.d (frameD m l))) (v1 := v1) (v2 := v2) (v6 := v6)
      have s0 : evS (run fs gl n) gl (((F145.body.nth 1).inner).nth 0) [some (.d (frameD m l)), v1, v2, some (.d (effD E)), some (.d (effD E)), some (.d (.int q)), v6] = some ([some (.d (frameD m l)), v1, v2, some (.d (effD E)), some (.d (effD E)), some (.d (.int q)), some (.d (.int (m - 1)))], .nx) := by
        refine for_eq (rng_eq (a := .idx (.var 0) (.cst (.int 0))) (d := .int m) (ρ1 := [some (.d (frameD m l)), v1, v2, some (.d (effD E)), some (.d (effD E)), some (.d (.int q)), v6]) ?_ (rng1_of (by omega) (by omega))) k
        have a0 : ∀ x y : D, atD [x, y] 0 = some x := fun _ _ => rfl
        generalize effD E = ED
        simp [frameD, a0]
      exact ⟨_, (evSs_nx s0).trans rfl, fun y hy => hx y (List.mem_cons_of_mem _ hy), _, _, rfl⟩)
    (rngD 0 l.toNat) [some (.d (frameD m l)), v1, v2, some (.d (effD E)), some (.d (effD E)), v5, v6]
    ⟨fun d hd => by
      obtain ⟨q, e1, hq⟩ := mem_rng hd
      exact ⟨q, e1, by omega⟩, _, _, rfl⟩
  exact ⟨w5, w6, el⟩
theorem parts_none (h : HasDoes fs gl) (h145 : fs 145 = some F145) (h146 : fs 146 = some F146) {m l : Int} (f : Frm m l) {cs ds : List CT} (r1 : Row m l cs) (r2 : Row m l ds) (hl1 : cs.length ≤ 10000) (hl2 : ds.length ≤ 10000) (he : effM m.toNat l.toNat cs = effM m.toNat l.toNat ds) :
    run fs gl (n + 6) 146 [.d (frameD m l), .d (rowD cs), .d (rowD ds)] = some ([.d (frameD m l), .d (rowD cs), .d (rowD ds)], .d .none) := by
  have l1 := f.l1
  have l2 := f.l2
  have k1 := need_row_ok (n := n) h.toHasRow f r1 hl1
  have k2 := need_row_ok (n := n) h.toHasRow f r2 hl2
  have k3 := effect_ok (n := n + 2) (gl := gl) h.h34 h.h35 h.h143 f r1
  have k4 := effect_ok (n := n + 2) (gl := gl) h.h34 h.h35 h.h143 f r2
  rw [← he] at k4
  have eo := effM_ok f r1
  have k5 : run fs gl (n + 5) 145 [.d (frameD m l), .d (rowD cs), .d (rowD ds)] = some ([.d (frameD m l), .d (rowD cs), .d (rowD ds)], .d .none) := by
    obtain ⟨w5, w6, lp⟩ := parts_outer (fs := fs) (gl := gl) (n := n + 4) f eo (v1 := some (.d (rowD cs))) (v2 := some (.d (rowD ds))) (v5 := none) (v6 := none)
    have s0 : evS (run fs gl (n + 4)) gl (F145.body.nth 0) [some (.d (frameD m l)), some (.d (rowD cs)), some (.d (rowD ds)), none, none, none, none] = some ([some (.d (frameD m l)), some (.d (rowD cs)), some (.d (rowD ds)), some (.d (effD (effM m.toNat l.toNat cs))), some (.d (effD (effM m.toNat l.toNat cs))), none, none], .nx) := by
      generalize effD (effM m.toNat l.toNat cs) = E at k3 k4 ⊢
      generalize rowD cs = C at k3 ⊢
      generalize rowD ds = C2 at k4 ⊢
      generalize frameD m l = FD at k3 k4 ⊢
      simp [F145, Ss.nth, k3, k4]
    have s1 : evS (run fs gl (n + 4)) gl (F145.body.nth 1) [some (.d (frameD m l)), some (.d (rowD cs)), some (.d (rowD ds)), some (.d (effD (effM m.toNat l.toNat cs))), some (.d (effD (effM m.toNat l.toNat cs))), none, none] = some ([some (.d (frameD m l)), some (.d (rowD cs)), some (.d (rowD ds)), some (.d (effD (effM m.toNat l.toNat cs))), some (.d (effD (effM m.toNat l.toNat cs))), w5, w6], .nx) := by
      refine for_eq (rng_eq (a := .idx (.var 0) (.cst (.int 1))) (d := .int l) (ρ1 := [some (.d (frameD m l)), some (.d (rowD cs)), some (.d (rowD ds)), some (.d (effD (effM m.toNat l.toNat cs))), some (.d (effD (effM m.toNat l.toNat cs))), none, none]) ?_ (rng1_of (by omega) (by omega))) lp
      have a1 : ∀ x y : D, atD [x, y] 1 = some y := fun _ _ => rfl
      generalize effD (effM m.toNat l.toNat cs) = ED
      generalize rowD cs = C
      generalize rowD ds = C2
      simp [frameD, a1]
    have s2 : evS (run fs gl (n + 4)) gl (F145.body.nth 2) [some (.d (frameD m l)), some (.d (rowD cs)), some (.d (rowD ds)), some (.d (effD (effM m.toNat l.toNat cs))), some (.d (effD (effM m.toNat l.toNat cs))), w5, w6] = some ([some (.d (frameD m l)), some (.d (rowD cs)), some (.d (rowD ds)), some (.d (effD (effM m.toNat l.toNat cs))), some (.d (effD (effM m.toNat l.toNat cs))), w5, w6], .rt (.d .none)) := by
      simp [F145, Ss.nth]
    exact run_of h145 rfl ((evSs_nx s0).trans ((evSs_nx s1).trans (evSs_rt s2))) rfl
  rw [run_step h146]
  generalize rowD cs = C at k1 k5 ⊢
  generalize rowD ds = C2 at k2 k5 ⊢
  generalize frameD m l = FD at k1 k2 k5 ⊢
  simp [F146, k1, k2, k5]
end DL

namespace DL
open PySem PySem.Spec L2
open PyProof.Rows hiding St
variable {fs : Nat → Option Fn} {gl : Nat → Option D} {n : Nat}
/-! ### things compared with themselves -/
mutual
theorem eqv_shw : ∀ d : D, shw d = true → PyData.eqv d d = true
  | .none, _ => by simp [PyData.eqv]
  | .bool b, _ => by simp [PyData.eqv]
  | .int i, _ => by simp [PyData.eqv]
  | .str s, _ => by simp [PyData.eqv]
  | .list xs, h => by
    rw [PyData.eqv]
    exact eqvs_shw xs (by unfold shw at h; exact h)
  | .tuple xs, h => by
    rw [PyData.eqv]
    exact eqvs_shw xs (by unfold shw at h; exact h)
  | .dict _, h => by unfold shw at h; cases h
theorem eqvs_shw : ∀ xs : List D, shwAll xs = true → PyData.eqvAll xs xs = true
  | [], _ => by simp [PyData.eqvAll]
  | x :: xs, h => by
    unfold shwAll at h
    obtain ⟨h1, h2⟩ := (Bool.and_eq_true _ _).mp h
    rw [PyData.eqvAll, eqv_shw x h1, eqvs_shw xs h2]
    rfl
end
theorem Tame.eq {d : D} {k w : Nat} (h : Tame d k w) (hk : k ≤ 100) : eqD d d = some (.d (.bool true)) := by
  have e1 : dep2 d d = true := decide_eq_true (by have := h.dp; omega)
  have e2 := eqv_shw d h.sh
  show (if dep2 d d = true then some (Sl.d (.bool (PyData.eqv d d))) else none) = _
  rw [if_pos e1, e2]
theorem Tame.ne {d : D} {k w : Nat} (h : Tame d k w) (hk : k ≤ 100) : neD d d = some (.d (.bool false)) := by
  have e1 : dep2 d d = true := decide_eq_true (by have := h.dp; omega)
  have e2 := eqv_shw d h.sh
  show (if dep2 d d = true then some (Sl.d (.bool (!PyData.eqv d d))) else none) = _
  rw [if_pos e1, e2]
  rfl
theorem ne_tup_nil (xs : List D) : neD (.tuple xs) (.tuple []) = some (.d (.bool (decide (xs ≠ [])))) := by
  have e1 : dep2 (.tuple xs) (.tuple []) = true := by
    unfold dep2
    refine decide_eq_true ?_
    have : (PyData.tuple []).depth ≤ 1 := by simp [PyData.depth, PyData.depthAll]
    omega
  show (if dep2 (.tuple xs) (.tuple []) = true then some (Sl.d (.bool (!PyData.eqv (.tuple xs) (.tuple [])))) else none) = _
  rw [if_pos e1]
  cases xs <;> simp [PyData.eqv, PyData.eqvAll]
theorem ne_bool (b : Bool) : neD (.bool b) (.bool b) = some (.d (.bool false)) := Tame.ne (k := 0) (w := 100) ⟨rfl, by simp [PyData.depth], by simp [wt]⟩ (by decide)
theorem tame_ints {ns : List Int} (h : ∀ x ∈ ns, x.natAbs < 10 ^ 18) : Tame (.list (ns.map PyData.int)) 1 (22 * ns.length + 4) := by
  refine (Tame.lst (k := 0) (w := 20) fun x hx => ?_).less (Nat.le_refl _) (by rw [List.length_map]; omega)
  obtain ⟨i, hi, rfl⟩ := List.mem_map.mp hx
  exact .int (h i hi)
theorem tame_effD {m l : Int} (f : Frm m l) {E : List (List Int)} (e : Eff m l E) : Tame (effD E) 2 2000 := by
  have len := e.len
  have l2 := f.l2
  have m2 := f.m2
  refine (Tame.tup (k := 1) (w := 130) fun x hx => ?_).less (Nat.le_refl _) (by rw [List.length_map]; omega)
  obtain ⟨o, ho, rfl⟩ := List.mem_map.mp hx
  have lo := (e.all o ho).len
  refine (Tame.tup (k := 0) (w := 20) fun y hy => ?_).less (Nat.le_refl _) (by rw [List.length_map]; omega)
  obtain ⟨v, hv, rfl⟩ := List.mem_map.mp hy
  have := (e.all o ho).rng v hv
  exact .int (by omega)
theorem tame_rowD {m l : Int} (f : Frm m l) {cs : List CT} (r : Row m l cs) : Tame (rowD cs) 2 (72 * cs.length + 4) := tame_row fun c hc => (r c hc).few f
/-- _law_right -/
def F149 : Fn := ⟨3, [0], 11, (.cons (.set 3 false (.call 39 (.d (.var 1) (.d (.var 2) .nil))))
 (.cons (.ite (.or (.cmp .NotEq (.lc [10] (.seq (.var 3)) (.n 10) .no (.idx (.var 10) (.cst (.int 0)))) (.blt .sorted (.cons (.lc [10] (.seq (.var 2)) (.n 10) .no (.idx (.var 10) (.cst (.int 0)))) .nil))) (.cmp .NotEq (.call 144 (.d (.var 1) (.d (.var 3) .nil))) (.call 144 (.d (.var 1) (.d (.var 2) .nil))))) (.cons (.ret (.cst (.bool false)))
 .nil) .nil)
 (.cons (.ite (.or (.cmp .NotEq (.call 39 (.d (.var 1) (.d (.var 3) .nil))) (.var 3)) (.notN (.call 146 (.d (.var 1) (.d (.var 2) (.d (.var 3) .nil)))))) (.cons (.ret (.cst (.bool false)))
 .nil) .nil)
 (.cons (.ite (.cmp .NotEq (.call 148 (.d (.var 1) (.d (.var 3) .nil))) (.call 148 (.d (.var 1) (.d (.var 2) .nil)))) (.cons (.ret (.cst (.bool false)))
 .nil) .nil)
 (.cons (.ite (.cmp .NotEq (.var 2) (.tup .nil)) (.cons (.set 4 false (.blt .min (.cons (.lc [10] (.seq (.var 2)) (.n 10) .no (.idx (.var 10) (.cst (.int 0)))) .nil)))
 (.cons (.par2 5 6 false false (.lc [10] (.seq (.var 2)) (.n 10) (.so (.cmp .Eq (.idx (.var 10) (.cst (.int 0))) (.var 4))) (.var 10)) (.lc [10] (.seq (.var 3)) (.n 10) (.so (.cmp .Eq (.idx (.var 10) (.cst (.int 0))) (.var 4))) (.var 10)))
 (.cons (.ite (.cmp .NotEq (.var 5) (.var 6)) (.cons (.ret (.cst (.bool false)))
 .nil) .nil)
 .nil))) .nil)
 (.cons (.set 7 false (.var 2))
 (.cons (.for (.rng (.bin .Mult (.cst (.int 6)) (.blt .int (.cons (.cmp .Gt (.blt .len (.cons (.var 2) .nil)) (.cst (.int 1))) .nil)))) (.n 8) (.cons (.set 9 false (.call 13 (.s 0 (.d (.bin .Sub (.blt .len (.cons (.var 2) .nil)) (.cst (.int 1))) .nil))))
 (.cons (.ite (.cmp .NotEq (.idx (.idx (.var 7) (.var 9)) (.cst (.int 0))) (.idx (.idx (.var 7) (.bin .Add (.var 9) (.cst (.int 1)))) (.cst (.int 0)))) (.cons (.set 7 false (.call 10 (.d (.var 1) (.d (.var 7) (.d (.var 9) .nil)))))
 .nil) .nil)
 .nil)))
 (.cons (.ret (.cmp .Eq (.call 39 (.d (.var 1) (.d (.var 7) .nil))) (.var 3)))
 .nil))))))))⟩
/-- _law_joined_right -/
def F49 : Fn := ⟨3, [], 5, (.cons (.par2 3 4 false false (.call 39 (.d (.var 0) (.d (.bin .Add (.var 1) (.var 2)) .nil))) (.bin .Add (.call 39 (.d (.var 0) (.d (.var 1) .nil))) (.call 39 (.d (.var 0) (.d (.var 2) .nil)))))
 (.cons (.ret (.and (.cmp .Eq (.call 39 (.d (.var 0) (.d (.var 4) .nil))) (.var 3)) (.cmp .Eq (.call 39 (.d (.var 0) (.d (.bin .Add (.var 1) (.call 39 (.d (.var 0) (.d (.var 2) .nil)))) .nil))) (.var 3))))
 .nil))⟩
/-- law -/
def F150 : Fn := ⟨1, [], 7, (.cons (.for (.rng (.blt .max (.cons (.cst (.int 1)) (.cons (.blt .min (.cons (.lenV 0) (.cons (.cst (.int 3)) .nil))) .nil)))) (.n 1) (.cons (.set 2 true (.call 12 (.d (.call 11 (.s 0 (.d (.var 1) .nil))) .nil)))
 (.cons (.for (.rng (.cst (.int 2))) (.n 3) (.cons (.set 4 false (.call 15 (.s 2 (.d (.cst (.int 5)) (.d (.cst (.int 12)) .nil)))))
 (.cons (.par2 5 6 false false (.call 16 (.s 2 (.d (.var 4) (.d (.cst (.int 16)) .nil)))) (.call 16 (.s 2 (.d (.var 4) (.d (.cst (.int 8)) .nil)))))
 (.cons (.ite (.or (.not (.call 149 (.s 2 (.d (.var 4) (.d (.var 5) .nil))))) (.not (.call 149 (.s 2 (.d (.var 4) (.d (.var 6) .nil)))))) (.cons (.ret (.cst (.bool false)))
 .nil) .nil)
 (.cons (.ite (.or (.not (.call 49 (.d (.var 4) (.d (.var 5) (.d (.var 6) .nil))))) (.not (.call 49 (.d (.var 4) (.d (.var 6) (.d (.var 5) .nil)))))) (.cons (.ret (.cst (.bool false)))
 .nil) .nil)
 .nil)))))
 .nil)))
 (.cons (.ret (.cst (.bool true)))
 .nil))⟩
structure Has43 (fs : Nat → Option Fn) (gl : Nat → Option D) : Prop extends HasExch fs gl, HasDoes fs gl, HasFew fs gl where
  h11 : fs 11 = some F11
  h12 : fs 12 = some F12
  h13 : fs 13 = some F13
  h14 : fs 14 = some F14
  h15 : fs 15 = some F15
  h16 : fs 16 = some F16
  h38 : fs 38 = some F38
  h39 : fs 39 = some F39
  h145 : fs 145 = some F145
  h146 : fs 146 = some F146
  h147 : fs 147 = some F147
  h148 : fs 148 = some F148
  h149 : fs 149 = some F149
  h49 : fs 49 = some F49
  h150 : fs 150 = some F150
/-- the places of a row's cuts -/
theorem places_loop {cs : List CT} (hl : cs.length ≤ 10000) {ρ : Ev} (hρ : ρ.length = 11) (h10 : ρ[10]? = some none) :
    loopC [10] (gT (.n 10)) gYes (gd (evX (run fs gl n) gl (.idx (.var 10) (.cst (.int 0))))) (cs.map cutOf) ρ [] = some (ρ, (cs.map (·.1)).map PyData.int) := by
  have hs : ρ.set 10 none = ρ := by
    refine List.ext_getElem? fun i => ?_
    by_cases hi : i = 10
    · subst hi
      rw [List.getElem?_set_self (by omega), h10]
    · rw [List.getElem?_set_ne (Ne.symm hi)]
  have k := loopC_map (vs := [10]) (tg := gT (.n 10)) (cd := gYes) (el := gd (evX (run fs gl n) gl (.idx (.var 10) (.cst (.int 0))))) (ρ := ρ) (tupAt 0) (cs.map cutOf) [] (by rw [List.length_map]; simp; omega) (fun d hd => by
      obtain ⟨c, hc, rfl⟩ := List.mem_map.mp hd
      have a0 : ∀ x y z : D, atD [x, y, z] 0 = some x := fun _ _ _ => rfl
      simp [cutOf, cutT, hρ, hs, a0, tupAt])
  rw [k, List.nil_append, List.map_map, List.map_map]
  congr 2
abbrev B149 (i : Nat) : S := F149.body.nth i
theorem r_s0 (h : Has43 fs gl) {m l : Int} (f : Frm m l) {cs : List CT} (r : Row m l cs) (hl : cs.length ≤ 100) {v0 v3 v4 v5 v6 v7 v8 v9 v10 : Option Sl} :
    ∃ T, evS (run fs gl (n + 6)) gl (B149 0) [v0, some (.d (frameD m l)), some (.d (rowD cs)), v3, v4, v5, v6, v7, v8, v9, v10] = some ([v0, some (.d (frameD m l)), some (.d (rowD cs)), some (.d (rowD T)), v4, v5, v6, v7, v8, v9, v10], .nx) ∧ Up T ∧ Rq m l cs T := by
  obtain ⟨T, k, hu, rq⟩ := rising_ok (n := n) h.toHasExch h.h38 h.h39 f r hl
  refine ⟨T, ?_, hu, rq⟩
  generalize rowD cs = C at k ⊢
  generalize rowD T = TD at k ⊢
  generalize frameD m l = FD at k ⊢
  simp [B149, F149, Ss.nth, k]
theorem Rq.effM {m l : Int} (f : Frm m l) {cs T : List CT} (rq : Rq m l cs T) : DL.effM m.toNat l.toNat cs = DL.effM m.toNat l.toNat T := rq.ef _ (eff0_ok f)
theorem r_s1 (h : Has43 fs gl) {m l : Int} (f : Frm m l) {cs T : List CT} (rq : Rq m l cs T) (hu : Up T) (hl : cs.length ≤ 63) {v0 v4 v5 v6 v7 v8 v9 : Option Sl} :
    evS (run fs gl (n + 6)) gl (B149 1) [v0, some (.d (frameD m l)), some (.d (rowD cs)), some (.d (rowD T)), v4, v5, v6, v7, v8, v9, none] = some ([v0, some (.d (frameD m l)), some (.d (rowD cs)), some (.d (rowD T)), v4, v5, v6, v7, v8, v9, none], .nx) := by
  have k1 := places_loop (fs := fs) (gl := gl) (n := n + 6) (cs := T) (by rw [← rq.len]; omega) (ρ := [v0, some (.d (frameD m l)), some (.d (rowD cs)), some (.d (rowD T)), v4, v5, v6, v7, v8, v9, none]) rfl rfl
  have k2 := places_loop (fs := fs) (gl := gl) (n := n + 6) (cs := cs) (by omega) (ρ := [v0, some (.d (frameD m l)), some (.d (rowD cs)), some (.d (rowD T)), v4, v5, v6, v7, v8, v9, none]) rfl rfl
  have k3 := doesP_ok (n := n) h.toHasDoes f rq.r2 (by rw [← rq.len]; omega)
  have k4 := doesP_ok (n := n) h.toHasDoes f rq.r1 (by omega)
  rw [← rq.effM f] at k3
  have es : sortI (cs.map (·.1)) = T.map (·.1) := sorted_one ((sortI_perm _).trans rq.pl) (sortI_sorted _) (by
    rw [List.pairwise_map]
    exact hu)
  have e5 : sortedD [.list ((cs.map (·.1)).map PyData.int)] = some (.l ((T.map (·.1)).map PyData.int)) := by
    show (intsOf ((cs.map (·.1)).map PyData.int)).map _ = _
    rw [ints_of]
    show some (Sl.l ((sortI (cs.map (·.1))).map PyData.int)) = _
    rw [es]
  have t1 : Tame (.list ((T.map (·.1)).map PyData.int)) 1 (22 * (T.map (·.1)).length + 4) := tame_ints fun x hx => by
    obtain ⟨c, hc, rfl⟩ := List.mem_map.mp hx
    exact ((rq.r2 c hc).few f).1
  have n1 := t1.ne (by decide)
  have n2 := (tame_effD f (effM_ok f rq.r1)).ne (by decide)
  generalize effD (effM m.toNat l.toNat cs) = E at k3 k4 n2
  unfold rowD at k1 k2 k3 k4 ⊢
  generalize ((T.map (·.1)).map PyData.int) = PT at k1 e5 n1
  generalize ((cs.map (·.1)).map PyData.int) = PC at k2 e5
  generalize cs.map cutOf = C at k1 k2 k4 ⊢
  generalize T.map cutOf = TD at k1 k2 k3 ⊢
  generalize frameD m l = FD at k1 k2 k3 k4 ⊢
  simp [B149, F149, Ss.nth, -sortedD, -neD] at k1 k2 ⊢
  simp [k1, k2, k3, k4, e5, n1, n2, -sortedD, -neD]
theorem r_s2 (h : Has43 fs gl) {m l : Int} (f : Frm m l) {cs T : List CT} (rq : Rq m l cs T) (hu : Up T) (hl : cs.length ≤ 63) {v0 v4 v5 v6 v7 v8 v9 v10 : Option Sl} :
    evS (run fs gl (n + 6)) gl (B149 2) [v0, some (.d (frameD m l)), some (.d (rowD cs)), some (.d (rowD T)), v4, v5, v6, v7, v8, v9, v10] = some ([v0, some (.d (frameD m l)), some (.d (rowD cs)), some (.d (rowD T)), v4, v5, v6, v7, v8, v9, v10], .nx) := by
  obtain ⟨T', k, hu', rq'⟩ := rising_ok (n := n) h.toHasExch h.h38 h.h39 f rq.r2 (by rw [← rq.len]; omega)
  have e := rq'.one hu hu'
  subst e
  have k2 := parts_none (n := n) h.toHasDoes h.h145 h.h146 f rq.r1 rq.r2 (by omega) (by rw [← rq.len]; omega) (rq.effM f)
  have n1 := (tame_rowD f rq.r2).ne (by decide)
  generalize rowD cs = C at k2 ⊢
  generalize rowD T = TD at k k2 n1 ⊢
  generalize frameD m l = FD at k k2 ⊢
  simp [B149, F149, Ss.nth, k, k2, n1, -neD]
theorem r_s3 (h : Has43 fs gl) {m l : Int} (f : Frm m l) {cs T : List CT} (rq : Rq m l cs T) (hl : cs.length ≤ 63) {v0 v4 v5 v6 v7 v8 v9 v10 : Option Sl} :
    evS (run fs gl (n + 6)) gl (B149 3) [v0, some (.d (frameD m l)), some (.d (rowD cs)), some (.d (rowD T)), v4, v5, v6, v7, v8, v9, v10] = some ([v0, some (.d (frameD m l)), some (.d (rowD cs)), some (.d (rowD T)), v4, v5, v6, v7, v8, v9, v10], .nx) := by
  have k1 := is_short_ok (n := n) h.toHasFew h.toHasDoes h.h147 h.h148 f rq.r1 (by omega)
  have k2 := is_short_ok (n := n) h.toHasFew h.toHasDoes h.h147 h.h148 f rq.r2 (by rw [← rq.len]; omega)
  rw [← rq.len, ← rq.effM f] at k2
  generalize decide ((cs.length : Int) = fewM m.toNat (effM m.toNat l.toNat cs)) = b at k1 k2
  have nb := ne_bool b
  generalize rowD cs = C at k1 ⊢
  generalize rowD T = TD at k2 ⊢
  generalize frameD m l = FD at k1 k2 ⊢
  simp [B149, F149, Ss.nth, k1, k2, nb, -neD]
/-- the cuts of the least place stay -/
theorem can_least {m l : Int} : ∀ {s : List CT} {p : Int}, (∀ d ∈ s, p ≤ d.1) → Row m l s → can s p id = (s.filter fun c => decide (c.1 = p)).map fun c => c.2
  | [], p, _, _ => rfl
  | c :: s, p, h, r => by
    have ih := can_least (fun d hd => h d (List.mem_cons_of_mem _ hd)) (fun d hd => r d (List.mem_cons_of_mem _ hd))
    show (if c.1 = p then srt (ren s p c.2.1) (ren s p c.2.2) :: can s p id else can s p id) = _
    rw [ih]
    by_cases hp : c.1 = p
    · have rn := ren_id (p := p) (r := s) fun d hd => h d (List.mem_cons_of_mem _ hd)
      have ab := (r c List.mem_cons_self).ab
      rw [if_pos hp, rn, rn, List.filter_cons_of_pos (by simpa using hp), List.map_cons]
      congr 1
      unfold srt
      rw [if_pos (by omega)]
    · rw [if_neg hp, List.filter_cons_of_neg (by simpa using hp)]
theorem fil_one {p : Int} : ∀ {s t : List CT}, (∀ c ∈ s, c.1 = p) → (∀ c ∈ t, c.1 = p) → (s.map fun c => c.2) = (t.map fun c => c.2) → s = t
  | [], [], _, _, _ => rfl
  | [], _ :: _, _, _, h => by cases h
  | _ :: _, [], _, _, h => by cases h
  | a :: s, b :: t, hs, ht, h => by
    rw [List.map_cons, List.map_cons] at h
    injection h with h1 h2
    have e1 := hs a List.mem_cons_self
    have e2 := ht b List.mem_cons_self
    rw [fil_one (fun c hc => hs c (List.mem_cons_of_mem _ hc)) (fun c hc => ht c (List.mem_cons_of_mem _ hc)) h2]
    congr 1
    exact Prod.ext (by omega) h1
theorem least_same {m l : Int} {cs T : List CT} (rq : Rq m l cs T) {p : Int} (hp : ∀ d ∈ cs, p ≤ d.1) : (cs.filter fun c => decide (c.1 = p)) = T.filter fun c => decide (c.1 = p) := by
  have hp2 : ∀ d ∈ T, p ≤ d.1 := fun d hd => by
    have : d.1 ∈ cs.map (·.1) := rq.pl.mem_iff.mpr (List.mem_map.mpr ⟨d, hd, rfl⟩)
    obtain ⟨c, hc, e⟩ := List.mem_map.mp this
    have := hp c hc
    omega
  have k := rq.cn p id
  rw [can_least hp rq.r1, can_least hp2 rq.r2] at k
  exact fil_one (p := p) (fun c hc => by simpa using (List.mem_filter.mp hc).2) (fun c hc => by simpa using (List.mem_filter.mp hc).2) k
end DL

namespace DL
open PySem PySem.Spec L2
open PyProof.Rows hiding St
variable {fs : Nat → Option Fn} {gl : Nat → Option D} {n : Nat}
theorem ite_t {cl : Nat → List Sl → Option (List Sl × Sl)} {c : E} {a b : Ss} {ρ ρ1 : Ev} (e : evB cl gl c ρ = some (ρ1, true)) : evS cl gl (.ite c a b) ρ = evSs cl gl a ρ1 := by simp [e]
theorem ite_f {cl : Nat → List Sl → Option (List Sl × Sl)} {c : E} {a b : Ss} {ρ ρ1 : Ev} (e : evB cl gl c ρ = some (ρ1, false)) : evS cl gl (.ite c a b) ρ = evSs cl gl b ρ1 := by simp [e]
def filC : E := .cmp .Eq (.idx (.var 10) (.cst (.int 0))) (.var 4)
theorem filter_loop {p : Int} {v0 v1 v2 v3 v5 v6 v7 v8 v9 : Option Sl} : ∀ (cs : List CT) (acc : List D), acc.length + cs.length ≤ 10000 →
    loopC [10] (gT (.n 10)) (evB (run fs gl n) gl filC) (gd (evX (run fs gl n) gl (.var 10))) (cs.map cutOf) [v0, v1, v2, v3, some (.d (.int p)), v5, v6, v7, v8, v9, none] acc = some ([v0, v1, v2, v3, some (.d (.int p)), v5, v6, v7, v8, v9, none], acc ++ (cs.filter fun c => decide (c.1 = p)).map cutOf)
  | [], acc, _ => by simp [loopC]
  | c :: cs, acc, hl => by
    rw [List.length_cons] at hl
    have a0 : ∀ x y z : D, atD [x, y, z] 0 = some x := fun _ _ _ => rfl
    have t : turnC [10] (gT (.n 10)) (evB (run fs gl n) gl filC) (gd (evX (run fs gl n) gl (.var 10))) (cutOf c) [v0, v1, v2, v3, some (.d (.int p)), v5, v6, v7, v8, v9, none] = some ([v0, v1, v2, v3, some (.d (.int p)), v5, v6, v7, v8, v9, none], if c.1 = p then some (cutOf c) else none) := by
      by_cases hc : c.1 = p
      · simp [filC, cutOf, cutT, a0, eqv_int, dep_int, hc]
      · simp [filC, cutOf, cutT, a0, eqv_int, dep_int, hc]
    rw [List.map_cons, loopC_turn t (by omega)]
    by_cases hc : c.1 = p
    · rw [if_pos hc, List.filter_cons_of_pos (by simpa using hc), filter_loop cs _ (by rw [List.length_append]; show acc.length + 1 + _ ≤ _; omega)]
      simp
    · rw [if_neg hc, List.filter_cons_of_neg (by simpa using hc), filter_loop cs _ (by show (acc ++ []).length + _ ≤ _; rw [List.append_nil]; omega)]
      simp
theorem r_s4 {m l : Int} (f : Frm m l) {cs T : List CT} (rq : Rq m l cs T) (hl : cs.length ≤ 63) {v0 v4 v5 v6 v7 v8 v9 : Option Sl} :
    ∃ w4 w5 w6, evS (run fs gl n) gl (B149 4) [v0, some (.d (frameD m l)), some (.d (rowD cs)), some (.d (rowD T)), v4, v5, v6, v7, v8, v9, none] = some ([v0, some (.d (frameD m l)), some (.d (rowD cs)), some (.d (rowD T)), w4, w5, w6, v7, v8, v9, none], .nx) := by
  have c0 : evB (run fs gl n) gl (.cmp .NotEq (.var 2) (.tup .nil)) [v0, some (.d (frameD m l)), some (.d (rowD cs)), some (.d (rowD T)), v4, v5, v6, v7, v8, v9, none] = some ([v0, some (.d (frameD m l)), some (.d (rowD cs)), some (.d (rowD T)), v4, v5, v6, v7, v8, v9, none], decide (cs.map cutOf ≠ [])) := by
    have z0 : (0 : Nat) ≤ sizeLine := Nat.zero_le _
    have k := ne_tup_nil (cs.map cutOf)
    unfold rowD
    generalize cs.map cutOf = C at k ⊢
    generalize T.map cutOf = TD
    generalize frameD m l = FD
    simp only [evB, ev, rX, cF, evA]
    simp [k, -neD]
  by_cases hc : cs = []
  · subst hc
    exact ⟨v4, v5, v6, (ite_f c0).trans rfl⟩
  · have hc2 : cs.map cutOf ≠ [] := fun z => hc (List.map_eq_nil_iff.mp z)
    rw [decide_eq_true hc2] at c0
    have hpos : 0 < (cs.map (·.1)).length := by rw [List.length_map]; exact List.length_pos_iff.mpr hc
    obtain ⟨g1, g2⟩ := minL_ok (cs.map (·.1)) hpos
    have hle : ∀ d ∈ cs, minL (cs.map (·.1)) ≤ d.1 := fun d hd => g2 _ (List.mem_map.mpr ⟨d, hd, rfl⟩)
    have k1 := places_loop (fs := fs) (gl := gl) (n := n) (cs := cs) (by omega) (ρ := [v0, some (.d (frameD m l)), some (.d (rowD cs)), some (.d (rowD T)), v4, v5, v6, v7, v8, v9, none]) rfl rfl
    have e1 : minD [.list ((cs.map (·.1)).map PyData.int)] = some (.d (.int (minL (cs.map (·.1))))) := by
      show (intsOf ((cs.map (·.1)).map PyData.int)).bind _ = _
      rw [ints_of]
      show (if 0 < (cs.map (·.1)).length then _ else _) = _
      rw [if_pos hpos]
    have same := least_same rq hle
    generalize minL (cs.map (·.1)) = p at e1 same
    have f1 := filter_loop (fs := fs) (gl := gl) (n := n) (p := p) (v0 := v0) (v1 := some (.d (frameD m l))) (v2 := some (.d (rowD cs))) (v3 := some (.d (rowD T))) (v5 := v5) (v6 := v6) (v7 := v7) (v8 := v8) (v9 := v9) cs [] (by simp; omega)
    have f2 := filter_loop (fs := fs) (gl := gl) (n := n) (p := p) (v0 := v0) (v1 := some (.d (frameD m l))) (v2 := some (.d (rowD cs))) (v3 := some (.d (rowD T))) (v5 := v5) (v6 := v6) (v7 := v7) (v8 := v8) (v9 := v9) T [] (by have := rq.len; simp; omega)
    rw [← same, List.nil_append] at f2
    rw [List.nil_append] at f1
    have tm : Tame (.list ((cs.filter fun c => decide (c.1 = p)).map cutOf)) 2 (72 * ((cs.filter fun c => decide (c.1 = p)).map cutOf).length + 4) := Tame.lst (k := 1) (w := 70) fun x hx => by
      obtain ⟨c, hc, rfl⟩ := List.mem_map.mp hx
      exact tame_cut ((rq.r1 c (List.mem_filter.mp hc).1).few f)
    have nn := tm.ne (by decide)
    generalize ((cs.filter fun c => decide (c.1 = p)).map cutOf) = MI at f1 f2 nn
    refine ⟨some (.d (.int p)), some (.d (.list MI)), some (.d (.list MI)), (ite_t c0).trans ?_⟩
    unfold rowD at k1 f1 f2 ⊢
    unfold filC at f1 f2
    generalize (cs.map (·.1)).map PyData.int = PC at k1 e1
    generalize cs.map cutOf = C at k1 f1 f2 ⊢
    generalize T.map cutOf = TD at k1 f1 f2 ⊢
    generalize frameD m l = FD at k1 f1 f2 ⊢
    simp [-minD, -neD] at k1 f1 f2 ⊢
    simp [k1, f1, f2, e1, nn, -minD, -neD]
/-! ### exchanged over unlike places again and again -/
theorem split_at {cs : List CT} {i : Nat} (h : i + 1 < cs.length) : ∃ ys u v zs, cs = ys ++ u :: v :: zs ∧ ys.length = i := by
  refine ⟨cs.take i, cs[i], cs[i + 1], cs.drop (i + 2), ?_, by rw [List.length_take]; omega⟩
  conv => lhs; rw [← List.take_append_drop i cs]
  rw [List.drop_eq_getElem_cons (by omega), List.drop_eq_getElem_cons (by omega)]
theorem ex_turn (h : Has43 fs gl) {k : Nat} {m l : Int} (f : Frm m l) {cs hs : List CT} {p : List D} (hp : Pen (k + 1) p) (rq : Rq m l cs hs) (hl : cs.length ≤ 63) (h2 : 1 < cs.length) {d : D} {v3 v4 v5 v6 v8 v9 : Option Sl} :
    ∃ p' hs' w9, turnF (gT (.n 8)) (evSs (run fs gl (n + 6)) gl (B149 6).inner) d [some (.l p), some (.d (frameD m l)), some (.d (rowD cs)), v3, v4, v5, v6, some (.d (rowD hs)), v8, v9, none] =
      some ([some (.l p'), some (.d (frameD m l)), some (.d (rowD cs)), v3, v4, v5, v6, some (.d (rowD hs')), some (.d d), w9, none], .nx) ∧ Rq m l cs hs' ∧ Pen k p' := by
  obtain ⟨p', i, e1, i0, i1, q⟩ := draw_ok (n := n + 5) (gl := gl) (k := k) (m := (cs.length : Int) - 1) h.h13 hp (by omega) (by omega)
  have hlen := rq.len
  obtain ⟨ys, u, v, zs, eh, hy⟩ := split_at (cs := hs) (i := i.toNat) (by omega)
  have ei : i = (ys.length : Int) := by omega
  have c1 : atD (hs.map cutOf) i = some (cutT u.1 u.2.1 u.2.2) := by
    rw [eh, ei]
    exact at_row
  have c2 : atD (hs.map cutOf) (i + 1) = some (cutT v.1 v.2.1 v.2.2) := by
    have := at_row (L := ys ++ [u]) (c := v) (R := zs)
    rw [List.length_append] at this
    rw [eh, ei]
    have e2 : ys ++ [u] ++ v :: zs = ys ++ u :: v :: zs := by simp
    rw [e2] at this
    exact this
  unfold cutT at c1 c2
  have a0 : ∀ x y z : D, atD [x, y, z] 0 = some x := fun _ _ _ => rfl
  have hcs : (((cs.map cutOf).length : Nat) : Int) - 1 = (cs.length : Int) - 1 := by rw [List.length_map]
  by_cases hne : u.1 = v.1
  · refine ⟨p', hs, some (.d (.int i)), ?_, rq, q⟩
    unfold rowD
    rw [← hcs] at e1
    generalize hs.map cutOf = HS at c1 c2 ⊢
    generalize cs.map cutOf = C at e1 ⊢
    generalize frameD m l = FD
    simp [B149, F149, Ss.nth, e1, c1, c2, a0, eqv_int, dep_int, hne]
  · have r2 := rq.r2
    rw [eh] at r2
    have k10 := exchanged_ok (n := n) h.toHasExch f r2 (by rw [← eh]; omega)
    have rx := Rq.exch r2 hne
    rw [← eh] at k10 rx
    rw [← ei] at k10
    refine ⟨p', exch ys u v zs, some (.d (.int i)), ?_, rq.trans rx, q⟩
    rw [← hcs] at e1
    generalize rowD (exch ys u v zs) = RX at k10 ⊢
    unfold rowD at k10 ⊢
    generalize hs.map cutOf = HS at c1 c2 k10 ⊢
    generalize cs.map cutOf = C at e1 ⊢
    generalize frameD m l = FD at k10 ⊢
    simp [B149, F149, Ss.nth, e1, c1, c2, a0, eqv_int, dep_int, hne, k10]
theorem r_s6 (h : Has43 fs gl) {k : Nat} {m l : Int} (f : Frm m l) {cs : List CT} (r : Row m l cs) {p : List D} (hp : Pen (k + 6) p) (hl : cs.length ≤ 63) {v3 v4 v5 v6 v8 v9 : Option Sl} :
    ∃ p' hs w8 w9, evS (run fs gl (n + 6)) gl (B149 6) [some (.l p), some (.d (frameD m l)), some (.d (rowD cs)), v3, v4, v5, v6, some (.d (rowD cs)), v8, v9, none] =
      some ([some (.l p'), some (.d (frameD m l)), some (.d (rowD cs)), v3, v4, v5, v6, some (.d (rowD hs)), w8, w9, none], .nx) ∧ Rq m l cs hs ∧ Pen k p' := by
  have hv : gd (evX (run fs gl (n + 6)) gl (.bin .Mult (.cst (.int 6)) (.blt .int (.cons (.cmp .Gt (.blt .len (.cons (.var 2) .nil)) (.cst (.int 1))) .nil)))) [some (.l p), some (.d (frameD m l)), some (.d (rowD cs)), v3, v4, v5, v6, some (.d (rowD cs)), v8, v9, none] =
      some ([some (.l p), some (.d (frameD m l)), some (.d (rowD cs)), v3, v4, v5, v6, some (.d (rowD cs)), v8, v9, none], .int (if 1 < cs.length then 6 else 0)) := by
    have hcs : (cs.map cutOf).length = cs.length := List.length_map ..
    rw [← hcs]
    unfold rowD
    generalize cs.map cutOf = C
    generalize frameD m l = FD
    by_cases hc : 1 < C.length
    · have hc2 : (1 : Int) < (C.length : Int) := by omega
      simp [hc, hc2]
    · have hc2 : ¬ (1 : Int) < (C.length : Int) := by omega
      simp [hc, hc2]
  by_cases hc : 1 < cs.length
  · rw [if_pos hc] at hv
    have er : rng1 (.int 6) = some (rngD 0 6) := rng1_of (b := 6) (by decide) (by decide)
    obtain ⟨ρ', el, p', hs, w8, w9, rfl, rq, q⟩ := loopF_inv (tg := gT (.n 8)) (body := evSs (run fs gl (n + 6)) gl (B149 6).inner)
      (fun xs ρ => ∃ (p' : List D) (hs : List CT) (w8 w9 : Option Sl), ρ = [some (.l p'), some (.d (frameD m l)), some (.d (rowD cs)), v3, v4, v5, v6, some (.d (rowD hs)), w8, w9, none] ∧ Rq m l cs hs ∧ Pen (k + xs.length) p')
      (fun d xs ρ ⟨p', hs, w8, w9, eρ, rq, q⟩ => by
        subst eρ
        obtain ⟨p2, hs2, w92, t, rq2, q2⟩ := ex_turn (n := n) h (k := k + xs.length) f q rq hl hc (d := d) (v3 := v3) (v4 := v4) (v5 := v5) (v6 := v6) (v8 := w8) (v9 := w9)
        exact ⟨_, t, p2, hs2, _, _, rfl, rq2, q2⟩)
      (rngD 0 6) [some (.l p), some (.d (frameD m l)), some (.d (rowD cs)), v3, v4, v5, v6, some (.d (rowD cs)), v8, v9, none] ⟨p, cs, _, _, rfl, Rq.refl r, by rw [rngD_length]; exact hp⟩
    exact ⟨p', hs, w8, w9, for_eq (rng_eq hv er) el, rq, by simpa using q⟩
  · rw [if_neg hc] at hv
    have er : rng1 (.int 0) = some (rngD 0 0) := rng1_of (b := 0) (by decide) (by decide)
    exact ⟨p, cs, v8, v9, for_eq (rng_eq hv er) rfl, Rq.refl r, hp.less (by omega)⟩
theorem right_ok (h : Has43 fs gl) {k : Nat} {m l : Int} (f : Frm m l) {cs : List CT} (r : Row m l cs) {p : List D} (hp : Pen (k + 6) p) (hl : cs.length ≤ 63) :
    ∃ p', run fs gl (n + 7) 149 [.l p, .d (frameD m l), .d (rowD cs)] = some ([.l p', .d (frameD m l), .d (rowD cs)], .d (.bool true)) ∧ Pen k p' := by
  obtain ⟨T, s0, hu, rq⟩ := r_s0 (n := n) h f r (by omega) (v0 := some (.l p)) (v3 := none) (v4 := none) (v5 := none) (v6 := none) (v7 := none) (v8 := none) (v9 := none) (v10 := none)
  have s1 := r_s1 (n := n) h f rq hu hl (v0 := some (.l p)) (v4 := none) (v5 := none) (v6 := none) (v7 := none) (v8 := none) (v9 := none)
  have s2 := r_s2 (n := n) h f rq hu hl (v0 := some (.l p)) (v4 := none) (v5 := none) (v6 := none) (v7 := none) (v8 := none) (v9 := none) (v10 := none)
  have s3 := r_s3 (n := n) h f rq hl (v0 := some (.l p)) (v4 := none) (v5 := none) (v6 := none) (v7 := none) (v8 := none) (v9 := none) (v10 := none)
  obtain ⟨w4, w5, w6, s4⟩ := r_s4 (fs := fs) (gl := gl) (n := n + 6) f rq hl (v0 := some (.l p)) (v4 := none) (v5 := none) (v6 := none) (v7 := none) (v8 := none) (v9 := none)
  have s5 : evS (run fs gl (n + 6)) gl (B149 5) [some (.l p), some (.d (frameD m l)), some (.d (rowD cs)), some (.d (rowD T)), w4, w5, w6, none, none, none, none] = some ([some (.l p), some (.d (frameD m l)), some (.d (rowD cs)), some (.d (rowD T)), w4, w5, w6, some (.d (rowD cs)), none, none, none], .nx) := by
    generalize rowD cs = C
    generalize rowD T = TD
    generalize frameD m l = FD
    simp [B149, F149, Ss.nth]
  obtain ⟨p', hs, w8, w9, s6, rqh, q⟩ := r_s6 (n := n) h f r hp hl (v3 := some (.d (rowD T))) (v4 := w4) (v5 := w5) (v6 := w6) (v8 := none) (v9 := none)
  have lh := rqh.len
  obtain ⟨T', k39, hu', rq'⟩ := rising_ok (n := n) h.toHasExch h.h38 h.h39 f rqh.r2 (by omega)
  have e : T = T' := ((rq.symm.trans rqh).trans rq').one hu hu'
  subst e
  have ee := (tame_rowD f rq.r2).eq (by decide)
  have s7 : evS (run fs gl (n + 6)) gl (B149 7) [some (.l p'), some (.d (frameD m l)), some (.d (rowD cs)), some (.d (rowD T)), w4, w5, w6, some (.d (rowD hs)), w8, w9, none] = some ([some (.l p'), some (.d (frameD m l)), some (.d (rowD cs)), some (.d (rowD T)), w4, w5, w6, some (.d (rowD hs)), w8, w9, none], .rt (.d (.bool true))) := by
    generalize rowD cs = C
    generalize rowD hs = HS at k39 ⊢
    generalize rowD T = TD at k39 ee ⊢
    generalize frameD m l = FD at k39 ⊢
    simp [B149, F149, Ss.nth, k39, ee, -eqD]
  exact ⟨p', run_of h.h149 rfl ((evSs_nx s0).trans ((evSs_nx s1).trans ((evSs_nx s2).trans ((evSs_nx s3).trans ((evSs_nx s4).trans ((evSs_nx s5).trans ((evSs_nx s6).trans (evSs_rt s7)))))))) rfl, q⟩
theorem joined_ok (h : Has43 fs gl) {m l : Int} (f : Frm m l) {cs ds : List CT} (r1 : Row m l cs) (r2 : Row m l ds) (hl1 : cs.length ≤ 30) (hl2 : ds.length ≤ 30) :
    run fs gl (n + 7) 49 [.d (frameD m l), .d (rowD cs), .d (rowD ds)] = some ([.d (frameD m l), .d (rowD cs), .d (rowD ds)], .d (.bool true)) := by
  obtain ⟨A, ka, ua, qa⟩ := rising_ok (n := n) h.toHasExch h.h38 h.h39 f r1 (by omega)
  obtain ⟨B, kb, ub, qb⟩ := rising_ok (n := n) h.toHasExch h.h38 h.h39 f r2 (by omega)
  have la := qa.len
  have lb := qb.len
  obtain ⟨C, kc, uc, qc⟩ := rising_ok (n := n) h.toHasExch h.h38 h.h39 f (r1.app r2) (by rw [List.length_append]; omega)
  obtain ⟨C2, kc2, uc2, qc2⟩ := rising_ok (n := n) h.toHasExch h.h38 h.h39 f (qa.r2.app qb.r2) (by rw [List.length_append]; omega)
  obtain ⟨C3, kc3, uc3, qc3⟩ := rising_ok (n := n) h.toHasExch h.h38 h.h39 f (r1.app qb.r2) (by rw [List.length_append]; omega)
  have e2 : C2 = C := (qc2.symm.trans ((qa.app qb).symm.trans qc)).one uc2 uc
  have e3 : C3 = C := (qc3.symm.trans (((Rq.refl r1).app qb).symm.trans qc)).one uc3 uc
  subst e2 e3
  have ee := (tame_rowD f qc.r2).eq (by decide)
  have app : ∀ a b : List CT, rowD (a ++ b) = .tuple (a.map cutOf ++ b.map cutOf) := fun a b => by unfold rowD; rw [List.map_append]
  rw [app] at kc kc2 kc3
  have f1 : fit ((cs.map cutOf).length + (ds.map cutOf).length) = true := fit_of (by rw [List.length_map, List.length_map]; omega)
  have f2 : fit ((A.map cutOf).length + (B.map cutOf).length) = true := fit_of (by rw [List.length_map, List.length_map]; omega)
  have f3 : fit ((cs.map cutOf).length + (B.map cutOf).length) = true := fit_of (by rw [List.length_map, List.length_map]; omega)
  rw [run_step h.h49]
  generalize rowD C3 = TD at kc kc2 kc3 ee
  unfold rowD at ka kb ⊢
  generalize cs.map cutOf = CS at ka kc kc3 f1 f3 ⊢
  generalize ds.map cutOf = DS at kb kc f1 ⊢
  generalize A.map cutOf = AS at ka kc2 f2
  generalize B.map cutOf = BS at kb kc2 kc3 f2 f3
  generalize frameD m l = FD at ka kb kc kc2 kc3 ⊢
  simp [F49, ka, kb, kc, kc2, kc3, ee, f1, f2, f3, -eqD]
def out43 : Ss := (F150.body.nth 0).inner
def mid43 : Ss := (out43.nth 1).inner
theorem mid_turn43 (h : Has43 fs gl) {k : Nat} {p : List D} {d : D} {v0 v1 v3 v4 v5 v6 : Option Sl} (hp : Pen (k + 200) p) :
    ∃ p' w4 w5 w6, turnF (gT (.n 3)) (evSs (run fs gl (n + 7)) gl mid43) d [v0, v1, some (.l p), v3, v4, v5, v6] = some ([v0, v1, some (.l p'), some (.d d), w4, w5, w6], .nx) ∧ Pen k p' := by
  obtain ⟨p1, m, l, e1, m1, m2, l1, l2, q1⟩ := law_frame_ok (n := n + 5) (gl := gl) (k := k + 198) (a := 5) (b := 12) h.h13 h.h15 hp (by decide) (by decide) (by decide) (by decide)
  have f : Frm m l := ⟨m1, m2, l1, l2⟩
  obtain ⟨p2, cs, e2, r1, hl1, q2⟩ := law_row_ok (n := n + 4) (gl := gl) (k := k + 116) (most := 16) h.h13 h.h14 h.h16 q1 f (by decide)
  obtain ⟨p3, ds, e3, r2, hl2, q3⟩ := law_row_ok (n := n + 4) (gl := gl) (k := k + 74) (most := 8) h.h13 h.h14 h.h16 q2 f (by decide)
  obtain ⟨p4, e4, q4⟩ := right_ok (n := n) h (k := k + 68) f r1 q3 (by omega)
  obtain ⟨p5, e5, q5⟩ := right_ok (n := n) h (k := k + 62) f r2 q4 (by omega)
  have e6 := joined_ok (n := n) h f r1 r2 (by omega) (by omega)
  have e7 := joined_ok (n := n) h f r2 r1 (by omega) (by omega)
  refine ⟨p5, some (.d (frameD m l)), some (.d (rowD cs)), some (.d (rowD ds)), ?_, q5.less (by omega)⟩
  generalize rowD cs = C at e2 e4 e6 e7 ⊢
  generalize rowD ds = C2 at e3 e5 e6 e7 ⊢
  generalize frameD m l = FD at e1 e2 e3 e4 e5 e6 e7 ⊢
  simp at e2 e3
  simp [mid43, out43, F150, e1, e2, e3, e4, e5, e6, e7]
theorem out_turn43 (h : Has43 fs gl) {ns : List Int} {i : Nat} {v1 v2 v3 v4 v5 v6 : Option Sl} :
    ∃ w2 w3 w4 w5 w6, turnF (gT (.n 1)) (evSs (run fs gl (n + 7)) gl out43) (.int i) [some (.s (ns.map PyData.int)), v1, v2, v3, v4, v5, v6] =
      some ([some (.s (ns.map PyData.int)), some (.d (.int i)), w2, w3, w4, w5, w6], .nx) := by
  obtain ⟨c, e1⟩ := law_cell_ok (n := n + 6) (gl := gl) h.h11 ns i
  obtain ⟨p, e2, hp⟩ := law_pen_ok (n := n + 6) (gl := gl) h.h12 c
  obtain ⟨ρ', el, p', w3, w4, w5, w6, rfl, _⟩ := loopF_inv (tg := gT (.n 3)) (body := evSs (run fs gl (n + 7)) gl mid43)
    (fun xs ρ => ∃ (p' : List D) (v3 v4 v5 v6 : Option Sl), ρ = [some (.s (ns.map PyData.int)), some (.d (.int i)), some (.l p'), v3, v4, v5, v6] ∧ Pen (200 * xs.length) p')
    (fun x xs ρ ⟨p', v3, v4, v5, v6, eρ, hp'⟩ => by
      subst eρ
      obtain ⟨p2, w4, w5, w6, e, q⟩ := mid_turn43 (n := n) h (k := 200 * xs.length) (d := x) (v0 := some (.s (ns.map PyData.int))) (v1 := some (.d (.int i))) (v3 := v3) (v4 := v4) (v5 := v5) (v6 := v6) (hp'.less (by rw [List.length_cons]; omega))
      exact ⟨_, e, p2, _, w4, w5, w6, rfl, q⟩)
    (rngD 0 2) [some (.s (ns.map PyData.int)), some (.d (.int i)), some (.l p), v3, v4, v5, v6] ⟨p, _, _, _, _, rfl, hp.less (by rw [rngD_length]; decide)⟩
  have s0 : evS (run fs gl (n + 7)) gl (out43.nth 0) [some (.s (ns.map PyData.int)), some (.d (.int i)), v2, v3, v4, v5, v6] = some ([some (.s (ns.map PyData.int)), some (.d (.int i)), some (.l p), v3, v4, v5, v6], .nx) := by
    simp [out43, F150, e1, e2]
  have er : rng1 (.int 2) = some (rngD 0 2) := rng1_of (b := 2) (by decide) (by decide)
  have s1 : evS (run fs gl (n + 7)) gl (out43.nth 1) [some (.s (ns.map PyData.int)), some (.d (.int i)), some (.l p), v3, v4, v5, v6] = some ([some (.s (ns.map PyData.int)), some (.d (.int i)), some (.l p'), w3, w4, w5, w6], .nx) := for_eq (rng_eq (a := .cst (.int 2)) rfl er) el
  exact ⟨_, _, _, _, _, (evSs_nx s0).trans ((evSs_nx s1).trans rfl)⟩
theorem law43 (h : Has43 fs gl) (ns : List Int) (hn : ns.length ≤ 63) : ∃ ss', run fs gl (n + 8) 150 [.s (ns.map PyData.int)] = some (ss', .d (.bool true)) := by
  obtain ⟨ρ', el, _, v1, v2, v3, v4, v5, v6, rfl⟩ := loopF_inv (tg := gT (.n 1)) (body := evSs (run fs gl (n + 7)) gl out43)
    (fun xs ρ => (∀ d ∈ xs, ∃ i : Nat, d = .int i) ∧ ∃ v1 v2 v3 v4 v5 v6, ρ = [some (.s (ns.map PyData.int)), v1, v2, v3, v4, v5, v6])
    (fun x xs ρ ⟨hx, v1, v2, v3, v4, v5, v6, eρ⟩ => by
      subst eρ
      obtain ⟨i, rfl⟩ := hx x List.mem_cons_self
      obtain ⟨w2, w3, w4, w5, w6, e⟩ := out_turn43 (n := n) h (ns := ns) (i := i) (v1 := v1) (v2 := v2) (v3 := v3) (v4 := v4) (v5 := v5) (v6 := v6)
      exact ⟨_, e, fun y hy => hx y (List.mem_cons_of_mem _ hy), _, w2, w3, w4, w5, w6, rfl⟩)
    (rngD 0 (if (if (3 : Int) < ns.length then 3 else (ns.length : Int)) > 1 then (if (3 : Int) < ns.length then 3 else (ns.length : Int)) else 1).toNat) [some (.s (ns.map PyData.int)), none, none, none, none, none, none]
    ⟨fun y hy => by
      obtain ⟨i, e, hi⟩ := mem_rng hy
      exact ⟨i, e⟩, _, _, _, _, _, _, rfl⟩
  refine ⟨[.s (ns.map PyData.int)], ?_⟩
  · rw [run_step h.h150]
    generalize hc : (if (if (3 : Int) < ns.length then 3 else (ns.length : Int)) > 1 then (if (3 : Int) < ns.length then 3 else (ns.length : Int)) else 1) = c at el
    have b1 : -4611686018427387904 ≤ c := by omega
    have b2 : c < 4611686018427387904 := by omega
    simp [out43, F150] at el ⊢
    simp at hc
    simp [hc, b1, b2, el]
end DL

namespace DL
open PySem PySem.Spec L2
open PyProof.Rows hiding St
/-! ### sums over places and ribbons -/
def rsum (f : Nat → Int) (n : Nat) : Int := ((List.range n).map f).sum
theorem rsum_zero (f : Nat → Int) : rsum f 0 = 0 := rfl
theorem rsum_succ (f : Nat → Int) (n : Nat) : rsum f (n + 1) = rsum f n + f n := by
  unfold rsum
  rw [List.range_succ, List.map_append, List.sum_append]
  simp
theorem rsum_congr {f g : Nat → Int} : ∀ {n : Nat}, (∀ i, i < n → f i = g i) → rsum f n = rsum g n
  | 0, _ => rfl
  | n + 1, h => by rw [rsum_succ, rsum_succ, rsum_congr fun i hi => h i (by omega), h n (by omega)]
theorem rsum_add (f g : Nat → Int) : ∀ n, rsum (fun i => f i + g i) n = rsum f n + rsum g n
  | 0 => rfl
  | n + 1 => by rw [rsum_succ, rsum_succ, rsum_succ, rsum_add f g n]; omega
theorem rsum_const (c : Int) : ∀ n : Nat, rsum (fun _ => c) n = n * c
  | 0 => by rw [rsum_zero]; simp
  | n + 1 => by
    rw [rsum_succ, rsum_const c n]
    have : ((n + 1 : Nat) : Int) = (n : Int) + 1 := by omega
    rw [this, Int.add_mul]
    omega
theorem rsum_comm (f : Nat → Nat → Int) (m : Nat) : ∀ n, rsum (fun i => rsum (f i) m) n = rsum (fun j => rsum (fun i => f i j) n) m
  | 0 => by
    show (0 : Int) = _
    rw [rsum_congr (g := fun _ => 0) fun i _ => rsum_zero _, rsum_const]
    simp
  | n + 1 => by
    rw [rsum_succ, rsum_comm f m n, ← rsum_add]
    refine rsum_congr fun j _ => ?_
    rw [rsum_succ]
/-- at how many places two orders are unlike -/
def dif (m : Nat) (p o : List Int) : Int := rsum (fun r => if p.getD r 0 = o.getD r 0 then 0 else 1) m
def chg (m : Nat) : List Int → List (List Int) → Int
  | _, [] => 0
  | p, o :: r => dif m p o + chg m o r
theorem GP_same (x : Nat → Int) : ∀ k, ∀ q, (GP x k).2 ≤ q → q ≤ k → x q = x (GP x k).2
  | 0, q, _, h => by
    have : q = 0 := by omega
    subst this; rfl
  | k + 1, q, h1, h2 => by
    rw [GP] at h1 ⊢
    split at h1
    · rename_i hc
      rw [if_pos hc]
      by_cases hq : q = k + 1
      · subst hq; exact hc
      · exact GP_same x k q h1 (by omega)
    · rename_i hc
      rw [if_neg hc]
      have : q = k + 1 := by
        have : k + 1 ≤ q := h1
        omega
      subst this
      rfl
theorem GP_cnt (x : Nat → Int) : ∀ k, ((GP x k).1.length : Int) = rsum (fun q => if x q = x (q + 1) then 0 else 1) k
  | 0 => rfl
  | k + 1 => by
    rw [rsum_succ, ← GP_cnt x k]
    have e := GP_same x k k (GP_le x k) (Nat.le_refl _)
    rw [GP]
    by_cases hc : x (k + 1) = x (GP x k).2
    · rw [if_pos hc, if_pos (by omega)]
      omega
    · rw [if_neg hc, if_neg (by omega)]
      show (((GP x k).1 ++ [_]).length : Int) = _
      rw [List.length_append]
      rfl
theorem found_cnt (x : Nat → Int) (k : Nat) : ((foundD x (k + 1)).length : Int) = 1 + rsum (fun q => if x q = x (q + 1) then 0 else 1) k := by
  show ((((runs x k).map trD).length : Nat) : Int) = _
  rw [List.length_map]
  unfold runs
  rw [List.length_append, ← GP_cnt]
  show (((GP x k).1.length + 1 : Nat) : Int) = _
  omega
/-- how many pieces -/
def hmM (m : Nat) (E : List (List Int)) : Int := rsum (fun r => ((foundD (colX E r) E.length).length : Int)) m
theorem chg_rsum (m : Nat) : ∀ (r : List (List Int)) (p : List Int), chg m p r = rsum (fun q => dif m ((p :: r).getD q []) ((p :: r).getD (q + 1) [])) r.length
  | [], p => rfl
  | o :: r, p => by
    show dif m p o + chg m o r = _
    rw [chg_rsum m r o]
    have shift : ∀ (f : Nat → Int) (n : Nat), rsum f (n + 1) = f 0 + rsum (fun i => f (i + 1)) n := fun f n => by
      induction n with
      | zero => rw [rsum_succ, rsum_zero, rsum_zero]; omega
      | succ n ih => rw [rsum_succ, ih, rsum_succ]; omega
    rw [List.length_cons, shift]
    rfl
theorem hm_chg (m : Nat) (o : List Int) (r : List (List Int)) : hmM m (o :: r) = m + chg m o r := by
  unfold hmM
  rw [List.length_cons, rsum_congr (g := fun i => 1 + rsum (fun q => if colX (o :: r) i q = colX (o :: r) i (q + 1) then 0 else 1) r.length) fun i _ => found_cnt _ _, rsum_add, rsum_const, rsum_comm, chg_rsum]
  have : ∀ q, rsum (fun i => if colX (o :: r) i q = colX (o :: r) i (q + 1) then (0 : Int) else 1) m = dif m ((o :: r).getD q []) ((o :: r).getD (q + 1) []) := fun q => rfl
  rw [rsum_congr fun q _ => this q]
  omega
/-! ### how many ribbons a joint moves -/
def cntL {α : Type} (f : α → Int) (xs : List α) : Int := (xs.map f).sum
theorem cnt_perm {α : Type} (f : α → Int) {xs ys : List α} (h : xs.Perm ys) : cntL f xs = cntL f ys := by
  unfold cntL
  induction h with
  | nil => rfl
  | cons x _ ih => rw [List.map_cons, List.map_cons, List.sum_cons, List.sum_cons, ih]
  | swap x y l => simp only [List.map_cons, List.sum_cons]; omega
  | trans _ _ a b => exact a.trans b
theorem cnt_iota (f : Int → Int) (m : Nat) : cntL f (iota m) = rsum (fun r => f (r : Int)) m := by
  unfold cntL iota rsum
  rw [List.map_map]
  rfl
theorem cnt_ord {m : Int} (f : Int → Int) {o : List Int} (h : Ord m o) : cntL f o = rsum (fun r => f (o.getD r 0)) m.toNat := by
  unfold cntL rsum
  have lo := h.len
  congr 1
  refine List.ext_getElem (by rw [List.length_map, List.length_map, List.length_range]; omega) fun i h1 h2 => ?_
  rw [List.length_map] at h1
  simp [List.getD, h1]
def mvd (m : Nat) (j : List Int) : Int := rsum (fun r => if (r : Int) = j.getD r 0 then 0 else 1) m
theorem idx_at {m : Int} {p : List Int} (hp : Ord m p) {r : Nat} (hr : (r : Int) < m) : p.idxOf (p.getD r 0) = r := by
  have lp := hp.len
  have h : r < p.length := by omega
  have e : p.getD r 0 = p[r] := by simp [List.getD, h]
  rw [e]
  have hi : p.idxOf p[r] < p.length := List.idxOf_lt_length_iff.mpr (List.getElem_mem h)
  have g := List.getElem_idxOf hi
  have nd := hp.nd
  rw [List.Nodup, List.pairwise_iff_getElem] at nd
  rcases Nat.lt_trichotomy (p.idxOf p[r]) r with z | z | z
  · exact (nd _ _ hi h z g).elim
  · exact z
  · exact (nd _ _ h hi z g.symm).elim
theorem getD_rng {m : Int} {p : List Int} (hp : Ord m p) {r : Nat} (hr : (r : Int) < m) : 0 ≤ p.getD r 0 ∧ p.getD r 0 < m := by
  have lp := hp.len
  have h : r < p.length := by omega
  have e : p.getD r 0 = p[r] := by simp [List.getD, h]
  rw [e]
  have := hp.rng _ (List.getElem_mem h)
  omega
theorem mvd_dif {m : Int} {p o : List Int} (hp : Ord m p) (ho : Ord m o) : mvd m.toNat (jointOf p o) = dif m.toNat p o := by
  have lp := hp.len
  -- over the values of p
  have e1 : mvd m.toNat (jointOf p o) = cntL (fun s => if s = o.getD (p.idxOf s) 0 then 0 else 1) (iota m.toNat) := by
    rw [cnt_iota]
    refine rsum_congr fun r hr => ?_
    show (if (r : Int) = (jointOf p o).getD r 0 then (0 : Int) else 1) = _
    rw [jointOf_at hp ho (by omega)]
  rw [e1, ← cnt_perm _ hp.perm, cnt_ord _ hp]
  refine rsum_congr fun r hr => ?_
  show (if p.getD r 0 = o.getD (p.idxOf (p.getD r 0)) 0 then (0 : Int) else 1) = _
  rw [idx_at hp (by omega)]
theorem mvd_chg {m : Int} : ∀ (r : List (List Int)) (p : List Int), Ord m p → (∀ o ∈ r, Ord m o) → ((jointsM p r).map (mvd m.toNat)).sum = chg m.toNat p r
  | [], p, _, _ => rfl
  | o :: r, p, hp, h => by
    have ho := h o List.mem_cons_self
    show ((jointOf p o :: jointsM o r).map (mvd m.toNat)).sum = dif m.toNat p o + chg m.toNat o r
    rw [List.map_cons, List.sum_cons, mvd_dif hp ho, mvd_chg r o ho fun x hx => h x (List.mem_cons_of_mem _ hx)]
end DL

namespace DL
open PySem PySem.Spec L2
open PyProof.Rows hiding St
/-! ### all orders of up to five -/
def insAll (x : Int) : List Int → List (List Int)
  | [] => [[x]]
  | y :: r => (x :: y :: r) :: (insAll x r).map fun l => y :: l
def permL : List Int → List (List Int)
  | [] => [[]]
  | x :: r => (permL r).flatMap (insAll x)
theorem mem_insAll (x : Int) : ∀ (s t : List Int), s ++ x :: t ∈ insAll x (s ++ t)
  | [], [] => by simp [insAll]
  | [], y :: t => by simp [insAll]
  | y :: s, t => by
    show y :: (s ++ x :: t) ∈ (x :: y :: (s ++ t)) :: (insAll x (s ++ t)).map fun l => y :: l
    exact List.mem_cons_of_mem _ (List.mem_map.mpr ⟨_, mem_insAll x s t, rfl⟩)
theorem mem_permL : ∀ {r l : List Int}, l.Perm r → l ∈ permL r
  | [], l, h => by rw [h.eq_nil]; simp [permL]
  | x :: r, l, h => by
    obtain ⟨s, t, rfl⟩ := List.append_of_mem (h.mem_iff.mpr List.mem_cons_self)
    have h2 : (s ++ t).Perm r := List.Perm.cons_inv (List.perm_middle.symm.trans h)
    exact List.mem_flatMap.mpr ⟨_, mem_permL h2, mem_insAll x s t⟩
theorem ord_mem {m : Int} {o : List Int} (h : Ord m o) : o ∈ permL (iota m.toNat) := mem_permL h.perm
theorem cost_mvd_all : ([0, 1, 2, 3, 4, 5].all fun m => (permL (iota m)).all fun o => decide (costM o ≤ mvd m o) && decide (mvd m o ≤ 2 * costM o)) = true := by decide +kernel
theorem cost_mvd {m : Int} (h0 : 0 ≤ m) (h5 : m ≤ 5) {o : List Int} (h : Ord m o) : costM o ≤ mvd m.toNat o ∧ mvd m.toNat o ≤ 2 * costM o := by
  have hm : m.toNat ∈ [0, 1, 2, 3, 4, 5] := by
    have : m.toNat ≤ 5 := by omega
    generalize m.toNat = k at this
    simp only [List.mem_cons, List.not_mem_nil, or_false]
    omega
  have k := List.all_eq_true.mp (List.all_eq_true.mp cost_mvd_all m.toNat hm) o (ord_mem h)
  obtain ⟨k1, k2⟩ := (Bool.and_eq_true _ _).mp k
  exact ⟨of_decide_eq_true k1, of_decide_eq_true k2⟩
theorem sum_cost_mvd {m : Int} (h0 : 0 ≤ m) (h5 : m ≤ 5) : ∀ (J : List (List Int)), (∀ j ∈ J, Ord m j) → (J.map costM).sum ≤ (J.map (mvd m.toNat)).sum ∧ (J.map (mvd m.toNat)).sum ≤ 2 * (J.map costM).sum
  | [], _ => ⟨Int.le_refl _, Int.le_refl _⟩
  | j :: J, h => by
    obtain ⟨a, b⟩ := cost_mvd h0 h5 (h j List.mem_cons_self)
    obtain ⟨c, d⟩ := sum_cost_mvd h0 h5 J fun x hx => h x (List.mem_cons_of_mem _ hx)
    simp only [List.map_cons, List.sum_cons]
    omega
/-! ### a cut ahead: the beads are called otherwise -/
def valSw (E : List (List Int)) (c : CT) : List (List Int) := E.take c.1.toNat ++ (E.drop c.1.toNat).map fun o => o.map (swC c)
theorem valSw_at (E : List (List Int)) (c : CT) (q : Nat) : (valSw E c)[q]? = (E[q]?).map fun o => if q < c.1.toNat then o else o.map (swC c) := by
  unfold valSw
  by_cases h : q < c.1.toNat
  · by_cases h2 : q < E.length
    · rw [List.getElem?_append_left (by rw [List.length_take]; omega), List.getElem?_take, if_pos h]
      simp [h]
    · have e : E[q]? = none := List.getElem?_eq_none (by omega)
      rw [e, List.getElem?_append_right (by rw [List.length_take]; omega), List.getElem?_map, List.getElem?_drop, List.length_take, List.getElem?_eq_none (by omega)]
      rfl
  · rw [List.getElem?_append_right (by rw [List.length_take]; omega), List.getElem?_map, List.getElem?_drop, List.length_take]
    by_cases h2 : q < E.length
    · rw [show c.1.toNat + (q - min c.1.toNat E.length) = q by omega]
      simp [h]
    · rw [List.getElem?_eq_none (by omega), List.getElem?_eq_none (by omega)]
      rfl
theorem with2_map {o : List Int} {a b : Nat} (f : Int → Int) (ha : a < o.length) (hb : b < o.length) : with2 (o.map f) a b = (with2 o a b).map f := by
  unfold with2
  rw [List.map_set, List.map_set]
  have e : ∀ i, i < o.length → (o.map f).getD i 0 = f (o.getD i 0) := fun i hi => by simp [List.getD, hi]
  rw [e a ha, e b hb]
theorem valSw_step {m l : Int} {E : List (List Int)} (h : Eff m l E) (c : CT) {d : CT} (hd : Cut m l d.1 d.2.1 d.2.2) : effStep (valSw E c) d = valSw (effStep E d) c := by
  obtain ⟨p1, p2, a1, ab, b2⟩ := hd
  refine List.ext_getElem? fun q => ?_
  rw [effStep_at, valSw_at, valSw_at, effStep_at]
  cases hq : E[q]? with
  | none => rfl
  | some o =>
    have ho := h.all o (List.mem_of_getElem? hq)
    have lo := ho.len
    show some (if q < d.1.toNat then (if q < c.1.toNat then o else o.map (swC c)) else with2 (if q < c.1.toNat then o else o.map (swC c)) _ _) = some (if q < c.1.toNat then (if q < d.1.toNat then o else _) else (if q < d.1.toNat then o else _).map (swC c))
    by_cases h1 : q < d.1.toNat
    · rw [if_pos h1, if_pos h1]
    · rw [if_neg h1, if_neg h1]
      by_cases h2 : q < c.1.toNat
      · rw [if_pos h2, if_pos h2]
      · rw [if_neg h2, if_neg h2, with2_map _ (by omega) (by omega)]
theorem valSw_fold {m l : Int} (c : CT) : ∀ (ds : List CT) (E : List (List Int)), Eff m l E → Row m l ds → ds.foldl effStep (valSw E c) = valSw (ds.foldl effStep E) c
  | [], E, _, _ => rfl
  | d :: ds, E, h, r => by
    have hd := r d List.mem_cons_self
    show ds.foldl effStep (effStep (valSw E c) d) = _
    rw [valSw_step h c hd]
    exact valSw_fold c ds _ (h.step hd) fun x hx => r x (List.mem_cons_of_mem _ hx)
theorem with2_iota {m : Nat} {a b : Int} (ha : 0 ≤ a) (hb : 0 ≤ b) (ha2 : a < m) (hb2 : b < m) (ab : a ≠ b) : with2 (iota m) a.toNat b.toNat = (iota m).map (swp a b) := by
  have hl := iota_len m
  refine List.ext_getElem (by rw [with2_len, List.length_map]) fun i h1 h2 => ?_
  rw [with2_len] at h1
  have g : ∀ (xs : List Int) (h : i < xs.length), xs[i] = xs.getD i 0 := fun xs h => by simp [List.getD, h]
  have at_ : ∀ i, i < m → (iota m).getD i 0 = (i : Int) := fun i hi => by simp [iota, List.getD, hi]
  rw [g, with2_at (by omega) (by omega) (by omega), List.getElem_map]
  have e : (iota m)[i] = (i : Int) := by simp [iota]
  rw [e, at_ _ (swN_lt (by omega) (by omega) (by omega))]
  have ei : i = ((i : Int)).toNat := by omega
  conv => lhs; rw [ei]
  rw [swN_swp ha hb (by omega)]
  have := swp_rng (m := (m : Int) - 1) (c := a) (d := b) (x := (i : Int)) ⟨ha, by omega⟩ ⟨hb, by omega⟩ ⟨by omega, by omega⟩
  omega
theorem effM_cons {m l : Int} (f : Frm m l) {c : CT} (hc : Cut m l c.1 c.2.1 c.2.2) {ds : List CT} (r : Row m l ds) : effM m.toNat l.toNat (c :: ds) = valSw (effM m.toNat l.toNat ds) c := by
  have e : effStep (List.replicate l.toNat (iota m.toNat)) c = valSw (List.replicate l.toNat (iota m.toNat)) c := by
    obtain ⟨p1, p2, a1, ab, b2⟩ := hc
    refine List.ext_getElem? fun q => ?_
    rw [effStep_at, valSw_at]
    cases hq : (List.replicate l.toNat (iota m.toNat))[q]? with
    | none => rfl
    | some o =>
      have : o = iota m.toNat := (List.mem_replicate.mp (List.mem_of_getElem? hq)).2
      subst this
      show some (if q < c.1.toNat then iota m.toNat else with2 (iota m.toNat) c.2.1.toNat c.2.2.toNat) = some (if q < c.1.toNat then iota m.toNat else (iota m.toNat).map (swC c))
      rw [with2_iota (m := m.toNat) a1 (by omega) (by omega) (by omega) (by omega)]
  show ds.foldl effStep (effStep (List.replicate l.toNat (iota m.toNat)) c) = _
  rw [e, valSw_fold c ds _ (eff0_ok f) r]
  rfl
/-! ### the row the other way about -/
def Inv (m : Nat) (o o' : List Int) : Prop := ∀ i : Nat, i < m → o.getD (o'.getD i 0).toNat 0 = (i : Int)
theorem at_iota {m i : Nat} (h : i < m) : (iota m).getD i 0 = (i : Int) := by simp [iota, List.getD, h]
theorem eff_inv {m l : Int} (f : Frm m l) : ∀ (cs : List CT), Row m l cs → ∀ (q : Nat) (o o' : List Int), (effM m.toNat l.toNat cs)[q]? = some o → (effM m.toNat l.toNat cs.reverse)[q]? = some o' → Inv m.toNat o o'
  | [], _, q, o, o', h1, h2 => by
    have e : effM m.toNat l.toNat [] = List.replicate l.toNat (iota m.toNat) := rfl
    have e' : effM m.toNat l.toNat ([] : List CT).reverse = List.replicate l.toNat (iota m.toNat) := rfl
    rw [e] at h1
    rw [e'] at h2
    have a := (List.mem_replicate.mp (List.mem_of_getElem? h1)).2
    have b := (List.mem_replicate.mp (List.mem_of_getElem? h2)).2
    subst a b
    intro i hi
    rw [at_iota hi, Int.toNat_natCast, at_iota hi]
  | c :: ds, r, q, o, o', h1, h2 => by
    have hc := r c List.mem_cons_self
    have rd : Row m l ds := fun x hx => r x (List.mem_cons_of_mem _ hx)
    have rr : Row m l ds.reverse := fun x hx => rd x (List.mem_reverse.mp hx)
    rw [effM_cons f hc rd, valSw_at] at h1
    have e2 : effM m.toNat l.toNat (c :: ds).reverse = effStep (effM m.toNat l.toNat ds.reverse) c := by
      rw [List.reverse_cons]
      unfold effM
      rw [List.foldl_append]
      rfl
    rw [e2, effStep_at] at h2
    obtain ⟨O, g1, rfl⟩ := Option.map_eq_some_iff.mp h1
    obtain ⟨O', g2, rfl⟩ := Option.map_eq_some_iff.mp h2
    have ih := eff_inv f ds rd q O O' g1 g2
    have hO := (effM_ok f rd).all O (List.mem_of_getElem? g1)
    have hO' := (effM_ok f rr).all O' (List.mem_of_getElem? g2)
    by_cases hq : q < c.1.toNat
    · rw [if_pos hq, if_pos hq]; exact ih
    · rw [if_neg hq, if_neg hq]
      obtain ⟨p1, p2, a1, ab, b2⟩ := hc
      have lo := hO.len
      have lo' := hO'.len
      intro i hi
      rw [with2_at (by omega) (by omega) (by omega)]
      have hs := swN_lt (a := c.2.1.toNat) (b := c.2.2.toNat) (m := m.toNat) (by omega) (by omega) hi
      have g := getD_rng hO' (r := swN c.2.1.toNat c.2.2.toNat i) (by omega)
      have hx : ((O'.getD (swN c.2.1.toNat c.2.2.toNat i) 0)).toNat < O.length := by omega
      have e3 : (O.map (swC c)).getD (O'.getD (swN c.2.1.toNat c.2.2.toNat i) 0).toNat 0 = swC c (O.getD (O'.getD (swN c.2.1.toNat c.2.2.toNat i) 0).toNat 0) := by
        generalize (O'.getD (swN c.2.1.toNat c.2.2.toNat i) 0).toNat = t at hx
        simp [List.getD, hx]
      rw [e3, ih _ hs]
      have ei : i = ((i : Int)).toNat := by omega
      rw [ei, swN_swp a1 (by omega) (by omega)]
      have := swp_rng (m := m - 1) (c := c.2.1) (d := c.2.2) (x := (i : Int)) ⟨a1, by omega⟩ ⟨by omega, by omega⟩ ⟨by omega, by omega⟩
      rw [Int.toNat_of_nonneg this.1]
      show swp _ _ (swp _ _ _) = _
      rw [swp_swp, ← ei]
theorem dif_inv {m : Int} {p o p' o' : List Int} (hp : Ord m p) (ho : Ord m o) (hp' : Ord m p') (ho' : Ord m o') (ip : Inv m.toNat p p') (io : Inv m.toNat o o') : dif m.toNat p' o' = dif m.toNat p o := by
  have e1 : dif m.toNat p' o' = cntL (fun z => if p.getD z.toNat 0 = o.getD z.toNat 0 then 0 else 1) p' := by
    rw [cnt_ord _ hp']
    refine rsum_congr fun s hs => ?_
    have g1 := ip s hs
    have g2 := io s hs
    have r1 := getD_rng hp' (r := s) (by omega)
    have r2 := getD_rng ho' (r := s) (by omega)
    show (if p'.getD s 0 = o'.getD s 0 then (0 : Int) else 1) = if p.getD (p'.getD s 0).toNat 0 = o.getD (p'.getD s 0).toNat 0 then 0 else 1
    by_cases h : p'.getD s 0 = o'.getD s 0
    · rw [if_pos h, if_pos]
      rw [g1, h, g2]
    · rw [if_neg h, if_neg]
      intro z
      apply h
      rw [g1] at z
      have a := idx_at ho (r := (p'.getD s 0).toNat) (by omega)
      have b := idx_at ho (r := (o'.getD s 0).toNat) (by omega)
      rw [← z] at a
      rw [g2] at b
      omega
  rw [e1, cnt_perm _ hp'.perm, cnt_iota]
  refine rsum_congr fun r _ => ?_
  show (if p.getD ((r : Int)).toNat 0 = o.getD ((r : Int)).toNat 0 then (0 : Int) else 1) = _
  rw [Int.toNat_natCast]
theorem hm_rsum {m : Nat} {E : List (List Int)} {k : Nat} (h : E.length = k + 1) : hmM m E = m + rsum (fun q => dif m (E.getD q []) (E.getD (q + 1) [])) k := by
  cases E with
  | nil => cases h
  | cons o r =>
    have : r.length = k := Nat.succ.inj h
    subst this
    rw [hm_chg, chg_rsum]
theorem hm_inv {m l : Int} (f : Frm m l) {cs : List CT} (r : Row m l cs) : hmM m.toNat (effM m.toNat l.toNat cs.reverse) = hmM m.toNat (effM m.toNat l.toNat cs) := by
  have rr : Row m l cs.reverse := fun x hx => r x (List.mem_reverse.mp hx)
  have e1 := effM_ok f r
  have e2 := effM_ok f rr
  have l1 := e1.len
  have l2 := e2.len
  have hl := f.l1
  obtain ⟨k, hk⟩ : ∃ k, l.toNat = k + 1 := ⟨l.toNat - 1, by omega⟩
  rw [hm_rsum (k := k) (by omega), hm_rsum (k := k) (by omega)]
  congr 1
  have at1 : ∀ q, q < k + 1 → ∃ o, (effM m.toNat l.toNat cs)[q]? = some o ∧ (effM m.toNat l.toNat cs).getD q [] = o := fun q hq => ⟨_, List.getElem?_eq_getElem (by omega), by rw [List.getD_eq_getElem?_getD, List.getElem?_eq_getElem (by omega)]; rfl⟩
  have at2 : ∀ q, q < k + 1 → ∃ o, (effM m.toNat l.toNat cs.reverse)[q]? = some o ∧ (effM m.toNat l.toNat cs.reverse).getD q [] = o := fun q hq => ⟨_, List.getElem?_eq_getElem (by omega), by rw [List.getD_eq_getElem?_getD, List.getElem?_eq_getElem (by omega)]; rfl⟩
  refine rsum_congr fun q hq => ?_
  obtain ⟨p, a1, a2⟩ := at1 q (by omega)
  obtain ⟨o, b1, b2⟩ := at1 (q + 1) (by omega)
  obtain ⟨p', c1, c2⟩ := at2 q (by omega)
  obtain ⟨o', d1, d2⟩ := at2 (q + 1) (by omega)
  rw [a2, b2, c2, d2]
  exact dif_inv (e1.all p (List.mem_of_getElem? a1)) (e1.all o (List.mem_of_getElem? b1)) (e2.all p' (List.mem_of_getElem? c1)) (e2.all o' (List.mem_of_getElem? d1)) (eff_inv f cs r q p p' a1 c1) (eff_inv f cs r (q + 1) o o' b1 d1)
/-! ### a cut more -/
theorem rsum_near {f g : Nat → Int} {t : Nat} (c : Int) (hc : 0 ≤ c) : ∀ {n : Nat}, (∀ i, i ≠ t → f i = g i) → (f t - g t ≤ c ∧ g t - f t ≤ c) → rsum f n - rsum g n ≤ c ∧ rsum g n - rsum f n ≤ c
  | 0, _, _ => by rw [rsum_zero, rsum_zero]; omega
  | n + 1, h, ht => by
    rw [rsum_succ, rsum_succ]
    by_cases hn : n = t
    · subst hn
      have e : rsum f n = rsum g n := rsum_congr fun i hi => h i (by omega)
      omega
    · have := rsum_near c hc (n := n) h ht
      have := h n hn
      omega
theorem rsum_two {f g : Nat → Int} {a b : Nat} (h : ∀ i, i ≠ a → i ≠ b → f i = g i) (h1 : ∀ i, 0 ≤ f i ∧ f i ≤ 1) (h2 : ∀ i, 0 ≤ g i ∧ g i ≤ 1) (n : Nat) : rsum f n - rsum g n ≤ 2 ∧ rsum g n - rsum f n ≤ 2 := by
  -- by way of a third sum
  have k1 := rsum_near (f := f) (g := fun i => if i = a then g i else f i) (t := a) 1 (by decide) (n := n) (fun i hi => by rw [if_neg hi]) (by have := h1 a; have := h2 a; rw [if_pos rfl]; omega)
  have k2 := rsum_near (f := fun i => if i = a then g i else f i) (g := g) (t := b) 1 (by decide) (n := n) (fun i hi => by
    show (if i = a then g i else f i) = g i
    split
    · rfl
    · rename_i z
      exact h i z hi) (by
    have := h1 b
    have := h2 b
    show (if b = a then g b else f b) - g b ≤ 1 ∧ g b - (if b = a then g b else f b) ≤ 1
    split <;> omega)
  omega
theorem rsum_sw {m a b : Nat} (h : Nat → Int) (ha : a < m) (hb : b < m) (ab : a ≠ b) : rsum (fun r => h (swN a b r)) m = rsum h m := by
  have ho : Ord (m : Int) (with2 (iota m) a b) := by
    have := iota_ord (m := (m : Int)) (by omega)
    rw [Int.toNat_natCast] at this
    exact this.with2 (by rw [iota_len]; exact ha) (by rw [iota_len]; exact hb) ab
  have k := cnt_ord (fun z => h z.toNat) ho
  rw [cnt_perm _ ho.perm, cnt_iota, Int.toNat_natCast] at k
  have e1 : rsum (fun r => h ((r : Int)).toNat) m = rsum h m := rsum_congr fun r _ => by rw [Int.toNat_natCast]
  rw [e1] at k
  rw [k]
  refine rsum_congr fun r hr => ?_
  rw [with2_at (by rw [iota_len]; exact ha) (by rw [iota_len]; exact hb) ab, at_iota (swN_lt ha hb hr), Int.toNat_natCast]
theorem dif_with2 {m : Int} {p o : List Int} (hp : Ord m p) (ho : Ord m o) {a b : Nat} (ha : (a : Int) < m) (hb : (b : Int) < m) (ab : a ≠ b) : dif m.toNat (with2 p a b) (with2 o a b) = dif m.toNat p o := by
  have lp := hp.len
  have lo := ho.len
  unfold dif
  refine Eq.trans (rsum_congr fun r _ => ?_) (rsum_sw (a := a) (b := b) (fun r => if p.getD r 0 = o.getD r 0 then 0 else 1) (by omega) (by omega) ab)
  rw [with2_at (by omega) (by omega) ab, with2_at (by omega) (by omega) ab]
theorem dif_near {m : Nat} {p o : List Int} {a b : Nat} (ha : a < o.length) (hb : b < o.length) (ab : a ≠ b) : dif m p (with2 o a b) - dif m p o ≤ 2 ∧ dif m p o - dif m p (with2 o a b) ≤ 2 := by
  unfold dif
  refine rsum_two (a := a) (b := b) (fun i h1 h2 => ?_) (fun i => ?_) (fun i => ?_) m
  · rw [with2_at ha hb ab]
    have : swN a b i = i := by unfold swN; rw [if_neg h1, if_neg h2]
    rw [this]
  · split <;> omega
  · split <;> omega
theorem hm_cut {m l : Int} (f : Frm m l) {E : List (List Int)} (e : Eff m l E) {c : CT} (hc : Cut m l c.1 c.2.1 c.2.2) : hmM m.toNat (effStep E c) - hmM m.toNat E ≤ 2 ∧ hmM m.toNat E - hmM m.toNat (effStep E c) ≤ 2 := by
  have e2 := e.step hc
  have l1 := e.len
  have l2 := e2.len
  have hl := f.l1
  obtain ⟨p1, p2, a1, ab, b2⟩ := hc
  obtain ⟨k, hk⟩ : ∃ k, l.toNat = k + 1 := ⟨l.toNat - 1, by omega⟩
  rw [hm_rsum (k := k) (by omega), hm_rsum (k := k) (by omega)]
  have at_ : ∀ q, q < k + 1 → ∃ o, Ord m o ∧ E.getD q [] = o ∧ (effStep E c).getD q [] = if q < c.1.toNat then o else with2 o c.2.1.toNat c.2.2.toNat := fun q hq => by
    have hq2 : q < E.length := by omega
    refine ⟨E[q], e.all _ (List.getElem_mem hq2), by simp [List.getD, hq2], ?_⟩
    rw [List.getD_eq_getElem?_getD, effStep_at, List.getElem?_eq_getElem hq2]
    rfl
  have step : ∀ (F G : Nat → Int) (n : Nat), (∀ i, i < n → i + 1 ≠ c.1.toNat → F i = G i) → (∀ i, i < n → F i - G i ≤ 2 ∧ G i - F i ≤ 2) → rsum F n - rsum G n ≤ 2 ∧ rsum G n - rsum F n ≤ 2 := fun F G n => by
    induction n with
    | zero => intro _ _; rw [rsum_zero, rsum_zero]; omega
    | succ n ih =>
      intro h1 h2
      rw [rsum_succ, rsum_succ]
      by_cases hn : n + 1 = c.1.toNat
      · have e : rsum F n = rsum G n := rsum_congr fun i hi => h1 i (by omega) (by omega)
        have := h2 n (by omega)
        omega
      · have := ih (fun i hi => h1 i (by omega)) (fun i hi => h2 i (by omega))
        have := h1 n (by omega) hn
        omega
  have key := step (fun q => dif m.toNat ((effStep E c).getD q []) ((effStep E c).getD (q + 1) [])) (fun q => dif m.toNat (E.getD q []) (E.getD (q + 1) [])) k (fun q hq hne => by
      obtain ⟨p, hp, x1, x2⟩ := at_ q (by omega)
      obtain ⟨o, ho, y1, y2⟩ := at_ (q + 1) (by omega)
      show dif _ ((effStep E c).getD q []) ((effStep E c).getD (q + 1) []) = dif _ (E.getD q []) (E.getD (q + 1) [])
      rw [x1, x2, y1, y2]
      by_cases h1 : q + 1 < c.1.toNat
      · rw [if_pos h1, if_pos (by omega)]
      · rw [if_neg h1, if_neg (by omega)]
        exact dif_with2 hp ho (by omega) (by omega) (by omega)) (fun q hq => by
      obtain ⟨p, hp, x1, x2⟩ := at_ q (by omega)
      obtain ⟨o, ho, y1, y2⟩ := at_ (q + 1) (by omega)
      have lo := ho.len
      show dif _ ((effStep E c).getD q []) ((effStep E c).getD (q + 1) []) - dif _ (E.getD q []) (E.getD (q + 1) []) ≤ 2 ∧ dif _ (E.getD q []) (E.getD (q + 1) []) - dif _ ((effStep E c).getD q []) ((effStep E c).getD (q + 1) []) ≤ 2
      rw [x1, x2, y1, y2]
      by_cases h1 : q + 1 < c.1.toNat
      · rw [if_pos h1, if_pos (by omega)]; omega
      · rw [if_neg h1]
        by_cases h2 : q < c.1.toNat
        · rw [if_pos h2]
          exact dif_near (by omega) (by omega) (by omega)
        · rw [if_neg h2, dif_with2 hp ho (by omega) (by omega) (by omega)]; omega)
  omega
theorem hm_none {m l : Int} (f : Frm m l) : hmM m.toNat (effM m.toNat l.toNat []) = m := by
  have m1 := f.m1
  have hl := f.l1
  obtain ⟨k, hk⟩ : ∃ k, l.toNat = k + 1 := ⟨l.toNat - 1, by omega⟩
  have e : effM m.toNat l.toNat [] = List.replicate l.toNat (iota m.toNat) := rfl
  rw [e, hm_rsum (k := k) (by rw [List.length_replicate]; exact hk)]
  have z : rsum (fun q => dif m.toNat ((List.replicate l.toNat (iota m.toNat)).getD q []) ((List.replicate l.toNat (iota m.toNat)).getD (q + 1) [])) k = rsum (fun _ => 0) k := rsum_congr fun q hq => by
    have g : ∀ i, i < k + 1 → (List.replicate l.toNat (iota m.toNat)).getD i [] = iota m.toNat := fun i hi => by
      rw [List.getD_eq_getElem?_getD, List.getElem?_replicate, if_pos (by omega)]
      rfl
    show dif _ ((List.replicate l.toNat (iota m.toNat)).getD q []) ((List.replicate l.toNat (iota m.toNat)).getD (q + 1) []) = 0
    rw [g q (by omega), g (q + 1) (by omega)]
    unfold dif
    rw [rsum_congr (g := fun _ => 0) fun r _ => by rw [if_pos rfl], rsum_const]
    simp
  rw [z, rsum_const]
  omega
end DL

namespace DL
open PySem PySem.Spec L2
open PyProof.Rows hiding St
variable {fs : Nat → Option Fn} {gl : Nat → Option D} {n : Nat}
/-- _law_side_by_side -/
def F101 : Fn := ⟨3, [], 10, (.cons (.set 3 false (.cst (.int 0)))
 (.cons (.for (.seq (.var 2)) (.t (.cons (.n 4) (.cons (.n 5) (.cons (.n 6) .nil)))) (.cons (.ite (.or (.cmp .NotEq (.var 5) (.var 3)) (.cmp .Lt (.var 6) (.var 5))) (.cons (.ret (.cst (.bool false)))
 .nil) .nil)
 (.cons (.ite (.cmp .NotEq (.lc [9] (.rg2 (.var 5) (.bin .Add (.var 6) (.cst (.int 1)))) (.n 9) (.so (.cmp .NotEq (.idx (.idx (.var 0) (.var 9)) (.var 1)) (.var 4))) (.cst (.int 1))) (.lst .nil)) (.cons (.ret (.cst (.bool false)))
 .nil) .nil)
 (.cons (.set 3 false (.bin .Add (.var 6) (.cst (.int 1))))
 .nil))))
 (.cons (.ret (.and (.cmp .Eq (.var 3) (.blt .len (.cons (.var 0) .nil))) (.cmp .Eq (.lc [8, 7] (.zp (.var 2) (.sli (.var 2) (.so (.cst (.int 1))) .no)) (.t (.cons (.n 8) (.cons (.n 7) .nil))) (.so (.cmp .Eq (.idx (.var 8) (.cst (.int 0))) (.idx (.var 7) (.cst (.int 0))))) (.cst (.int 1))) (.lst .nil))))
 .nil)))⟩
/-! ### runs lie side by side -/
def Tiles (x : Nat → Int) : Nat → List Tr → Nat → Prop
  | a, [], e => a = e
  | a, t :: ts, e => t.2.1 = a ∧ t.2.1 ≤ t.2.2 ∧ (∀ q, t.2.1 ≤ q → q ≤ t.2.2 → x q = t.1) ∧ Tiles x (t.2.2 + 1) ts e
theorem Tiles.snoc {x : Nat → Int} {t : Tr} (h2 : t.2.1 ≤ t.2.2) (h3 : ∀ q, t.2.1 ≤ q → q ≤ t.2.2 → x q = t.1) : ∀ {ts : List Tr} {a : Nat}, Tiles x a ts t.2.1 → Tiles x a (ts ++ [t]) (t.2.2 + 1)
  | [], a, h => ⟨h.symm, h2, h3, rfl⟩
  | s :: ts, a, ⟨h4, h5, h6, h⟩ => ⟨h4, h5, h6, Tiles.snoc h2 h3 h⟩
theorem GP_tiles (x : Nat → Int) : ∀ k, Tiles x 0 (GP x k).1 (GP x k).2
  | 0 => rfl
  | k + 1 => by
    have ih := GP_tiles x k
    rw [GP]
    split
    · exact ih
    · exact Tiles.snoc (t := (x (GP x k).2, (GP x k).2, k)) (GP_le x k) (fun q a b => GP_same x k q a b) ih
theorem runs_tiles (x : Nat → Int) (k : Nat) : Tiles x 0 (runs x k) (k + 1) := Tiles.snoc (t := (x (GP x k).2, (GP x k).2, k)) (GP_le x k) (fun q a b => GP_same x k q a b) (GP_tiles x k)
def Adj : List Tr → Prop
  | a :: b :: r => a.1 ≠ b.1 ∧ Adj (b :: r)
  | _ => True
theorem Adj.snoc {a b : Tr} (h : a.1 ≠ b.1) : ∀ {ts : List Tr}, Adj (ts ++ [a]) → Adj (ts ++ [a] ++ [b])
  | [], _ => ⟨h, trivial⟩
  | [c], ⟨h1, h2⟩ => ⟨h1, h, trivial⟩
  | c :: d :: ts, ⟨h1, h2⟩ => ⟨h1, Adj.snoc (ts := d :: ts) h h2⟩
theorem Adj.last {a b : Tr} (h : a.1 = b.1) : ∀ {ts : List Tr}, Adj (ts ++ [a]) → Adj (ts ++ [b])
  | [], _ => trivial
  | [c], ⟨h1, h2⟩ => ⟨by rw [← h]; exact h1, trivial⟩
  | c :: d :: ts, ⟨h1, h2⟩ => ⟨h1, Adj.last (ts := d :: ts) h h2⟩
theorem runs_adj (x : Nat → Int) : ∀ k, Adj (runs x k)
  | 0 => trivial
  | k + 1 => by
    have ih := runs_adj x k
    unfold runs at ih ⊢
    rw [GP]
    by_cases hc : x (k + 1) = x (GP x k).2
    · rw [if_pos hc]
      exact Adj.last (a := (x (GP x k).2, (GP x k).2, k)) (b := (x (GP x k).2, (GP x k).2, k + 1)) rfl ih
    · rw [if_neg hc]
      exact Adj.snoc (a := (x (GP x k).2, (GP x k).2, k)) (b := (x (k + 1), k + 1, k + 1)) (fun z => hc z.symm) ih
/-- a comprehension that takes nothing -/
theorem loopC_none {vs : List Nat} {tg : D → Ev → Option Ev} {cd : GB} {el : GD} {ρ : Ev} {acc : List D} (ha : acc.length < 16777216) : ∀ (xs : List D), (∀ d ∈ xs, turnC vs tg cd el d ρ = some (ρ, none)) → loopC vs tg cd el xs ρ acc = some (ρ, acc)
  | [], _ => rfl
  | d :: xs, h => by
    have k := loopC_turn (r := xs) (acc := acc) (h d List.mem_cons_self) ha
    rw [k]
    show loopC vs tg cd el xs ρ (acc ++ []) = _
    rw [List.append_nil]
    exact loopC_none ha xs fun x hx => h x (List.mem_cons_of_mem _ hx)
def sdC : E := .cmp .NotEq (.idx (.idx (.var 0) (.var 9)) (.var 1)) (.var 4)
theorem ne_int (a b : Int) : neD (.int a) (.int b) = some (.d (.bool (decide (a ≠ b)))) := by
  show (if dep2 (.int a) (.int b) = true then some (Sl.d (.bool (!PyData.eqv (.int a) (.int b)))) else none) = _
  rw [if_pos (dep_int a b), eqv_int]
  simp
theorem eq_int (a b : Int) : eqD (.int a) (.int b) = some (.d (.bool (decide (a = b)))) := by
  show (if dep2 (.int a) (.int b) = true then some (Sl.d (.bool (PyData.eqv (.int a) (.int b)))) else none) = _
  rw [if_pos (dep_int a b), eqv_int]
theorem ne_nil : neD (.list []) (.list []) = some (.d (.bool false)) := Tame.ne (k := 1) (w := 100) (Tame.lst (k := 0) (w := 0) (xs := []) (fun _ h => by cases h) |>.less (by decide) (by decide)) (by decide)
theorem eq_nil : eqD (.list []) (.list []) = some (.d (.bool true)) := Tame.eq (k := 1) (w := 100) (Tame.lst (k := 0) (w := 0) (xs := []) (fun _ h => by cases h) |>.less (by decide) (by decide)) (by decide)
theorem side_turn {ED : List D} {r own fi la : Int} (h1 : fi ≤ la) (b1 : 0 ≤ fi) (b2 : la ≤ 1000) (hx : ∀ z : Int, fi ≤ z → z ≤ la → ∃ O, atD ED z = some (.tuple O) ∧ atD O r = some (.int own)) {v2 v4 v5 v6 v7 v8 : Option Sl} :
    turnF (gT (.t (.cons (.n 4) (.cons (.n 5) (.cons (.n 6) .nil))))) (evSs (run fs gl n) gl (F101.body.nth 1).inner) (.tuple [.int own, .int fi, .int la]) [some (.d (.tuple ED)), some (.d (.int r)), v2, some (.d (.int fi)), v4, v5, v6, v7, v8, none] =
      some ([some (.d (.tuple ED)), some (.d (.int r)), v2, some (.d (.int (la + 1))), some (.d (.int own)), some (.d (.int fi)), some (.d (.int la)), v7, v8, none], .nx) := by
  have k := loopC_none (vs := [9]) (tg := gT (.n 9)) (cd := evB (run fs gl n) gl sdC) (el := gd (evX (run fs gl n) gl (.cst (.int 1)))) (ρ := [some (.d (.tuple ED)), some (.d (.int r)), v2, some (.d (.int fi)), some (.d (.int own)), some (.d (.int fi)), some (.d (.int la)), v7, v8, none]) (acc := []) (by decide)
    (rngD fi (la + 1 - fi).toNat) (fun d hd => by
      unfold rngD at hd
      obtain ⟨i, hi, rfl⟩ := List.mem_map.mp hd
      have := List.mem_range.mp hi
      obtain ⟨O, e1, e2⟩ := hx (fi + (i : Int)) (by omega) (by omega)
      generalize fi + (i : Int) = z at e1
      simp [sdC, e1, e2, eqv_int, dep_int])
  have er := rng2_of (a := fi) (b := la + 1) (by omega) (by omega) (by omega) (by omega)
  have h2 : ¬ la < fi := by omega
  have nn := ne_nil
  unfold sdC at k
  simp at k
  simp [F101, ne_int, h2, er, -rng2, k, nn, -neD]
theorem zip_adj : ∀ (ts : List Tr), zipD (ts.map trD) ((ts.map trD).drop 1) = (ts.zip (ts.drop 1)).map fun t => PyData.tuple [trD t.1, trD t.2]
  | [] => rfl
  | [t] => rfl
  | a :: b :: r => by
    have ih := zip_adj (b :: r)
    simp [zipD] at ih ⊢
    exact ih
theorem adj_mem : ∀ {ts : List Tr}, Adj ts → ∀ t ∈ ts.zip (ts.drop 1), t.1.1 ≠ t.2.1
  | [], _, t, h => by cases h
  | [a], _, t, h => by cases h
  | a :: b :: r, ⟨h1, h2⟩, t, h => by
    rcases List.mem_cons.mp (show t ∈ (a, b) :: (b :: r).zip r from h) with rfl | h
    · exact h1
    · exact adj_mem h2 t h
theorem side_ok (h101 : fs 101 = some F101) {m l : Int} (f : Frm m l) {E : List (List Int)} (e : Eff m l E) {r : Nat} (hr : (r : Int) < m) :
    run fs gl (n + 1) 101 [.d (effD E), .d (.int r), .d (.tuple (foundD (colX E r) E.length))] = some ([.d (effD E), .d (.int r), .d (.tuple (foundD (colX E r) E.length))], .d (.bool true)) := by
  have len := e.len
  have l1 := f.l1
  have l2 := f.l2
  obtain ⟨k, hk⟩ : ∃ k, E.length = k + 1 := ⟨E.length - 1, by omega⟩
  have ef : foundD (colX E r) E.length = (runs (colX E r) k).map trD := by rw [hk]; rfl
  rw [ef]
  have s0 : evS (run fs gl n) gl (F101.body.nth 0) [some (.d (effD E)), some (.d (.int r)), some (.d (.tuple ((runs (colX E r) k).map trD))), none, none, none, none, none, none, none] = some ([some (.d (effD E)), some (.d (.int r)), some (.d (.tuple ((runs (colX E r) k).map trD))), some (.d (.int 0)), none, none, none, none, none, none], .nx) := by
    generalize effD E = ED
    generalize (runs (colX E r) k).map trD = RU
    simp [F101, Ss.nth]
  have hx : ∀ z : Int, 0 ≤ z → z ≤ k → ∃ O, atD (E.map orderD) z = some (.tuple O) ∧ atD O (r : Int) = some (.int (colX E r z.toNat)) := fun z h0 h1 => by
    have hz : z.toNat < E.length := by omega
    refine ⟨E[z.toNat].map PyData.int, ?_, colX_at e hr hz⟩
    unfold atD ixD
    rw [List.length_map, if_pos h0, if_pos (by omega)]
    simp [hz, orderD]
  obtain ⟨ρ', el, a, ts, v4, v5, v6, ex, rfl, ht⟩ := loopF_inv (tg := gT (.t (.cons (.n 4) (.cons (.n 5) (.cons (.n 6) .nil))))) (body := evSs (run fs gl n) gl (F101.body.nth 1).inner)
    (fun xs ρ => ∃ (a : Nat) (ts : List Tr) (v4 v5 v6 : Option Sl), xs = ts.map trD ∧ ρ = [some (.d (effD E)), some (.d (.int r)), some (.d (.tuple ((runs (colX E r) k).map trD))), some (.d (.int (a : Int))), v4, v5, v6, none, none, none] ∧ Tiles (colX E r) a ts (k + 1))
    (fun d xs ρ ⟨a, ts, v4, v5, v6, ex, eρ, ht⟩ => by
      subst eρ
      cases ts with
      | nil => cases ex
      | cons t ts =>
        rw [List.map_cons] at ex
        injection ex with e1 e2
        subst e1 e2
        obtain ⟨t1, t2, t3, t4⟩ := ht
        have hle : t.2.2 + 1 ≤ k + 1 := by
          have mono : ∀ (ts : List Tr) (a e : Nat), Tiles (colX E r) a ts e → a ≤ e := fun ts => by
            induction ts with
            | nil => intro a e h; exact Nat.le_of_eq h
            | cons s ts ih =>
              intro a e ⟨h1, h2, _, h4⟩
              have := ih _ _ h4
              omega
          exact mono ts _ _ t4
        have t := side_turn (fs := fs) (gl := gl) (n := n) (ED := E.map orderD) (r := (r : Int)) (own := t.1) (fi := (t.2.1 : Int)) (la := (t.2.2 : Int)) (by omega) (by omega) (by omega) (fun z h0 h1 => by
            obtain ⟨O, o1, o2⟩ := hx z (by omega) (by omega)
            rw [t3 z.toNat (by omega) (by omega)] at o2
            exact ⟨O, o1, o2⟩) (v2 := some (.d (.tuple ((runs (colX E r) k).map trD)))) (v4 := v4) (v5 := v5) (v6 := v6) (v7 := none) (v8 := none)
        subst t1
        exact ⟨_, t, _, ts, _, _, _, rfl, rfl, t4⟩)
    ((runs (colX E r) k).map trD) [some (.d (effD E)), some (.d (.int r)), some (.d (.tuple ((runs (colX E r) k).map trD))), some (.d (.int 0)), none, none, none, none, none, none]
    ⟨0, runs (colX E r) k, _, _, _, rfl, rfl, runs_tiles _ k⟩
  have : ts = [] := by cases ts with | nil => rfl | cons c q => cases ex
  subst this
  have ea : a = k + 1 := ht
  subst ea
  have s1 : evS (run fs gl n) gl (F101.body.nth 1) [some (.d (effD E)), some (.d (.int r)), some (.d (.tuple ((runs (colX E r) k).map trD))), some (.d (.int 0)), none, none, none, none, none, none] = some ([some (.d (effD E)), some (.d (.int r)), some (.d (.tuple ((runs (colX E r) k).map trD))), some (.d (.int ((k + 1 : Nat) : Int))), v4, v5, v6, none, none, none], .nx) := by
    refine for_eq (s := .seq (.var 2)) (ρ1 := [some (.d (effD E)), some (.d (.int r)), some (.d (.tuple ((runs (colX E r) k).map trD))), some (.d (.int 0)), none, none, none, none, none, none]) (xs := (runs (colX E r) k).map trD) ?_ el
    generalize effD E = ED
    generalize (runs (colX E r) k).map trD = RU
    simp
  have cd : cutD ((runs (colX E r) k).map trD) (some 1) none = ((runs (colX E r) k).map trD).drop 1 := cut_drop _ 1
  have kz := loopC_none (vs := [8, 7]) (tg := gT (.t (.cons (.n 8) (.cons (.n 7) .nil)))) (cd := evB (run fs gl n) gl (.cmp .Eq (.idx (.var 8) (.cst (.int 0))) (.idx (.var 7) (.cst (.int 0))))) (el := gd (evX (run fs gl n) gl (.cst (.int 1)))) (ρ := [some (.d (effD E)), some (.d (.int r)), some (.d (.tuple ((runs (colX E r) k).map trD))), some (.d (.int ((k + 1 : Nat) : Int))), v4, v5, v6, none, none, none]) (acc := []) (by decide)
    (zipD ((runs (colX E r) k).map trD) (((runs (colX E r) k).map trD).drop 1)) (fun d hd => by
      rw [zip_adj] at hd
      obtain ⟨t, ht, rfl⟩ := List.mem_map.mp hd
      have ne := adj_mem (runs_adj _ k) t ht
      have a0 : ∀ x y z : D, atD [x, y, z] 0 = some x := fun _ _ _ => rfl
      generalize effD E = ED
      generalize (runs (colX E r) k).map trD = RU
      generalize ((k + 1 : Nat) : Int) = K
      simp [trD, a0, eq_int, ne, -eqD])
  have hlen : (((E.map orderD).length : Nat) : Int) = ((k + 1 : Nat) : Int) := by rw [List.length_map, hk]
  have s2 : evS (run fs gl n) gl (F101.body.nth 2) [some (.d (effD E)), some (.d (.int r)), some (.d (.tuple ((runs (colX E r) k).map trD))), some (.d (.int ((k + 1 : Nat) : Int))), v4, v5, v6, none, none, none] = some ([some (.d (effD E)), some (.d (.int r)), some (.d (.tuple ((runs (colX E r) k).map trD))), some (.d (.int ((k + 1 : Nat) : Int))), v4, v5, v6, none, none, none], .rt (.d (.bool true))) := by
    unfold effD at kz ⊢
    have eqn := eq_nil
    generalize ((k + 1 : Nat) : Int) = K at kz hlen ⊢
    generalize (runs (colX E r) k).map trD = RU at kz cd ⊢
    generalize E.map orderD = ED at kz hlen ⊢
    simp [-eqD] at kz
    simp [F101, Ss.nth, eq_int, hlen, cd, kz, eqn, -eqD]
  exact run_of h101 rfl ((evSs_nx s0).trans ((evSs_nx s1).trans (evSs_rt s2))) rfl
end DL

namespace DL
open PySem PySem.Spec L2
open PyProof.Rows hiding St
variable {fs : Nat → Option Fn} {gl : Nat → Option D} {n : Nat}
/-- _law_pen -/
def F52 : Fn := ⟨1, [], 1, (.cons (.ret (.lst (.cons (.blt .max (.cons (.cst (.int 0)) (.cons (.bin .Sub (.var 0) (.bin .Pow (.cst (.int 10)) (.cst (.int 18)))) .nil))) (.cons (.bin .Add (.bin .Mod (.var 0) (.cst (.int 2147483629))) (.cst (.int 1))) (.cons (.cst (.int 0)) .nil)))))
 .nil)⟩
/-- _law_draw -/
def F53 : Fn := ⟨2, [0], 4, (.cons (.ite (.cmp .Gt (.idxV 0 (.cst (.int 0))) (.cst (.int 0))) (.cons (.set 2 false (.bin .Mod (.idxV 0 (.cst (.int 0))) (.var 1)))
 (.cons (.asg (.ix 0 (.cst (.int 0))) (.bin .FloorDiv (.idxV 0 (.cst (.int 0))) (.var 1)))
 (.cons (.ret (.var 2))
 .nil))) .nil)
 (.cons (.asg (.ix 0 (.cst (.int 2))) (.bin .Add (.idxV 0 (.cst (.int 2))) (.cst (.int 1))))
 (.cons (.asg (.ix 0 (.cst (.int 1))) (.bin .Mod (.bin .Add (.bin .Add (.bin .Mult (.idxV 0 (.cst (.int 1))) (.cst (.int 48271))) (.bin .Mult (.cst (.int 1013)) (.idxV 0 (.cst (.int 2))))) (.cst (.int 11))) (.cst (.int 2147483647))))
 (.cons (.set 3 false (.bin .Mod (.bin .Add (.bin .Add (.bin .Mult (.idxV 0 (.cst (.int 1))) (.idxV 0 (.cst (.int 1)))) (.bin .Mult (.cst (.int 40692)) (.idxV 0 (.cst (.int 1))))) (.cst (.int 7))) (.cst (.int 2147483629))))
 (.cons (.ret (.bin .Mod (.bin .FloorDiv (.bin .Mod (.bin .Mult (.var 3) (.cst (.int 69621))) (.cst (.int 2147483647))) (.cst (.int 16))) (.var 1)))
 .nil)))))⟩
/-- _law_pick -/
def F54 : Fn := ⟨2, [0], 2, (.cons (.ret (.idx (.var 1) (.call 53 (.s 0 (.d (.blt .len (.cons (.var 1) .nil)) .nil)))))
 .nil)⟩
/-- _law_mixed -/
def F55 : Fn := ⟨2, [0], 5, (.cons (.par2 2 3 true true (.lRg (.rng (.var 1))) (.lst .nil))
 (.cons (.for (.rng (.var 1)) (.n 4) (.cons (.expr (.app 3 (.popAt 2 (.call 53 (.s 0 (.d (.lenV 2) .nil))))))
 .nil))
 (.cons (.ret (.mv 3))
 .nil)))⟩
/-- _law_frame -/
def F56 : Fn := ⟨3, [0], 3, (.cons (.ret (.tup (.cons (.bin .Add (.cst (.int 1)) (.call 53 (.s 0 (.d (.var 1) .nil)))) (.cons (.bin .Add (.cst (.int 1)) (.call 53 (.s 0 (.d (.var 2) .nil)))) .nil))))
 .nil)⟩
/-- _law_cuts -/
def F57 : Fn := ⟨1, [], 5, (.cons (.set 1 true (.lst .nil))
 (.cons (.for (.rng (.idx (.var 0) (.cst (.int 1)))) (.n 2) (.cons (.for (.rng (.idx (.var 0) (.cst (.int 0)))) (.n 3) (.cons (.expr (.ext 1 (.lc [4] (.rg2 (.bin .Add (.var 3) (.cst (.int 1))) (.idx (.var 0) (.cst (.int 0)))) (.n 4) .no (.tup (.cons (.var 2) (.cons (.var 3) (.cons (.var 4) .nil)))))))
 .nil))
 .nil))
 (.cons (.ret (.mv 1))
 .nil)))⟩
/-- _law_row -/
def F58 : Fn := ⟨3, [0], 5, (.cons (.set 3 false (.call 57 (.d (.var 1) .nil)))
 (.cons (.ret (.blt .tuple (.cons (.lc [4] (.rng (.bin .Mult (.call 53 (.s 0 (.d (.bin .Add (.var 2) (.cst (.int 1))) .nil))) (.blt .int (.cons (.cmp .NotEq (.var 3) (.lst .nil)) .nil)))) (.n 4) .no (.call 54 (.s 0 (.d (.var 3) .nil)))) .nil)))
 .nil))⟩
/-- _law_effect -/
def F59 : Fn := ⟨2, [0], 3, (.cons (.ret (.blt .tuple (.cons (.lc [2] (.rng (.idx (.var 1) (.cst (.int 1)))) (.n 2) .no (.blt .tuple (.cons (.call 55 (.s 0 (.d (.idx (.var 1) (.cst (.int 0))) .nil))) .nil))) .nil)))
 .nil)⟩
/-- the other pen: it may be asked k times more -/
def Pn (k : Nat) (p : List D) : Prop := ∃ a b c : Int, p = [.int a, .int b, .int c] ∧ 0 ≤ b ∧ b < 2 ^ 32 ∧ 0 ≤ c ∧ c + k ≤ 2 ^ 40
theorem Pn.less {j k : Nat} {p : List D} (h : Pn k p) (e : j ≤ k) : Pn j p := by
  obtain ⟨a, b, c, rfl, h1, h2, h3, h4⟩ := h
  exact ⟨a, b, c, rfl, h1, h2, h3, by omega⟩
theorem drawn_ok (h : fs 53 = some F53) {k : Nat} {p : List D} {m : Int} (hp : Pn (k + 1) p) (m1 : 1 ≤ m) (m2 : m < 2 ^ 60) :
    ∃ p' d, run fs gl (n + 1) 53 [.l p, .d (.int m)] = some ([.l p', .d (.int m)], .d (.int d)) ∧ 0 ≤ d ∧ d < m ∧ Pn k p' := by
  obtain ⟨a, b, c, rfl, h1, h2, h3, h4⟩ := hp
  have m0 : 0 < m := by omega
  have mz : m.natAbs < 2 ^ 8000 := Nat.lt_trans (show m.natAbs < 2 ^ 60 by omega) (Nat.pow_lt_pow_right (by decide) (by decide))
  have z16 : (16 : Nat) < 2 ^ 8000 := Nat.lt_of_lt_of_le (show 16 < 2 ^ 6 by decide) (Nat.pow_le_pow_right (by decide) (by decide))
  rw [run_step h]
  by_cases ha : 0 < a
  · refine ⟨[.int (a / m), .int b, .int c], a % m, ?_, Int.emod_nonneg _ (by omega), Int.emod_lt_of_pos _ m0, _, b, c, rfl, h1, h2, h3, by omega⟩
    simp [F53, atD, ixD, ha, m0, mz]
  · generalize hs : ((b * 48271 + 1013 * (c + 1) + 11) % 2147483647) = s1
    have s0 : 0 ≤ s1 := by rw [← hs]; exact Int.emod_nonneg _ (by decide)
    have s2 : s1 < 2147483647 := by rw [← hs]; exact Int.emod_lt_of_pos _ (by decide)
    generalize ht : ((s1 * s1 + 40692 * s1 + 7) % 2147483629) = t1
    have t0 : 0 ≤ t1 := by rw [← ht]; exact Int.emod_nonneg _ (by decide)
    have t2 : t1 < 2147483629 := by rw [← ht]; exact Int.emod_lt_of_pos _ (by decide)
    have u1 : b.natAbs < 2 ^ 64 := by omega
    have u2 : s1.natAbs < 2 ^ 64 := by omega
    have u3 : t1.natAbs < 2 ^ 64 := by omega
    refine ⟨[.int a, .int s1, .int (c + 1)], t1 * 69621 % 2147483647 / 16 % m, ?_, Int.emod_nonneg _ (by omega), Int.emod_lt_of_pos _ m0, _, s1, c + 1, rfl, s0, by omega, by omega, by omega⟩
    simp [F53, atD, ixD, ha, m0, hs, ht, u1, u2, u3, z16]
theorem penned_ok (h : fs 52 = some F52) (i : Int) : ∃ p, run fs gl (n + 1) 52 [.d (.int i)] = some ([.d (.int i)], .l p) ∧ Pn (2 ^ 39) p := by
  rw [run_step h]
  refine ⟨[.int (if i - 10 ^ 18 > 0 then i - 10 ^ 18 else 0), .int (i % 2147483629 + 1), .int 0], ?_, _, _, _, rfl, ?_, ?_, by decide, by decide⟩
  · have z : (3 : Nat) ≤ sizeLine := by rw [sizeLine_eq]; decide
    simp [F52, z]
  · have := Int.emod_nonneg i (show (2147483629 : Int) ≠ 0 by decide)
    omega
  · have := Int.emod_lt_of_pos i (show (0 : Int) < 2147483629 by decide)
    omega
theorem picked_ok (h3 : fs 53 = some F53) (h4 : fs 54 = some F54) {k : Nat} {p : List D} {xs : List D} (hp : Pn (k + 1) p) (x1 : xs ≠ []) (x2 : xs.length < 2 ^ 60) :
    ∃ p' d, run fs gl (n + 2) 54 [.l p, .d (.list xs)] = some ([.l p', .d (.list xs)], .d d) ∧ d ∈ xs ∧ Pn k p' := by
  have lx : 0 < xs.length := List.length_pos_iff.mpr x1
  obtain ⟨p', d, e, d1, d2, q⟩ := drawn_ok (n := n) (gl := gl) h3 hp (show (1 : Int) ≤ xs.length by omega) (by omega)
  have hd : d.toNat < xs.length := by omega
  have at_ : xs[d.toNat]? = some xs[d.toNat] := List.getElem?_eq_getElem hd
  refine ⟨p', xs[d.toNat], ?_, List.getElem_mem hd, q⟩
  rw [run_step h4]
  simp [F54, e, atD, ixD, d1, d2, at_]
theorem framed_ok (h3 : fs 53 = some F53) (h5 : fs 56 = some F56) {k : Nat} {p : List D} {a b : Int} (hp : Pn (k + 2) p) (a1 : 1 ≤ a) (a2 : a ≤ 5) (b1 : 1 ≤ b) (b2 : b ≤ 12) :
    ∃ p' m l, run fs gl (n + 2) 56 [.l p, .d (.int a), .d (.int b)] = some ([.l p', .d (.int a), .d (.int b)], .d (frameD m l)) ∧ 1 ≤ m ∧ m ≤ a ∧ 1 ≤ l ∧ l ≤ b ∧ Pn k p' := by
  obtain ⟨p1, d1, e1, x1, y1, q1⟩ := drawn_ok (n := n) (gl := gl) h3 hp a1 (by omega)
  obtain ⟨p2, d2, e2, x2, y2, q2⟩ := drawn_ok (n := n) (gl := gl) h3 q1 b1 (by omega)
  refine ⟨p2, 1 + d1, 1 + d2, ?_, by omega, by omega, by omega, by omega, q2⟩
  rw [run_step h5]
  have z : (2 : Nat) ≤ sizeLine := by rw [sizeLine_eq]; decide
  simp [F56, e1, e2, frameD, z]
/-! ### all cuts -/
theorem cuts57_turn {m l p a : Int} (hm0 : 0 ≤ m) (hm : m ≤ 5) (ha0 : 0 ≤ a) (ha : a ≤ 100) {cs : List CT} (hc : cs.length ≤ 10000) {v3 : Option Sl} :
    turnF (gT (.n 3)) (evSs (run fs gl n) gl ((((F57.body.nth 1).inner).nth 0).inner)) (.int a) [some (.d (frameD m l)), some (.l (cs.map cutOf)), some (.d (.int p)), v3, none] =
      some ([some (.d (frameD m l)), some (.l ((cs ++ cutsAt m p a).map cutOf)), some (.d (.int p)), some (.d (.int a)), none], .nx) := by
  have key := loopC_map (vs := [4]) (tg := gT (.n 4)) (cd := gYes) (el := gd (evX (run fs gl n) gl (.tup (.cons (.var 2) (.cons (.var 3) (.cons (.var 4) .nil)))))) (ρ := [some (.d (frameD m l)), some (.l (cs.map cutOf)), some (.d (.int p)), some (.d (.int a)), none])
    (fun d => .tuple [.int p, .int a, d]) (rngD (a + 1) (m - (a + 1)).toNat) [] (by rw [rngD_length]; simp; omega) (fun d hd => by
    have z3 : (3 : Nat) ≤ sizeLine := by rw [sizeLine_eq]; decide
    generalize frameD m l = FD
    generalize cs.map cutOf = C
    simp [z3])
  have e : ((rngD (a + 1) (m - (a + 1)).toNat).map fun d => PyData.tuple [.int p, .int a, d]) = (cutsAt m p a).map cutOf := by
    unfold rngD cutsAt
    rw [List.map_map, List.map_map]
    rfl
  have er := rng2_of (a := a + 1) (b := m) (by omega) (by omega) (by omega) (by omega)
  have lc : (cutsAt m p a).length ≤ 5 := by unfold cutsAt; rw [List.length_map, List.length_range]; omega
  have f1 : fit ((cs.map cutOf).length + ((cutsAt m p a).map cutOf).length) = true := fit_of (by rw [List.length_map, List.length_map]; omega)
  have a0 : ∀ x y : D, atD [x, y] 0 = some x := fun _ _ => rfl
  rw [e, List.nil_append] at key
  rw [List.map_append]
  generalize (cutsAt m p a).map cutOf = CA at key f1 ⊢
  generalize cs.map cutOf = C at key f1 ⊢
  unfold frameD at key ⊢
  simp [F57, -rng2] at key ⊢
  simp [key, er, f1, a0, -rng2]
theorem cuts57_place {m l p : Int} (f : Frm m l) (hp0 : 0 ≤ p) (hp : p ≤ l - 1) {cs : List CT} (r : Row m l cs) (hc : cs.length ≤ 5000) {v2 v3 : Option Sl} :
    ∃ cs' w3, turnF (gT (.n 2)) (evSs (run fs gl n) gl ((F57.body.nth 1).inner)) (.int p) [some (.d (frameD m l)), some (.l (cs.map cutOf)), v2, v3, none] =
      some ([some (.d (frameD m l)), some (.l (cs'.map cutOf)), some (.d (.int p)), w3, none], .nx) ∧ Row m l cs' ∧ cs'.length ≤ cs.length + 25 := by
  have m1 := f.m1
  have m2 := f.m2
  obtain ⟨ρ', el, cs', w3, k, ex, rfl, rc, hk, hl⟩ := loopF_inv (tg := gT (.n 3)) (body := evSs (run fs gl n) gl ((((F57.body.nth 1).inner).nth 0).inner))
    (fun xs ρ => ∃ (cs' : List CT) (w3 : Option Sl) (k : Nat), xs = (rngD 0 m.toNat).drop k ∧ ρ = [some (.d (frameD m l)), some (.l (cs'.map cutOf)), some (.d (.int p)), w3, none] ∧ Row m l cs' ∧ k ≤ m.toNat ∧ cs'.length ≤ cs.length + 5 * k)
    (fun d xs ρ ⟨cs', w3, k, ex, eρ, rc, hk, hl⟩ => by
      subst eρ
      have hk2 : k < m.toNat := by
        apply Nat.lt_of_not_le
        intro z
        rw [List.drop_eq_nil_of_le (by rw [rngD_length]; exact z)] at ex
        cases ex
      rw [rngD_drop hk2] at ex
      injection ex with e1 e2
      subst e1 e2
      have t := cuts57_turn (fs := fs) (gl := gl) (n := n) (m := m) (l := l) (p := p) (a := (0 : Int) + k) (by omega) m2 (by omega) (by omega) (cs := cs') (by omega) (v3 := w3)
      have lc : (cutsAt m p ((0 : Int) + k)).length ≤ 5 := by unfold cutsAt; rw [List.length_map, List.length_range]; omega
      exact ⟨_, t, cs' ++ cutsAt m p ((0 : Int) + k), _, k + 1, rfl, rfl, rc.app (cutsAt_row hp0 hp (by omega)), hk2, by rw [List.length_append]; omega⟩)
    (rngD 0 m.toNat) [some (.d (frameD m l)), some (.l (cs.map cutOf)), some (.d (.int p)), v3, none] ⟨cs, _, 0, rfl, rfl, r, Nat.zero_le _, by omega⟩
  refine ⟨cs', w3, ?_, rc, by omega⟩
  have s0 : evS (run fs gl n) gl (((F57.body.nth 1).inner).nth 0) [some (.d (frameD m l)), some (.l (cs.map cutOf)), some (.d (.int p)), v3, none] = some ([some (.d (frameD m l)), some (.l (cs'.map cutOf)), some (.d (.int p)), w3, none], .nx) := by
    refine for_eq (rng_eq (a := .idx (.var 0) (.cst (.int 0))) (d := .int m) (ρ1 := [some (.d (frameD m l)), some (.l (cs.map cutOf)), some (.d (.int p)), v3, none]) ?_ (rng1_of (by omega) (by omega))) el
    have a0 : ∀ x y : D, atD [x, y] 0 = some x := fun _ _ => rfl
    simp [frameD, a0]
  exact (evSs_nx s0).trans rfl
theorem all57_ok (h57 : fs 57 = some F57) {m l : Int} (f : Frm m l) : ∃ cs, run fs gl (n + 1) 57 [.d (frameD m l)] = some ([.d (frameD m l)], .l (cs.map cutOf)) ∧ Row m l cs ∧ cs.length ≤ 300 := by
  have l1 := f.l1
  have l2 := f.l2
  obtain ⟨ρ', el, cs', w2, w3, k, ex, rfl, rc, hk, hl⟩ := loopF_inv (tg := gT (.n 2)) (body := evSs (run fs gl n) gl ((F57.body.nth 1).inner))
    (fun xs ρ => ∃ (cs' : List CT) (w2 w3 : Option Sl) (k : Nat), xs = (rngD 0 l.toNat).drop k ∧ ρ = [some (.d (frameD m l)), some (.l (cs'.map cutOf)), w2, w3, none] ∧ Row m l cs' ∧ k ≤ l.toNat ∧ cs'.length ≤ 25 * k)
    (fun d xs ρ ⟨cs', w2, w3, k, ex, eρ, rc, hk, hl⟩ => by
      subst eρ
      have hk2 : k < l.toNat := by
        apply Nat.lt_of_not_le
        intro z
        rw [List.drop_eq_nil_of_le (by rw [rngD_length]; exact z)] at ex
        cases ex
      rw [rngD_drop hk2] at ex
      injection ex with e1 e2
      subst e1 e2
      obtain ⟨cs2, w32, t, rc2, hl2⟩ := cuts57_place (fs := fs) (gl := gl) (n := n) f (p := (0 : Int) + k) (by omega) (by omega) rc (by omega) (v2 := w2) (v3 := w3)
      exact ⟨_, t, cs2, _, _, k + 1, rfl, rfl, rc2, hk2, by omega⟩)
    (rngD 0 l.toNat) [some (.d (frameD m l)), some (.l []), none, none, none] ⟨[], _, _, 0, rfl, rfl, (fun c hc => by cases hc), Nat.zero_le _, Nat.le_refl _⟩
  refine ⟨cs', ?_, rc, by omega⟩
  have s0 : evS (run fs gl n) gl (F57.body.nth 0) [some (.d (frameD m l)), none, none, none, none] = some ([some (.d (frameD m l)), some (.l []), none, none, none], .nx) := by
    generalize frameD m l = FD
    simp [F57, Ss.nth]
  have s1 : evS (run fs gl n) gl (F57.body.nth 1) [some (.d (frameD m l)), some (.l []), none, none, none] = some ([some (.d (frameD m l)), some (.l (cs'.map cutOf)), w2, w3, none], .nx) := by
    refine for_eq (rng_eq (a := .idx (.var 0) (.cst (.int 1))) (d := .int l) (ρ1 := [some (.d (frameD m l)), some (.l []), none, none, none]) ?_ (rng1_of (by omega) (by omega))) el
    have a1 : ∀ x y : D, atD [x, y] 1 = some y := fun _ _ => rfl
    simp [frameD, a1]
  have s2 : evS (run fs gl n) gl (F57.body.nth 2) [some (.d (frameD m l)), some (.l (cs'.map cutOf)), w2, w3, none] = some ([some (.d (frameD m l)), none, w2, w3, none], .rt (.l (cs'.map cutOf))) := by
    generalize frameD m l = FD
    generalize cs'.map cutOf = C
    simp [F57, Ss.nth]
  exact run_of h57 rfl ((evSs_nx s0).trans ((evSs_nx s1).trans (evSs_rt s2))) rfl
theorem ne_list_nil (xs : List D) : neD (.list xs) (.list []) = some (.d (.bool (decide (xs ≠ [])))) := by
  show (if dep2 (.list xs) (.list []) = true then some (Sl.d (.bool (!PyData.eqv (.list xs) (.list [])))) else none) = _
  rw [if_pos (dep_nil xs), eqv_list_nil]
  cases xs <;> simp
theorem row58_ok (h53 : fs 53 = some F53) (h54 : fs 54 = some F54) (h57 : fs 57 = some F57) (h58 : fs 58 = some F58) {k most : Nat} {p : List D} {m l : Int} (hp : Pn (k + most + 1) p) (f : Frm m l) (hm : most ≤ 1000) :
    ∃ p' cs, run fs gl (n + 3) 58 [.l p, .d (frameD m l), .d (.int most)] = some ([.l p', .d (frameD m l), .d (.int most)], .d (rowD cs)) ∧ Row m l cs ∧ cs.length ≤ most ∧ Pn k p' := by
  obtain ⟨all, e0, ra, la⟩ := all57_ok (n := n + 1) (gl := gl) h57 f
  have s0 : evS (run fs gl (n + 2)) gl (F58.body.nth 0) [some (.l p), some (.d (frameD m l)), some (.d (.int most)), none, none] = some ([some (.l p), some (.d (frameD m l)), some (.d (.int most)), some (.d (.list (all.map cutOf))), none], .nx) := by
    generalize frameD m l = FD at e0 ⊢
    generalize all.map cutOf = C at e0 ⊢
    simp [F58, Ss.nth, e0]
  obtain ⟨p1, d, e1, d1, d2, q1⟩ := drawn_ok (n := n + 1) (gl := gl) (k := k + most) (m := (most : Int) + 1) h53 hp (by omega) (by omega)
  have hne := ne_list_nil (all.map cutOf)
  have hsrc : gd (evX (run fs gl (n + 2)) gl (.bin .Mult (.call 53 (.s 0 (.d (.bin .Add (.var 2) (.cst (.int 1))) .nil))) (.blt .int (.cons (.cmp .NotEq (.var 3) (.lst .nil)) .nil)))) [some (.l p), some (.d (frameD m l)), some (.d (.int most)), some (.d (.list (all.map cutOf))), none] =
      some ([some (.l p1), some (.d (frameD m l)), some (.d (.int most)), some (.d (.list (all.map cutOf))), none], .int (if all = [] then 0 else d)) := by
    have hc : (all.map cutOf ≠ []) ↔ ¬ all = [] := by rw [ne_eq, List.map_eq_nil_iff]
    have u : d.natAbs < 18446744073709551616 := by omega
    have em : ((most : Int) + 1) = ((most : Int) + 1) := rfl
    by_cases ha : all = []
    · have h2 : decide (all.map cutOf ≠ []) = false := decide_eq_false fun z => hc.mp z ha
      rw [h2] at hne
      rw [if_pos ha]
      generalize (most : Int) = M at e1 ⊢
      generalize all.map cutOf = C at hne ⊢
      generalize frameD m l = FD
      simp [e1, hne, -neD]
    · have h2 : decide (all.map cutOf ≠ []) = true := decide_eq_true (hc.mpr ha)
      rw [h2] at hne
      rw [if_neg ha]
      generalize (most : Int) = M at e1 ⊢
      generalize all.map cutOf = C at hne ⊢
      generalize frameD m l = FD
      simp [e1, hne, u, -neD]
  have z0 : (if all = [] then 0 else d) ≤ most := by split <;> omega
  have z1 : 0 ≤ (if all = [] then 0 else d) := by split <;> omega
  have er := rng1_of (b := if all = [] then 0 else d) (by omega) (by omega)
  obtain ⟨ρ', out, el, p', cs, rfl, rfl, rc, hl, q⟩ := loopC_inv (vs := [4]) (tg := gT (.n 4)) (cd := gYes) (el := gd (evX (run fs gl (n + 2)) gl (.call 54 (.s 0 (.d (.var 3) .nil)))))
    (fun xs ρ acc => ∃ (p' : List D) (cs : List CT), ρ = [some (.l p'), some (.d (frameD m l)), some (.d (.int most)), some (.d (.list (all.map cutOf))), none] ∧ acc = cs.map cutOf ∧ Row m l cs ∧ cs.length + xs.length ≤ (if all = [] then 0 else d).toNat ∧ Pn (k + xs.length) p') 2000 (by decide)
    (fun xs ρ acc ⟨p', cs, _, ea, _, hl, _⟩ => by rw [ea, List.length_map]; omega)
    (fun x xs ρ acc ⟨p', cs, eρ, ea, rc, hl, q⟩ => by
      subst eρ ea
      rw [List.length_cons] at hl
      have ha : ¬ all = [] := fun z => by rw [if_pos z] at hl; simp at hl
      obtain ⟨p2, y, e2, hy, q2⟩ := picked_ok (n := n) (gl := gl) (k := k + xs.length) h53 h54 (p := p') (xs := all.map cutOf) (q.less (by rw [List.length_cons]; omega)) (fun z => ha (List.map_eq_nil_iff.mp z)) (by rw [List.length_map]; omega)
      obtain ⟨c, hc, rfl⟩ := List.mem_map.mp hy
      refine ⟨[some (.l p2), some (.d (frameD m l)), some (.d (.int most)), some (.d (.list (all.map cutOf))), none], some (cutOf c), ?_, p2, cs ++ [c], rfl, by simp, rc.app fun b hb => by rw [List.mem_singleton] at hb; subst hb; exact ra _ hc, by rw [List.length_append]; show cs.length + 1 + xs.length ≤ _; omega, q2⟩
      generalize cutOf c = CC at e2 ⊢
      generalize all.map cutOf = C at e2 ⊢
      generalize frameD m l = FD
      simp [e2])
    (rngD 0 (if all = [] then 0 else d).toNat) [some (.l p1), some (.d (frameD m l)), some (.d (.int most)), some (.d (.list (all.map cutOf))), none] []
    ⟨p1, [], rfl, rfl, (fun c hc => by cases hc), (by rw [rngD_length]; simp), (by rw [rngD_length]; exact q1.less (by omega))⟩
  refine ⟨p', cs, ?_, rc, by simp at hl; omega, by simpa using q⟩
  have s1 : evS (run fs gl (n + 2)) gl (F58.body.nth 1) [some (.l p), some (.d (frameD m l)), some (.d (.int most)), some (.d (.list (all.map cutOf))), none] = some ([some (.l p'), some (.d (frameD m l)), some (.d (.int most)), some (.d (.list (all.map cutOf))), none], .rt (.d (rowD cs))) := by
    have k1 := lc_eq (vs := [4]) (t := .n 4) (c := .no) (el := .call 54 (.s 0 (.d (.var 3) .nil))) (rng_eq hsrc er) el
    unfold rowD
    generalize cs.map cutOf = CS at k1 ⊢
    show evS (run fs gl (n + 2)) gl (.ret (.blt .tuple (.cons (.lc [4] _ (.n 4) .no (.call 54 (.s 0 (.d (.var 3) .nil)))) .nil))) _ = _
    generalize (E.lc [4] (.rng (.bin .Mult (.call 53 (.s 0 (.d (.bin .Add (.var 2) (.cst (.int 1))) .nil))) (.blt .int (.cons (.cmp .NotEq (.var 3) (.lst .nil)) .nil)))) (.n 4) .no (.call 54 (.s 0 (.d (.var 3) .nil)))) = LC at k1 ⊢
    generalize all.map cutOf = C at k1 ⊢
    generalize frameD m l = FD at k1 ⊢
    simp at k1
    simp [k1]
  exact run_of h58 rfl ((evSs_nx s0).trans (evSs_rt s1)) rfl
end DL

namespace DL
open PySem PySem.Spec L2
open PyProof.Rows hiding St
/-! ### what exchanges of two do to the cost of an order: all orders of up to five gone through -/
def duos (m : Nat) : List (Nat × Nat) := (List.range m).flatMap fun b => (List.range b).map fun a => (a, b)
theorem mem_duos {m a b : Nat} (h1 : a < b) (h2 : b < m) : (a, b) ∈ duos m := List.mem_flatMap.mpr ⟨b, List.mem_range.mpr h2, List.mem_map.mpr ⟨a, List.mem_range.mpr h1, rfl⟩⟩
theorem duos_mem {m a b : Nat} (h : (a, b) ∈ duos m) : a < b ∧ b < m := by
  obtain ⟨y, hy, h⟩ := List.mem_flatMap.mp h
  obtain ⟨x, hx, e⟩ := List.mem_map.mp h
  cases e
  exact ⟨List.mem_range.mp hx, List.mem_range.mp hy⟩
def chk5 (m : Nat) (o : List Int) : Bool :=
  ((duos m).all fun d => (decide (costM (with2 o d.1 d.2) = costM o + 1) || decide (costM (with2 o d.1 d.2) = costM o - 1)) && (decide (costM (o.map (swp d.1 d.2)) = costM o + 1) || decide (costM (o.map (swp d.1 d.2)) = costM o - 1)) && decide (costM (with2 (o.map (swp d.1 d.2)) d.1 d.2) = costM o)) &&
  (decide (o = iota m) && decide (costM o = 0) || decide (0 < costM o) && decide (costM o ≤ (m : Int) - 1) && (duos m).any (fun d => decide (costM (with2 o d.1 d.2) = costM o - 1)) && (duos m).any (fun d => decide (costM (o.map (swp d.1 d.2)) = costM o - 1)))
theorem chk5_all : ([0, 1, 2, 3, 4, 5].all fun m => (permL (iota m)).all (chk5 m)) = true := by decide +kernel
theorem chk5_of {m : Int} (h0 : 0 ≤ m) (h5 : m ≤ 5) {o : List Int} (h : Ord m o) : chk5 m.toNat o = true := by
  have hm : m.toNat ∈ [0, 1, 2, 3, 4, 5] := by
    have : m.toNat ≤ 5 := by omega
    generalize m.toNat = k at this
    simp only [List.mem_cons, List.not_mem_nil, or_false]
    omega
  exact List.all_eq_true.mp (List.all_eq_true.mp chk5_all m.toNat hm) o (ord_mem h)
section
variable {m : Int} {o : List Int}
theorem cost_duo (h0 : 0 ≤ m) (h5 : m ≤ 5) (h : Ord m o) {a b : Nat} (h1 : a < b) (h2 : (b : Int) < m) :
    (costM (with2 o a b) = costM o + 1 ∨ costM (with2 o a b) = costM o - 1) ∧ (costM (o.map (swp a b)) = costM o + 1 ∨ costM (o.map (swp a b)) = costM o - 1) ∧ costM (with2 (o.map (swp a b)) a b) = costM o := by
  have k := ((Bool.and_eq_true _ _).mp (chk5_of h0 h5 h)).1
  have k := List.all_eq_true.mp k (a, b) (mem_duos h1 (by omega))
  simp only [Bool.and_eq_true, Bool.or_eq_true, decide_eq_true_eq] at k
  exact ⟨k.1.1, k.1.2, k.2⟩
theorem with2_comm {a b : Nat} (ha : a < o.length) (hb : b < o.length) (ab : a ≠ b) : with2 o a b = with2 o b a := by
  unfold with2
  rw [List.set_comm _ _ ab]
theorem cost_two (h0 : 0 ≤ m) (h5 : m ≤ 5) (h : Ord m o) {a b : Nat} (h1 : (a : Int) < m) (h2 : (b : Int) < m) (ab : a ≠ b) : costM (with2 o a b) = costM o + 1 ∨ costM (with2 o a b) = costM o - 1 := by
  have lo := h.len
  rcases Nat.lt_or_gt_of_ne ab with z | z
  · exact (cost_duo h0 h5 h z h2).1
  · rw [with2_comm (by omega) (by omega) ab]
    exact (cost_duo h0 h5 h z h1).1
theorem cost_zero (h0 : 0 ≤ m) (h5 : m ≤ 5) (h : Ord m o) : 0 ≤ costM o ∧ (costM o = 0 ↔ o = iota m.toNat) ∧ (1 ≤ m → costM o ≤ m - 1) := by
  have k := ((Bool.and_eq_true _ _).mp (chk5_of h0 h5 h)).2
  simp only [Bool.and_eq_true, Bool.or_eq_true, decide_eq_true_eq] at k
  rcases k with ⟨k1, k2⟩ | ⟨⟨⟨k1, k2⟩, k3⟩, k4⟩
  · exact ⟨by omega, ⟨fun _ => k1, fun _ => k2⟩, by omega⟩
  · refine ⟨by omega, ⟨fun z => by omega, fun z => ?_⟩, by omega⟩
    have c := chk5_of h0 h5 (iota_ord h0)
    have c := ((Bool.and_eq_true _ _).mp c).2
    subst z
    have z2 : costM (iota m.toNat) = 0 := by
      have hm : m.toNat ≤ 5 := by omega
      have fact : ∀ k : Nat, k ≤ 5 → costM (iota k) = 0 := by decide +kernel
      exact fact _ hm
    exact z2
theorem cost_less (h0 : 0 ≤ m) (h5 : m ≤ 5) (h : Ord m o) (hc : 0 < costM o) : (∃ a b : Nat, a < b ∧ (b : Int) < m ∧ costM (with2 o a b) = costM o - 1) ∧ ∃ a b : Nat, a < b ∧ (b : Int) < m ∧ costM (o.map (swp a b)) = costM o - 1 := by
  have k := ((Bool.and_eq_true _ _).mp (chk5_of h0 h5 h)).2
  simp only [Bool.and_eq_true, Bool.or_eq_true, decide_eq_true_eq] at k
  rcases k with ⟨k1, k2⟩ | ⟨⟨⟨k1, k2⟩, k3⟩, k4⟩
  · omega
  · obtain ⟨⟨a, b⟩, d1, d2⟩ := List.any_eq_true.mp k3
    obtain ⟨⟨c, d⟩, d3, d4⟩ := List.any_eq_true.mp k4
    have e1 := duos_mem d1
    have e2 := duos_mem d3
    exact ⟨⟨a, b, e1.1, by omega, of_decide_eq_true d2⟩, ⟨c, d, e2.1, by omega, of_decide_eq_true d4⟩⟩
end
/-! ### one order behind another -/
def comp (a b : List Int) : List Int := b.map fun i => a.getD i.toNat 0
theorem comp_len (a b : List Int) : (comp a b).length = b.length := by unfold comp; rw [List.length_map]
theorem comp_at {a b : List Int} {i : Nat} (h : i < b.length) : (comp a b).getD i 0 = a.getD (b.getD i 0).toNat 0 := by
  unfold comp
  simp [List.getD, h]
theorem ord_ext {m : Int} {a b : List Int} (ha : (a.length : Int) = m) (hb : (b.length : Int) = m) (h : ∀ i : Nat, (i : Int) < m → a.getD i 0 = b.getD i 0) : a = b := by
  refine List.ext_getElem (by omega) fun i h1 h2 => ?_
  have := h i (by omega)
  simp only [List.getD_eq_getElem?_getD, List.getElem?_eq_getElem h1, List.getElem?_eq_getElem h2] at this
  exact this
theorem comp_ord {m : Int} {a b : List Int} (ha : Ord m a) (hb : Ord m b) : Ord m (comp a b) := by
  have la := ha.len
  have lb := hb.len
  refine ⟨by rw [comp_len]; exact lb, fun x hx => ?_, ?_⟩
  · unfold comp at hx
    obtain ⟨i, hi, rfl⟩ := List.mem_map.mp hx
    have r := hb.rng i hi
    have := getD_rng ha (r := i.toNat) (by omega)
    omega
  · unfold comp
    rw [List.Nodup, List.pairwise_map]
    refine List.Pairwise.imp_of_mem (fun {x y} hx hy hxy e => hxy ?_) hb.nd
    have r1 := hb.rng x hx
    have r2 := hb.rng y hy
    have i1 := idx_at ha (r := x.toNat) (by omega)
    have i2 := idx_at ha (r := y.toNat) (by omega)
    rw [e] at i1
    omega
theorem comp_assoc {m : Int} {a b c : List Int} (hb : Ord m b) (hc : Ord m c) : comp (comp a b) c = comp a (comp b c) := by
  have lb := hb.len
  have lc := hc.len
  refine ord_ext (m := m) (by rw [comp_len]; exact lc) (by rw [comp_len, comp_len]; exact lc) fun i hi => ?_
  have r := getD_rng hc hi
  rw [comp_at (by omega), comp_at (by omega), comp_at (by rw [comp_len]; omega), comp_at (by omega)]
theorem comp_iota {m : Int} {a : List Int} (ha : Ord m a) : comp a (iota m.toNat) = a := by
  have la := ha.len
  refine ord_ext (m := m) (by rw [comp_len, iota_len]; omega) la fun i hi => ?_
  rw [comp_at (by rw [iota_len]; omega), at_iota (by omega), Int.toNat_natCast]
theorem iota_comp {m : Int} {a : List Int} (ha : Ord m a) : comp (iota m.toNat) a = a := by
  have la := ha.len
  refine ord_ext (m := m) (by rw [comp_len]; omega) la fun i hi => ?_
  have r := getD_rng ha hi
  rw [comp_at (by omega), at_iota (by omega)]
  omega
theorem comp_with2 {m : Int} {a b : List Int} (hb : Ord m b) {i j : Nat} (hi : (i : Int) < m) (hj : (j : Int) < m) : comp a (with2 b i j) = with2 (comp a b) i j := by
  have lb := hb.len
  unfold comp
  rw [with2_map _ (by omega) (by omega)]
theorem comp_map {m : Int} {a b : List Int} (ha : Ord m a) (hb : Ord m b) (f : Int → Int) : comp (a.map f) b = (comp a b).map f := by
  have la := ha.len
  unfold comp
  rw [List.map_map]
  refine List.map_congr_left fun x hx => ?_
  have r := hb.rng x hx
  have : x.toNat < a.length := by omega
  simp [List.getD, this]
/-- the joint is the order j with j behind p = o -/
theorem joint_comp {m : Int} {p o : List Int} (hp : Ord m p) (ho : Ord m o) : comp (jointOf p o) p = o := by
  have lp := hp.len
  refine ord_ext (m := m) (by rw [comp_len]; exact lp) ho.len fun i hi => ?_
  have r := getD_rng hp hi
  rw [comp_at (by omega), jointOf_at hp ho (by omega)]
  have e : (((p.getD i 0).toNat : Nat) : Int) = p.getD i 0 := by omega
  rw [e, idx_at hp hi]
theorem joint_one {m : Int} {p o j : List Int} (hp : Ord m p) (ho : Ord m o) (hj : Ord m j) (h : comp j p = o) : jointOf p o = j := by
  have lp := hp.len
  refine ord_ext (m := m) (by rw [jointOf_len]; exact lp) hj.len fun i hi => ?_
  rw [jointOf_at hp ho hi, ← h]
  have hx := hp.idx hi
  rw [comp_at (by omega)]
  have g := List.getElem_idxOf hx
  have e : p.getD (p.idxOf (i : Int)) 0 = (i : Int) := by simp [List.getD, hx, g]
  rw [e, Int.toNat_natCast]
theorem Ord.sw {m : Int} {o : List Int} (h : Ord m o) {a b : Int} (ha : 0 ≤ a ∧ a < m) (hb : 0 ≤ b ∧ b < m) : Ord m (o.map (swp a b)) := by
  refine ⟨by rw [List.length_map]; exact h.len, fun x hx => ?_, ?_⟩
  · obtain ⟨y, hy, rfl⟩ := List.mem_map.mp hx
    have := h.rng y hy
    have := swp_rng (m := m - 1) (c := a) (d := b) (x := y) ⟨ha.1, by omega⟩ ⟨hb.1, by omega⟩ this
    exact this
  · rw [List.Nodup, List.pairwise_map]
    exact List.Pairwise.imp (fun {x y} hxy e => hxy (swp_inj e)) h.nd
theorem with2_with2 {o : List Int} {a b : Nat} (ha : a < o.length) (hb : b < o.length) (ab : a ≠ b) : with2 (with2 o a b) a b = o := by
  refine ord_ext (m := (o.length : Int)) (by rw [with2_len, with2_len]) rfl fun i hi => ?_
  rw [with2_at (by rw [with2_len]; exact ha) (by rw [with2_len]; exact hb) ab, with2_at ha hb ab]
  congr 1
  unfold swN
  split <;> split <;> (try split) <;> omega
theorem map_sw_sw (o : List Int) (a b : Int) : (o.map (swp a b)).map (swp a b) = o := by
  rw [List.map_map]
  conv => rhs; rw [← List.map_id o]
  refine List.map_congr_left fun x _ => ?_
  exact swp_swp a b x
/-! ### together no more, apart no more -/
theorem cost_comp {m : Int} (h0 : 0 ≤ m) (h5 : m ≤ 5) {a : List Int} (ha : Ord m a) : ∀ (k : Nat) (b : List Int), Ord m b → costM b = k → costM (comp a b) ≤ costM a + k ∧ costM a ≤ costM (comp a b) + k := by
  intro k
  induction k with
  | zero =>
    intro b hb hk
    have e := (cost_zero h0 h5 hb).2.1.mp hk
    subst e
    rw [comp_iota ha]
    omega
  | succ k ih =>
    intro b hb hk
    obtain ⟨⟨i, j, ij, hj, hc⟩, _⟩ := cost_less h0 h5 hb (by omega)
    have lb := hb.len
    have hb2 := hb.with2 (a := i) (b := j) (by omega) (by omega) (by omega)
    have := ih (with2 b i j) hb2 (by omega)
    rw [comp_with2 hb (by omega) hj] at this
    have := cost_two h0 h5 (comp_ord ha hb) (a := i) (b := j) (by omega) hj (by omega)
    omega
theorem cost_comp2 {m : Int} (h0 : 0 ≤ m) (h5 : m ≤ 5) {b : List Int} (hb : Ord m b) : ∀ (k : Nat) (a : List Int), Ord m a → costM a = k → costM b ≤ costM (comp a b) + k := by
  intro k
  induction k with
  | zero =>
    intro a ha hk
    have e := (cost_zero h0 h5 ha).2.1.mp hk
    subst e
    rw [iota_comp hb]
    omega
  | succ k ih =>
    intro a ha hk
    obtain ⟨_, ⟨i, j, ij, hj, hc⟩⟩ := cost_less h0 h5 ha (by omega)
    have ha2 := ha.sw (a := i) (b := j) ⟨by omega, by omega⟩ ⟨by omega, hj⟩
    have := ih (a.map (swp i j)) ha2 (by omega)
    rw [comp_map ha hb] at this
    have := (cost_duo h0 h5 (comp_ord ha hb) ij hj).2.1
    omega
theorem cost_conj {m : Int} (h0 : 0 ≤ m) (h5 : m ≤ 5) : ∀ (k : Nat) (g j : List Int), Ord m g → Ord m j → costM g = k → costM (jointOf g (comp g j)) = costM j := by
  intro k
  induction k with
  | zero =>
    intro g j hg hj hk
    have e := (cost_zero h0 h5 hg).2.1.mp hk
    subst e
    rw [joint_one hg (comp_ord hg hj) hj (by rw [comp_iota hj, iota_comp hj])]
  | succ k ih =>
    intro g j hg hj hk
    obtain ⟨⟨a, b, ab, hb, hc⟩, _⟩ := cost_less h0 h5 hg (by omega)
    have lg := hg.len
    have lj := hj.len
    have hg2 := hg.with2 (a := a) (b := b) (by omega) (by omega) (by omega)
    have hs := hj.sw (a := a) (b := b) ⟨by omega, by omega⟩ ⟨by omega, hb⟩
    have lsw := hs.len
    have hj2 := hs.with2 (a := a) (b := b) (by omega) (by omega) (by omega)
    have i1 := ih (with2 g a b) (with2 (j.map (swp a b)) a b) hg2 hj2 (by omega)
    rw [(cost_duo h0 h5 hj ab hb).2.2] at i1
    rw [← i1]
    congr 1
    have ho := comp_ord hg hj
    have ho2 := comp_ord hg2 hj2
    have hC := jointOf_ord hg2 ho2
    refine joint_one hg ho hC ?_
    -- g = g' then the exchange
    have eg : g = with2 (with2 g a b) a b := (with2_with2 (by omega) (by omega) (by omega)).symm
    have k1 := comp_with2 (a := jointOf (with2 g a b) (comp (with2 g a b) (with2 (j.map (swp a b)) a b))) hg2 (i := a) (j := b) (by omega) hb
    rw [← eg] at k1
    rw [k1, joint_comp hg2 ho2, comp_with2 hs (by omega) hb]
    have lq : (comp (with2 g a b) (j.map (swp a b))).length = j.length := by rw [comp_len, List.length_map]
    rw [with2_with2 (by omega) (by omega) (by omega)]
    refine ord_ext (m := m) (by omega) (by rw [comp_len]; exact lj) fun i hi => ?_
    have r := getD_rng hj hi
    rw [comp_at (by rw [List.length_map]; omega), comp_at (by omega)]
    have e1 : (j.map (swp a b)).getD i 0 = swp a b (j.getD i 0) := by
      have : i < j.length := by omega
      simp [List.getD, this]
    rw [e1, with2_at (by omega) (by omega) (by omega), ← swN_swp (by omega) (by omega) r.1, Int.toNat_natCast, Int.toNat_natCast]
    congr 1
    unfold swN
    split <;> split <;> (try split) <;> omega
end DL

namespace DL
open PySem PySem.Spec L2
open PyProof.Rows hiding St
/-! ### the fewest cuts along the places -/
def fewL : List Int → List (List Int) → Int
  | _, [] => 0
  | p, o :: r => costM (jointOf p o) + fewL o r
theorem fewM_L (m : Nat) (E : List (List Int)) : fewM m E = fewL (iota m) E := by
  unfold fewM
  have g : ∀ (E : List (List Int)) (p : List Int), ((jointsM p E).map costM).sum = fewL p E := fun E => by
    induction E with
    | nil => intro p; rfl
    | cons o r ih =>
      intro p
      show ((jointOf p o :: jointsM o r).map costM).sum = _
      rw [List.map_cons, List.sum_cons, ih o]
      rfl
  exact g E _
def lastL : List Int → List (List Int) → List Int
  | p, [] => p
  | _, o :: r => lastL o r
theorem fewL_app : ∀ (A B : List (List Int)) (p : List Int), fewL p (A ++ B) = fewL p A + fewL (lastL p A) B
  | [], B, p => by show fewL p B = 0 + fewL p B; omega
  | o :: A, B, p => by
    show costM (jointOf p o) + fewL o (A ++ B) = costM (jointOf p o) + fewL o A + fewL (lastL o A) B
    rw [fewL_app A B o]
    omega
theorem lastL_ord {m : Int} : ∀ (A : List (List Int)) (p : List Int), Ord m p → (∀ o ∈ A, Ord m o) → Ord m (lastL p A)
  | [], p, h, _ => h
  | o :: A, p, _, h => lastL_ord A o (h o List.mem_cons_self) fun x hx => h x (List.mem_cons_of_mem _ hx)
section
variable {m : Int}
theorem joint_with2 {p o : List Int} (hp : Ord m p) (ho : Ord m o) {a b : Nat} (ha : (a : Int) < m) (hb : (b : Int) < m) (ab : a ≠ b) : jointOf (with2 p a b) (with2 o a b) = jointOf p o := by
  have lp := hp.len
  have lo := ho.len
  refine joint_one (hp.with2 (by omega) (by omega) ab) (ho.with2 (by omega) (by omega) ab) (jointOf_ord hp ho) ?_
  rw [comp_with2 hp ha hb, joint_comp hp ho]
theorem joint_behind {p o : List Int} (hp : Ord m p) (ho : Ord m o) {a b : Nat} (ha : (a : Int) < m) (hb : (b : Int) < m) (ab : a ≠ b) : jointOf p (with2 o a b) = with2 (jointOf p o) (p.getD a 0).toNat (p.getD b 0).toNat ∧ (p.getD a 0).toNat ≠ (p.getD b 0).toNat := by
  have lp := hp.len
  have lo := ho.len
  have ra := getD_rng hp ha
  have rb := getD_rng hp hb
  have ne : (p.getD a 0).toNat ≠ (p.getD b 0).toNat := fun z => by
    have i1 := idx_at hp ha
    have i2 := idx_at hp hb
    have : p.getD a 0 = p.getD b 0 := by omega
    rw [this] at i1
    omega
  have hj := jointOf_ord hp ho
  have lj := hj.len
  refine ⟨joint_one hp (ho.with2 (by omega) (by omega) ab) (hj.with2 (by omega) (by omega) ne) ?_, ne⟩
  refine ord_ext (m := m) (by rw [comp_len]; exact lp) (by rw [with2_len]; exact lo) fun i hi => ?_
  have ri := getD_rng hp hi
  rw [comp_at (by omega), with2_at (by omega) (by omega) ne, with2_at (by omega) (by omega) ab]
  conv => rhs; rw [← joint_comp hp ho]
  rw [comp_at (by have := swN_lt (m := m.toNat) (a := a) (b := b) (i := i) (by omega) (by omega) (by omega); omega)]
  congr 1
  unfold swN
  by_cases h1 : i = a
  · subst h1
    rw [if_pos rfl, if_pos rfl]
  · have n1 : ¬ (p.getD i 0).toNat = (p.getD a 0).toNat := fun z => h1 (by
      have i1 := idx_at hp hi
      have i2 := idx_at hp ha
      have : p.getD i 0 = p.getD a 0 := by omega
      rw [this] at i1
      omega)
    rw [if_neg n1, if_neg h1]
    by_cases h2 : i = b
    · subst h2
      rw [if_pos rfl, if_pos rfl]
    · have n2 : ¬ (p.getD i 0).toNat = (p.getD b 0).toNat := fun z => h2 (by
        have i1 := idx_at hp hi
        have i2 := idx_at hp hb
        have : p.getD i 0 = p.getD b 0 := by omega
        rw [this] at i1
        omega)
      rw [if_neg n2, if_neg h2]
theorem fewL_with2 {a b : Nat} (ha : (a : Int) < m) (hb : (b : Int) < m) (ab : a ≠ b) : ∀ (r : List (List Int)) (p : List Int), Ord m p → (∀ o ∈ r, Ord m o) → fewL (with2 p a b) (r.map fun o => with2 o a b) = fewL p r
  | [], p, _, _ => rfl
  | o :: r, p, hp, h => by
    have ho := h o List.mem_cons_self
    show costM (jointOf (with2 p a b) (with2 o a b)) + fewL (with2 o a b) (r.map fun o => with2 o a b) = _
    rw [joint_with2 hp ho ha hb ab, fewL_with2 ha hb ab r o ho fun x hx => h x (List.mem_cons_of_mem _ hx)]
    rfl
theorem joint_sw {p o : List Int} (hp : Ord m p) (ho : Ord m o) {a b : Nat} (ha : (a : Int) < m) (hb : (b : Int) < m) (ab : a ≠ b) : jointOf (p.map (swp a b)) (o.map (swp a b)) = with2 ((jointOf p o).map (swp a b)) a b := by
  have lp := hp.len
  have lo := ho.len
  have hps := hp.sw (a := a) (b := b) ⟨by omega, ha⟩ ⟨by omega, hb⟩
  have hos := ho.sw (a := a) (b := b) ⟨by omega, ha⟩ ⟨by omega, hb⟩
  have hj := jointOf_ord hp ho
  have hjs := hj.sw (a := a) (b := b) ⟨by omega, ha⟩ ⟨by omega, hb⟩
  have ljs := hjs.len
  have lj := hj.len
  refine joint_one hps hos (hjs.with2 (by omega) (by omega) ab) ?_
  refine ord_ext (m := m) (by rw [comp_len, List.length_map]; exact lp) (by rw [List.length_map]; exact lo) fun i hi => ?_
  have ri := getD_rng hp hi
  rw [comp_at (by rw [List.length_map]; omega), with2_at (by omega) (by omega) ab]
  have e1 : ∀ (x : List Int), i < x.length → (x.map (swp a b)).getD i 0 = swp a b (x.getD i 0) := fun x hx => by simp [List.getD, hx]
  rw [e1 p (by omega), e1 o (by omega), ← swN_swp (by omega) (by omega) ri.1, Int.toNat_natCast, Int.toNat_natCast]
  have ss : swN a b (swN a b (p.getD i 0).toNat) = (p.getD i 0).toNat := by
    unfold swN
    split <;> split <;> (try split) <;> omega
  rw [ss]
  have e2 : ((jointOf p o).map (swp a b)).getD (p.getD i 0).toNat 0 = swp a b ((jointOf p o).getD (p.getD i 0).toNat 0) := by
    have : (p.getD i 0).toNat < (jointOf p o).length := by omega
    generalize (p.getD i 0).toNat = t at this
    simp [List.getD, this]
  rw [e2]
  congr 1
  conv => rhs; rw [← joint_comp hp ho]
  rw [comp_at (by omega)]
theorem fewL_sw (h0 : 0 ≤ m) (h5 : m ≤ 5) {a b : Nat} (h1 : a < b) (hb : (b : Int) < m) : ∀ (r : List (List Int)) (p : List Int), Ord m p → (∀ o ∈ r, Ord m o) → fewL (p.map (swp a b)) (r.map fun o => o.map (swp a b)) = fewL p r
  | [], p, _, _ => rfl
  | o :: r, p, hp, h => by
    have ho := h o List.mem_cons_self
    show costM (jointOf (p.map (swp a b)) (o.map (swp a b))) + fewL (o.map (swp a b)) (r.map fun o => o.map (swp a b)) = _
    rw [joint_sw hp ho (by omega) hb (by omega), (cost_duo h0 h5 (jointOf_ord hp ho) h1 hb).2.2, fewL_sw h0 h5 h1 hb r o ho fun x hx => h x (List.mem_cons_of_mem _ hx)]
    rfl
end
def PM (x y : Int) : Prop := x = y + 1 ∨ x = y - 1
theorem few_behind {m l : Int} (f : Frm m l) {E : List (List Int)} (e : Eff m l E) {c : CT} (hc : Cut m l c.1 c.2.1 c.2.2) : PM (fewM m.toNat (effStep E c)) (fewM m.toNat E) := by
  have m1 := f.m1
  have m2 := f.m2
  have le := e.len
  obtain ⟨p1, p2, a1, ab, b2⟩ := hc
  rw [fewM_L, fewM_L]
  conv => rhs; rw [← List.take_append_drop c.1.toNat E]
  unfold effStep
  rw [fewL_app, fewL_app]
  have hp : Ord m (lastL (iota m.toNat) (E.take c.1.toNat)) := lastL_ord _ _ (iota_ord (by omega)) fun o ho => e.all o (List.mem_of_mem_take ho)
  generalize lastL (iota m.toNat) (E.take c.1.toNat) = p at hp
  cases hd : E.drop c.1.toNat with
  | nil =>
    have := congrArg List.length hd
    rw [List.length_drop] at this
    simp at this
    omega
  | cons o r =>
    have hall : ∀ x ∈ o :: r, Ord m x := fun x hx => e.all x (List.mem_of_mem_drop (hd ▸ hx))
    have ho := hall o List.mem_cons_self
    have hr : ∀ x ∈ r, Ord m x := fun x hx => hall x (List.mem_cons_of_mem _ hx)
    show PM (fewL _ _ + (costM (jointOf p (with2 o c.2.1.toNat c.2.2.toNat)) + fewL (with2 o c.2.1.toNat c.2.2.toNat) (r.map fun o => with2 o c.2.1.toNat c.2.2.toNat))) (fewL _ _ + (costM (jointOf p o) + fewL o r))
    rw [fewL_with2 (by omega) (by omega) (by omega) r o ho hr]
    obtain ⟨j1, ne⟩ := joint_behind hp ho (a := c.2.1.toNat) (b := c.2.2.toNat) (by omega) (by omega) (by omega)
    have ra := getD_rng hp (r := c.2.1.toNat) (by omega)
    have rb := getD_rng hp (r := c.2.2.toNat) (by omega)
    have k := cost_two (by omega) m2 (jointOf_ord hp ho) (a := (p.getD c.2.1.toNat 0).toNat) (b := (p.getD c.2.2.toNat 0).toNat) (by omega) (by omega) ne
    rw [← j1] at k
    unfold PM
    omega
theorem few_ahead {m l : Int} (f : Frm m l) {E : List (List Int)} (e : Eff m l E) {c : CT} (hc : Cut m l c.1 c.2.1 c.2.2) : PM (fewM m.toNat (valSw E c)) (fewM m.toNat E) := by
  have m1 := f.m1
  have m2 := f.m2
  have le := e.len
  obtain ⟨p1, p2, a1, ab, b2⟩ := hc
  have ea : ((c.2.1.toNat : Nat) : Int) = c.2.1 := by omega
  have eb : ((c.2.2.toNat : Nat) : Int) = c.2.2 := by omega
  rw [fewM_L, fewM_L]
  conv => rhs; rw [← List.take_append_drop c.1.toNat E]
  unfold valSw
  rw [fewL_app, fewL_app]
  have hp : Ord m (lastL (iota m.toNat) (E.take c.1.toNat)) := lastL_ord _ _ (iota_ord (by omega)) fun o ho => e.all o (List.mem_of_mem_take ho)
  generalize lastL (iota m.toNat) (E.take c.1.toNat) = p at hp
  cases hd : E.drop c.1.toNat with
  | nil =>
    have := congrArg List.length hd
    rw [List.length_drop] at this
    simp at this
    omega
  | cons o r =>
    have hall : ∀ x ∈ o :: r, Ord m x := fun x hx => e.all x (List.mem_of_mem_drop (hd ▸ hx))
    have ho := hall o List.mem_cons_self
    have hr : ∀ x ∈ r, Ord m x := fun x hx => hall x (List.mem_cons_of_mem _ hx)
    show PM (fewL _ _ + (costM (jointOf p (o.map (swp c.2.1 c.2.2))) + fewL (o.map (swp c.2.1 c.2.2)) (r.map fun o => o.map (swp c.2.1 c.2.2)))) (fewL _ _ + (costM (jointOf p o) + fewL o r))
    rw [← ea, ← eb, fewL_sw (by omega) m2 (by omega) (by omega) r o ho hr]
    have hj := jointOf_ord hp ho
    have j1 : jointOf p (o.map (swp (c.2.1.toNat : Int) (c.2.2.toNat : Int))) = (jointOf p o).map (swp (c.2.1.toNat : Int) (c.2.2.toNat : Int)) :=
      joint_one hp (ho.sw ⟨by omega, by omega⟩ ⟨by omega, by omega⟩) (hj.sw ⟨by omega, by omega⟩ ⟨by omega, by omega⟩) (by rw [comp_map hj hp, joint_comp hp ho])
    have k := (cost_duo (by omega) m2 hj (a := c.2.1.toNat) (b := c.2.2.toNat) (by omega) (by omega)).2.1
    rw [j1]
    unfold PM
    omega
theorem few_rep {m : Int} (h0 : 0 ≤ m) (h5 : m ≤ 5) {p : List Int} (hp : Ord m p) : ∀ k : Nat, fewL p (List.replicate k p) = 0
  | 0 => rfl
  | k + 1 => by
    rw [List.replicate_succ]
    show costM (jointOf p p) + fewL p (List.replicate k p) = 0
    rw [few_rep h0 h5 hp k, joint_one hp hp (iota_ord h0) (iota_comp hp), (cost_zero h0 h5 (iota_ord h0)).2.1.mpr rfl]
    rfl
theorem few_none {m l : Int} (f : Frm m l) : fewM m.toNat (effM m.toNat l.toNat []) = 0 := by
  rw [fewM_L]
  exact few_rep (by have := f.m1; omega) f.m2 (iota_ord (by have := f.m1; omega)) _
theorem few_pos {m : Int} (h0 : 0 ≤ m) (h5 : m ≤ 5) (h1 : 1 ≤ m) : ∀ (E : List (List Int)) (p : List Int), Ord m p → (∀ o ∈ E, Ord m o) → 0 ≤ fewL p E ∧ fewL p E ≤ (m - 1) * E.length ∧ (fewL p E = 0 → E = List.replicate E.length p)
  | [], p, _, _ => ⟨Int.le_refl _, by show (0 : Int) ≤ (m - 1) * ((0 : Nat) : Int); simp, fun _ => rfl⟩
  | o :: r, p, hp, h => by
    have ho := h o List.mem_cons_self
    obtain ⟨c1, c2, c3⟩ := cost_zero h0 h5 (jointOf_ord hp ho)
    have c3 := c3 h1
    obtain ⟨d1, d2, d3⟩ := few_pos h0 h5 h1 r o ho fun x hx => h x (List.mem_cons_of_mem _ hx)
    refine ⟨by show 0 ≤ costM (jointOf p o) + fewL o r; omega, ?_, fun z => ?_⟩
    · show costM (jointOf p o) + fewL o r ≤ (m - 1) * ((r.length + 1 : Nat) : Int)
      have : (m - 1) * ((r.length + 1 : Nat) : Int) = (m - 1) * (r.length : Int) + (m - 1) := by
        rw [show ((r.length + 1 : Nat) : Int) = (r.length : Int) + 1 by omega, Int.mul_add, Int.mul_one]
      omega
    · have z : costM (jointOf p o) + fewL o r = 0 := z
      have j0 := c2.mp (by omega)
      have e := joint_comp hp ho
      rw [j0, iota_comp hp] at e
      subst e
      rw [List.length_cons, List.replicate_succ, ← d3 (by omega)]
theorem few_row {m l : Int} (f : Frm m l) {cs : List CT} (r : Row m l cs) : 0 ≤ fewM m.toNat (effM m.toNat l.toNat cs) ∧ fewM m.toNat (effM m.toNat l.toNat cs) ≤ (m - 1) * l ∧ (fewM m.toNat (effM m.toNat l.toNat cs) = 0 ↔ effM m.toNat l.toNat cs = effM m.toNat l.toNat []) ∧
    fewM m.toNat (effM m.toNat l.toNat cs) ≤ cs.length ∧ ((cs.length : Int) - fewM m.toNat (effM m.toNat l.toNat cs)) % 2 = 0 := by
  have m1 := f.m1
  have m2 := f.m2
  have l1 := f.l1
  have e := effM_ok f r
  have le := e.len
  obtain ⟨a, b, c⟩ := few_pos (by omega) m2 m1 (effM m.toNat l.toNat cs) (iota m.toNat) (iota_ord (by omega)) e.all
  rw [← fewM_L, le] at b
  rw [← fewM_L] at a c
  refine ⟨a, b, ⟨fun z => ?_, fun z => by rw [z]; exact few_none f⟩, ?_⟩
  · have c := c z
    rw [show (effM m.toNat l.toNat cs).length = l.toNat by omega] at c
    exact c
  · have key : ∀ (k : Nat) (cs : List CT), cs.length = k → Row m l cs → fewM m.toNat (effM m.toNat l.toNat cs) ≤ k ∧ ((k : Int) - fewM m.toNat (effM m.toNat l.toNat cs)) % 2 = 0 := fun k => by
      induction k with
      | zero =>
        intro cs hk r
        have : cs = [] := List.eq_nil_of_length_eq_zero hk
        subst this
        rw [few_none f]
        decide
      | succ k ih =>
        intro cs hk r
        obtain ⟨ds, c, rfl⟩ : ∃ ds c, cs = ds ++ [c] := ⟨cs.dropLast, cs.getLast (by intro z; rw [z] at hk; cases hk), (List.dropLast_concat_getLast _).symm⟩
        have rd : Row m l ds := fun x hx => r x (by simp [hx])
        have hc := r c (by simp)
        obtain ⟨i1, i2⟩ := ih ds (by rw [List.length_append] at hk; exact Nat.succ.inj hk) rd
        have e2 : effM m.toNat l.toNat (ds ++ [c]) = effStep (effM m.toNat l.toNat ds) c := by
          unfold effM
          rw [List.foldl_append]
          rfl
        have pm := few_behind f (effM_ok f rd) hc
        rw [← e2] at pm
        unfold PM at pm
        omega
    exact key cs.length cs rfl r
/-! ### two rows, one behind the other -/
def compL (A B : List (List Int)) : List (List Int) := List.zipWith comp A B
theorem compL_at (A B : List (List Int)) (q : Nat) : (compL A B)[q]? = (A[q]?).bind fun a => (B[q]?).map fun b => comp a b := by
  unfold compL
  rw [List.getElem?_zipWith]
  cases A[q]? <;> cases B[q]? <;> rfl
theorem compL_step {m l : Int} {A B : List (List Int)} (hB : Eff m l B) {d : CT} (hd : Cut m l d.1 d.2.1 d.2.2) : effStep (compL A B) d = compL A (effStep B d) := by
  obtain ⟨p1, p2, a1, ab, b2⟩ := hd
  refine List.ext_getElem? fun q => ?_
  rw [effStep_at, compL_at, compL_at, effStep_at]
  cases hA : A[q]? with
  | none => rfl
  | some a =>
    cases hq : B[q]? with
    | none => rfl
    | some b =>
      have hb := hB.all b (List.mem_of_getElem? hq)
      show some (if q < d.1.toNat then comp a b else with2 (comp a b) _ _) = some (comp a (if q < d.1.toNat then b else with2 b _ _))
      split
      · rfl
      · rw [comp_with2 hb (by omega) (by omega)]
theorem compL_fold {m l : Int} (A : List (List Int)) : ∀ (ds : List CT) (B : List (List Int)), Eff m l B → Row m l ds → ds.foldl effStep (compL A B) = compL A (ds.foldl effStep B)
  | [], B, _, _ => rfl
  | d :: ds, B, hB, r => by
    have hd := r d List.mem_cons_self
    show ds.foldl effStep (effStep (compL A B) d) = _
    rw [compL_step hB hd]
    exact compL_fold A ds _ (hB.step hd) fun x hx => r x (List.mem_cons_of_mem _ hx)
theorem effM_app {m l : Int} (f : Frm m l) {cs ds : List CT} (r1 : Row m l cs) (r2 : Row m l ds) : effM m.toNat l.toNat (cs ++ ds) = compL (effM m.toNat l.toNat cs) (effM m.toNat l.toNat ds) := by
  have e := effM_ok f r1
  have le := e.len
  have l1 := f.l1
  have self : compL (effM m.toNat l.toNat cs) (List.replicate l.toNat (iota m.toNat)) = effM m.toNat l.toNat cs := by
    refine List.ext_getElem? fun q => ?_
    rw [compL_at]
    cases hq : (effM m.toNat l.toNat cs)[q]? with
    | none => rfl
    | some a =>
      have ha := e.all a (List.mem_of_getElem? hq)
      have hlt : q < (effM m.toNat l.toNat cs).length := by
        apply Nat.lt_of_not_le
        intro z
        rw [List.getElem?_eq_none z] at hq
        cases hq
      rw [List.getElem?_replicate, if_pos (by omega)]
      show some (comp a (iota m.toNat)) = some a
      rw [comp_iota ha]
  have k := compL_fold (effM m.toNat l.toNat cs) ds (List.replicate l.toNat (iota m.toNat)) (eff0_ok f) r2
  rw [self] at k
  show (cs ++ ds).foldl effStep _ = _
  rw [List.foldl_append]
  exact k
theorem few_comp {m : Int} (h0 : 0 ≤ m) (h5 : m ≤ 5) : ∀ (A B : List (List Int)) (p q : List Int), A.length = B.length → Ord m p → Ord m q → (∀ o ∈ A, Ord m o) → (∀ o ∈ B, Ord m o) →
    fewL (comp p q) (compL A B) ≤ fewL p A + fewL q B ∧ fewL p A ≤ fewL (comp p q) (compL A B) + fewL q B ∧ fewL q B ≤ fewL (comp p q) (compL A B) + fewL p A
  | [], [], p, q, _, _, _, _, _ => by show (0 : Int) ≤ 0 + 0 ∧ (0 : Int) ≤ 0 + 0 ∧ (0 : Int) ≤ 0 + 0; omega
  | [], _ :: _, p, q, h, _, _, _, _ => by cases h
  | _ :: _, [], p, q, h, _, _, _, _ => by cases h
  | a :: A, b :: B, p, q, h, hp, hq, hA, hB => by
    have ha := hA a List.mem_cons_self
    have hb := hB b List.mem_cons_self
    obtain ⟨i1, i2, i3⟩ := few_comp h0 h5 A B a b (Nat.succ.inj h) ha hb (fun x hx => hA x (List.mem_cons_of_mem _ hx)) fun x hx => hB x (List.mem_cons_of_mem _ hx)
    have j1 := jointOf_ord hp ha
    have j2 := jointOf_ord hq hb
    have ho := comp_ord ha j2
    have hC := jointOf_ord ha ho
    have eJ : jointOf (comp p q) (comp a b) = comp (jointOf a (comp a (jointOf q b))) (jointOf p a) := by
      refine joint_one (comp_ord hp hq) (comp_ord ha hb) (comp_ord hC j1) ?_
      rw [comp_assoc (m := m) j1 (comp_ord hp hq), ← comp_assoc (m := m) (a := jointOf p a) hp hq, joint_comp hp ha, ← comp_assoc (m := m) ha hq, joint_comp ha ho, comp_assoc (m := m) j2 hq, joint_comp hq hb]
    have c0 := cost_conj h0 h5 (costM a).toNat a (jointOf q b) ha j2 (by have := (cost_zero h0 h5 ha).1; omega)
    have k1 := cost_comp h0 h5 hC (costM (jointOf p a)).toNat (jointOf p a) j1 (by have := (cost_zero h0 h5 j1).1; omega)
    have k2 := cost_comp2 h0 h5 j1 (costM (jointOf a (comp a (jointOf q b)))).toNat (jointOf a (comp a (jointOf q b))) hC (by have := (cost_zero h0 h5 hC).1; omega)
    have n1 := (cost_zero h0 h5 j1).1
    have n2 := (cost_zero h0 h5 hC).1
    show costM (jointOf (comp p q) (comp a b)) + fewL (comp a b) (compL A B) ≤ (costM (jointOf p a) + fewL a A) + (costM (jointOf q b) + fewL b B) ∧ (costM (jointOf p a) + fewL a A) ≤ (costM (jointOf (comp p q) (comp a b)) + fewL (comp a b) (compL A B)) + (costM (jointOf q b) + fewL b B) ∧ (costM (jointOf q b) + fewL b B) ≤ (costM (jointOf (comp p q) (comp a b)) + fewL (comp a b) (compL A B)) + (costM (jointOf p a) + fewL a A)
    rw [eJ]
    omega
theorem few_three {m l : Int} (f : Frm m l) {cs ds : List CT} (r1 : Row m l cs) (r2 : Row m l ds) :
    fewM m.toNat (effM m.toNat l.toNat (cs ++ ds)) ≤ fewM m.toNat (effM m.toNat l.toNat cs) + fewM m.toNat (effM m.toNat l.toNat ds) ∧ fewM m.toNat (effM m.toNat l.toNat cs) ≤ fewM m.toNat (effM m.toNat l.toNat (cs ++ ds)) + fewM m.toNat (effM m.toNat l.toNat ds) ∧ fewM m.toNat (effM m.toNat l.toNat ds) ≤ fewM m.toNat (effM m.toNat l.toNat (cs ++ ds)) + fewM m.toNat (effM m.toNat l.toNat cs) := by
  have m1 := f.m1
  have e1 := effM_ok f r1
  have e2 := effM_ok f r2
  have l1 := e1.len
  have l2 := e2.len
  have hi := iota_ord (m := m) (by omega)
  have k := few_comp (m := m) (by omega) f.m2 (effM m.toNat l.toNat cs) (effM m.toNat l.toNat ds) (iota m.toNat) (iota m.toNat) (by omega) hi hi e1.all e2.all
  rw [comp_iota hi, ← effM_app f r1 r2, ← fewM_L, ← fewM_L, ← fewM_L] at k
  exact k
end DL

namespace DL
open PySem PySem.Spec L2
open PyProof.Rows hiding St
variable {fs : Nat → Option Fn} {gl : Nat → Option D} {n : Nat}
/-! ### drawn orders -/
theorem perm_ord2 {m : Int} (hm : 0 ≤ m) {ys : List D} (h : ys.Perm (rngD 0 m.toNat)) : ∃ o, ys = o.map PyData.int ∧ Ord m o := by
  have hy : ∀ y ∈ ys, ∃ i : Nat, y = .int i ∧ i < m.toNat := fun y hy => mem_rng (h.mem_iff.mp hy)
  have e : ys = (ys.map fun d => ((natOf d : Nat) : Int)).map PyData.int := by
    rw [List.map_map]
    conv => lhs; rw [← List.map_id ys]
    refine List.map_congr_left fun y hh => ?_
    obtain ⟨i, rfl, _⟩ := hy y hh
    simp [natOf]
  refine ⟨_, e, ?_, fun x hx => ?_, ?_⟩
  · rw [List.length_map, h.length_eq, rngD_length]; omega
  · obtain ⟨y, hh, rfl⟩ := List.mem_map.mp hx
    obtain ⟨i, rfl, hi⟩ := hy y hh
    simp [natOf]; omega
  · have h2 := h.map fun d => ((natOf d : Nat) : Int)
    refine h2.nodup_iff.mpr ?_
    unfold rngD
    rw [List.map_map]
    refine List.Pairwise.map _ (R := fun a b => a ≠ b) (fun a b hab => ?_) List.nodup_range
    simp [natOf]
    omega
theorem mixed55_turn (h53 : fs 53 = some F53) {k : Nat} {p zs ys : List D} (hp : Pn (k + 1) p) (hz : 0 < zs.length) (hz2 : zs.length ≤ 1000) (hy : ys.length ≤ 1000) {d : D} {v1 v4 : Option Sl} :
    ∃ p' zs' ys', turnF (gT (.n 4)) (evSs (run fs gl (n + 1)) gl (F55.body.nth 1).inner) d [some (.l p), v1, some (.l zs), some (.l ys), v4] = some ([some (.l p'), v1, some (.l zs'), some (.l ys'), some (.d d)], .nx) ∧ (zs' ++ ys').Perm (zs ++ ys) ∧ zs'.length + 1 = zs.length ∧ ys'.length = ys.length + 1 ∧ Pn k p' := by
  obtain ⟨p2, i, e, d1, d2, q⟩ := drawn_ok (n := n) (gl := gl) (k := k) (m := (zs.length : Int)) h53 hp (by omega) (by omega)
  have hd : i.toNat < zs.length := by omega
  have hl : ys.length < 16777216 := by omega
  have at_ : zs[i.toNat]? = some zs[i.toNat] := List.getElem?_eq_getElem hd
  have d3 : i < 1152921504606846976 := by omega
  refine ⟨p2, zs.eraseIdx i.toNat, ys ++ [zs[i.toNat]], ?_, ?_, by rw [List.length_eraseIdx_of_lt hd]; omega, by rw [List.length_append]; rfl, q⟩
  · simp [F55, e, d1, d2, d3, at_, hl]
  · have g1 : (zs[i.toNat] :: zs.eraseIdx i.toNat).Perm zs := erase_perm zs _ hd
    have g2 : (zs.eraseIdx i.toNat ++ (ys ++ [zs[i.toNat]])).Perm (zs[i.toNat] :: (zs.eraseIdx i.toNat ++ ys)) := by
      rw [← List.append_assoc]
      exact List.perm_append_singleton _ _
    exact g2.trans (g1.append_right ys)
theorem mixed55_ok (h53 : fs 53 = some F53) (h55 : fs 55 = some F55) {k : Nat} {p : List D} {m : Int} (m1 : 1 ≤ m) (m2 : m ≤ 5) (hp : Pn (k + 5) p) :
    ∃ p' o, run fs gl (n + 2) 55 [.l p, .d (.int m)] = some ([.l p', .d (.int m)], .l (o.map PyData.int)) ∧ Ord m o ∧ Pn k p' := by
  have sm : smallI m = true := small_of' (by omega) (by omega)
  have sm0 : smallI 0 = true := small_of' (by decide) (by decide)
  have erg : rgD 0 m = rngD 0 m.toNat := by simp [rgD, rngD]
  have s0 : evS (run fs gl (n + 1)) gl (F55.body.nth 0) [some (.l p), some (.d (.int m)), none, none, none] = some ([some (.l p), some (.d (.int m)), some (.l (rngD 0 m.toNat)), some (.l []), none], .nx) := by
    simp [F55, Ss.nth, sm, sm0, erg]
  have er := rng1_of (b := m) (by omega) (by omega)
  obtain ⟨ρ', el, p', zs, ys, w4, j, ex, rfl, pm, hz, hy, q⟩ := loopF_inv (tg := gT (.n 4)) (body := evSs (run fs gl (n + 1)) gl (F55.body.nth 1).inner)
    (fun xs ρ => ∃ (p' zs ys : List D) (w4 : Option Sl) (j : Nat), xs.length = j ∧ ρ = [some (.l p'), some (.d (.int m)), some (.l zs), some (.l ys), w4] ∧ (zs ++ ys).Perm (rngD 0 m.toNat) ∧ zs.length = j ∧ ys.length + j = m.toNat ∧ Pn (k + j) p')
    (fun d xs ρ ⟨p', zs, ys, w4, j, ex, eρ, pm, hz, hy, q⟩ => by
      subst eρ
      rw [List.length_cons] at ex
      obtain ⟨p2, zs2, ys2, t, pm2, a, b, q2⟩ := mixed55_turn (n := n) (gl := gl) h53 (k := k + xs.length) (p := p') (zs := zs) (ys := ys) (q.less (by omega)) (by omega) (by omega) (by omega) (d := d) (v1 := some (.d (.int m))) (v4 := w4)
      exact ⟨_, t, p2, zs2, ys2, _, xs.length, rfl, rfl, pm2.trans pm, by omega, by omega, q2⟩)
    (rngD 0 m.toNat) [some (.l p), some (.d (.int m)), some (.l (rngD 0 m.toNat)), some (.l []), none]
    ⟨p, _, _, _, m.toNat, by rw [rngD_length], rfl, by simp, by rw [rngD_length], by simp, hp.less (by omega)⟩
  have hj : j = 0 := by simpa using ex.symm
  subst hj
  have : zs = [] := List.eq_nil_of_length_eq_zero hz
  subst this
  obtain ⟨o, rfl, ho⟩ := perm_ord2 (by omega) pm
  refine ⟨p', o, ?_, ho, q⟩
  have s1 : evS (run fs gl (n + 1)) gl (F55.body.nth 1) [some (.l p), some (.d (.int m)), some (.l (rngD 0 m.toNat)), some (.l []), none] = some ([some (.l p'), some (.d (.int m)), some (.l []), some (.l (o.map PyData.int)), w4], .nx) :=
    for_eq (rng_eq (a := .var 1) (d := .int m) (ρ1 := [some (.l p), some (.d (.int m)), some (.l (rngD 0 m.toNat)), some (.l []), none]) (by simp) er) el
  have s2 : evS (run fs gl (n + 1)) gl (F55.body.nth 2) [some (.l p'), some (.d (.int m)), some (.l []), some (.l (o.map PyData.int)), w4] = some ([some (.l p'), some (.d (.int m)), some (.l []), none, w4], .rt (.l (o.map PyData.int))) := by
    generalize o.map PyData.int = O
    simp [F55, Ss.nth]
  exact run_of h55 rfl ((evSs_nx s0).trans ((evSs_nx s1).trans (evSs_rt s2))) rfl
theorem effect59_ok (h53 : fs 53 = some F53) (h55 : fs 55 = some F55) (h59 : fs 59 = some F59) {k : Nat} {p : List D} {m l : Int} (f : Frm m l) (hp : Pn (k + 60) p) :
    ∃ p' E, run fs gl (n + 3) 59 [.l p, .d (frameD m l)] = some ([.l p', .d (frameD m l)], .d (effD E)) ∧ Eff m l E ∧ Pn k p' := by
  have m1 := f.m1
  have m2 := f.m2
  have l1 := f.l1
  have l2 := f.l2
  have a0 : ∀ x y : D, atD [x, y] 0 = some x := fun _ _ => rfl
  have a1 : ∀ x y : D, atD [x, y] 1 = some y := fun _ _ => rfl
  obtain ⟨ρ', out, el, p', E, rfl, rfl, he, hlen, hq⟩ := loopC_inv (vs := [2]) (tg := gT (.n 2)) (cd := gYes) (el := gd (evX (run fs gl (n + 2)) gl (.blt .tuple (.cons (.call 55 (.s 0 (.d (.idx (.var 1) (.cst (.int 0))) .nil))) .nil))))
    (fun xs ρ acc => ∃ (p' : List D) (E : List (List Int)), ρ = [some (.l p'), some (.d (frameD m l)), none] ∧ acc = E.map orderD ∧ (∀ o ∈ E, Ord m o) ∧ E.length + xs.length = l.toNat ∧ Pn (k + 5 * xs.length) p') 12 (by decide)
    (fun xs ρ acc ⟨p', E, _, ea, _, hl, _⟩ => by rw [ea, List.length_map]; omega)
    (fun d xs ρ acc ⟨p', E, eρ, ea, he, hl, hq⟩ => by
      subst eρ ea
      obtain ⟨p2, o, e2, ho, q2⟩ := mixed55_ok (n := n) (gl := gl) h53 h55 (k := k + 5 * xs.length) (p := p') m1 m2 (hq.less (by rw [List.length_cons]; omega))
      refine ⟨[some (.l p2), some (.d (frameD m l)), none], some (orderD o), ?_, p2, E ++ [o], rfl, by simp, fun x hx => ?_, by rw [List.length_append]; rw [List.length_cons] at hl; show E.length + 1 + xs.length = _; omega, q2⟩
      · show _ = some (_, some (PyData.tuple (o.map PyData.int)))
        generalize o.map PyData.int = O at e2 ⊢
        unfold frameD
        simp [e2, a0]
      · rcases List.mem_append.mp hx with hx | hx
        · exact he x hx
        · rw [List.mem_singleton] at hx
          subst hx
          exact ho)
    (rngD 0 l.toNat) [some (.l p), some (.d (frameD m l)), none] [] ⟨p, [], rfl, rfl, (fun _ hh => by cases hh), (by rw [rngD_length]; simp), (by rw [rngD_length]; exact hp.less (by omega))⟩
  refine ⟨p', E, ?_, ⟨?_, he⟩, by simpa using hq⟩
  · rw [run_step h59]
    have b1 : l < 4611686018427387904 := by omega
    have b2 : -4611686018427387904 ≤ l := by omega
    unfold effD
    generalize E.map orderD = ED at el ⊢
    unfold frameD at el ⊢
    simp [F59] at el ⊢
    simp [el, b1, b2, a1]
  · simp at hlen
    omega
end DL

namespace DL
open PySem PySem.Spec L2
open PyProof.Rows hiding St
variable {fs : Nat → Option Fn} {gl : Nat → Option D} {n : Nat}
/-- _law_steps_right -/
def F169 : Fn := ⟨3, [0], 10, (.cons (.parN [3, 4] [false, false] (.cons (.call 144 (.d (.var 1) (.d (.var 2) .nil))) (.cons (.call 57 (.d (.var 1) .nil)) .nil)))
 (.cons (.set 5 false (.call 100 (.d (.var 1) (.d (.var 3) .nil))))
 (.cons (.ite (.or (.not (.chn .LtE .LtE (.cst (.int 0)) (.var 5) (.blt .len (.cons (.var 2) .nil)))) (.or (.cmp .NotEq (.bin .Mod (.bin .Sub (.blt .len (.cons (.var 2) .nil)) (.var 5)) (.cst (.int 2))) (.cst (.int 0))) (.cmp .Gt (.var 5) (.bin .Mult (.bin .Sub (.idx (.var 1) (.cst (.int 0))) (.cst (.int 1))) (.idx (.var 1) (.cst (.int 1))))))) (.cons (.ret (.cst (.bool false)))
 .nil) .nil)
 (.cons (.ite (.or (.cmp .NotEq (.cmp .Eq (.var 5) (.cst (.int 0))) (.cmp .Eq (.var 3) (.call 144 (.d (.var 1) (.d (.tup .nil) .nil))))) (.cmp .NotEq (.call 148 (.d (.var 1) (.d (.var 2) .nil))) (.cmp .Eq (.var 5) (.blt .len (.cons (.var 2) .nil))))) (.cons (.ret (.cst (.bool false)))
 .nil) .nil)
 (.cons (.for (.seq (.lc [9] (.rng (.bin .Mult (.cst (.int 3)) (.blt .int (.cons (.cmp .NotEq (.var 4) (.lst .nil)) .nil)))) (.n 9) .no (.call 54 (.s 0 (.d (.var 4) .nil))))) (.n 6) (.cons (.set 7 false (.lst (.cons (.bin .Sub (.call 100 (.d (.var 1) (.d (.call 144 (.d (.var 1) (.d (.bin .Add (.var 2) (.tup (.cons (.var 6) .nil))) .nil))) .nil))) (.var 5)) (.cons (.bin .Sub (.call 100 (.d (.var 1) (.d (.call 144 (.d (.var 1) (.d (.bin .Add (.tup (.cons (.var 6) .nil)) (.var 2)) .nil))) .nil))) (.var 5)) .nil))))
 (.cons (.ite (.cmp .NotEq (.lc [8] (.seq (.var 7)) (.n 8) (.so (.cmp .NotIn (.var 8) (.tup (.cons (.neg (.cst (.int 1))) (.cons (.cst (.int 1)) .nil))))) (.var 8)) (.lst .nil)) (.cons (.ret (.cst (.bool false)))
 .nil) .nil)
 .nil)))
 (.cons (.ret (.cst (.bool true)))
 .nil))))))⟩
/-- _law_beside_right -/
def F171 : Fn := ⟨4, [0], 12, (.cons (.unp (.t (.cons (.n 4) (.cons (.n 5) .nil))) (.var 1))
 (.cons (.set 6 false (.tup (.cons (.bin .Mult (.cst (.int 2)) (.var 4)) (.cons (.var 5) .nil))))
 (.cons (.set 7 false (.blt .tuple (.cons (.lc [10, 9] (.zp (.var 2) (.var 3)) (.t (.cons (.n 10) (.cons (.n 9) .nil))) .no (.bin .Add (.var 10) (.blt .tuple (.cons (.lc [11] (.seq (.var 9)) (.n 11) .no (.bin .Add (.var 4) (.var 11))) .nil)))) .nil)))
 (.cons (.ite (.cmp .NotEq (.call 100 (.d (.var 6) (.d (.var 7) .nil))) (.bin .Add (.call 100 (.d (.var 1) (.d (.var 2) .nil))) (.call 100 (.d (.var 1) (.d (.var 3) .nil))))) (.cons (.ret (.cst (.bool false)))
 .nil) .nil)
 (.cons (.set 8 false (.blt .tuple (.cons (.lc [10] (.seq (.var 2)) (.n 10) .no (.bin .Add (.var 10) (.tup (.cons (.var 4) .nil)))) .nil)))
 (.cons (.ret (.cmp .Eq (.call 100 (.d (.tup (.cons (.bin .Add (.var 4) (.cst (.int 1))) (.cons (.var 5) .nil))) (.d (.var 8) .nil))) (.call 100 (.d (.var 1) (.d (.var 2) .nil)))))
 .nil))))))⟩
/-- law -/
def F172 : Fn := ⟨1, [], 10, (.cons (.for (.rng (.blt .max (.cons (.cst (.int 1)) (.cons (.blt .min (.cons (.lenV 0) (.cons (.cst (.int 3)) .nil))) .nil)))) (.n 1) (.cons (.set 2 true (.call 52 (.d (.call 11 (.s 0 (.d (.var 1) .nil))) .nil)))
 (.cons (.for (.rng (.cst (.int 3))) (.n 3) (.cons (.set 4 false (.call 56 (.s 2 (.d (.cst (.int 5)) (.d (.cst (.int 12)) .nil)))))
 (.cons (.par2 5 6 false false (.call 58 (.s 2 (.d (.var 4) (.d (.cst (.int 30)) .nil)))) (.call 58 (.s 2 (.d (.var 4) (.d (.cst (.int 9)) .nil)))))
 (.cons (.ite (.or (.not (.call 169 (.s 2 (.d (.var 4) (.d (.var 5) .nil))))) (.not (.call 169 (.s 2 (.d (.var 4) (.d (.var 6) .nil)))))) (.cons (.ret (.cst (.bool false)))
 .nil) .nil)
 (.cons (.set 7 false (.lc [9] (.seq (.tup (.cons (.var 5) (.cons (.var 6) (.cons (.bin .Add (.var 5) (.var 6)) .nil))))) (.n 9) .no (.call 100 (.d (.var 4) (.d (.call 144 (.d (.var 4) (.d (.var 9) .nil))) .nil)))))
 (.cons (.ite (.or (.cmp .Gt (.idx (.var 7) (.cst (.int 2))) (.bin .Add (.idx (.var 7) (.cst (.int 0))) (.idx (.var 7) (.cst (.int 1))))) (.cmp .Lt (.idx (.var 7) (.cst (.int 2))) (.blt .abs (.cons (.bin .Sub (.idx (.var 7) (.cst (.int 0))) (.idx (.var 7) (.cst (.int 1)))) .nil)))) (.cons (.ret (.cst (.bool false)))
 .nil) .nil)
 (.cons (.set 8 false (.call 56 (.s 2 (.d (.cst (.int 2)) (.d (.cst (.int 12)) .nil)))))
 (.cons (.ite (.not (.call 171 (.s 2 (.d (.var 8) (.d (.call 59 (.s 2 (.d (.var 8) .nil))) (.d (.call 59 (.s 2 (.d (.var 8) .nil))) .nil)))))) (.cons (.ret (.cst (.bool false)))
 .nil) .nil)
 .nil))))))))
 .nil)))
 (.cons (.ret (.cst (.bool true)))
 .nil))⟩
theorem eqv_ints : ∀ (a b : List Int), PyData.eqvAll (a.map PyData.int) (b.map PyData.int) = decide (a = b)
  | [], [] => by simp [PyData.eqvAll]
  | [], _ :: _ => by simp [PyData.eqvAll]
  | _ :: _, [] => by simp [PyData.eqvAll]
  | x :: a, y :: b => by
    rw [List.map_cons, List.map_cons, PyData.eqvAll, eqv_int, eqv_ints a b]
    rw [Bool.eq_iff_iff]
    simp
theorem eqv_orders : ∀ (A B : List (List Int)), PyData.eqvAll (A.map orderD) (B.map orderD) = decide (A = B)
  | [], [] => by simp [PyData.eqvAll]
  | [], _ :: _ => by simp [PyData.eqvAll]
  | _ :: _, [] => by simp [PyData.eqvAll]
  | x :: A, y :: B => by
    have e : PyData.eqv (orderD x) (orderD y) = decide (x = y) := by
      unfold orderD
      rw [PyData.eqv, eqv_ints]
    rw [List.map_cons, List.map_cons, PyData.eqvAll, e, eqv_orders A B]
    rw [Bool.eq_iff_iff]
    simp
theorem eq_effs {m l : Int} (f : Frm m l) {A B : List (List Int)} (hA : Eff m l A) (hB : Eff m l B) : eqD (effD A) (effD B) = some (.d (.bool (decide (A = B)))) := by
  have d1 := (tame_effD f hA).dp
  have e1 : dep2 (effD A) (effD B) = true := decide_eq_true (by omega)
  show (if dep2 (effD A) (effD B) = true then some (Sl.d (.bool (PyData.eqv (effD A) (effD B)))) else none) = _
  rw [if_pos e1]
  unfold effD
  rw [PyData.eqv, eqv_orders]
structure Has11 (fs : Nat → Option Fn) (gl : Nat → Option D) : Prop extends HasEff fs gl, HasDoes fs gl, HasFew fs gl where
  h11 : fs 11 = some F11
  h100 : fs 100 = some F100
  h147 : fs 147 = some F147
  h148 : fs 148 = some F148
  h52 : fs 52 = some F52
  h53 : fs 53 = some F53
  h54 : fs 54 = some F54
  h55 : fs 55 = some F55
  h56 : fs 56 = some F56
  h57 : fs 57 = some F57
  h58 : fs 58 = some F58
  h59 : fs 59 = some F59
  h169 : fs 169 = some F169
  h171 : fs 171 = some F171
  h172 : fs 172 = some F172
abbrev B169 (i : Nat) : S := F169.body.nth i
theorem t_s0 (h : Has11 fs gl) {m l : Int} (f : Frm m l) {cs : List CT} (r : Row m l cs) (hl : cs.length ≤ 1000) {v0 v3 v4 v5 v6 v7 v8 v9 : Option Sl} :
    ∃ all, evS (run fs gl (n + 6)) gl (B169 0) [v0, some (.d (frameD m l)), some (.d (rowD cs)), v3, v4, v5, v6, v7, v8, v9] = some ([v0, some (.d (frameD m l)), some (.d (rowD cs)), some (.d (effD (effM m.toNat l.toNat cs))), some (.d (.list (all.map cutOf))), v5, v6, v7, v8, v9], .nx) ∧ Row m l all ∧ all.length ≤ 300 := by
  have k1 := doesP_ok (n := n) h.toHasDoes f r (by omega)
  obtain ⟨all, k2, ra, la⟩ := all57_ok (n := n + 5) (gl := gl) h.h57 f
  refine ⟨all, ?_, ra, la⟩
  generalize effD (effM m.toNat l.toNat cs) = E at k1 ⊢
  generalize rowD cs = C at k1 ⊢
  generalize all.map cutOf = A at k2 ⊢
  generalize frameD m l = FD at k1 k2 ⊢
  simp [B169, F169, Ss.nth, k1, k2, putS]
theorem t_s1 (h : Has11 fs gl) {m l : Int} (f : Frm m l) {E : List (List Int)} (e : Eff m l E) {v0 v2 v4 v5 v6 v7 v8 v9 : Option Sl} :
    evS (run fs gl (n + 6)) gl (B169 1) [v0, some (.d (frameD m l)), v2, some (.d (effD E)), v4, v5, v6, v7, v8, v9] = some ([v0, some (.d (frameD m l)), v2, some (.d (effD E)), v4, some (.d (.int (fewM m.toNat E))), v6, v7, v8, v9], .nx) := by
  have k1 := fewest_ok (n := n) h.toHasEff h.toHasFew h.h100 f e
  generalize fewM m.toNat E = H at k1 ⊢
  generalize effD E = ED at k1 ⊢
  generalize frameD m l = FD at k1 ⊢
  simp [B169, F169, Ss.nth, k1]
theorem t_s2 {m l : Int} (f : Frm m l) {cs : List CT} (r : Row m l cs) {v0 v3 v4 v6 v7 v8 v9 : Option Sl} :
    evS (run fs gl n) gl (B169 2) [v0, some (.d (frameD m l)), some (.d (rowD cs)), v3, v4, some (.d (.int (fewM m.toNat (effM m.toNat l.toNat cs)))), v6, v7, v8, v9] = some ([v0, some (.d (frameD m l)), some (.d (rowD cs)), v3, v4, some (.d (.int (fewM m.toNat (effM m.toNat l.toNat cs)))), v6, v7, v8, v9], .nx) := by
  have m2 := f.m2
  have m1 := f.m1
  obtain ⟨a, b, _, c, d⟩ := few_row f r
  have hcs : (((cs.map cutOf).length : Nat) : Int) = (cs.length : Int) := by rw [List.length_map]
  rw [← hcs] at c d
  generalize fewM m.toNat (effM m.toNat l.toNat cs) = H at a b c d ⊢
  unfold rowD
  generalize cs.map cutOf = C at c d ⊢
  have a0 : ∀ x y : D, atD [x, y] 0 = some x := fun _ _ => rfl
  have a1 : ∀ x y : D, atD [x, y] 1 = some y := fun _ _ => rfl
  have u : (m - 1).natAbs < 18446744073709551616 := by omega
  have g : ¬ (m - 1) * l < H := by omega
  unfold frameD
  simp [B169, F169, Ss.nth, a, c, d, ne_int, a0, a1, u, g, -neD]
theorem t_s3 (h : Has11 fs gl) {m l : Int} (f : Frm m l) {cs : List CT} (r : Row m l cs) (hl : cs.length ≤ 1000) {v0 v4 v6 v7 v8 v9 : Option Sl} :
    evS (run fs gl (n + 6)) gl (B169 3) [v0, some (.d (frameD m l)), some (.d (rowD cs)), some (.d (effD (effM m.toNat l.toNat cs))), v4, some (.d (.int (fewM m.toNat (effM m.toNat l.toNat cs)))), v6, v7, v8, v9] = some ([v0, some (.d (frameD m l)), some (.d (rowD cs)), some (.d (effD (effM m.toNat l.toNat cs))), v4, some (.d (.int (fewM m.toNat (effM m.toNat l.toNat cs)))), v6, v7, v8, v9], .nx) := by
  have r0 : Row m l [] := fun x hx => by cases hx
  obtain ⟨_, _, c, _, _⟩ := few_row f r
  have k1 := doesP_ok (n := n) h.toHasDoes f r0 (by decide)
  have k2 := is_short_ok (n := n) h.toHasFew h.toHasDoes h.h147 h.h148 f r (by omega)
  have k3 := eq_effs f (effM_ok f r) (effM_ok f r0)
  have e1 : decide (effM m.toNat l.toNat cs = effM m.toNat l.toNat []) = decide (fewM m.toNat (effM m.toNat l.toNat cs) = 0) := decide_eq_decide.mpr c.symm
  rw [e1] at k3
  have e2 : decide ((cs.length : Int) = fewM m.toNat (effM m.toNat l.toNat cs)) = decide (fewM m.toNat (effM m.toNat l.toNat cs) = (((cs.map cutOf).length : Nat) : Int)) := by
    rw [List.length_map]
    exact decide_eq_decide.mpr ⟨fun z => z.symm, fun z => z.symm⟩
  rw [e2] at k2
  have er : rowD [] = .tuple [] := rfl
  rw [er] at k1
  have z0 : (0 : Nat) ≤ sizeLine := Nat.zero_le _
  generalize fewM m.toNat (effM m.toNat l.toNat cs) = H at k2 k3 ⊢
  generalize effD (effM m.toNat l.toNat cs) = E at k3 ⊢
  generalize effD (effM m.toNat l.toNat []) = E0 at k1 k3
  unfold rowD at k2 ⊢
  have n1 := ne_bool (decide (H = 0))
  have n2 := ne_bool (decide (H = (((cs.map cutOf).length : Nat) : Int)))
  generalize cs.map cutOf = C at k2 n2 ⊢
  generalize frameD m l = FD at k1 k2 ⊢
  have q1 := eq_int H 0
  have q2 := eq_int H (((C.length : Nat) : Int))
  generalize decide (H = (((C.length : Nat) : Int))) = b2 at k2 n2 q2
  generalize decide (H = 0) = b1 at k3 n1 q1
  simp [B169, F169, Ss.nth, k1, k2, k3, q1, q2, n1, n2, -neD, -eqD]
theorem in_pm {x : Int} (h : x = 1 ∨ x = -1) : inB (.int x) (.tuple [.int (-1), .int 1]) = some true := by
  have k := any_int [-1, 1] x
  have dp : min (PyData.depthAll ([-1, 1].map PyData.int)) (PyData.depth (.int x)) ≤ 100 := by rw [depths_int]; omega
  show (if decide (min (PyData.depthAll ([-1, 1].map PyData.int)) (PyData.depth (.int x)) ≤ 100) = true then some (([-1, 1].map PyData.int).any fun y => PyData.eqv y (.int x)) else none) = _
  rw [if_pos (decide_eq_true dp), k]
  congr 1
  refine decide_eq_true ?_
  simp only [List.mem_cons, List.not_mem_nil, or_false]
  omega
theorem cut_turn11 (h : Has11 fs gl) {m l : Int} (f : Frm m l) {cs : List CT} (r : Row m l cs) (hl : cs.length ≤ 100) {c : CT} (hc : Cut m l c.1 c.2.1 c.2.2) {v0 v3 v4 v6 v7 v9 : Option Sl} :
    ∃ w7, turnF (gT (.n 6)) (evSs (run fs gl (n + 6)) gl (B169 4).inner) (cutOf c) [v0, some (.d (frameD m l)), some (.d (rowD cs)), v3, v4, some (.d (.int (fewM m.toNat (effM m.toNat l.toNat cs)))), v6, v7, none, v9] =
      some ([v0, some (.d (frameD m l)), some (.d (rowD cs)), v3, v4, some (.d (.int (fewM m.toNat (effM m.toNat l.toNat cs)))), some (.d (cutOf c)), w7, none, v9], .nx) := by
  have rc : Row m l [c] := fun d hd => by rw [List.mem_singleton] at hd; subst hd; exact hc
  have r2 : Row m l (cs ++ [c]) := r.app rc
  have r3 : Row m l (c :: cs) := rc.app r
  have e1 := effM_ok f r
  have e2 := effM_ok f r2
  have e3 := effM_ok f r3
  have k1 := doesP_ok (n := n) h.toHasDoes f r2 (by rw [List.length_append]; show cs.length + 1 ≤ _; omega)
  have k2 := doesP_ok (n := n) h.toHasDoes f r3 (by rw [List.length_cons]; omega)
  have k3 := fewest_ok (n := n) h.toHasEff h.toHasFew h.h100 f e2
  have k4 := fewest_ok (n := n) h.toHasEff h.toHasFew h.h100 f e3
  have eb : effM m.toNat l.toNat (cs ++ [c]) = effStep (effM m.toNat l.toNat cs) c := by
    unfold effM
    rw [List.foldl_append]
    rfl
  have p1 := few_behind f e1 hc
  rw [← eb] at p1
  have p2 := few_ahead f e1 hc
  rw [← effM_cons f hc r] at p2
  unfold PM at p1 p2
  have i1 := in_pm (x := fewM m.toNat (effM m.toNat l.toNat (cs ++ [c])) - fewM m.toNat (effM m.toNat l.toNat cs)) (by omega)
  have i2 := in_pm (x := fewM m.toNat (effM m.toNat l.toNat (c :: cs)) - fewM m.toNat (effM m.toNat l.toNat cs)) (by omega)
  have a1 : rowD (cs ++ [c]) = .tuple (cs.map cutOf ++ [cutOf c]) := by unfold rowD; rw [List.map_append]; rfl
  have a2 : rowD (c :: cs) = .tuple (cutOf c :: cs.map cutOf) := rfl
  rw [a1] at k1
  rw [a2] at k2
  have f1 : fit ((cs.map cutOf).length + 1) = true := fit_of (by rw [List.length_map]; omega)
  have f2 : fit (1 + (cs.map cutOf).length) = true := fit_of (by rw [List.length_map]; omega)
  have z1 : (1 : Nat) ≤ sizeLine := by rw [sizeLine_eq]; decide
  have z2 : (2 : Nat) ≤ sizeLine := by rw [sizeLine_eq]; decide
  have nn := ne_nil
  have fz2 : fit 2 = true := fit_of (by decide)
  refine ⟨some (.d (.list [.int (fewM m.toNat (effM m.toNat l.toNat (cs ++ [c])) - fewM m.toNat (effM m.toNat l.toNat cs)), .int (fewM m.toNat (effM m.toNat l.toNat (c :: cs)) - fewM m.toNat (effM m.toNat l.toNat cs))])), ?_⟩
  unfold rowD
  generalize fewM m.toNat (effM m.toNat l.toNat (cs ++ [c])) = H2 at k3 i1 ⊢
  generalize fewM m.toNat (effM m.toNat l.toNat (c :: cs)) = H3 at k4 i2 ⊢
  generalize fewM m.toNat (effM m.toNat l.toNat cs) = H1 at i1 i2 ⊢
  generalize effD (effM m.toNat l.toNat (cs ++ [c])) = E2 at k1 k3
  generalize effD (effM m.toNat l.toNat (c :: cs)) = E3 at k2 k4
  generalize cutOf c = CC at k1 k2 ⊢
  generalize cs.map cutOf = C at k1 k2 f1 f2 ⊢
  generalize frameD m l = FD at k1 k2 k3 k4 ⊢
  simp [B169, F169, Ss.nth, k1, k2, k3, k4, f1, f2, fz2, z1, z2, loopC, i1, i2, nn, -neD]
theorem t_s4 (h : Has11 fs gl) {k : Nat} {m l : Int} (f : Frm m l) {cs all : List CT} (r : Row m l cs) (hl : cs.length ≤ 100) (ra : Row m l all) (la : all.length ≤ 300) {p : List D} (hp : Pn (k + 3) p) {v3 v6 v7 : Option Sl} :
    ∃ p' w6 w7, evS (run fs gl (n + 6)) gl (B169 4) [some (.l p), some (.d (frameD m l)), some (.d (rowD cs)), v3, some (.d (.list (all.map cutOf))), some (.d (.int (fewM m.toNat (effM m.toNat l.toNat cs)))), v6, v7, none, none] =
      some ([some (.l p'), some (.d (frameD m l)), some (.d (rowD cs)), v3, some (.d (.list (all.map cutOf))), some (.d (.int (fewM m.toNat (effM m.toNat l.toNat cs)))), w6, w7, none, none], .nx) ∧ Pn k p' := by
  have hne := ne_list_nil (all.map cutOf)
  have hsrc : gd (evX (run fs gl (n + 6)) gl (.bin .Mult (.cst (.int 3)) (.blt .int (.cons (.cmp .NotEq (.var 4) (.lst .nil)) .nil)))) [some (.l p), some (.d (frameD m l)), some (.d (rowD cs)), v3, some (.d (.list (all.map cutOf))), some (.d (.int (fewM m.toNat (effM m.toNat l.toNat cs)))), v6, v7, none, none] =
      some ([some (.l p), some (.d (frameD m l)), some (.d (rowD cs)), v3, some (.d (.list (all.map cutOf))), some (.d (.int (fewM m.toNat (effM m.toNat l.toNat cs)))), v6, v7, none, none], .int (if all = [] then 0 else 3)) := by
    have hc : (all.map cutOf ≠ []) ↔ ¬ all = [] := by rw [ne_eq, List.map_eq_nil_iff]
    by_cases ha : all = []
    · have h2 : decide (all.map cutOf ≠ []) = false := decide_eq_false fun z => hc.mp z ha
      rw [h2] at hne
      rw [if_pos ha]
      generalize all.map cutOf = C at hne ⊢
      generalize rowD cs = R
      generalize frameD m l = FD
      simp [hne, -neD]
    · have h2 : decide (all.map cutOf ≠ []) = true := decide_eq_true (hc.mpr ha)
      rw [h2] at hne
      rw [if_neg ha]
      generalize all.map cutOf = C at hne ⊢
      generalize rowD cs = R
      generalize frameD m l = FD
      simp [hne, -neD]
  have z0 : (if all = [] then (0 : Int) else 3) ≤ 3 := by split <;> omega
  have z1 : 0 ≤ (if all = [] then (0 : Int) else 3) := by split <;> omega
  have er := rng1_of (b := if all = [] then (0 : Int) else 3) (by omega) (by omega)
  obtain ⟨ρ', out, el, p', ds, rfl, rfl, rd, q⟩ := loopC_inv (vs := [9]) (tg := gT (.n 9)) (cd := gYes) (el := gd (evX (run fs gl (n + 6)) gl (.call 54 (.s 0 (.d (.var 4) .nil)))))
    (fun xs ρ acc => ∃ (p' : List D) (ds : List CT), ρ = [some (.l p'), some (.d (frameD m l)), some (.d (rowD cs)), v3, some (.d (.list (all.map cutOf))), some (.d (.int (fewM m.toNat (effM m.toNat l.toNat cs)))), v6, v7, none, none] ∧ acc = ds.map cutOf ∧ Row m l ds ∧ Pn (k + xs.length) p' ∧ ds.length + xs.length ≤ 3 ∧ (xs ≠ [] → ¬ all = [])) 3 (by decide)
    (fun xs ρ acc ⟨p', ds, _, ea, _, _, hl, _⟩ => by rw [ea, List.length_map]; exact hl)
    (fun x xs ρ acc ⟨p', ds, eρ, ea, rd, q, hl, hn⟩ => by
      subst eρ ea
      rw [List.length_cons] at hl
      have ha : ¬ all = [] := hn (by simp)
      obtain ⟨p2, y, e2, hy, q2⟩ := picked_ok (n := n + 4) (gl := gl) (k := k + xs.length) h.h53 h.h54 (p := p') (xs := all.map cutOf) (q.less (by rw [List.length_cons]; omega)) (fun z => ha (List.map_eq_nil_iff.mp z)) (by rw [List.length_map]; omega)
      obtain ⟨c, hc, rfl⟩ := List.mem_map.mp hy
      refine ⟨[some (.l p2), some (.d (frameD m l)), some (.d (rowD cs)), v3, some (.d (.list (all.map cutOf))), some (.d (.int (fewM m.toNat (effM m.toNat l.toNat cs)))), v6, v7, none, none], some (cutOf c), ?_, p2, ds ++ [c], rfl, by simp, rd.app fun b hb => by rw [List.mem_singleton] at hb; subst hb; exact ra _ hc, q2, by rw [List.length_append]; show ds.length + 1 + xs.length ≤ 3; omega, fun _ => ha⟩
      generalize cutOf c = CC at e2 ⊢
      generalize all.map cutOf = C at e2 ⊢
      generalize rowD cs = R
      generalize frameD m l = FD
      simp [e2])
    (rngD 0 (if all = [] then (0 : Int) else 3).toNat) [some (.l p), some (.d (frameD m l)), some (.d (rowD cs)), v3, some (.d (.list (all.map cutOf))), some (.d (.int (fewM m.toNat (effM m.toNat l.toNat cs)))), v6, v7, none, none] []
    ⟨p, [], rfl, rfl, (fun c hc => by cases hc), (by rw [rngD_length]; exact hp.less (by omega)), (by rw [rngD_length]; simp; omega), (fun z ha => by rw [if_pos ha] at z; exact z rfl)⟩
  obtain ⟨q, _, _⟩ := q
  have k1 := lc_eq (vs := [9]) (t := .n 9) (c := .no) (el := .call 54 (.s 0 (.d (.var 4) .nil))) (rng_eq hsrc er) el
  obtain ⟨ρ2, el2, ds2, w6, w7, ex, rfl, _⟩ := loopF_inv (tg := gT (.n 6)) (body := evSs (run fs gl (n + 6)) gl (B169 4).inner)
    (fun xs ρ => ∃ (ds2 : List CT) (w6 w7 : Option Sl), xs = ds2.map cutOf ∧ ρ = [some (.l p'), some (.d (frameD m l)), some (.d (rowD cs)), v3, some (.d (.list (all.map cutOf))), some (.d (.int (fewM m.toNat (effM m.toNat l.toNat cs)))), w6, w7, none, none] ∧ Row m l ds2)
    (fun x xs ρ ⟨ds2, w6, w7, ex, eρ, r2⟩ => by
      subst eρ
      cases ds2 with
      | nil => cases ex
      | cons c ds3 =>
        rw [List.map_cons] at ex
        injection ex with ex1 ex2
        subst ex1 ex2
        obtain ⟨u7, t⟩ := cut_turn11 (n := n) h f r hl (r2 c List.mem_cons_self) (v0 := some (.l p')) (v3 := v3) (v4 := some (.d (.list (all.map cutOf)))) (v6 := w6) (v7 := w7) (v9 := none)
        exact ⟨_, t, ds3, _, _, rfl, rfl, fun x hx => r2 x (List.mem_cons_of_mem _ hx)⟩)
    (ds.map cutOf) [some (.l p'), some (.d (frameD m l)), some (.d (rowD cs)), v3, some (.d (.list (all.map cutOf))), some (.d (.int (fewM m.toNat (effM m.toNat l.toNat cs)))), v6, v7, none, none]
    ⟨ds, _, _, rfl, rfl, rd⟩
  refine ⟨p', w6, w7, for_eq (s := .seq (.lc [9] (.rng (.bin .Mult (.cst (.int 3)) (.blt .int (.cons (.cmp .NotEq (.var 4) (.lst .nil)) .nil)))) (.n 9) .no (.call 54 (.s 0 (.d (.var 4) .nil))))) (xs := ds.map cutOf) ?_ el2, by simpa using q⟩
  generalize ds.map cutOf = DS at k1 ⊢
  generalize all.map cutOf = C at k1 ⊢
  generalize rowD cs = R at k1 ⊢
  generalize frameD m l = FD at k1 ⊢
  simp only [evI, iSeq]
  generalize (E.lc [9] (.rng (.bin .Mult (.cst (.int 3)) (.blt .int (.cons (.cmp .NotEq (.var 4) (.lst .nil)) .nil)))) (.n 9) .no (.call 54 (.s 0 (.d (.var 4) .nil)))) = LC at k1 ⊢
  simp at k1
  simp [k1]
theorem steps_ok (h : Has11 fs gl) {k : Nat} {m l : Int} (f : Frm m l) {cs : List CT} (r : Row m l cs) (hl : cs.length ≤ 100) {p : List D} (hp : Pn (k + 3) p) :
    ∃ p', run fs gl (n + 7) 169 [.l p, .d (frameD m l), .d (rowD cs)] = some ([.l p', .d (frameD m l), .d (rowD cs)], .d (.bool true)) ∧ Pn k p' := by
  obtain ⟨all, s0, ra, la⟩ := t_s0 (n := n) h f r (by omega) (v0 := some (.l p)) (v3 := none) (v4 := none) (v5 := none) (v6 := none) (v7 := none) (v8 := none) (v9 := none)
  have s1 := t_s1 (n := n) h f (effM_ok f r) (v0 := some (.l p)) (v2 := some (.d (rowD cs))) (v4 := some (.d (.list (all.map cutOf)))) (v5 := none) (v6 := none) (v7 := none) (v8 := none) (v9 := none)
  have s2 := t_s2 (fs := fs) (gl := gl) (n := n + 6) f r (v0 := some (.l p)) (v3 := some (.d (effD (effM m.toNat l.toNat cs)))) (v4 := some (.d (.list (all.map cutOf)))) (v6 := none) (v7 := none) (v8 := none) (v9 := none)
  have s3 := t_s3 (n := n) h f r (by omega) (v0 := some (.l p)) (v4 := some (.d (.list (all.map cutOf)))) (v6 := none) (v7 := none) (v8 := none) (v9 := none)
  obtain ⟨p', w6, w7, s4, q⟩ := t_s4 (n := n) h f r hl ra la hp (v3 := some (.d (effD (effM m.toNat l.toNat cs)))) (v6 := none) (v7 := none)
  have s5 : evS (run fs gl (n + 6)) gl (B169 5) [some (.l p'), some (.d (frameD m l)), some (.d (rowD cs)), some (.d (effD (effM m.toNat l.toNat cs))), some (.d (.list (all.map cutOf))), some (.d (.int (fewM m.toNat (effM m.toNat l.toNat cs)))), w6, w7, none, none] = some ([some (.l p'), some (.d (frameD m l)), some (.d (rowD cs)), some (.d (effD (effM m.toNat l.toNat cs))), some (.d (.list (all.map cutOf))), some (.d (.int (fewM m.toNat (effM m.toNat l.toNat cs)))), w6, w7, none, none], .rt (.d (.bool true))) := by
    simp [B169, F169, Ss.nth]
  exact ⟨p', run_of h.h169 rfl ((evSs_nx s0).trans ((evSs_nx s1).trans ((evSs_nx s2).trans ((evSs_nx s3).trans ((evSs_nx s4).trans (evSs_rt s5)))))) rfl, q⟩
end DL

namespace DL
open PySem PySem.Spec L2
open PyProof.Rows hiding St
section
variable {m : Int}
theorem joint_self {p : List Int} (h0 : 0 ≤ m) (hp : Ord m p) : jointOf p p = iota m.toNat := joint_one hp hp (iota_ord h0) (iota_comp hp)
theorem cost_iota (h0 : 0 ≤ m) (h5 : m ≤ 5) : costM (iota m.toNat) = 0 := (cost_zero h0 h5 (iota_ord h0)).2.1.mpr rfl
theorem cost_inv (h0 : 0 ≤ m) (h5 : m ≤ 5) {a b : List Int} (ha : Ord m a) (hb : Ord m b) (h : comp a b = iota m.toNat) : costM a = costM b := by
  have k1 := cost_comp h0 h5 ha (costM b).toNat b hb (by have := (cost_zero h0 h5 hb).1; omega)
  have k2 := cost_comp2 h0 h5 hb (costM a).toNat a ha (by have := (cost_zero h0 h5 ha).1; omega)
  rw [h, cost_iota h0 h5] at k1 k2
  have := (cost_zero h0 h5 ha).1
  have := (cost_zero h0 h5 hb).1
  omega
theorem comp_cancel {a b g : List Int} (ha : Ord m a) (hb : Ord m b) (hg : Ord m g) (h : comp a g = comp b g) : a = b := by
  have e1 := joint_one hg (comp_ord ha hg) ha rfl
  have e2 := joint_one hg (comp_ord hb hg) hb rfl
  rw [← h] at e2
  rw [← e1, e2]
theorem joint_back (h0 : 0 ≤ m) (h5 : m ≤ 5) {x y : List Int} (hx : Ord m x) (hy : Ord m y) : costM (jointOf y x) = costM (jointOf x y) := by
  have j1 := jointOf_ord hx hy
  have j2 := jointOf_ord hy hx
  refine cost_inv h0 h5 j2 j1 (comp_cancel (comp_ord j2 j1) (iota_ord h0) hx ?_)
  rw [comp_assoc (m := m) j1 hx, joint_comp hx hy, joint_comp hy hx, iota_comp hx]
theorem joint_mid {a o b : List Int} (ha : Ord m a) (ho : Ord m o) (hb : Ord m b) : jointOf a b = comp (jointOf o b) (jointOf a o) := by
  have j1 := jointOf_ord ha ho
  have j2 := jointOf_ord ho hb
  refine joint_one ha hb (comp_ord j2 j1) ?_
  rw [comp_assoc (m := m) j1 ha, joint_comp ha ho, joint_comp ho hb]
theorem joint_from {o x y : List Int} (ho : Ord m o) (hx : Ord m x) (hy : Ord m y) : jointOf (jointOf o x) (jointOf o y) = jointOf x y := by
  have j1 := jointOf_ord ho hx
  have j2 := jointOf_ord ho hy
  have j3 := jointOf_ord hx hy
  refine joint_one j1 j2 j3 (comp_cancel (comp_ord j3 j1) j2 ho ?_)
  rw [comp_assoc (m := m) j1 ho, joint_comp ho hx, joint_comp hx hy, joint_comp ho hy]
theorem fewL_from {o : List Int} (ho : Ord m o) : ∀ (r : List (List Int)) (p : List Int), Ord m p → (∀ x ∈ r, Ord m x) → fewL (jointOf o p) (r.map (jointOf o)) = fewL p r
  | [], p, _, _ => rfl
  | x :: r, p, hp, h => by
    have hx := h x List.mem_cons_self
    show costM (jointOf (jointOf o p) (jointOf o x)) + fewL (jointOf o x) (r.map (jointOf o)) = costM (jointOf p x) + fewL x r
    rw [joint_from ho hp hx, fewL_from ho r x hx fun y hy => h y (List.mem_cons_of_mem _ hy)]
theorem few_out (h0 : 0 ≤ m) (h5 : m ≤ 5) {p : List Int} (hp : Ord m p) {A B : List (List Int)} {o : List Int} (hA : ∀ x ∈ A, Ord m x) (ho : Ord m o) (hB : ∀ x ∈ B, Ord m x) : fewL p (A ++ B) ≤ fewL p (A ++ o :: B) := by
  rw [fewL_app, fewL_app]
  have hl := lastL_ord A p hp hA
  generalize lastL p A = q at hl
  cases B with
  | nil =>
    show _ + (0 : Int) ≤ _ + (costM (jointOf q o) + 0)
    have := (cost_zero h0 h5 (jointOf_ord hl ho)).1
    omega
  | cons b B =>
    have hb := hB b List.mem_cons_self
    show _ + (costM (jointOf q b) + fewL b B) ≤ _ + (costM (jointOf q o) + (costM (jointOf o b) + fewL b B))
    have j1 := jointOf_ord hl ho
    have j2 := jointOf_ord ho hb
    have k := cost_comp h0 h5 j2 (costM (jointOf q o)).toNat (jointOf q o) j1 (by have := (cost_zero h0 h5 j1).1; omega)
    have := (cost_zero h0 h5 j1).1
    rw [joint_mid hl ho hb]
    omega
/-! ### places backwards -/
def chn : List (List Int) → Int
  | a :: b :: r => costM (jointOf a b) + chn (b :: r)
  | _ => 0
theorem few_chn : ∀ (r : List (List Int)) (o : List Int), fewL o r = chn (o :: r)
  | [], o => rfl
  | x :: r, o => by
    show costM (jointOf o x) + fewL x r = costM (jointOf o x) + chn (x :: r)
    rw [few_chn r x]
theorem chn_snoc : ∀ (A : List (List Int)) (x y : List Int), chn (A ++ [x, y]) = chn (A ++ [x]) + costM (jointOf x y)
  | [], x, y => by show costM (jointOf x y) + 0 = 0 + _; omega
  | [a], x, y => by show costM (jointOf a x) + (costM (jointOf x y) + 0) = costM (jointOf a x) + 0 + _; omega
  | a :: b :: A, x, y => by
    show costM (jointOf a b) + chn (b :: A ++ [x, y]) = costM (jointOf a b) + chn (b :: A ++ [x]) + _
    rw [chn_snoc (b :: A) x y]
    omega
theorem chn_rev (h0 : 0 ≤ m) (h5 : m ≤ 5) : ∀ (E : List (List Int)), (∀ x ∈ E, Ord m x) → chn E.reverse = chn E
  | [], _ => rfl
  | [a], _ => rfl
  | a :: b :: r, h => by
    have ih := chn_rev h0 h5 (b :: r) fun x hx => h x (List.mem_cons_of_mem _ hx)
    have ha := h a List.mem_cons_self
    have hb := h b (by simp)
    rw [List.reverse_cons, List.reverse_cons, List.append_assoc]
    show chn (r.reverse ++ [b, a]) = costM (jointOf a b) + chn (b :: r)
    rw [chn_snoc, ← ih, List.reverse_cons, joint_back h0 h5 ha hb]
    omega
/-! ### called anew -/
def conj (g o : List Int) : List Int := jointOf g (comp g o)
theorem conj_ord {g o : List Int} (hg : Ord m g) (ho : Ord m o) : Ord m (conj g o) := jointOf_ord hg (comp_ord hg ho)
theorem conj_comp {g o : List Int} (hg : Ord m g) (ho : Ord m o) : comp (conj g o) g = comp g o := joint_comp hg (comp_ord hg ho)
theorem conj_joint {g p o : List Int} (hg : Ord m g) (hp : Ord m p) (ho : Ord m o) : jointOf (conj g p) (conj g o) = conj g (jointOf p o) := by
  have j := jointOf_ord hp ho
  have cp := conj_ord hg hp
  have co := conj_ord hg ho
  have cj := conj_ord hg j
  refine joint_one cp co cj (comp_cancel (comp_ord cj cp) co hg ?_)
  rw [comp_assoc (m := m) cp hg, conj_comp hg hp, ← comp_assoc (m := m) hg hp, conj_comp hg j, comp_assoc (m := m) j hp, joint_comp hp ho, conj_comp hg ho]
theorem conj_iota (h0 : 0 ≤ m) {g : List Int} (hg : Ord m g) : conj g (iota m.toNat) = iota m.toNat := by
  refine joint_one hg (comp_ord hg (iota_ord h0)) (iota_ord h0) ?_
  rw [iota_comp hg, comp_iota hg]
theorem cost_conj' (h0 : 0 ≤ m) (h5 : m ≤ 5) {g j : List Int} (hg : Ord m g) (hj : Ord m j) : costM (conj g j) = costM j := cost_conj h0 h5 (costM g).toNat g j hg hj (by have := (cost_zero h0 h5 hg).1; omega)
theorem conj_joints {g : List Int} (hg : Ord m g) : ∀ (r : List (List Int)) (p : List Int), Ord m p → (∀ x ∈ r, Ord m x) → jointsM (conj g p) (r.map (conj g)) = (jointsM p r).map (conj g)
  | [], p, _, _ => rfl
  | o :: r, p, hp, h => by
    have ho := h o List.mem_cons_self
    show jointOf (conj g p) (conj g o) :: jointsM (conj g o) (r.map (conj g)) = conj g (jointOf p o) :: (jointsM o r).map (conj g)
    rw [conj_joint hg hp ho, conj_joints hg r o ho fun x hx => h x (List.mem_cons_of_mem _ hx)]
theorem few_conj (h0 : 0 ≤ m) (h5 : m ≤ 5) {g : List Int} (hg : Ord m g) : ∀ (r : List (List Int)) (p : List Int), Ord m p → (∀ x ∈ r, Ord m x) → fewL (conj g p) (r.map (conj g)) = fewL p r
  | [], p, _, _ => rfl
  | o :: r, p, hp, h => by
    have ho := h o List.mem_cons_self
    show costM (jointOf (conj g p) (conj g o)) + fewL (conj g o) (r.map (conj g)) = costM (jointOf p o) + fewL o r
    rw [conj_joint hg hp ho, cost_conj' h0 h5 hg (jointOf_ord hp ho), few_conj h0 h5 hg r o ho fun x hx => h x (List.mem_cons_of_mem _ hx)]
/-! ### undone -/
def invO (o : List Int) : List Int := (List.range o.length).map fun (r : Nat) => ((o.idxOf (r : Int) : Nat) : Int)
theorem invO_len (o : List Int) : (invO o).length = o.length := by unfold invO; rw [List.length_map, List.length_range]
theorem invO_at {o : List Int} {i : Nat} (h : i < o.length) : (invO o).getD i 0 = ((o.idxOf (i : Int) : Nat) : Int) := by
  unfold invO
  simp [List.getD, h]
theorem invO_comp {o : List Int} (ho : Ord m o) : comp o (invO o) = iota m.toNat := by
  have lo := ho.len
  refine ord_ext (m := m) (by rw [comp_len, invO_len]; exact lo) (by rw [iota_len]; have := ho.len; omega) fun i hi => ?_
  have hx := ho.idx hi
  rw [comp_at (by rw [invO_len]; omega), invO_at (by omega), Int.toNat_natCast, at_iota (by omega)]
  have g := List.getElem_idxOf hx
  simp [List.getD, hx, g]
theorem invO_ord {o : List Int} (ho : Ord m o) : Ord m (invO o) := by
  have lo := ho.len
  refine ⟨by rw [invO_len]; exact lo, fun x hx => ?_, ?_⟩
  · obtain ⟨r, hr, rfl⟩ := List.mem_map.mp hx
    have hr := List.mem_range.mp hr
    have := ho.idx (r := r) (by omega)
    omega
  · unfold invO
    rw [List.Nodup, List.pairwise_map]
    refine List.Pairwise.imp_of_mem (fun {x y} hx hy hxy e => hxy ?_) List.nodup_range
    have hx := List.mem_range.mp hx
    have hy := List.mem_range.mp hy
    have x1 := ho.idx (r := x) (by omega)
    have y1 := ho.idx (r := y) (by omega)
    have g1 := List.getElem_idxOf x1
    have g2 := List.getElem_idxOf y1
    have e2 : o.idxOf (x : Int) = o.idxOf (y : Int) := by omega
    simp only [e2] at g1
    rw [g2] at g1
    omega
theorem invO_comp2 {o : List Int} (ho : Ord m o) : comp (invO o) o = iota m.toNat := by
  have lo := ho.len
  refine ord_ext (m := m) (by rw [comp_len]; exact lo) (by rw [iota_len]; have := ho.len; omega) fun i hi => ?_
  have r := getD_rng ho hi
  rw [comp_at (by omega), invO_at (by omega), at_iota (by omega)]
  have e : (((o.getD i 0).toNat : Nat) : Int) = o.getD i 0 := by omega
  rw [e, idx_at ho hi]
theorem cost_undone (h0 : 0 ≤ m) (h5 : m ≤ 5) {p o : List Int} (hp : Ord m p) (ho : Ord m o) : costM (jointOf (invO p) (invO o)) = costM (jointOf p o) := by
  have ip := invO_ord hp
  have io := invO_ord ho
  have hX := comp_ord ip ho
  have hD := jointOf_ord ip io
  have c1 := cost_conj' h0 h5 hp hX
  have e1 : conj p (comp (invO p) o) = jointOf p o := by
    unfold conj
    rw [← comp_assoc (m := m) ip ho, invO_comp hp, iota_comp ho]
  rw [e1] at c1
  rw [c1]
  refine cost_inv h0 h5 hD hX ?_
  rw [← comp_assoc (m := m) ip ho, joint_comp ip io, invO_comp2 ho]
theorem few_undone (h0 : 0 ≤ m) (h5 : m ≤ 5) : ∀ (r : List (List Int)) (p : List Int), Ord m p → (∀ x ∈ r, Ord m x) → fewL (invO p) (r.map invO) = fewL p r
  | [], p, _, _ => rfl
  | o :: r, p, hp, h => by
    have ho := h o List.mem_cons_self
    show costM (jointOf (invO p) (invO o)) + fewL (invO o) (r.map invO) = costM (jointOf p o) + fewL o r
    rw [cost_undone h0 h5 hp ho, few_undone h0 h5 r o ho fun x hx => h x (List.mem_cons_of_mem _ hx)]
theorem invO_iota (h0 : 0 ≤ m) : invO (iota m.toNat) = iota m.toNat := by
  have hi := iota_ord h0
  have e := invO_comp hi
  rw [iota_comp (invO_ord hi)] at e
  exact e
theorem inv_is {o o' : List Int} (ho : Ord m o) (ho' : Ord m o') (h : Inv m.toNat o o') : o' = invO o := by
  have lo := ho.len
  have lo' := ho'.len
  refine ord_ext (m := m) lo' (by rw [invO_len]; exact lo) fun i hi => ?_
  have r := getD_rng ho' hi
  have e := h i (by omega)
  have k := idx_at ho (r := (o'.getD i 0).toNat) (by omega)
  rw [e] at k
  rw [invO_at (by omega), k]
  omega
end
theorem eff_undone {m l : Int} (f : Frm m l) {cs : List CT} (r : Row m l cs) : effM m.toNat l.toNat cs.reverse = (effM m.toNat l.toNat cs).map invO := by
  have rr : Row m l cs.reverse := fun x hx => r x (List.mem_reverse.mp hx)
  have e1 := effM_ok f r
  have e2 := effM_ok f rr
  have l1 := e1.len
  have l2 := e2.len
  refine List.ext_getElem (by rw [List.length_map]; omega) fun q h1 h2 => ?_
  rw [List.length_map] at h2
  rw [List.getElem_map]
  exact inv_is (e1.all _ (List.getElem_mem h2)) (e2.all _ (List.getElem_mem h1)) (eff_inv f cs r q _ _ (List.getElem?_eq_getElem h2) (List.getElem?_eq_getElem h1))
theorem jointsM_app : ∀ (A B : List (List Int)) (p : List Int), jointsM p (A ++ B) = jointsM p A ++ jointsM (lastL p A) B
  | [], B, p => rfl
  | o :: A, B, p => by
    show jointOf p o :: jointsM o (A ++ B) = jointOf p o :: (jointsM o A ++ jointsM (lastL o A) B)
    rw [jointsM_app A B o]
theorem lastL_snoc : ∀ (A : List (List Int)) (o p : List Int), lastL p (A ++ [o]) = o
  | [], o, p => rfl
  | a :: A, o, p => lastL_snoc A o a
end DL

namespace DL
open PySem PySem.Spec L2
open PyProof.Rows hiding St
variable {fs : Nat → Option Fn} {gl : Nat → Option D} {n : Nat}
/-- _law_undone -/
def F110 : Fn := ⟨1, [], 3, (.cons (.ret (.blt .tuple (.cons (.lc [1] (.seq (.var 0)) (.n 1) .no (.blt .tuple (.cons (.lc [2] (.rng (.blt .len (.cons (.var 1) .nil))) (.n 2) .no (.meth .index (.var 1) (.cons (.var 2) .nil))) .nil))) .nil)))
 .nil)⟩
/-- _law_places_right -/
def F111 : Fn := ⟨3, [0], 16, (.cons (.unp (.t (.cons (.n 3) (.cons (.n 4) .nil))) (.var 1))
 (.cons (.par2 5 6 false false (.call 53 (.s 0 (.d (.var 4) .nil))) (.tRg (.rng (.var 3))))
 (.cons (.par2 7 8 false false (.call 99 (.d (.var 1) (.d (.var 2) .nil))) (.call 100 (.d (.var 1) (.d (.var 2) .nil))))
 (.cons (.ite (.cmp .Lt (.var 4) (.cst (.int 12))) (.cons (.set 9 false (.bin .Add (.sli (.var 2) .no (.so (.bin .Add (.var 5) (.cst (.int 1))))) (.sli (.var 2) (.so (.var 5)) .no)))
 (.cons (.ite (.cmp .NotEq (.call 99 (.d (.tup (.cons (.var 3) (.cons (.bin .Add (.var 4) (.cst (.int 1))) .nil))) (.d (.var 9) .nil))) (.bin .Add (.bin .Add (.sli (.var 7) .no (.so (.bin .Add (.var 5) (.cst (.int 1))))) (.tup (.cons (.var 6) .nil))) (.sli (.var 7) (.so (.bin .Add (.var 5) (.cst (.int 1)))) .no))) (.cons (.ret (.cst (.bool false)))
 .nil) .nil)
 (.cons (.ite (.cmp .NotEq (.call 100 (.d (.tup (.cons (.var 3) (.cons (.bin .Add (.var 4) (.cst (.int 1))) .nil))) (.d (.var 9) .nil))) (.var 8)) (.cons (.ret (.cst (.bool false)))
 .nil) .nil)
 .nil))) .nil)
 (.cons (.ite (.cmp .Gt (.var 4) (.cst (.int 1))) (.cons (.ite (.cmp .Gt (.call 100 (.d (.tup (.cons (.var 3) (.cons (.bin .Sub (.var 4) (.cst (.int 1))) .nil))) (.d (.bin .Add (.sli (.var 2) .no (.so (.var 5))) (.sli (.var 2) (.so (.bin .Add (.var 5) (.cst (.int 1)))) .no)) .nil))) (.var 8)) (.cons (.ret (.cst (.bool false)))
 .nil) .nil)
 (.cons (.parN [10, 11] [false, true] (.cons (.idx (.var 2) (.cst (.int 0))) (.cons (.lst .nil) .nil)))
 (.cons (.for (.seq (.sli (.var 2) (.so (.cst (.int 1))) .no)) (.n 12) (.cons (.expr (.app 11 (.blt .tuple (.cons (.lc [15] (.rng (.var 3)) (.n 15) .no (.idx (.var 12) (.meth .index (.var 10) (.cons (.var 15) .nil)))) .nil))))
 .nil))
 (.cons (.ite (.cmp .NotEq (.bin .Add (.call 100 (.d (.tup (.cons (.var 3) (.cons (.cst (.int 1)) .nil))) (.d (.tup (.cons (.var 10) .nil)) .nil))) (.call 100 (.d (.tup (.cons (.var 3) (.cons (.bin .Sub (.var 4) (.cst (.int 1))) .nil))) (.d (.tupV 11) .nil)))) (.var 8)) (.cons (.ret (.cst (.bool false)))
 .nil) .nil)
 .nil)))) .nil)
 (.cons (.set 13 false (.call 100 (.d (.var 1) (.d (.rev (.var 2)) .nil))))
 (.cons (.set 14 false (.lc [12] (.seq (.tup (.cons (.idx (.var 2) (.cst (.int 0))) (.cons (.idx (.var 2) (.neg (.cst (.int 1)))) .nil)))) (.n 12) .no (.call 100 (.d (.tup (.cons (.var 3) (.cons (.cst (.int 1)) .nil))) (.d (.tup (.cons (.var 12) .nil)) .nil)))))
 (.cons (.ret (.cmp .Eq (.bin .Sub (.var 13) (.idx (.var 14) (.cst (.int 1)))) (.bin .Sub (.var 8) (.idx (.var 14) (.cst (.int 0))))))
 .nil))))))))⟩
/-- _law_called_right -/
def F112 : Fn := ⟨3, [0], 12, (.cons (.set 3 false (.call 55 (.s 0 (.d (.idx (.var 1) (.cst (.int 0))) .nil))))
 (.cons (.set 4 true (.lst .nil))
 (.cons (.for (.seq (.var 2)) (.n 5) (.cons (.set 6 true (.bin .Mult (.lst (.cons (.cst (.int 0)) .nil)) (.idx (.var 1) (.cst (.int 0)))))
 (.cons (.for (.rng (.idx (.var 1) (.cst (.int 0)))) (.n 7) (.cons (.asg (.ix 6 (.idx (.var 3) (.var 7))) (.idx (.var 3) (.idx (.var 5) (.var 7))))
 .nil))
 (.cons (.expr (.app 4 (.tupV 6)))
 .nil))))
 (.cons (.par2 8 9 false false (.call 99 (.d (.var 1) (.d (.var 2) .nil))) (.call 99 (.d (.var 1) (.d (.tupV 4) .nil))))
 (.cons (.for (.zp (.var 8) (.var 9)) (.t (.cons (.n 10) (.cons (.n 11) .nil))) (.cons (.ite (.cmp .NotEq (.lc [7] (.rng (.idx (.var 1) (.cst (.int 0)))) (.n 7) .no (.idx (.var 11) (.idx (.var 3) (.var 7)))) (.lc [7] (.seq (.var 10)) (.n 7) .no (.idx (.var 3) (.var 7)))) (.cons (.ret (.cst (.bool false)))
 .nil) .nil)
 .nil))
 (.cons (.ret (.cmp .Eq (.call 100 (.d (.var 1) (.d (.tupV 4) .nil))) (.call 100 (.d (.var 1) (.d (.var 2) .nil)))))
 .nil))))))⟩
/-- law -/
def F153 : Fn := ⟨1, [], 7, (.cons (.for (.rng (.blt .max (.cons (.cst (.int 1)) (.cons (.blt .min (.cons (.lenV 0) (.cons (.cst (.int 3)) .nil))) .nil)))) (.n 1) (.cons (.set 2 true (.call 52 (.d (.call 11 (.s 0 (.d (.var 1) .nil))) .nil)))
 (.cons (.for (.rng (.cst (.int 4))) (.n 3) (.cons (.set 4 false (.call 56 (.s 2 (.d (.cst (.int 5)) (.d (.cst (.int 12)) .nil)))))
 (.cons (.set 5 false (.call 58 (.s 2 (.d (.var 4) (.d (.cst (.int 12)) .nil)))))
 (.cons (.for (.seq (.tup (.cons (.call 59 (.s 2 (.d (.var 4) .nil))) (.cons (.call 144 (.d (.var 4) (.d (.var 5) .nil))) .nil)))) (.n 6) (.cons (.ite (.or (.not (.call 111 (.s 2 (.d (.var 4) (.d (.var 6) .nil))))) (.not (.call 112 (.s 2 (.d (.var 4) (.d (.var 6) .nil)))))) (.cons (.ret (.cst (.bool false)))
 .nil) .nil)
 (.cons (.ite (.cmp .NotEq (.call 100 (.d (.var 4) (.d (.call 110 (.d (.var 6) .nil)) .nil))) (.call 100 (.d (.var 4) (.d (.var 6) .nil)))) (.cons (.ret (.cst (.bool false)))
 .nil) .nil)
 .nil)))
 (.cons (.ite (.cmp .NotEq (.call 110 (.d (.call 144 (.d (.var 4) (.d (.var 5) .nil))) .nil)) (.call 144 (.d (.var 4) (.d (.call 83 (.d (.var 4) (.d (.var 5) .nil))) .nil)))) (.cons (.ret (.cst (.bool false)))
 .nil) .nil)
 .nil)))))
 .nil)))
 (.cons (.ret (.cst (.bool true)))
 .nil))⟩
structure Has10 (fs : Nat → Option Fn) (gl : Nat → Option D) : Prop extends HasEff fs gl, HasDoes fs gl, HasFew fs gl where
  h11 : fs 11 = some F11
  h83 : fs 83 = some F83
  h99 : fs 99 = some F99
  h100 : fs 100 = some F100
  h52 : fs 52 = some F52
  h53 : fs 53 = some F53
  h54 : fs 54 = some F54
  h55 : fs 55 = some F55
  h56 : fs 56 = some F56
  h57 : fs 57 = some F57
  h58 : fs 58 = some F58
  h59 : fs 59 = some F59
  h110 : fs 110 = some F110
  h111 : fs 111 = some F111
  h112 : fs 112 = some F112
  h153 : fs 153 = some F153
section
variable {cl : Nat → List Sl → Option (List Sl × Sl)} {ρ ρ1 ρ2 : Ev}
theorem tup_lc {LC : DL.E} {xs : List D} (k : evX cl gl LC ρ = some (ρ1, .l xs)) : evX cl gl (.blt .tuple (.cons LC .nil)) ρ = some (ρ1, .d (.tuple xs)) := by
  simp at k
  simp [k]
theorem gd_x {e : DL.E} {d : D} (k : evX cl gl e ρ = some (ρ1, .d d)) : gd (evX cl gl e) ρ = some (ρ1, d) := by
  simp at k
  simp [k]
theorem turn_yes {vs : List Nat} {tg : D → Ev → Option Ev} {el : GD} {d y : D} (h1 : tg d ρ = some ρ1) (h2 : el ρ1 = some (ρ2, y)) : turnC vs tg gYes el d ρ = some (wipeE ρ2 vs, some y) := by
  unfold turnC
  rw [h1, Option.bind_some]
  show (some (ρ1, true)).bind _ = _
  rw [Option.bind_some]
  show (if true = true then (el ρ1).map _ else _) = _
  rw [if_pos rfl, h2]
  rfl
theorem ret_x {e : DL.E} {s : Sl} (k : evX cl gl e ρ = some (ρ1, s)) : evS cl gl (.ret e) ρ = some (ρ1, .rt s) := by
  simp at k
  simp [k]
end
/-! ### undone -/
def lc110 : E := .lc [2] (.rng (.blt .len (.cons (.var 1) .nil))) (.n 2) .no (.meth .index (.var 1) (.cons (.var 2) .nil))
theorem un_lc {m : Int} (hm : m ≤ 1000) {o : List Int} (ho : Ord m o) {v0 : Option Sl} : evX (run fs gl n) gl lc110 [v0, some (.d (orderD o)), none] = some ([v0, some (.d (orderD o)), none], .l ((invO o).map PyData.int)) := by
  have lo := ho.len
  have k := loopC_map (vs := [2]) (tg := gT (.n 2)) (cd := gYes) (el := gd (evX (run fs gl n) gl (.meth .index (.var 1) (.cons (.var 2) .nil)))) (ρ := [v0, some (.d (orderD o)), none])
    (fun d => .int ((o.idxOf ((natOf d : Nat) : Int) : Nat) : Int)) (rngD 0 o.length) [] (by rw [rngD_length]; simp; omega) (fun d hd => by
      obtain ⟨q, rfl, hq⟩ := mem_rng hd
      have hmm := ho.mem (r := (q : Int)) (by omega) (by omega)
      have k1 := place_int o q hmm
      have dp : min (PyData.depthAll (o.map PyData.int)) (PyData.depth (.int (q : Int))) ≤ 100 := by rw [depths_int]; omega
      show turnC _ _ _ _ (.int (q : Int)) _ = some (_, some (.int ((o.idxOf (q : Int) : Nat) : Int)))
      unfold orderD
      generalize ((o.idxOf (q : Int) : Nat)) = w at k1 ⊢
      generalize o.map PyData.int = O at k1 dp ⊢
      simp [k1, dp])
  have e : ((rngD 0 o.length).map fun d => PyData.int ((o.idxOf ((natOf d : Nat) : Int) : Nat) : Int)) = (invO o).map PyData.int := by
    unfold rngD invO
    rw [List.map_map, List.map_map]
    refine List.map_congr_left fun i _ => ?_
    simp [natOf]
  rw [e, List.nil_append] at k
  exact lc_eq (vs := [2]) (t := .n 2) (c := .no) (rng_eq (a := .blt .len (.cons (.var 1) .nil)) (d := .int (o.length : Int)) (ρ1 := [v0, some (.d (orderD o)), none]) (by simp [orderD]) (rng1_nat (by omega))) k
theorem undone_ok (h110 : fs 110 = some F110) {m l : Int} (f : Frm m l) {E : List (List Int)} (e : Eff m l E) : run fs gl (n + 1) 110 [.d (effD E)] = some ([.d (effD E)], .d (effD (E.map invO))) := by
  have m2 := f.m2
  have l2 := f.l2
  have le := e.len
  have k := loopC_map (vs := [1]) (tg := gT (.n 1)) (cd := gYes) (el := gd (evX (run fs gl n) gl (.blt .tuple (.cons lc110 .nil)))) (ρ := [some (.d (effD E)), none, none])
    (fun d => orderD (invO (ordOf d))) (E.map orderD) [] (by rw [List.length_map]; simp; omega) (fun d hd => by
      obtain ⟨o, ho, rfl⟩ := List.mem_map.mp hd
      have k1 := un_lc (fs := fs) (gl := gl) (n := n) (m := m) (by omega) (e.all o ho) (v0 := some (.d (effD E)))
      show turnC _ _ _ _ _ _ = some (_, some (orderD (invO (ordOf (orderD o)))))
      rw [ordOf_ord]
      exact turn_yes (ρ1 := [some (.d (effD E)), some (.d (orderD o)), none]) (by simp) (gd_x (tup_lc k1)))
  have e3 : (E.map orderD).map (fun d => orderD (invO (ordOf d))) = (E.map invO).map orderD := by
    rw [List.map_map, List.map_map]
    refine List.map_congr_left fun o _ => ?_
    show orderD (invO (ordOf (orderD o))) = orderD (invO o)
    rw [ordOf_ord]
  rw [e3, List.nil_append] at k
  have k2 : evX (run fs gl n) gl (.lc [1] (.seq (.var 0)) (.n 1) .no (.blt .tuple (.cons lc110 .nil))) [some (.d (effD E)), none, none] = some ([some (.d (effD E)), none, none], .l ((E.map invO).map orderD)) := by
    refine lc_eq (vs := [1]) (t := .n 1) (c := .no) (ρ1 := [some (.d (effD E)), none, none]) (xs := E.map orderD) ?_ k
    simp [effD]
  exact run_of h110 rfl (evSs_rt (ret_x (tup_lc k2))) rfl
theorem undone_eff {m l : Int} {E : List (List Int)} (e : Eff m l E) : Eff m l (E.map invO) := by
  refine ⟨by rw [List.length_map]; exact e.len, fun o ho => ?_⟩
  obtain ⟨x, hx, rfl⟩ := List.mem_map.mp ho
  exact invO_ord (e.all x hx)
/-! ### called anew -/
abbrev B112 (i : Nat) : S := F112.body.nth i
def fillM (g o : List Int) (m : Nat) : Nat → List Int
  | 0 => List.replicate m 0
  | k + 1 => (fillM g o m k).set (g.getD k 0).toNat (g.getD (o.getD k 0).toNat 0)
theorem fillM_len (g o : List Int) (m : Nat) : ∀ k, (fillM g o m k).length = m
  | 0 => by unfold fillM; rw [List.length_replicate]
  | k + 1 => by unfold fillM; rw [List.length_set, fillM_len g o m k]
theorem fillM_at {m : Int} {g o : List Int} (hg : Ord m g) : ∀ k : Nat, (k : Int) ≤ m → ∀ r : Nat, r < k → (fillM g o m.toNat k).getD (g.getD r 0).toNat 0 = g.getD (o.getD r 0).toNat 0
  | 0, _, r, h => by omega
  | k + 1, hk, r, h => by
    have hl := fillM_len g o m.toNat k
    have rk := getD_rng hg (r := k) (by omega)
    have rr := getD_rng hg (r := r) (by omega)
    unfold fillM
    by_cases hr : r = k
    · subst hr
      rw [List.getD_eq_getElem?_getD, List.getElem?_set_self (by omega)]
      rfl
    · have ne : (g.getD k 0).toNat ≠ (g.getD r 0).toNat := fun z => by
        have i1 := idx_at hg (r := r) (by omega)
        have i2 := idx_at hg (r := k) (by omega)
        have : g.getD k 0 = g.getD r 0 := by omega
        rw [this] at i2
        omega
      rw [List.getD_eq_getElem?_getD, List.getElem?_set_ne ne, ← List.getD_eq_getElem?_getD]
      exact fillM_at hg k (by omega) r (by omega)
theorem fillM_conj {m : Int} (h0 : 0 ≤ m) {g o : List Int} (hg : Ord m g) (ho : Ord m o) : fillM g o m.toNat m.toNat = conj g o := by
  have lg := hg.len
  have lo := ho.len
  have hc := comp_ord hg ho
  refine ord_ext (m := m) (by rw [fillM_len]; omega) (by unfold conj; rw [jointOf_len]; exact lg) fun s hs => ?_
  have hx := hg.idx hs
  have e : g.getD (g.idxOf (s : Int)) 0 = (s : Int) := by
    have g1 := List.getElem_idxOf hx
    simp [List.getD, hx, g1]
  have k := fillM_at (o := o) hg m.toNat (by omega) (g.idxOf (s : Int)) (by omega)
  rw [e, Int.toNat_natCast] at k
  rw [k]
  unfold conj
  rw [jointOf_at hg hc hs, comp_at (by omega)]
theorem fill_loop {m l : Int} (f : Frm m l) {g o : List Int} (hg : Ord m g) (ho : Ord m o) {v0 v2 v4 v7 v8 v9 v10 v11 : Option Sl} :
    ∃ w7, loopF (gT (.n 7)) (evSs (run fs gl n) gl (((B112 2).inner.nth 1).inner)) (rngD 0 m.toNat) [v0, some (.d (frameD m l)), v2, some (.d (.list (g.map PyData.int))), v4, some (.d (orderD o)), some (.l ((fillM g o m.toNat 0).map PyData.int)), v7, v8, v9, v10, v11] =
      some ([v0, some (.d (frameD m l)), v2, some (.d (.list (g.map PyData.int))), v4, some (.d (orderD o)), some (.l ((fillM g o m.toNat m.toNat).map PyData.int)), w7, v8, v9, v10, v11], .nx) := by
  have lg := hg.len
  have lo := ho.len
  obtain ⟨ρ', el, k, w7, ex, rfl, hk⟩ := loopF_inv (tg := gT (.n 7)) (body := evSs (run fs gl n) gl (((B112 2).inner.nth 1).inner))
    (fun xs ρ => ∃ (k : Nat) (w7 : Option Sl), xs = (rngD 0 m.toNat).drop k ∧ ρ = [v0, some (.d (frameD m l)), v2, some (.d (.list (g.map PyData.int))), v4, some (.d (orderD o)), some (.l ((fillM g o m.toNat k).map PyData.int)), w7, v8, v9, v10, v11] ∧ k ≤ m.toNat)
    (fun d xs ρ ⟨k, w7, ex, eρ, hk⟩ => by
      subst eρ
      have hk2 : k < m.toNat := by
        apply Nat.lt_of_not_le
        intro z
        rw [List.drop_eq_nil_of_le (by rw [rngD_length]; exact z)] at ex
        cases ex
      rw [rngD_drop hk2] at ex
      injection ex with e1 e2
      subst e1 e2
      have rk := getD_rng hg (r := k) (by omega)
      have ro := getD_rng ho (r := k) (by omega)
      have e0 : ((0 : Int) + (k : Int)) = (k : Int) := by omega
      have at1 : atD (g.map PyData.int) ((0 : Int) + k) = some (.int (g.getD k 0)) := by
        rw [e0]
        have : k < g.length := by omega
        simp [atD, ixD, this, List.getD]
      have at2 : atD (o.map PyData.int) ((0 : Int) + k) = some (.int (o.getD k 0)) := by
        rw [e0]
        have : k < o.length := by omega
        simp [atD, ixD, this, List.getD]
      have at3 : atD (g.map PyData.int) (o.getD k 0) = some (.int (g.getD (o.getD k 0).toNat 0)) := by
        unfold atD ixD
        rw [List.length_map, if_pos ro.1, if_pos (by omega)]
        have : (o.getD k 0).toNat < g.length := by omega
        generalize (o.getD k 0).toNat = t at this
        simp [List.getD, this]
      have ix : ixD ((fillM g o m.toNat k).map PyData.int).length (g.getD k 0) = some (g.getD k 0).toNat := by
        unfold ixD
        rw [List.length_map, fillM_len, if_pos rk.1, if_pos (by omega)]
      have es : ((fillM g o m.toNat k).map PyData.int).set (g.getD k 0).toNat (.int (g.getD (o.getD k 0).toNat 0)) = (fillM g o m.toNat (k + 1)).map PyData.int := by
        show _ = ((fillM g o m.toNat k).set (g.getD k 0).toNat (g.getD (o.getD k 0).toNat 0)).map PyData.int
        rw [List.map_set]
      refine ⟨[v0, some (.d (frameD m l)), v2, some (.d (.list (g.map PyData.int))), v4, some (.d (orderD o)), some (.l ((fillM g o m.toNat (k + 1)).map PyData.int)), some (.d (.int ((0 : Int) + k))), v8, v9, v10, v11], ?_, k + 1, _, rfl, rfl, hk2⟩
      rw [← es]
      generalize ((fillM g o m.toNat k).map PyData.int) = F at ix ⊢
      generalize g.getD (o.getD k 0).toNat 0 = y at at3 ⊢
      generalize g.getD k 0 = gk at at1 ix ⊢
      generalize o.getD k 0 = ok at at2 at3
      generalize ((0 : Int) + (k : Int)) = kk at at1 at2 ⊢
      unfold orderD
      generalize g.map PyData.int = G at at1 at3 ⊢
      generalize o.map PyData.int = O at at2 ⊢
      generalize frameD m l = FD
      simp [B112, F112, Ss.nth, at1, at2, at3, ix])
    (rngD 0 m.toNat) [v0, some (.d (frameD m l)), v2, some (.d (.list (g.map PyData.int))), v4, some (.d (orderD o)), some (.l ((fillM g o m.toNat 0).map PyData.int)), v7, v8, v9, v10, v11] ⟨0, _, rfl, rfl, Nat.zero_le _⟩
  have hk4 : k = m.toNat := by
    apply Nat.le_antisymm hk
    apply Nat.le_of_not_lt
    intro z
    rw [rngD_drop z] at ex
    cases ex
  subst hk4
  exact ⟨w7, el⟩
theorem called_turn10 {m l : Int} (f : Frm m l) {g o : List Int} (hg : Ord m g) (ho : Ord m o) {T : List D} (hT : T.length ≤ 1000) {v0 v2 v5 v6 v7 v8 v9 v10 v11 : Option Sl} :
    ∃ w6 w7, turnF (gT (.n 5)) (evSs (run fs gl n) gl (B112 2).inner) (orderD o) [v0, some (.d (frameD m l)), v2, some (.d (.list (g.map PyData.int))), some (.l T), v5, v6, v7, v8, v9, v10, v11] =
      some ([v0, some (.d (frameD m l)), v2, some (.d (.list (g.map PyData.int))), some (.l (T ++ [orderD (conj g o)])), some (.d (orderD o)), w6, w7, v8, v9, v10, v11], .nx) := by
  have m1 := f.m1
  have m2 := f.m2
  obtain ⟨w7, lp⟩ := fill_loop (fs := fs) (gl := gl) (n := n) f hg ho (v0 := v0) (v2 := v2) (v4 := some (.l T)) (v7 := v7) (v8 := v8) (v9 := v9) (v10 := v10) (v11 := v11)
  have a0 : ∀ x y : D, atD [x, y] 0 = some x := fun _ _ => rfl
  have er := rng1_of (b := m) (by omega) (by omega)
  have mul : mulD (.list [.int 0]) (.int m) = some (.l ((fillM g o m.toNat 0).map PyData.int)) := by
    have c : (m < 2 ^ 63 ∧ -(2 ^ 63) ≤ m) := by omega
    have ft : fit ([PyData.int 0].length * m.toNat) = true := fit_of (by show 1 * m.toNat ≤ _; omega)
    show (if (decide (m < 2 ^ 63 ∧ -(2 ^ 63) ≤ m) && fit ([PyData.int 0].length * m.toNat)) = true then some (Sl.l (List.replicate m.toNat [PyData.int 0]).flatten) else none) = _
    rw [if_pos (by rw [decide_eq_true c, ft]; rfl)]
    congr 2
    unfold fillM
    rw [List.map_replicate]
    generalize m.toNat = k
    induction k with
    | zero => rfl
    | succ k ih => rw [List.replicate_succ, List.replicate_succ, List.flatten_cons, ih]; rfl
  have z1 : (1 : Nat) ≤ sizeLine := by rw [sizeLine_eq]; decide
  have s0 : evS (run fs gl n) gl ((B112 2).inner.nth 0) [v0, some (.d (frameD m l)), v2, some (.d (.list (g.map PyData.int))), some (.l T), some (.d (orderD o)), v6, v7, v8, v9, v10, v11] = some ([v0, some (.d (frameD m l)), v2, some (.d (.list (g.map PyData.int))), some (.l T), some (.d (orderD o)), some (.l ((fillM g o m.toNat 0).map PyData.int)), v7, v8, v9, v10, v11], .nx) := by
    generalize ((fillM g o m.toNat 0).map PyData.int) = F at mul ⊢
    generalize orderD o = O
    generalize g.map PyData.int = G
    simp [B112, F112, Ss.nth, frameD, a0, mul, z1, -mulD]
  have s1 : evS (run fs gl n) gl ((B112 2).inner.nth 1) [v0, some (.d (frameD m l)), v2, some (.d (.list (g.map PyData.int))), some (.l T), some (.d (orderD o)), some (.l ((fillM g o m.toNat 0).map PyData.int)), v7, v8, v9, v10, v11] = some ([v0, some (.d (frameD m l)), v2, some (.d (.list (g.map PyData.int))), some (.l T), some (.d (orderD o)), some (.l ((fillM g o m.toNat m.toNat).map PyData.int)), w7, v8, v9, v10, v11], .nx) := by
    refine for_eq (rng_eq (a := .idx (.var 1) (.cst (.int 0))) (d := .int m) (ρ1 := [v0, some (.d (frameD m l)), v2, some (.d (.list (g.map PyData.int))), some (.l T), some (.d (orderD o)), some (.l ((fillM g o m.toNat 0).map PyData.int)), v7, v8, v9, v10, v11]) ?_ er) lp
    generalize ((fillM g o m.toNat 0).map PyData.int) = F
    generalize orderD o = O
    generalize g.map PyData.int = G
    simp [frameD, a0]
  have hl : T.length < 16777216 := by omega
  have s2 : evS (run fs gl n) gl ((B112 2).inner.nth 2) [v0, some (.d (frameD m l)), v2, some (.d (.list (g.map PyData.int))), some (.l T), some (.d (orderD o)), some (.l ((fillM g o m.toNat m.toNat).map PyData.int)), w7, v8, v9, v10, v11] = some ([v0, some (.d (frameD m l)), v2, some (.d (.list (g.map PyData.int))), some (.l (T ++ [orderD (conj g o)])), some (.d (orderD o)), some (.l ((fillM g o m.toNat m.toNat).map PyData.int)), w7, v8, v9, v10, v11], .nx) := by
    have ec : orderD (conj g o) = .tuple ((fillM g o m.toNat m.toNat).map PyData.int) := by rw [fillM_conj (by omega) hg ho]; rfl
    rw [ec]
    generalize ((fillM g o m.toNat m.toNat).map PyData.int) = F
    generalize orderD o = O
    generalize g.map PyData.int = G
    generalize frameD m l = FD
    simp [B112, F112, Ss.nth, hl]
  exact ⟨_, _, (evSs_nx s0).trans ((evSs_nx s1).trans ((evSs_nx s2).trans rfl))⟩
end DL

namespace DL
open PySem PySem.Spec L2
open PyProof.Rows hiding St
variable {fs : Nat → Option Fn} {gl : Nat → Option D} {n : Nat}
/-- is_ribbon_text -/
def F63 : Fn := ⟨1, [], 2, (.cons (.ret (.and (.isa (.var 0) "str") (.and (.chn .LtE .LtE (.cst (.int 1)) (.blt .len (.cons (.var 0) .nil)) (.glb 0)) (.blt .all (.cons (.lc [1] (.seq (.var 0)) (.n 1) .no (.cmp .In (.var 1) (.glb 2))) .nil)))))
 .nil)⟩
/-- is_board -/
def F64 : Fn := ⟨1, [], 2, (.cons (.ite (.or (.not (.call 2 (.d (.var 0) (.d (.cst (.int 1)) (.d (.glb 1) .nil))))) (.not (.blt .all (.cons (.lc [1] (.seq (.var 0)) (.n 1) .no (.call 63 (.d (.var 1) .nil))) .nil)))) (.cons (.ret (.cst (.bool false)))
 .nil) .nil)
 (.cons (.ret (.blt .all (.cons (.lc [1] (.seq (.var 0)) (.n 1) .no (.cmp .Eq (.blt .len (.cons (.var 1) .nil)) (.blt .len (.cons (.idx (.var 0) (.cst (.int 0))) .nil)))) .nil)))
 .nil))⟩
/-- need_board -/
def F65 : Fn := ⟨1, [], 1, (.cons (.ite (.not (.call 64 (.d (.var 0) .nil))) (.cons .never
 .nil) .nil)
 .nil)⟩
/-- frame_by -/
def F66 : Fn := ⟨1, [], 1, (.cons (.ret (.tup (.cons (.blt .len (.cons (.var 0) .nil)) (.cons (.blt .len (.cons (.idx (.var 0) (.cst (.int 0))) .nil)) .nil))))
 .nil)⟩
/-- led_by -/
def F67 : Fn := ⟨2, [], 7, (.cons (.unp (.t (.cons (.n 2) (.cons (.n 3) .nil))) (.call 66 (.d (.var 0) .nil)))
 (.cons (.set 4 true (.lst .nil))
 (.cons (.for (.rng (.var 2)) (.n 5) (.cons (.expr (.app 4 (.meth .join (.cst (.str "")) (.cons (.lc [6] (.rng (.var 3)) (.n 6) .no (.idx (.idx (.var 0) (.idx (.idx (.var 1) (.var 6)) (.var 5))) (.var 6))) .nil))))
 .nil))
 (.cons (.ret (.tupV 4))
 .nil))))⟩
/-- behind_by -/
def F154 : Fn := ⟨2, [], 2, (.cons (.ret (.call 67 (.d (.var 0) (.d (.call 143 (.d (.call 66 (.d (.var 0) .nil)) (.d (.var 1) .nil))) .nil))))
 .nil)⟩
/-- behind -/
def F155 : Fn := ⟨2, [], 2, (.cons (.expr (.call 65 (.d (.var 0) .nil)))
 (.cons (.expr (.call 7 (.d (.call 66 (.d (.var 0) .nil)) (.d (.var 1) .nil))))
 (.cons (.ret (.call 154 (.d (.var 0) (.d (.var 1) .nil))))
 .nil)))⟩
/-! ### texts and boards -/
def txt (s : List Nat) : Str := ⟨s.toArray⟩
theorem txt_len (s : List Nat) : (txt s).length = s.length := by
  show s.toArray.size = s.length
  simp
theorem txt_list (s : List Nat) : (txt s).cps.toList = s := rfl
def boardD (B : List (List Nat)) : D := .tuple (B.map fun s => .str (txt s))
structure Brd (m l : Int) (B : List (List Nat)) : Prop where
  len : (B.length : Int) = m
  lens : ∀ s ∈ B, (s.length : Int) = l
  lets : ∀ s ∈ B, ∀ c ∈ s, 97 ≤ c ∧ c ≤ 122
def LETS : Str := "abcdefghijklmnopqrstuvwxyz"
theorem lets_all : ((List.range 26).all fun i => !(Builtin.Str.occurrences LETS (sgn (97 + i)) 0 LETS.length 1).isEmpty) = true := by decide +kernel
theorem in_lets {c : Nat} (h1 : 97 ≤ c) (h2 : c ≤ 122) : inB (.str (sgn c)) (.str LETS) = some true := by
  have k := List.all_eq_true.mp lets_all (c - 97) (List.mem_range.mpr (by omega))
  rw [show 97 + (c - 97) = c by omega] at k
  show some (!(Builtin.Str.occurrences LETS (sgn c) 0 LETS.length 1).isEmpty) = some true
  rw [k]
structure HasBoard (fs : Nat → Option Fn) (gl : Nat → Option D) : Prop extends HasDoes fs gl where
  h63 : fs 63 = some F63
  h64 : fs 64 = some F64
  h65 : fs 65 = some F65
  h66 : fs 66 = some F66
  h67 : fs 67 = some F67
  h154 : fs 154 = some F154
  h155 : fs 155 = some F155
  g2 : gl 2 = some (.str LETS)
theorem text_ok (h : HasBoard fs gl) {s : List Nat} (h1 : 1 ≤ s.length) (h2 : s.length ≤ 12) (hs : ∀ c ∈ s, 97 ≤ c ∧ c ≤ 122) : run fs gl (n + 1) 63 [.d (.str (txt s))] = some ([.d (.str (txt s))], .d (.bool true)) := by
  have k := loopC_map (vs := [1]) (tg := gT (.n 1)) (cd := gYes) (el := gd (evX (run fs gl n) gl (.cmp .In (.var 1) (.glb 2)))) (ρ := [some (.d (.str (txt s))), none]) (fun _ => .bool true) (s.map fun c => .str (sgn c)) [] (by rw [List.length_map]; simp; omega) (fun d hd => by
    obtain ⟨c, hc, rfl⟩ := List.mem_map.mp hd
    have ki := in_lets (hs c hc).1 (hs c hc).2
    have g2 := h.g2
    generalize sgn c = S at ki ⊢
    generalize txt s = TS
    simp [g2, ki])
  rw [List.nil_append] at k
  have kb := bools_true (s.map fun c => PyData.str (sgn c))
  have ka := all_true (s.map fun c => PyData.str (sgn c))
  have ft : fit (txt s).length = true := fit_of (by rw [txt_len]; omega)
  have l1 : (1 : Int) ≤ ((txt s).length : Int) := by rw [txt_len]; omega
  have l2 : ((txt s).length : Int) ≤ 12 := by rw [txt_len]; omega
  have g0 := h.g0
  have sq : seqD (.str (txt s)) = some (s.map fun c => .str (sgn c)) := rfl
  rw [run_step h.h63]
  generalize (s.map fun c => PyData.str (sgn c)).map (fun _ => PyData.bool true) = BL at k kb
  generalize (s.map fun c => PyData.str (sgn c)).map (fun _ => true) = BB at kb ka
  generalize (s.map fun c => PyData.str (sgn c)) = CS at k sq
  generalize txt s = TS at k ft l1 l2 sq ⊢
  generalize eTL : ((TS.length : Nat) : Int) = TL at l1 l2
  have ln : lenD [.str TS] = some (.d (.int TL)) := by
    show (if fit TS.length = true then some (Sl.d (.int TS.length)) else none) = _
    rw [if_pos ft, eTL]
  simp at k
  simp [F63, g0, l1, l2, sq, k, kb, ka, ln, PyData.isStr, -lenD, -seqD]
theorem len_txt {s : List Nat} (h : s.length ≤ 1000) : lenD [.str (txt s)] = some (.d (.int (s.length : Int))) := by
  have ft : fit (txt s).length = true := fit_of (by rw [txt_len]; omega)
  show (if fit (txt s).length = true then some (Sl.d (.int (txt s).length)) else none) = _
  rw [if_pos ft, txt_len]
theorem is_board_ok (h : HasBoard fs gl) {m l : Int} (f : Frm m l) {B : List (List Nat)} (b : Brd m l B) : run fs gl (n + 2) 64 [.d (boardD B)] = some ([.d (boardD B)], .d (.bool true)) := by
  have m1 := f.m1
  have m2 := f.m2
  have l1 := f.l1
  have l2 := f.l2
  have lb := b.len
  have k1 := some_tup (n := n) (gl := gl) h.h2 (B.map fun s => .str (txt s)) 1 5
  rw [decide_eq_true (by rw [List.length_map]; omega), decide_eq_true (by rw [List.length_map]; omega)] at k1
  have k2 := loopC_map (vs := [1]) (tg := gT (.n 1)) (cd := gYes) (el := gd (evX (run fs gl (n + 1)) gl (.call 63 (.d (.var 1) .nil)))) (ρ := [some (.d (boardD B)), none]) (fun _ => .bool true) (B.map fun s => .str (txt s)) [] (by rw [List.length_map]; simp; omega) (fun d hd => by
    obtain ⟨s, hs, rfl⟩ := List.mem_map.mp hd
    have ls := b.lens s hs
    have k := text_ok (n := n) h (s := s) (by omega) (by omega) (b.lets s hs)
    generalize txt s = TS at k ⊢
    generalize boardD B = BD
    simp [k])
  cases B with
  | nil => simp at lb; omega
  | cons s0 B =>
    have ls0 := b.lens s0 List.mem_cons_self
    have hL0 := len_txt (s := s0) (by omega)
    have at_ : atD ((s0 :: B).map fun s => PyData.str (txt s)) 0 = some (.str (txt s0)) := at0 _ _
    have k3 := loopC_map (vs := [1]) (tg := gT (.n 1)) (cd := gYes) (el := gd (evX (run fs gl (n + 1)) gl (.cmp .Eq (.blt .len (.cons (.var 1) .nil)) (.blt .len (.cons (.idx (.var 0) (.cst (.int 0))) .nil))))) (ρ := [some (.d (boardD (s0 :: B))), none]) (fun _ => .bool true) ((s0 :: B).map fun s => .str (txt s)) [] (by rw [List.length_map]; simp only [List.length_cons] at lb ⊢; simp; omega) (fun d hd => by
      obtain ⟨s, hs, rfl⟩ := List.mem_map.mp hd
      have ls := b.lens s hs
      have hL := len_txt (s := s) (by omega)
      have e1 : ((s.length : Nat) : Int) = ((s0.length : Nat) : Int) := by omega
      rw [e1] at hL
      generalize ((s0.length : Nat) : Int) = z at hL hL0
      unfold boardD
      generalize ((s0 :: B).map fun s => PyData.str (txt s)) = BD at at_ ⊢
      generalize txt s = TS at hL ⊢
      generalize txt s0 = TS0 at hL0 at_
      simp [at_, hL, hL0, eq_int, -lenD, -eqD])
    rw [List.nil_append] at k2 k3
    have kb := bools_true ((s0 :: B).map fun s => PyData.str (txt s))
    have ka := all_true ((s0 :: B).map fun s => PyData.str (txt s))
    have g1 := h.g1
    rw [run_step h.h64]
    generalize ((s0 :: B).map fun s => PyData.str (txt s)).map (fun _ => PyData.bool true) = BL at k2 k3 kb
    generalize ((s0 :: B).map fun s => PyData.str (txt s)).map (fun _ => true) = BB at kb ka
    unfold boardD at k2 k3 ⊢
    generalize ((s0 :: B).map fun s => PyData.str (txt s)) = BD at k1 k2 k3 ⊢
    simp at k1
    simp [-lenD, -eqD] at k2 k3
    simp [F64, g1, k1, k2, k3, kb, ka, -lenD, -eqD]
theorem need_board_ok (h : HasBoard fs gl) {m l : Int} (f : Frm m l) {B : List (List Nat)} (b : Brd m l B) : run fs gl (n + 3) 65 [.d (boardD B)] = some ([.d (boardD B)], .d .none) := by
  have k := is_board_ok (n := n) h f b
  rw [run_step h.h65]
  generalize boardD B = BD at k ⊢
  simp [F65, k]
theorem frame_by_ok (h : HasBoard fs gl) {m l : Int} (f : Frm m l) {B : List (List Nat)} (b : Brd m l B) : run fs gl (n + 1) 66 [.d (boardD B)] = some ([.d (boardD B)], .d (frameD m l)) := by
  have m1 := f.m1
  have l2 := f.l2
  have lb := b.len
  cases B with
  | nil => simp at lb; omega
  | cons s0 B =>
    have ls0 := b.lens s0 List.mem_cons_self
    have hL0 := len_txt (s := s0) (by omega)
    rw [ls0] at hL0
    have at_ : atD ((s0 :: B).map fun s => PyData.str (txt s)) 0 = some (.str (txt s0)) := at0 _ _
    have hl : lenD [.tuple ((s0 :: B).map fun s => PyData.str (txt s))] = some (.d (.int m)) := by
      show some (Sl.d (.int (((s0 :: B).map fun s => PyData.str (txt s)).length : Nat))) = _
      rw [List.length_map, lb]
    have z2 : (2 : Nat) ≤ sizeLine := by rw [sizeLine_eq]; decide
    rw [run_step h.h66]
    unfold boardD frameD
    generalize ((s0 :: B).map fun s => PyData.str (txt s)) = BD at at_ hl ⊢
    generalize txt s0 = TS0 at hL0 at_
    simp [F66, at_, hl, hL0, z2, -lenD]
/-! ### led by an effect -/
def ledM (m l : Nat) (B : List (List Nat)) (E : List (List Int)) : List (List Nat) := (List.range m).map fun r => (List.range l).map fun q => (B.getD (colX E r q).toNat []).getD q 0
theorem join_sgn (cs : List Nat) : Txt.join "" (cs.map sgn) = txt cs := by
  have g : ∀ (cs : List Nat) (acc : Array Nat), (cs.map sgn).foldl (fun acc p => acc ++ ("" : Str).cps ++ p.cps) acc = acc ++ cs.toArray := fun cs => by
    induction cs with
    | nil => intro acc; simp
    | cons c cs ih =>
      intro acc
      rw [List.map_cons, List.foldl_cons, ih]
      have e : ("" : Str).cps = #[] := rfl
      rw [e]
      simp [sgn]
  cases cs with
  | nil => rfl
  | cons c cs =>
    show (⟨((cs.map sgn).foldl (fun acc p => acc ++ ("" : Str).cps ++ p.cps) (sgn c).cps)⟩ : Str) = _
    rw [g]
    show (⟨#[c] ++ cs.toArray⟩ : Str) = ⟨(c :: cs).toArray⟩
    congr 1
    simp
theorem strs_of : ∀ (cs : List Nat), strsOf (cs.map fun c => PyData.str (sgn c)) = some (cs.map sgn)
  | [] => rfl
  | c :: cs => by
    rw [List.map_cons, strsOf, strs_of cs]
    rfl
theorem led_loop {m l : Int} (f : Frm m l) {B : List (List Nat)} (b : Brd m l B) {E : List (List Int)} (e : Eff m l E) {r : Nat} (hr : (r : Int) < m) {v2 v4 : Option Sl} :
    loopC [6] (gT (.n 6)) gYes (gd (evX (run fs gl n) gl (.idx (.idx (.var 0) (.idx (.idx (.var 1) (.var 6)) (.var 5))) (.var 6)))) (rngD 0 l.toNat) [some (.d (boardD B)), some (.d (effD E)), v2, some (.d (.int l)), v4, some (.d (.int r)), none] [] =
      some ([some (.d (boardD B)), some (.d (effD E)), v2, some (.d (.int l)), v4, some (.d (.int r)), none], ((List.range l.toNat).map fun q => (B.getD (colX E r q).toNat []).getD q 0).map fun c => PyData.str (sgn c)) := by
  have l2 := f.l2
  have lb := b.len
  have le := e.len
  have k := loopC_map (vs := [6]) (tg := gT (.n 6)) (cd := gYes) (el := gd (evX (run fs gl n) gl (.idx (.idx (.var 0) (.idx (.idx (.var 1) (.var 6)) (.var 5))) (.var 6)))) (ρ := [some (.d (boardD B)), some (.d (effD E)), v2, some (.d (.int l)), v4, some (.d (.int r)), none])
    (fun d => .str (sgn ((B.getD (colX E r (natOf d)).toNat []).getD (natOf d) 0))) (rngD 0 l.toNat) [] (by rw [rngD_length]; simp; omega) (fun d hd => by
      obtain ⟨q, rfl, hq⟩ := mem_rng hd
      have hq2 : q < E.length := by omega
      have ho := e.all _ (List.getElem_mem hq2)
      have ov := colX_at e hr hq2
      have ec : colX E r q = E[q].getD r 0 := by unfold colX; simp [List.getD, hq2]
      have rg := getD_rng ho hr
      rw [← ec] at rg
      have hb : (colX E r q).toNat < B.length := by omega
      have ls := b.lens _ (List.getElem_mem hb)
      have at1 : atD (E.map orderD) (q : Int) = some (.tuple (E[q].map PyData.int)) := by simp [atD, ixD, hq2, orderD]
      have at2 : atD (B.map fun s => PyData.str (txt s)) (colX E r q) = some (.str (txt B[(colX E r q).toNat])) := by
        unfold atD ixD
        rw [List.length_map, if_pos rg.1, if_pos (by omega)]
        show (B.map fun s => PyData.str (txt s))[(colX E r q).toNat]? = _
        rw [List.getElem?_map, List.getElem?_eq_getElem hb]
        rfl
      have gB : B.getD (colX E r q).toNat [] = B[(colX E r q).toNat] := by simp [List.getD, hb]
      have ft : fit (txt B[(colX E r q).toNat]).length = true := fit_of (by rw [txt_len]; omega)
      have at3 : atD (txt B[(colX E r q).toNat]).cps.toList (q : Int) = some (B[(colX E r q).toNat].getD q 0) := by
        rw [txt_list]
        have : q < B[(colX E r q).toNat].length := by omega
        generalize B[(colX E r q).toNat] = S at this
        simp [atD, ixD, this, List.getD]
      show turnC _ _ _ _ (.int (q : Int)) _ = some (_, some (.str (sgn ((B.getD (colX E r q).toNat []).getD q 0))))
      rw [gB]
      generalize B[(colX E r q).toNat].getD q 0 = c at at3 ⊢
      generalize txt B[(colX E r q).toNat] = TS at at2 at3 ft
      generalize colX E r q = x at ov at2
      unfold boardD effD
      generalize (B.map fun s => PyData.str (txt s)) = BD at at2 ⊢
      generalize E.map orderD = ED at at1 ⊢
      generalize E[q].map PyData.int = O at at1 ov
      simp [at1, at2, at3, ov, ft])
  rw [k, List.nil_append]
  congr 2
  unfold rngD
  rw [List.map_map, List.map_map]
  refine List.map_congr_left fun i _ => ?_
  simp [natOf]
theorem led_turn {m l : Int} (f : Frm m l) {B : List (List Nat)} (b : Brd m l B) {E : List (List Int)} (e : Eff m l E) {r : Nat} (hr : (r : Int) < m) {F : List D} (hF : F.length ≤ 1000) {v2 v5 : Option Sl} :
    turnF (gT (.n 5)) (evSs (run fs gl n) gl (F67.body.nth 2).inner) (.int r) [some (.d (boardD B)), some (.d (effD E)), v2, some (.d (.int l)), some (.l F), v5, none] =
      some ([some (.d (boardD B)), some (.d (effD E)), v2, some (.d (.int l)), some (.l (F ++ [.str (txt ((List.range l.toNat).map fun q => (B.getD (colX E r q).toNat []).getD q 0))])), some (.d (.int r)), none], .nx) := by
  have l1 := f.l1
  have l2 := f.l2
  have k := led_loop (fs := fs) (gl := gl) (n := n) f b e hr (v2 := v2) (v4 := some (.l F))
  have er := rng1_of (b := l) (by omega) (by omega)
  have hl : F.length < 16777216 := by omega
  generalize hcs : ((List.range l.toNat).map fun q => (B.getD (colX E r q).toNat []).getD q 0) = cs at k ⊢
  have lc : cs.length ≤ 12 := by rw [← hcs, List.length_map, List.length_range]; omega
  have jn : joinD (.str "") [.list (cs.map fun c => PyData.str (sgn c))] = some (.d (.str (txt cs))) := by
    have ft : fit (((cs.map sgn).map (·.length)).sum + (cs.map sgn).length * ("" : Str).length) = true := fit_of (by
      have e0 : ("" : Str).length = 0 := rfl
      have e1 : ∀ xs : List Nat, ((xs.map sgn).map (·.length)).sum = xs.length := fun xs => by
        induction xs with
        | nil => rfl
        | cons x xs ih =>
          rw [List.map_cons, List.map_cons, List.sum_cons, ih, List.length_cons]
          show 1 + xs.length = _
          omega
      rw [e0, e1]
      omega)
    show (strsOf (cs.map fun c => PyData.str (sgn c))).bind (fun ys => if fit ((ys.map (·.length)).sum + ys.length * ("" : Str).length) = true then some (Sl.d (.str (Txt.join "" ys))) else none) = _
    rw [strs_of, Option.bind_some, if_pos ft, join_sgn]
  generalize cs.map (fun c => PyData.str (sgn c)) = CL at k jn
  generalize txt cs = TC at jn ⊢
  generalize boardD B = BD at k ⊢
  generalize effD E = ED at k ⊢
  simp [F67, -rng1, -joinD] at k ⊢
  simp [k, er, jn, hl, -rng1, -joinD]
theorem led_by_ok (h : HasBoard fs gl) {m l : Int} (f : Frm m l) {B : List (List Nat)} (b : Brd m l B) {E : List (List Int)} (e : Eff m l E) :
    run fs gl (n + 2) 67 [.d (boardD B), .d (effD E)] = some ([.d (boardD B), .d (effD E)], .d (boardD (ledM m.toNat l.toNat B E))) := by
  have m1 := f.m1
  have m2 := f.m2
  have k1 := frame_by_ok (n := n) h f b
  have s0 : evS (run fs gl (n + 1)) gl (F67.body.nth 0) [some (.d (boardD B)), some (.d (effD E)), none, none, none, none, none] = some ([some (.d (boardD B)), some (.d (effD E)), some (.d (.int m)), some (.d (.int l)), none, none, none], .nx) := by
    generalize boardD B = BD at k1 ⊢
    generalize effD E = ED
    unfold frameD at k1
    simp [F67, Ss.nth, k1]
  have s1 : evS (run fs gl (n + 1)) gl (F67.body.nth 1) [some (.d (boardD B)), some (.d (effD E)), some (.d (.int m)), some (.d (.int l)), none, none, none] = some ([some (.d (boardD B)), some (.d (effD E)), some (.d (.int m)), some (.d (.int l)), some (.l []), none, none], .nx) := by
    generalize boardD B = BD
    generalize effD E = ED
    simp [F67, Ss.nth]
  obtain ⟨ρ', el, k, w5, ex, rfl, hk⟩ := loopF_inv (tg := gT (.n 5)) (body := evSs (run fs gl (n + 1)) gl (F67.body.nth 2).inner)
    (fun xs ρ => ∃ (k : Nat) (w5 : Option Sl), xs = (rngD 0 m.toNat).drop k ∧ ρ = [some (.d (boardD B)), some (.d (effD E)), some (.d (.int m)), some (.d (.int l)), some (.l ((ledM k l.toNat B E).map fun s => .str (txt s))), w5, none] ∧ k ≤ m.toNat)
    (fun d xs ρ ⟨k, w5, ex, eρ, hk⟩ => by
      subst eρ
      have hk2 : k < m.toNat := by
        apply Nat.lt_of_not_le
        intro z
        rw [List.drop_eq_nil_of_le (by rw [rngD_length]; exact z)] at ex
        cases ex
      rw [rngD_drop hk2] at ex
      injection ex with e1 e2
      subst e1 e2
      rw [show ((0 : Int) + (k : Int)) = (k : Int) by omega]
      have t := led_turn (fs := fs) (gl := gl) (n := n + 1) f b e (r := k) (by omega) (F := (ledM k l.toNat B E).map fun s => .str (txt s)) (by unfold ledM; rw [List.length_map, List.length_map, List.length_range]; omega) (v2 := some (.d (.int m))) (v5 := w5)
      refine ⟨_, t, k + 1, some (.d (.int (k : Int))), rfl, ?_, hk2⟩
      unfold ledM
      rw [List.range_succ, List.map_append, List.map_append]
      rfl)
    (rngD 0 m.toNat) [some (.d (boardD B)), some (.d (effD E)), some (.d (.int m)), some (.d (.int l)), some (.l []), none, none] ⟨0, _, rfl, rfl, Nat.zero_le _⟩
  have hk4 : k = m.toNat := by
    apply Nat.le_antisymm hk
    apply Nat.le_of_not_lt
    intro z
    rw [rngD_drop z] at ex
    cases ex
  subst hk4
  have s2 : evS (run fs gl (n + 1)) gl (F67.body.nth 2) [some (.d (boardD B)), some (.d (effD E)), some (.d (.int m)), some (.d (.int l)), some (.l []), none, none] = some ([some (.d (boardD B)), some (.d (effD E)), some (.d (.int m)), some (.d (.int l)), some (.l ((ledM m.toNat l.toNat B E).map fun s => .str (txt s))), w5, none], .nx) := by
    refine for_eq (rng_eq (a := .var 2) (d := .int m) (ρ1 := [some (.d (boardD B)), some (.d (effD E)), some (.d (.int m)), some (.d (.int l)), some (.l []), none, none]) ?_ (rng1_of (by omega) (by omega))) el
    generalize boardD B = BD
    generalize effD E = ED
    simp
  have s3 : evS (run fs gl (n + 1)) gl (F67.body.nth 3) [some (.d (boardD B)), some (.d (effD E)), some (.d (.int m)), some (.d (.int l)), some (.l ((ledM m.toNat l.toNat B E).map fun s => .str (txt s))), w5, none] = some ([some (.d (boardD B)), some (.d (effD E)), some (.d (.int m)), some (.d (.int l)), some (.l ((ledM m.toNat l.toNat B E).map fun s => .str (txt s))), w5, none], .rt (.d (boardD (ledM m.toNat l.toNat B E)))) := by
    show _ = some (_, Fl.rt (.d (.tuple ((ledM m.toNat l.toNat B E).map fun s => .str (txt s)))))
    generalize ((ledM m.toNat l.toNat B E).map fun s => PyData.str (txt s)) = L
    generalize boardD B = BD
    generalize effD E = ED
    simp [F67, Ss.nth]
  exact run_of h.h67 rfl ((evSs_nx s0).trans ((evSs_nx s1).trans ((evSs_nx s2).trans (evSs_rt s3)))) rfl
theorem behind_by_ok (h : HasBoard fs gl) {m l : Int} (f : Frm m l) {B : List (List Nat)} (b : Brd m l B) {cs : List CT} (r : Row m l cs) :
    run fs gl (n + 3) 154 [.d (boardD B), .d (rowD cs)] = some ([.d (boardD B), .d (rowD cs)], .d (boardD (ledM m.toNat l.toNat B (effM m.toNat l.toNat cs)))) := by
  have k1 := frame_by_ok (n := n + 1) h f b
  have k2 := effect_ok (n := n) (gl := gl) h.h34 h.h35 h.h143 f r
  have k3 := led_by_ok (n := n) h f b (effM_ok f r)
  rw [run_step h.h154]
  generalize boardD (ledM m.toNat l.toNat B (effM m.toNat l.toNat cs)) = L at k3 ⊢
  generalize effD (effM m.toNat l.toNat cs) = E at k2 k3
  generalize boardD B = BD at k1 k3 ⊢
  generalize rowD cs = C at k2 ⊢
  generalize frameD m l = FD at k1 k2
  simp [F154, k1, k2, k3]
theorem behind_ok155 (h : HasBoard fs gl) {m l : Int} (f : Frm m l) {B : List (List Nat)} (b : Brd m l B) {cs : List CT} (r : Row m l cs) (hl : cs.length ≤ 10000) :
    run fs gl (n + 6) 155 [.d (boardD B), .d (rowD cs)] = some ([.d (boardD B), .d (rowD cs)], .d (boardD (ledM m.toNat l.toNat B (effM m.toNat l.toNat cs)))) := by
  have k0 := need_board_ok (n := n + 2) h f b
  have k1 := frame_by_ok (n := n + 4) h f b
  have k2 := need_row_ok (n := n) h.toHasRow f r hl
  have k3 := behind_by_ok (n := n + 2) h f b r
  rw [run_step h.h155]
  generalize boardD (ledM m.toNat l.toNat B (effM m.toNat l.toNat cs)) = L at k3 ⊢
  generalize boardD B = BD at k0 k1 k3 ⊢
  generalize rowD cs = C at k2 k3 ⊢
  generalize frameD m l = FD at k1 k2
  simp [F155, k0, k1, k2, k3]
end DL

namespace DL
open PySem PySem.Spec L2
open PyProof.Rows hiding St
variable {fs : Nat → Option Fn} {gl : Nat → Option D} {n : Nat}
/-! ### parts: the first place and ribbon at which effects are unlike -/
theorem loopF_until {tg : D → Ev → Option Ev} {body : GS} (P : List D → Ev → Prop) (step : ∀ d r ρ, P (d :: r) ρ → ∃ ρ', turnF tg body d ρ = some (ρ', .nx) ∧ P r ρ') : ∀ (xs : List D) (ys : List D) (ρ : Ev), P xs ρ → ∃ ρ', loopF tg body (xs ++ ys) ρ = loopF tg body ys ρ' ∧ P [] ρ'
  | [], ys, ρ, h => ⟨ρ, rfl, h⟩
  | d :: r, ys, ρ, h => by
    obtain ⟨ρ1, t, h1⟩ := step d r ρ h
    obtain ⟨ρ2, e, h2⟩ := loopF_until P step r ys ρ1 h1
    exact ⟨ρ2, (loopF_turn t).trans e, h2⟩
theorem loopF_rt {tg : D → Ev → Option Ev} {body : GS} {d : D} {r : List D} {ρ ρ' : Ev} {s : Sl} (h : turnF tg body d ρ = some (ρ', .rt s)) : loopF tg body (d :: r) ρ = some (ρ', .rt s) := by
  obtain ⟨ρ1, e1, e2⟩ := Option.bind_eq_some_iff.mp h
  unfold loopF
  rw [e1, Option.bind_some, e2]
  rfl
theorem for_rt {cl : Nat → List Sl → Option (List Sl × Sl)} {s : Src} {t : T} {b : Ss} {ρ ρ1 ρ2 : Ev} {xs : List D} {v : Sl} (e : evI cl gl s ρ = some (ρ1, xs)) (el : loopF (gT t) (evSs cl gl b) xs ρ1 = some (ρ2, .rt v)) : evS cl gl (.for s t b) ρ = some (ρ2, .rt v) := by
  simp [e, el]
theorem rngD_split {a k : Nat} (h : a < k) : rngD 0 k = rngD 0 a ++ .int a :: rngD (a + 1) (k - a - 1) := by
  unfold rngD
  refine List.ext_getElem? fun i => ?_
  by_cases hi : i < a
  · rw [List.getElem?_append_left (by simpa using hi)]
    simp [hi, Nat.lt_trans hi h]
  · rw [List.getElem?_append_right (by simpa using hi)]
    simp only [List.length_map, List.length_range]
    by_cases h2 : i = a
    · subst h2
      simp [h]
    · obtain ⟨j, rfl⟩ : ∃ j, i = a + 1 + j := ⟨i - a - 1, by omega⟩
      have : a + 1 + j - a = j + 1 := by omega
      rw [this, List.getElem?_cons_succ]
      by_cases h3 : j < k - a - 1
      · have h4 : a + 1 + j < k := by omega
        simp [h3, h4]
      · have h4 : ¬ a + 1 + j < k := by omega
        simp [h3, h4]
structure Diff (m l : Int) (E1 E2 : List (List Int)) (p a : Nat) : Prop where
  hp : (p : Int) < l
  ha : (a : Int) < m
  bef : ∀ q : Nat, q < p → ∀ b : Nat, (b : Int) < m → colX E1 b q = colX E2 b q
  low : ∀ b : Nat, b < a → colX E1 b p = colX E2 b p
  here : colX E1 a p ≠ colX E2 a p
theorem Diff.symm {m l : Int} {E1 E2 : List (List Int)} {p a : Nat} (d : Diff m l E1 E2 p a) : Diff m l E2 E1 p a :=
  ⟨d.hp, d.ha, fun q hq b hb => (d.bef q hq b hb).symm, fun b hb => (d.low b hb).symm, fun z => d.here z.symm⟩
theorem least_of {P : Nat → Prop} : ∀ k : Nat, (∀ q, q < k → ¬ P q) ∨ ∃ q, q < k ∧ P q ∧ ∀ r, r < q → ¬ P r
  | 0 => .inl fun q hq => by omega
  | k + 1 => by
    rcases least_of (P := P) k with h | ⟨q, hq, h1, h2⟩
    · by_cases hk : P k
      · exact .inr ⟨k, by omega, hk, h⟩
      · refine .inl fun q hq => ?_
        by_cases e : q = k
        · subst e; exact hk
        · exact h q (by omega)
    · exact .inr ⟨q, by omega, h1, h2⟩
theorem col_at {m l : Int} {E : List (List Int)} (e : Eff m l E) {q b : Nat} (hq : (q : Int) < l) (hb : (b : Int) < m) : ∃ O, atD (E.map orderD) (q : Int) = some (.tuple O) ∧ atD O (b : Int) = some (.int (colX E b q)) := by
  have len := e.len
  have hq2 : q < E.length := by omega
  have lo := (e.all _ (List.getElem_mem hq2)).len
  have hb2 : b < E[q].length := by omega
  refine ⟨E[q].map PyData.int, by simp [atD, ixD, hq2, orderD], ?_⟩
  have : colX E b q = E[q][b] := by simp [colX, List.getD, hq2, hb2]
  rw [this]
  simp [atD, ixD, hb2]
theorem eff_ext {m l : Int} {E1 E2 : List (List Int)} (e1 : Eff m l E1) (e2 : Eff m l E2) (h : ∀ q : Nat, (q : Int) < l → ∀ b : Nat, (b : Int) < m → colX E1 b q = colX E2 b q) : E1 = E2 := by
  have l1 := e1.len
  have l2 := e2.len
  refine List.ext_getElem (by omega) fun q h1 h2 => ?_
  have o1 := e1.all _ (List.getElem_mem h1)
  have o2 := e2.all _ (List.getElem_mem h2)
  refine ord_ext o1.len o2.len fun b hb => ?_
  have := h q (by omega) b hb
  simpa [colX, List.getD, h1, h2] using this
theorem diff_or {m l : Int} (f : Frm m l) {E1 E2 : List (List Int)} (e1 : Eff m l E1) (e2 : Eff m l E2) : E1 = E2 ∨ ∃ p a, Diff m l E1 E2 p a := by
  have m1 := f.m1
  have l1 := f.l1
  rcases least_of (P := fun q => ∃ b : Nat, (b : Int) < m ∧ colX E1 b q ≠ colX E2 b q) l.toNat with h | ⟨p, hp, ⟨b, hb, hn⟩, h2⟩
  · refine .inl (eff_ext e1 e2 fun q hq b hb => ?_)
    by_cases z : colX E1 b q = colX E2 b q
    · exact z
    · exact (h q (by omega) ⟨b, hb, z⟩).elim
  · rcases least_of (P := fun a => colX E1 a p ≠ colX E2 a p) m.toNat with g | ⟨a, ha, g1, g2⟩
    · exact (g b (by omega) hn).elim
    · refine .inr ⟨p, a, by omega, by omega, fun q hq b hb => ?_, fun b hb => ?_, g1⟩
      · by_cases z : colX E1 b q = colX E2 b q
        · exact z
        · exact (h2 q hq ⟨b, hb, z⟩).elim
      · by_cases z : colX E1 b p = colX E2 b p
        · exact z
        · exact (g2 b hb z).elim
theorem diff_ne {m l : Int} {E1 E2 : List (List Int)} {p a : Nat} (d : Diff m l E1 E2 p a) : E1 ≠ E2 := fun z => d.here (by rw [z])
abbrev partsB : Ss := (((F145.body.nth 1).inner).nth 0).inner
theorem parts_turn {ED1 ED2 O1 O2 : List D} {q b x y : Int} (a1 : atD ED1 q = some (.tuple O1)) (a2 : atD O1 b = some (.int x)) (b1 : atD ED2 q = some (.tuple O2)) (b2 : atD O2 b = some (.int y)) {v0 v1 v2 v6 : Option Sl} :
    turnF (gT (.n 6)) (evSs (run fs gl n) gl partsB) (.int b) [v0, v1, v2, some (.d (.tuple ED1)), some (.d (.tuple ED2)), some (.d (.int q)), v6] = some ([v0, v1, v2, some (.d (.tuple ED1)), some (.d (.tuple ED2)), some (.d (.int q)), some (.d (.int b))], if x = y then .nx else .rt (.d (.tuple [.int q, .int b]))) := by
  have nn := ne_int x y
  have z2 : (2 : Nat) ≤ sizeLine := by rw [sizeLine_eq]; decide
  by_cases h : x = y
  · subst h
    simp [partsB, F145, Ss.nth, a1, a2, b1, b2, nn, -neD]
  · simp [partsB, F145, Ss.nth, a1, a2, b1, b2, nn, h, z2, -neD]
theorem parts_until {m l : Int} {E1 E2 : List (List Int)} (e1 : Eff m l E1) (e2 : Eff m l E2) {q : Nat} (hq : (q : Int) < l) {v0 v1 v2 : Option Sl} (ys : List D) : ∀ (k : Nat), (k : Int) ≤ m → (∀ b : Nat, b < k → colX E1 b q = colX E2 b q) → ∀ v6 : Option Sl, ∃ w6, loopF (gT (.n 6)) (evSs (run fs gl n) gl partsB) (rngD 0 k ++ ys) [v0, v1, v2, some (.d (effD E1)), some (.d (effD E2)), some (.d (.int q)), v6] =
      loopF (gT (.n 6)) (evSs (run fs gl n) gl partsB) ys [v0, v1, v2, some (.d (effD E1)), some (.d (effD E2)), some (.d (.int q)), w6] := by
  intro k hk hx v6
  obtain ⟨ρ', el, _, w6, rfl⟩ := loopF_until (tg := gT (.n 6)) (body := evSs (run fs gl n) gl partsB)
    (fun xs ρ => (∀ d ∈ xs, ∃ b : Nat, d = .int b ∧ b < k) ∧ ∃ w6, ρ = [v0, v1, v2, some (.d (effD E1)), some (.d (effD E2)), some (.d (.int q)), w6])
    (fun d xs ρ ⟨hd, w6, eρ⟩ => by
      subst eρ
      obtain ⟨b, rfl, hb⟩ := hd d List.mem_cons_self
      obtain ⟨O1, a1, a2⟩ := col_at e1 hq (b := b) (by omega)
      obtain ⟨O2, b1, b2⟩ := col_at e2 hq (b := b) (by omega)
      have t := parts_turn (fs := fs) (gl := gl) (n := n) a1 a2 b1 b2 (v0 := v0) (v1 := v1) (v2 := v2) (v6 := w6)
      rw [if_pos (hx b hb)] at t
      exact ⟨_, t, fun y hy => hd y (List.mem_cons_of_mem _ hy), _, rfl⟩)
    (rngD 0 k) ys [v0, v1, v2, some (.d (effD E1)), some (.d (effD E2)), some (.d (.int q)), v6] ⟨fun d hd => mem_rng hd, _, rfl⟩
  exact ⟨w6, el⟩
theorem parts_diff (h : HasDoes fs gl) (h145 : fs 145 = some F145) (h146 : fs 146 = some F146) {m l : Int} (f : Frm m l) {cs ds : List CT} (r1 : Row m l cs) (r2 : Row m l ds) (hl1 : cs.length ≤ 10000) (hl2 : ds.length ≤ 10000) {p a : Nat} (d : Diff m l (effM m.toNat l.toNat cs) (effM m.toNat l.toNat ds) p a) :
    run fs gl (n + 6) 146 [.d (frameD m l), .d (rowD cs), .d (rowD ds)] = some ([.d (frameD m l), .d (rowD cs), .d (rowD ds)], .d (.tuple [.int p, .int a])) := by
  have l1 := f.l1
  have l2 := f.l2
  have m1 := f.m1
  have m2 := f.m2
  have k1 := need_row_ok (n := n) h.toHasRow f r1 hl1
  have k2 := need_row_ok (n := n) h.toHasRow f r2 hl2
  have k3 := effect_ok (n := n + 2) (gl := gl) h.h34 h.h35 h.h143 f r1
  have k4 := effect_ok (n := n + 2) (gl := gl) h.h34 h.h35 h.h143 f r2
  have e1 := effM_ok f r1
  have e2 := effM_ok f r2
  generalize effM m.toNat l.toNat cs = E1 at *
  generalize effM m.toNat l.toNat ds = E2 at *
  have k5 : run fs gl (n + 5) 145 [.d (frameD m l), .d (rowD cs), .d (rowD ds)] = some ([.d (frameD m l), .d (rowD cs), .d (rowD ds)], .d (.tuple [.int p, .int a])) := by
    have s0 : evS (run fs gl (n + 4)) gl (F145.body.nth 0) [some (.d (frameD m l)), some (.d (rowD cs)), some (.d (rowD ds)), none, none, none, none] = some ([some (.d (frameD m l)), some (.d (rowD cs)), some (.d (rowD ds)), some (.d (effD E1)), some (.d (effD E2)), none, none], .nx) := by
      generalize effD E1 = E at k3 ⊢
      generalize effD E2 = E' at k4 ⊢
      generalize rowD cs = C at k3 ⊢
      generalize rowD ds = C2 at k4 ⊢
      generalize frameD m l = FD at k3 k4 ⊢
      simp [F145, Ss.nth, k3, k4]
    have src : ∀ q : Int, ∀ v6 : Option Sl, evI (run fs gl (n + 4)) gl (.rng (.idx (.var 0) (.cst (.int 0)))) [some (.d (frameD m l)), some (.d (rowD cs)), some (.d (rowD ds)), some (.d (effD E1)), some (.d (effD E2)), some (.d (.int q)), v6] = some ([some (.d (frameD m l)), some (.d (rowD cs)), some (.d (rowD ds)), some (.d (effD E1)), some (.d (effD E2)), some (.d (.int q)), v6], rngD 0 m.toNat) := by
      intro q v6
      refine rng_eq (d := .int m) ?_ (rng1_of (by omega) (by omega))
      have a0 : ∀ x y : D, atD [x, y] 0 = some x := fun _ _ => rfl
      generalize effD E1 = ED
      generalize effD E2 = ED2
      generalize rowD cs = C
      generalize rowD ds = C2
      simp [frameD, a0]
    have lp : ∃ ρ', loopF (gT (.n 5)) (evSs (run fs gl (n + 4)) gl (F145.body.nth 1).inner) (rngD 0 l.toNat) [some (.d (frameD m l)), some (.d (rowD cs)), some (.d (rowD ds)), some (.d (effD E1)), some (.d (effD E2)), none, none] = some (ρ', .rt (.d (.tuple [.int p, .int a]))) ∧ ∃ w5 w6, ρ' = [some (.d (frameD m l)), some (.d (rowD cs)), some (.d (rowD ds)), some (.d (effD E1)), some (.d (effD E2)), w5, w6] := by
      have hp := d.hp
      have ha := d.ha
      rw [rngD_split (a := p) (k := l.toNat) (by omega)]
      obtain ⟨ρ', el, _, w5, w6, rfl⟩ := loopF_until (tg := gT (.n 5)) (body := evSs (run fs gl (n + 4)) gl (F145.body.nth 1).inner)
        (fun xs ρ => (∀ d ∈ xs, ∃ q : Nat, d = .int q ∧ q < p) ∧ ∃ w5 w6, ρ = [some (.d (frameD m l)), some (.d (rowD cs)), some (.d (rowD ds)), some (.d (effD E1)), some (.d (effD E2)), w5, w6])
        (fun x xs ρ ⟨hd, w5, w6, eρ⟩ => by
          subst eρ
          obtain ⟨q, rfl, hq⟩ := hd x List.mem_cons_self
          obtain ⟨w, e⟩ := parts_until (fs := fs) (gl := gl) (n := n + 4) e1 e2 (q := q) (by omega) (v0 := some (.d (frameD m l))) (v1 := some (.d (rowD cs))) (v2 := some (.d (rowD ds))) [] m.toNat (by omega) (fun b hb => d.bef q hq b (by omega)) w6
          rw [List.append_nil] at e
          have s0 : evS (run fs gl (n + 4)) gl (((F145.body.nth 1).inner).nth 0) [some (.d (frameD m l)), some (.d (rowD cs)), some (.d (rowD ds)), some (.d (effD E1)), some (.d (effD E2)), some (.d (.int q)), w6] = some ([some (.d (frameD m l)), some (.d (rowD cs)), some (.d (rowD ds)), some (.d (effD E1)), some (.d (effD E2)), some (.d (.int q)), w], .nx) := for_eq (src q w6) e
          exact ⟨_, (evSs_nx s0).trans rfl, fun y hy => hd y (List.mem_cons_of_mem _ hy), _, _, rfl⟩)
        (rngD 0 p) (.int p :: rngD (p + 1) (l.toNat - p - 1)) [some (.d (frameD m l)), some (.d (rowD cs)), some (.d (rowD ds)), some (.d (effD E1)), some (.d (effD E2)), none, none] ⟨fun d hd => mem_rng hd, _, _, rfl⟩
      obtain ⟨w, e⟩ := parts_until (fs := fs) (gl := gl) (n := n + 4) e1 e2 (q := p) (by omega) (v0 := some (.d (frameD m l))) (v1 := some (.d (rowD cs))) (v2 := some (.d (rowD ds))) (.int a :: rngD (a + 1) (m.toNat - a - 1)) a (by omega) d.low w6
      obtain ⟨O1, a1, a2⟩ := col_at e1 hp (b := a) (by omega)
      obtain ⟨O2, b1, b2⟩ := col_at e2 hp (b := a) (by omega)
      have t := parts_turn (fs := fs) (gl := gl) (n := n + 4) a1 a2 b1 b2 (v0 := some (.d (frameD m l))) (v1 := some (.d (rowD cs))) (v2 := some (.d (rowD ds))) (v6 := w)
      rw [if_neg d.here] at t
      have t2 := e.trans (loopF_rt t)
      rw [← rngD_split (a := a) (k := m.toNat) (by omega)] at t2
      have s0 : evS (run fs gl (n + 4)) gl (((F145.body.nth 1).inner).nth 0) [some (.d (frameD m l)), some (.d (rowD cs)), some (.d (rowD ds)), some (.d (effD E1)), some (.d (effD E2)), some (.d (.int p)), w6] = some ([some (.d (frameD m l)), some (.d (rowD cs)), some (.d (rowD ds)), some (.d (effD E1)), some (.d (effD E2)), some (.d (.int p)), some (.d (.int a))], .rt (.d (.tuple [.int p, .int a]))) := for_rt (src p w6) t2
      exact ⟨_, el.trans (loopF_rt (evSs_rt (a := ((F145.body.nth 1).inner).nth 0) s0)), _, _, rfl⟩
    obtain ⟨ρ', el, w5, w6, rfl⟩ := lp
    have s1 : evS (run fs gl (n + 4)) gl (F145.body.nth 1) [some (.d (frameD m l)), some (.d (rowD cs)), some (.d (rowD ds)), some (.d (effD E1)), some (.d (effD E2)), none, none] = some ([some (.d (frameD m l)), some (.d (rowD cs)), some (.d (rowD ds)), some (.d (effD E1)), some (.d (effD E2)), w5, w6], .rt (.d (.tuple [.int p, .int a]))) := by
      refine for_rt (rng_eq (a := .idx (.var 0) (.cst (.int 1))) (d := .int l) (ρ1 := [some (.d (frameD m l)), some (.d (rowD cs)), some (.d (rowD ds)), some (.d (effD E1)), some (.d (effD E2)), none, none]) ?_ (rng1_of (by omega) (by omega))) el
      have a1 : ∀ x y : D, atD [x, y] 1 = some y := fun _ _ => rfl
      generalize effD E1 = ED
      generalize effD E2 = ED2
      generalize rowD cs = C
      generalize rowD ds = C2
      simp [frameD, a1]
    exact run_of h145 rfl ((evSs_nx s0).trans (evSs_rt s1)) rfl
  rw [run_step h146]
  generalize rowD cs = C at k1 k5 ⊢
  generalize rowD ds = C2 at k2 k5 ⊢
  generalize frameD m l = FD at k1 k2 k5 ⊢
  simp [F146, k1, k2, k5]
end DL

namespace DL
open PySem PySem.Spec L2
open PyProof.Rows hiding St
variable {fs : Nat → Option Fn} {gl : Nat → Option D} {n : Nat}
/-! ### boards compared, texts cut -/
theorem txt_inj {a b : List Nat} (h : txt a = txt b) : a = b := by
  have := congrArg (fun z : Str => z.cps.toList) h
  exact this
theorem eqv_txt (a b : List Nat) : PyData.eqv (.str (txt a)) (.str (txt b)) = decide (a = b) := by
  have e : PyData.eqv (.str (txt a)) (.str (txt b)) = (txt a == txt b) := by simp [PyData.eqv]
  rw [e, Bool.eq_iff_iff, beq_iff_eq, decide_eq_true_eq]
  exact ⟨txt_inj, fun h => by rw [h]⟩
theorem eqv_boards : ∀ (A B : List (List Nat)), PyData.eqvAll (A.map fun s => .str (txt s)) (B.map fun s => .str (txt s)) = decide (A = B)
  | [], [] => by simp [PyData.eqvAll]
  | [], _ :: _ => by simp [PyData.eqvAll]
  | _ :: _, [] => by simp [PyData.eqvAll]
  | x :: A, y :: B => by
    rw [List.map_cons, List.map_cons, PyData.eqvAll, eqv_txt, eqv_boards A B, Bool.eq_iff_iff]
    simp
theorem dep_strs : ∀ (A : List (List Nat)), PyData.depthAll (A.map fun s => .str (txt s)) = 0
  | [] => by simp [PyData.depthAll]
  | x :: A => by
    rw [List.map_cons, PyData.depthAll, dep_strs A]
    simp [PyData.depth]
theorem dep_board (A B : List (List Nat)) : dep2 (boardD A) (boardD B) = true := by
  have d1 : (boardD A).depth ≤ 1 := by
    unfold boardD
    rw [PyData.depth, dep_strs]
    omega
  exact decide_eq_true (by omega)
theorem eq_board (A B : List (List Nat)) : eqD (boardD A) (boardD B) = some (.d (.bool (decide (A = B)))) := by
  show (if dep2 (boardD A) (boardD B) = true then some (Sl.d (.bool (PyData.eqv (boardD A) (boardD B)))) else none) = _
  rw [if_pos (dep_board A B)]
  unfold boardD
  rw [PyData.eqv, eqv_boards]
theorem ne_board (A B : List (List Nat)) : neD (boardD A) (boardD B) = some (.d (.bool (decide (A ≠ B)))) := by
  show (if dep2 (boardD A) (boardD B) = true then some (Sl.d (.bool (!PyData.eqv (boardD A) (boardD B)))) else none) = _
  rw [if_pos (dep_board A B)]
  unfold boardD
  rw [PyData.eqv, eqv_boards]
  simp
theorem dep_str (a b : Str) : dep2 (.str a) (.str b) = true := decide_eq_true (by simp [PyData.depth])
theorem ne_txt (a b : List Nat) : neD (.str (txt a)) (.str (txt b)) = some (.d (.bool (decide (a ≠ b)))) := by
  show (if dep2 (.str (txt a)) (.str (txt b)) = true then some (Sl.d (.bool (!PyData.eqv (.str (txt a)) (.str (txt b))))) else none) = _
  rw [if_pos (dep_str _ _), eqv_txt]
  simp
theorem sgn_txt (c : Nat) : sgn c = txt [c] := rfl
theorem ne_sgn (a b : Nat) : neD (.str (sgn a)) (.str (sgn b)) = some (.d (.bool (decide (a ≠ b)))) := by
  rw [sgn_txt, sgn_txt, ne_txt]
  simp
theorem cut_txt {s : List Nat} {p : Int} (hp : 0 ≤ p) : cutS (txt s) none (some p) = txt (s.take p.toNat) := by
  have e : HT.sIx s.length s.length (some p) = min p.toNat s.length := by
    show (if p < 0 then _ else _) = _
    rw [if_neg (by omega)]
  have : cutS (txt s) none (some p) = txt ((s.drop 0).take (HT.sIx s.length s.length (some p) - 0)) := rfl
  rw [this, e, List.drop_zero, Nat.sub_zero]
  congr 1
  by_cases h : p.toNat ≤ s.length
  · rw [Nat.min_eq_left h]
  · rw [Nat.min_eq_right (by omega), List.take_of_length_le (Nat.le_refl _), List.take_of_length_le (by omega)]
theorem rep_list (c : Nat) : ∀ (k : Nat) (b : Array Nat), (((List.replicate k #[c]).foldl (· ++ ·) b).toList) = b.toList ++ List.replicate k c
  | 0, b => by simp
  | k + 1, b => by
    rw [List.replicate_succ, List.foldl_cons, rep_list c k]
    simp [List.replicate_succ]
theorem rep_sgn (c k : Nat) : repS (sgn c) k = txt (List.replicate k c) := by
  have h := rep_list c k #[]
  unfold repS txt sgn
  congr 1
  apply Array.toList_inj.mp
  simpa using h
/-! ### the board of unlike letters -/
def uniB (m l : Nat) : List (List Nat) := (List.range m).map fun r => List.replicate l (97 + r)
theorem uniB_brd {m l : Int} (f : Frm m l) : Brd m l (uniB m.toNat l.toNat) := by
  have m1 := f.m1
  have m2 := f.m2
  have l1 := f.l1
  refine ⟨by unfold uniB; rw [List.length_map, List.length_range]; omega, fun s hs => ?_, fun s hs c hc => ?_⟩
  · obtain ⟨r, hr, rfl⟩ := List.mem_map.mp hs
    rw [List.length_replicate]; omega
  · obtain ⟨r, hr, rfl⟩ := List.mem_map.mp hs
    have := List.mem_range.mp hr
    have := (List.mem_replicate.mp hc).2
    omega
def uniE (m l : Nat) (E : List (List Int)) : List (List Nat) := (List.range m).map fun r => (List.range l).map fun q => 97 + (colX E r q).toNat
theorem col_rng {m l : Int} {E : List (List Int)} (e : Eff m l E) {q b : Nat} (hq : (q : Int) < l) (hb : (b : Int) < m) : 0 ≤ colX E b q ∧ colX E b q < m := by
  have len := e.len
  have hq2 : q < E.length := by omega
  have o := e.all _ (List.getElem_mem hq2)
  have lo := o.len
  have hb2 : b < E[q].length := by omega
  have : colX E b q = E[q][b] := by simp [colX, List.getD, hq2, hb2]
  rw [this]
  have := o.rng _ (List.getElem_mem hb2)
  omega
theorem led_uni {m l : Int} (f : Frm m l) {E : List (List Int)} (e : Eff m l E) : ledM m.toNat l.toNat (uniB m.toNat l.toNat) E = uniE m.toNat l.toNat E := by
  have m1 := f.m1
  have l1 := f.l1
  unfold ledM uniE
  refine List.map_congr_left fun r hr => List.map_congr_left fun q hq => ?_
  have hr := List.mem_range.mp hr
  have hq := List.mem_range.mp hq
  obtain ⟨x0, x1⟩ := col_rng e (q := q) (b := r) (by omega) (by omega)
  have hx : (colX E r q).toNat < m.toNat := by omega
  unfold uniB
  simp [List.getD, hx, hq]
theorem uni_at {m l : Nat} {E : List (List Int)} {r : Nat} (hr : r < m) : atD ((uniE m l E).map fun s => PyData.str (txt s)) (r : Int) = some (.str (txt ((List.range l).map fun q => 97 + (colX E r q).toNat))) := by
  have h : r < (uniE m l E).length := by unfold uniE; simpa using hr
  have h2 : r < ((uniE m l E).map fun s => PyData.str (txt s)).length := by rw [List.length_map]; exact h
  have : ((uniE m l E).map fun s => PyData.str (txt s))[r]? = some (.str (txt ((List.range l).map fun q => 97 + (colX E r q).toNat))) := by unfold uniE; simp [hr]
  rw [← this]
  simp [atD, ixD, h]
theorem uni_at2 {l : Nat} {E : List (List Int)} {r q : Nat} (hq : q < l) : atD (txt ((List.range l).map fun q => 97 + (colX E r q).toNat)).cps.toList (q : Int) = some (97 + (colX E r q).toNat) := by
  rw [txt_list]
  simp [atD, ixD, hq]
/-! ### what more cuts turn of the first unlikeness -/
theorem col_step {m l : Int} {E : List (List Int)} (e : Eff m l E) {c : CT} (hc : Cut m l c.1 c.2.1 c.2.2) {q b : Nat} (hq : (q : Int) < l) (hb : (b : Int) < m) : colX (effStep E c) b q = if q < c.1.toNat then colX E b q else colX E (swN c.2.1.toNat c.2.2.toNat b) q := by
  have len := e.len
  have hq2 : q < E.length := by omega
  have o := e.all _ (List.getElem_mem hq2)
  have lo := o.len
  have h1 := hc.p1
  have h2 := hc.a1
  have h3 := hc.ab
  have h4 := hc.b2
  have k := effStep_at E c q
  rw [List.getElem?_eq_getElem hq2, Option.map_some] at k
  unfold colX List.getD
  rw [k, List.getElem?_eq_getElem hq2]
  by_cases h : q < c.1.toNat
  · rw [if_pos h, if_pos h]
  · rw [if_neg h, if_neg h]
    exact with2_at (o := E[q]) (by omega) (by omega) (by omega) b
theorem col_inj {m l : Int} {E : List (List Int)} (e : Eff m l E) {q a b : Nat} (hq : (q : Int) < l) (ha : (a : Int) < m) (hb : (b : Int) < m) (h : colX E a q = colX E b q) : a = b := by
  have len := e.len
  have hq2 : q < E.length := by omega
  have o := e.all _ (List.getElem_mem hq2)
  have lo := o.len
  have ha2 : a < E[q].length := by omega
  have hb2 : b < E[q].length := by omega
  have h1 : colX E a q = E[q][a] := by simp [colX, List.getD, hq2, ha2]
  have h2 : colX E b q = E[q][b] := by simp [colX, List.getD, hq2, hb2]
  rw [h1, h2] at h
  exact (List.getElem_inj o.nd).mp h
theorem diff_cut {m l : Int} {E : List (List Int)} (e : Eff m l E) {c : CT} (hc : Cut m l c.1 c.2.1 c.2.2) : Diff m l E (effStep E c) c.1.toNat c.2.1.toNat := by
  have h1 := hc.p1
  have h2 := hc.a1
  have h3 := hc.ab
  have h4 := hc.b2
  have h5 := hc.p2
  refine ⟨by omega, by omega, fun q hq b hb => ?_, fun b hb => ?_, fun z => ?_⟩
  · rw [col_step e hc (by omega) hb, if_pos hq]
  · rw [col_step e hc (by omega) (by omega), if_neg (by omega)]
    congr 1
    unfold swN
    rw [if_neg (by omega), if_neg (by omega)]
  · rw [col_step e hc (by omega) (by omega), if_neg (by omega)] at z
    have : swN c.2.1.toNat c.2.2.toNat c.2.1.toNat = c.2.2.toNat := by unfold swN; rw [if_pos rfl]
    rw [this] at z
    have := col_inj e (by omega) (by omega) (by omega) z
    omega
theorem col_comp {m l : Int} {A B : List (List Int)} (hA : Eff m l A) (hB : Eff m l B) {q b : Nat} (hq : (q : Int) < l) (hb : (b : Int) < m) : colX (compL A B) b q = colX A (colX B b q).toNat q := by
  have lA := hA.len
  have lB := hB.len
  have qA : q < A.length := by omega
  have qB : q < B.length := by omega
  have lo := (hB.all _ (List.getElem_mem qB)).len
  have k := compL_at A B q
  rw [List.getElem?_eq_getElem qA, List.getElem?_eq_getElem qB] at k
  unfold colX List.getD
  rw [k, List.getElem?_eq_getElem qA, List.getElem?_eq_getElem qB]
  exact comp_at (a := A[q]) (b := B[q]) (by omega)
theorem diff_ahead {m l : Int} {S E1 E2 : List (List Int)} (hS : Eff m l S) (e1 : Eff m l E1) (e2 : Eff m l E2) {p a : Nat} (d : Diff m l E1 E2 p a) : Diff m l (compL S E1) (compL S E2) p a := by
  have hp := d.hp
  have ha := d.ha
  refine ⟨hp, ha, fun q hq b hb => ?_, fun b hb => ?_, fun z => ?_⟩
  · rw [col_comp hS e1 (by omega) hb, col_comp hS e2 (by omega) hb, d.bef q hq b hb]
  · rw [col_comp hS e1 hp (by omega), col_comp hS e2 hp (by omega), d.low b hb]
  · rw [col_comp hS e1 hp ha, col_comp hS e2 hp ha] at z
    obtain ⟨x0, x1⟩ := col_rng e1 hp ha
    obtain ⟨y0, y1⟩ := col_rng e2 hp ha
    have := col_inj hS hp (by omega) (by omega) z
    exact d.here (by omega)
theorem col_sur {m l : Int} {E : List (List Int)} (e : Eff m l E) {q a : Nat} (hq : (q : Int) < l) (ha : (a : Int) < m) : ∃ b : Nat, (b : Int) < m ∧ colX E b q = (a : Int) := by
  have len := e.len
  have hq2 : q < E.length := by omega
  have o := e.all _ (List.getElem_mem hq2)
  have lo := o.len
  obtain ⟨b, hb, eb⟩ := List.mem_iff_getElem.mp (o.mem (r := (a : Int)) (by omega) ha)
  exact ⟨b, by omega, by simp [colX, List.getD, hq2, hb, eb]⟩
theorem diff_late {m l : Int} (f : Frm m l) {S E1 E2 : List (List Int)} (hS : Eff m l S) (e1 : Eff m l E1) (e2 : Eff m l E2) {p a : Nat} (d : Diff m l E1 E2 p a) : ∃ a', Diff m l (compL E1 S) (compL E2 S) p a' := by
  have hp := d.hp
  have ha := d.ha
  have m1 := f.m1
  have bef : ∀ q : Nat, q < p → ∀ b : Nat, (b : Int) < m → colX (compL E1 S) b q = colX (compL E2 S) b q := fun q hq b hb => by
    obtain ⟨x0, x1⟩ := col_rng hS (q := q) (by omega) hb
    rw [col_comp e1 hS (by omega) hb, col_comp e2 hS (by omega) hb]
    exact d.bef q hq _ (by omega)
  rcases least_of (P := fun a => colX (compL E1 S) a p ≠ colX (compL E2 S) a p) m.toNat with g | ⟨a', ha', g1, g2⟩
  · obtain ⟨b, hb, eb⟩ := col_sur hS hp ha
    refine (g b (by omega) ?_).elim
    rw [col_comp e1 hS hp hb, col_comp e2 hS hp hb, eb, Int.toNat_natCast]
    exact d.here
  · refine ⟨a', hp, by omega, bef, fun b hb => ?_, g1⟩
    by_cases z : colX (compL E1 S) b p = colX (compL E2 S) b p
    · exact z
    · exact (g2 b hb z).elim
theorem eff_back {m l : Int} (f : Frm m l) {cs : List CT} (r : Row m l cs) : effM m.toNat l.toNat (cs ++ cs.reverse) = effM m.toNat l.toNat [] := by
  have rr : Row m l cs.reverse := fun c hc => r c (List.mem_reverse.mp hc)
  have e1 := effM_ok f r
  have e2 := effM_ok f rr
  have l1 := e1.len
  have l2 := e2.len
  refine eff_ext (m := m) (l := l) (effM_ok f (r.app rr)) (effM_ok f (fun c hc => by cases hc)) fun q hq b hb => ?_
  rw [effM_app f r rr, col_comp e1 e2 hq hb]
  have h1 : q < (effM m.toNat l.toNat cs).length := by omega
  have h2 : q < (effM m.toNat l.toNat cs.reverse).length := by omega
  have k := eff_inv f cs r q _ _ (List.getElem?_eq_getElem h1) (List.getElem?_eq_getElem h2) b (by omega)
  have e0 : colX (effM m.toNat l.toNat []) b q = (b : Int) := by
    have : effM m.toNat l.toNat [] = List.replicate l.toNat (iota m.toNat) := rfl
    rw [this]
    have hq3 : q < l.toNat := by omega
    unfold colX
    have : (List.replicate l.toNat (iota m.toNat)).getD q [] = iota m.toNat := by simp [List.getD, hq3]
    rw [this, at_iota (by omega)]
  rw [e0, ← k]
  simp [colX, List.getD, h1, h2]
/-! ### an exchange keeps the effect -/
theorem exch_eff {m l : Int} (f : Frm m l) {ys zs : List CT} {u v : CT} (r : Row m l (ys ++ u :: v :: zs)) : Row m l (exch ys u v zs) ∧ effM m.toNat l.toNat (exch ys u v zs) = effM m.toNat l.toNat (ys ++ u :: v :: zs) := by
  by_cases h : u.1 = v.1
  · have hu := r u (by simp)
    have hv := r v (by simp)
    have ry : Row m l ys := fun c hc => r c (by simp [hc])
    have rz : Row m l zs := fun c hc => r c (by simp [hc])
    have ex : exch ys u v zs = ys ++ ([v, calledC u v] ++ zs) := by unfold exch; rw [if_neg (by omega)]
    rw [ex]
    refine ⟨ry.app (Row.app (fun c hc => ?_) rz), ?_⟩
    · rcases List.mem_cons.mp hc with rfl | hc
      · exact hv
      · rcases List.mem_cons.mp hc with rfl | hc
        · exact called_cut hu hv
        · cases hc
    · have e0 := Eff.fold ys _ (eff0_ok f) ry
      have k := eff_two e0 hu hv (by omega)
      unfold effM
      rw [List.foldl_append, List.foldl_append, ← k, List.foldl_append]
      rfl
  · have q := Rq.exch r h
    exact ⟨q.r2, (q.effM f).symm⟩
end DL

namespace DL
open PySem PySem.Spec L2
open PyProof.Rows hiding St
/-! ### rounds and powers -/
def ordL (o : List Int) : Nat := (roundsM o).foldl (fun f r => Nat.lcm f r.length) 1
def chkRd (m : Nat) (o : List Int) : Bool :=
  decide ((roundsM o).flatten.Nodup) && (iota m).all (fun x => decide (x ∈ (roundsM o).flatten)) &&
  (roundsM o).all (fun r => decide (1 ≤ r.length) && decide (r.length ≤ 5) && r.all (fun x => decide (0 ≤ x) && decide (x < m)) && (List.range r.length).all fun i => decide (o.getD (r.getD i 0).toNat 0 = r.getD ((i + 1) % r.length) 0)) &&
  (duos m).all fun d => decide (ordL (with2 (o.map (swp d.1 d.2)) d.1 d.2) = ordL o)
theorem chkRd_all : ([0, 1, 2, 3, 4, 5].all fun m => (permL (iota m)).all (chkRd m)) = true := by decide +kernel
theorem chkRd_of {m : Int} (h0 : 0 ≤ m) (h5 : m ≤ 5) {o : List Int} (h : Ord m o) : chkRd m.toNat o = true := by
  have hm : m.toNat ∈ [0, 1, 2, 3, 4, 5] := by
    have a : m.toNat ≤ 5 := by omega
    generalize m.toNat = k at a
    simp only [List.mem_cons, List.not_mem_nil, or_false]
    omega
  exact List.all_eq_true.mp (List.all_eq_true.mp chkRd_all m.toNat hm) o (ord_mem h)
structure Rnd (m : Int) (o : List Int) (r : List Int) : Prop where
  l1 : 1 ≤ r.length
  l5 : r.length ≤ 5
  rg : ∀ x ∈ r, 0 ≤ x ∧ x < m
  go : ∀ i, i < r.length → o.getD (r.getD i 0).toNat 0 = r.getD ((i + 1) % r.length) 0
section
variable {m : Int} (h0 : 0 ≤ m) (h5 : m ≤ 5)
include h0 h5
theorem rounds_nd {o : List Int} (h : Ord m o) : (roundsM o).flatten.Nodup := by
  have k := chkRd_of h0 h5 h
  unfold chkRd at k
  simp only [Bool.and_eq_true, decide_eq_true_eq] at k
  exact k.1.1.1
theorem rounds_cov {o : List Int} (h : Ord m o) {x : Int} (x0 : 0 ≤ x) (x1 : x < m) : x ∈ (roundsM o).flatten := by
  have k := chkRd_of h0 h5 h
  unfold chkRd at k
  simp only [Bool.and_eq_true, decide_eq_true_eq] at k
  exact of_decide_eq_true (List.all_eq_true.mp k.1.1.2 x (mem_iota.mpr ⟨x0, by omega⟩))
theorem rounds_rnd {o : List Int} (h : Ord m o) : ∀ r ∈ roundsM o, Rnd m o r := by
  have k := chkRd_of h0 h5 h
  unfold chkRd at k
  simp only [Bool.and_eq_true, decide_eq_true_eq] at k
  intro r hr
  have z := List.all_eq_true.mp k.1.2 r hr
  simp only [Bool.and_eq_true, decide_eq_true_eq] at z
  refine ⟨z.1.1.1, z.1.1.2, fun x hx => ?_, fun i hi => ?_⟩
  · have y := List.all_eq_true.mp z.1.2 x hx
    simp only [Bool.and_eq_true, decide_eq_true_eq] at y
    omega
  · exact of_decide_eq_true (List.all_eq_true.mp z.2 i (List.mem_range.mpr hi))
theorem ordL_duo {o : List Int} (h : Ord m o) {a b : Nat} (ab : a < b) (hb : (b : Int) < m) : ordL (with2 (o.map (swp a b)) a b) = ordL o := by
  have k := chkRd_of h0 h5 h
  unfold chkRd at k
  simp only [Bool.and_eq_true, decide_eq_true_eq] at k
  exact of_decide_eq_true (List.all_eq_true.mp k.2 (a, b) (mem_duos ab (by omega)))
theorem ordL_conj : ∀ (k : Nat) (g j : List Int), Ord m g → Ord m j → costM g = k → ordL (jointOf g (comp g j)) = ordL j := by
  intro k
  induction k with
  | zero =>
    intro g j hg hj hk
    have e := (cost_zero h0 h5 hg).2.1.mp hk
    subst e
    rw [joint_one hg (comp_ord hg hj) hj (by rw [comp_iota hj, iota_comp hj])]
  | succ k ih =>
    intro g j hg hj hk
    obtain ⟨⟨a, b, ab, hb, hc⟩, _⟩ := cost_less h0 h5 hg (by omega)
    have lg := hg.len
    have lj := hj.len
    have hg2 := hg.with2 (a := a) (b := b) (by omega) (by omega) (by omega)
    have hs := hj.sw (a := a) (b := b) ⟨by omega, by omega⟩ ⟨by omega, hb⟩
    have lsw := hs.len
    have hj2 := hs.with2 (a := a) (b := b) (by omega) (by omega) (by omega)
    have i1 := ih (with2 g a b) (with2 (j.map (swp a b)) a b) hg2 hj2 (by omega)
    rw [ordL_duo h0 h5 hj ab hb] at i1
    rw [← i1]
    congr 1
    have ho := comp_ord hg hj
    have ho2 := comp_ord hg2 hj2
    have hC := jointOf_ord hg2 ho2
    refine joint_one hg ho hC ?_
    have eg : g = with2 (with2 g a b) a b := (with2_with2 (by omega) (by omega) (by omega)).symm
    have k1 := comp_with2 (a := jointOf (with2 g a b) (comp (with2 g a b) (with2 (j.map (swp a b)) a b))) hg2 (i := a) (j := b) (by omega) hb
    rw [← eg] at k1
    rw [k1, joint_comp hg2 ho2, comp_with2 hs (by omega) hb]
    have lq : (comp (with2 g a b) (j.map (swp a b))).length = j.length := by rw [comp_len, List.length_map]
    rw [with2_with2 (by omega) (by omega) (by omega)]
    refine ord_ext (m := m) (by omega) (by rw [comp_len]; exact lj) fun i hi => ?_
    have r := getD_rng hj hi
    rw [comp_at (by rw [List.length_map]; omega), comp_at (by omega)]
    have e1 : (j.map (swp a b)).getD i 0 = swp a b (j.getD i 0) := by
      have : i < j.length := by omega
      simp [List.getD, this]
    rw [e1, with2_at (by omega) (by omega) (by omega), ← swN_swp (by omega) (by omega) r.1, Int.toNat_natCast, Int.toNat_natCast]
    congr 1
    unfold swN
    split <;> split <;> (try split) <;> omega
theorem ordL_conj' {g j : List Int} (hg : Ord m g) (hj : Ord m j) : ordL (conj g j) = ordL j := ordL_conj h0 h5 (costM g).toNat g j hg hj (by have := (cost_zero h0 h5 hg).1; omega)
end
/-! ### the powers by rounds -/
def pairsR (t : Nat) (r : List Int) : List (Nat × Int) := (List.range r.length).map fun i => ((r.getD i 0).toNat, r.getD ((i + t) % r.length) 0)
def putAll (fd : List Int) (ps : List (Nat × Int)) : List Int := ps.foldl (fun fd p => fd.set p.1 p.2) fd
def powM (o : List Int) (t : Nat) : List Int := (roundsM o).foldl (fun fd r => putAll fd (pairsR t r)) o
theorem putAll_len : ∀ (ps : List (Nat × Int)) (fd : List Int), (putAll fd ps).length = fd.length
  | [], fd => rfl
  | p :: ps, fd => by
    show (putAll (fd.set p.1 p.2) ps).length = _
    rw [putAll_len ps, List.length_set]
theorem putAll_app (fd : List Int) (a b : List (Nat × Int)) : putAll fd (a ++ b) = putAll (putAll fd a) b := by
  unfold putAll
  rw [List.foldl_append]
theorem putAll_out : ∀ (ps : List (Nat × Int)) (fd : List Int) (k : Nat), k ∉ ps.map (·.1) → (putAll fd ps).getD k 0 = fd.getD k 0
  | [], fd, k, _ => rfl
  | p :: ps, fd, k, h => by
    rw [List.map_cons, List.mem_cons, not_or] at h
    show (putAll (fd.set p.1 p.2) ps).getD k 0 = _
    rw [putAll_out ps _ k h.2, List.getD_eq_getElem?_getD, List.getD_eq_getElem?_getD, List.getElem?_set_ne (fun z => h.1 z.symm)]
theorem putAll_in : ∀ (ps : List (Nat × Int)) (fd : List Int) (k : Nat) (v : Int), (ps.map (·.1)).Nodup → (k, v) ∈ ps → k < fd.length → (putAll fd ps).getD k 0 = v
  | [], fd, k, v, _, h, _ => by cases h
  | p :: ps, fd, k, v, nd, h, hk => by
    rw [List.map_cons, List.nodup_cons] at nd
    show (putAll (fd.set p.1 p.2) ps).getD k 0 = _
    rcases List.mem_cons.mp h with z | z
    · subst z
      rw [putAll_out ps _ _ nd.1, List.getD_eq_getElem?_getD, List.getElem?_set_self hk]
      rfl
    · exact putAll_in ps _ k v nd.2 z (by rw [List.length_set]; exact hk)
theorem putAll_flat (t : Nat) : ∀ (R : List (List Int)) (fd : List Int), R.foldl (fun fd r => putAll fd (pairsR t r)) fd = putAll fd (R.flatMap (pairsR t))
  | [], fd => rfl
  | r :: R, fd => by
    show R.foldl _ (putAll fd (pairsR t r)) = _
    rw [putAll_flat t R, List.flatMap_cons, putAll_app]
theorem pairsR_keys (t : Nat) (r : List Int) : (pairsR t r).map (·.1) = r.map Int.toNat := by
  unfold pairsR
  rw [List.map_map]
  apply List.ext_getElem
  · rw [List.length_map, List.length_range, List.length_map]
  · intro i h1 h2
    rw [List.length_map] at h2
    simp [h2]
theorem flat_keys (t : Nat) : ∀ (R : List (List Int)), (R.flatMap (pairsR t)).map (·.1) = R.flatten.map Int.toNat
  | [] => rfl
  | r :: R => by rw [List.flatMap_cons, List.map_append, pairsR_keys, flat_keys t R, List.flatten_cons, List.map_append]
def iterO (m : Nat) (o : List Int) : Nat → List Int
  | 0 => iota m
  | t + 1 => comp o (iterO m o t)
section
variable {m : Int} (h0 : 0 ≤ m) (h5 : m ≤ 5)
include h0
theorem iterO_ord {o : List Int} (h : Ord m o) : ∀ t, Ord m (iterO m.toNat o t)
  | 0 => iota_ord h0
  | t + 1 => comp_ord h (iterO_ord h t)
include h5
theorem pow_len {o : List Int} (t : Nat) : (powM o t).length = o.length := by
  unfold powM
  rw [putAll_flat, putAll_len]
theorem pow_at {o : List Int} (h : Ord m o) (t : Nat) {r : List Int} (hr : r ∈ roundsM o) {i : Nat} (hi : i < r.length) : (powM o t).getD (r.getD i 0).toNat 0 = r.getD ((i + t) % r.length) 0 := by
  have rr := rounds_rnd h0 h5 h
  have nd := rounds_nd h0 h5 h
  unfold powM
  rw [putAll_flat]
  have lo := h.len
  have e : r.getD i 0 = r[i] := by simp [List.getD, hi]
  have rg := (rr r hr).rg r[i] (List.getElem_mem hi)
  refine putAll_in _ _ _ _ ?_ ?_ (by rw [e]; omega)
  · rw [flat_keys, List.Nodup, List.pairwise_map]
    refine List.Pairwise.imp_of_mem (fun {x y} hx hy hxy z => hxy ?_) nd
    obtain ⟨a, ha, hxa⟩ := List.mem_flatten.mp hx
    obtain ⟨b, hb, hyb⟩ := List.mem_flatten.mp hy
    have k1 := (rr a ha).rg x hxa
    have k2 := (rr b hb).rg y hyb
    omega
  · exact List.mem_flatMap.mpr ⟨r, hr, List.mem_map.mpr ⟨i, List.mem_range.mpr hi, rfl⟩⟩
theorem iter_at {o : List Int} (h : Ord m o) {r : List Int} (hr : r ∈ roundsM o) {i : Nat} (hi : i < r.length) : ∀ t, (iterO m.toNat o t).getD (r.getD i 0).toNat 0 = r.getD ((i + t) % r.length) 0
  | 0 => by
    have rr := rounds_rnd h0 h5 h r hr
    have e : r.getD i 0 = r[i] := by simp [List.getD, hi]
    have rg := rr.rg r[i] (List.getElem_mem hi)
    show (iota m.toNat).getD _ 0 = _
    rw [at_iota (by rw [e]; omega), Nat.add_zero, Nat.mod_eq_of_lt hi, e]
    omega
  | t + 1 => by
    have rr := rounds_rnd h0 h5 h r hr
    have e : r.getD i 0 = r[i] := by simp [List.getD, hi]
    have rg := rr.rg r[i] (List.getElem_mem hi)
    have l1 := rr.l1
    have lt : (i + t) % r.length < r.length := Nat.mod_lt _ (by omega)
    have li := (iterO_ord h0 h t).len
    show (comp o (iterO m.toNat o t)).getD _ 0 = _
    rw [comp_at (by rw [e]; omega), iter_at h hr hi t, rr.go _ lt, Nat.mod_add_mod]
    rfl
theorem pow_iter {o : List Int} (h : Ord m o) (t : Nat) : powM o t = iterO m.toNat o t := by
  have lo := h.len
  have li := (iterO_ord h0 h t).len
  refine ord_ext (m := m) (by rw [pow_len h0 h5]; exact lo) li fun x hx => ?_
  obtain ⟨r, hr, hxr⟩ := List.mem_flatten.mp (rounds_cov h0 h5 h (x := (x : Int)) (by omega) hx)
  obtain ⟨i, hi, e⟩ := List.getElem_of_mem hxr
  have e2 : r.getD i 0 = (x : Int) := by simp [List.getD, hi, e]
  have k1 := pow_at h0 h5 h t hr hi
  have k2 := iter_at h0 h5 h hr hi t
  rw [e2, Int.toNat_natCast] at k1 k2
  rw [k1, k2]
theorem iter_sixty {o : List Int} (h : Ord m o) : iterO m.toNat o 60 = iota m.toNat := by
  have li := (iterO_ord h0 h 60).len
  refine ord_ext (m := m) li (iota_ord h0).len fun x hx => ?_
  obtain ⟨r, hr, hxr⟩ := List.mem_flatten.mp (rounds_cov h0 h5 h (x := (x : Int)) (by omega) hx)
  obtain ⟨i, hi, e⟩ := List.getElem_of_mem hxr
  have e2 : r.getD i 0 = (x : Int) := by simp [List.getD, hi, e]
  have k2 := iter_at h0 h5 h hr hi 60
  have rr := rounds_rnd h0 h5 h r hr
  have l1 := rr.l1
  have l5 := rr.l5
  have em : (i + 60) % r.length = i := by
    have cs : r.length = 1 ∨ r.length = 2 ∨ r.length = 3 ∨ r.length = 4 ∨ r.length = 5 := by omega
    rcases cs with z | z | z | z | z <;> rw [z] <;> omega
  rw [e2, Int.toNat_natCast, em, e2] at k2
  rw [k2, at_iota (by omega)]
theorem conj_iter {g o : List Int} (hg : Ord m g) (ho : Ord m o) : ∀ t, iterO m.toNat (conj g o) t = conj g (iterO m.toNat o t)
  | 0 => (conj_iota h0 hg).symm
  | t + 1 => by
    have hi := iterO_ord h0 ho t
    show comp (conj g o) (iterO m.toNat (conj g o) t) = conj g (comp o (iterO m.toNat o t))
    rw [conj_iter hg ho t]
    have co := conj_ord hg ho
    have ci := conj_ord hg hi
    refine comp_cancel (comp_ord co ci) (conj_ord hg (comp_ord ho hi)) hg ?_
    rw [comp_assoc (m := m) ci hg, conj_comp hg hi, ← comp_assoc (m := m) hg hi, conj_comp hg ho, comp_assoc (m := m) ho hi, conj_comp hg (comp_ord ho hi)]
end
/-! ### the round of a row -/
def rndR (f : Nat) (o : List Int) : Nat := (roundsM o).foldl (fun f r => Nat.lcm f r.length) f
def rndM (E : List (List Int)) : Nat := E.foldl rndR 1
theorem lcm_fold : ∀ (R : List (List Int)) (f a : Nat), R.foldl (fun f r => Nat.lcm f r.length) (Nat.lcm f a) = Nat.lcm f (R.foldl (fun f r => Nat.lcm f r.length) a)
  | [], f, a => rfl
  | r :: R, f, a => by
    show R.foldl _ (Nat.lcm (Nat.lcm f a) r.length) = Nat.lcm f (R.foldl _ (Nat.lcm a r.length))
    rw [Nat.lcm_assoc, lcm_fold R f (Nat.lcm a r.length)]
theorem rndR_ord (f : Nat) (o : List Int) : rndR f o = Nat.lcm f (ordL o) := by
  unfold rndR ordL
  rw [← lcm_fold, Nat.lcm_one_right]
theorem rnd_conj {m : Int} (h0 : 0 ≤ m) (h5 : m ≤ 5) {g : List Int} (hg : Ord m g) : ∀ (E : List (List Int)) (f : Nat), (∀ o ∈ E, Ord m o) → (E.map (conj g)).foldl rndR f = E.foldl rndR f
  | [], f, _ => rfl
  | o :: E, f, h => by
    show (E.map (conj g)).foldl rndR (rndR f (conj g o)) = E.foldl rndR (rndR f o)
    rw [rndR_ord, rndR_ord, ordL_conj' h0 h5 hg (h o List.mem_cons_self), rnd_conj h0 h5 hg E _ fun x hx => h x (List.mem_cons_of_mem _ hx)]
theorem lcm_dvd : ∀ (R : List (List Int)) (f : Nat), f ∣ 60 → (∀ r ∈ R, 1 ≤ r.length ∧ r.length ≤ 5) → R.foldl (fun f r => Nat.lcm f r.length) f ∣ 60
  | [], f, h, _ => h
  | r :: R, f, h, hR => by
    have hr := hR r List.mem_cons_self
    refine lcm_dvd R _ (Nat.lcm_dvd h ?_) fun x hx => hR x (List.mem_cons_of_mem _ hx)
    generalize r.length = L at hr
    have cs : L = 1 ∨ L = 2 ∨ L = 3 ∨ L = 4 ∨ L = 5 := by omega
    rcases cs with z | z | z | z | z <;> subst z <;> decide
theorem rnd_dvd {m : Int} (h0 : 0 ≤ m) (h5 : m ≤ 5) : ∀ (E : List (List Int)) (f : Nat), f ∣ 60 → (∀ o ∈ E, Ord m o) → E.foldl rndR f ∣ 60
  | [], f, h, _ => h
  | o :: E, f, h, hE => rnd_dvd h0 h5 E _ (lcm_dvd _ _ h fun r hr => by
      have := rounds_rnd h0 h5 (hE o List.mem_cons_self) r hr
      exact ⟨this.l1, this.l5⟩) fun x hx => hE x (List.mem_cons_of_mem _ hx)
/-! ### rows by other numbers -/
def callC (g : List Int) (c : CT) : CT := (c.1, min (g.getD c.2.1.toNat 0) (g.getD c.2.2.toNat 0), max (g.getD c.2.1.toNat 0) (g.getD c.2.2.toNat 0))
theorem call_cut {m l : Int} {g : List Int} (hg : Ord m g) {c : CT} (hc : Cut m l c.1 c.2.1 c.2.2) : Cut m l (callC g c).1 (callC g c).2.1 (callC g c).2.2 := by
  obtain ⟨p1, p2, a1, ab, b2⟩ := hc
  have r1 := getD_rng hg (r := c.2.1.toNat) (by omega)
  have r2 := getD_rng hg (r := c.2.2.toNat) (by omega)
  have ne : g.getD c.2.1.toNat 0 ≠ g.getD c.2.2.toNat 0 := by
    intro z
    have k1 := idx_at hg (r := c.2.1.toNat) (by omega)
    have k2 := idx_at hg (r := c.2.2.toNat) (by omega)
    rw [z] at k1
    omega
  exact ⟨p1, p2, by show 0 ≤ min _ _; omega, by show min _ _ < max _ _; omega, by show max _ _ ≤ m - 1; omega⟩
theorem with2_conj {m : Int} {g o : List Int} (hg : Ord m g) (ho : Ord m o) {a b : Nat} (ha : (a : Int) < m) (hb : (b : Int) < m) (ab : a ≠ b) : with2 (conj g o) (g.getD a 0).toNat (g.getD b 0).toNat = conj g (with2 o a b) := by
  have lg := hg.len
  have lo := ho.len
  have co := conj_ord hg ho
  have lc := co.len
  have r1 := getD_rng hg (r := a) (by omega)
  have r2 := getD_rng hg (r := b) (by omega)
  have inj : ∀ i j : Nat, (i : Int) < m → (j : Int) < m → g.getD i 0 = g.getD j 0 → i = j := by
    intro i j hi hj z
    have k1 := idx_at hg (r := i) hi
    have k2 := idx_at hg (r := j) hj
    rw [z] at k1
    omega
  have ne : (g.getD a 0).toNat ≠ (g.getD b 0).toNat := fun z => ab (inj a b ha hb (by omega))
  have hw : Ord m (with2 o a b) := ho.with2 (by omega) (by omega) ab
  have hx : Ord m (with2 (conj g o) (g.getD a 0).toNat (g.getD b 0).toNat) := co.with2 (by omega) (by omega) ne
  refine comp_cancel hx (conj_ord hg hw) hg ?_
  rw [conj_comp hg hw]
  refine ord_ext (m := m) (by rw [comp_len]; exact lg) (by rw [comp_len, with2_len]; exact lo) fun i hi => ?_
  have ri := getD_rng hg (r := i) hi
  have ci : (comp (conj g o) g).getD (swN a b i) 0 = (comp g o).getD (swN a b i) 0 := by rw [conj_comp hg ho]
  have sl : swN a b i < o.length := by unfold swN; split <;> (try split) <;> omega
  rw [comp_at (by omega), comp_at sl] at ci
  rw [comp_at (by omega), comp_at (by rw [with2_len]; omega), with2_at (by omega) (by omega) ne, with2_at (by omega) (by omega) ab, ← ci]
  congr 1
  unfold swN
  by_cases h1 : i = a
  · subst h1
    rw [if_pos rfl, if_pos rfl]
  · have n1 : (g.getD i 0).toNat ≠ (g.getD a 0).toNat := fun z => h1 (inj i a hi ha (by omega))
    rw [if_neg n1, if_neg h1]
    by_cases h2 : i = b
    · subst h2
      rw [if_pos rfl, if_pos rfl]
    · have n2 : (g.getD i 0).toNat ≠ (g.getD b 0).toNat := fun z => h2 (inj i b hi hb (by omega))
      rw [if_neg n2, if_neg h2]
theorem step_call {m l : Int} {g : List Int} (hg : Ord m g) {E : List (List Int)} (e : Eff m l E) {c : CT} (hc : Cut m l c.1 c.2.1 c.2.2) : effStep (E.map (conj g)) (callC g c) = (effStep E c).map (conj g) := by
  obtain ⟨p1, p2, a1, ab, b2⟩ := hc
  have r1 := getD_rng hg (r := c.2.1.toNat) (by omega)
  have r2 := getD_rng hg (r := c.2.2.toNat) (by omega)
  unfold effStep
  show (E.map (conj g)).take c.1.toNat ++ ((E.map (conj g)).drop c.1.toNat).map _ = _
  rw [List.map_append, ← List.map_take, ← List.map_drop, List.map_map, List.map_map]
  congr 1
  refine List.map_congr_left fun o ho => ?_
  have oo := e.all o (List.mem_of_mem_drop ho)
  have lc := (conj_ord hg oo).len
  have k := with2_conj hg oo (a := c.2.1.toNat) (b := c.2.2.toNat) (by omega) (by omega) (by omega)
  show with2 (conj g o) (min (g.getD c.2.1.toNat 0) (g.getD c.2.2.toNat 0)).toNat (max (g.getD c.2.1.toNat 0) (g.getD c.2.2.toNat 0)).toNat = conj g (with2 o c.2.1.toNat c.2.2.toNat)
  rw [← k]
  by_cases h : g.getD c.2.1.toNat 0 ≤ g.getD c.2.2.toNat 0
  · rw [Int.min_eq_left h, Int.max_eq_right h]
  · rw [Int.min_eq_right (by omega), Int.max_eq_left (by omega)]
    exact with2_comm (by omega) (by omega) (by omega)
theorem fold_call {m l : Int} {g : List Int} (hg : Ord m g) : ∀ (cs : List CT) (E : List (List Int)), Eff m l E → Row m l cs → (cs.map (callC g)).foldl effStep (E.map (conj g)) = (cs.foldl effStep E).map (conj g)
  | [], E, _, _ => rfl
  | c :: cs, E, e, r => by
    have hc := r c List.mem_cons_self
    show (cs.map (callC g)).foldl effStep (effStep (E.map (conj g)) (callC g c)) = _
    rw [step_call hg e hc]
    exact fold_call hg cs _ (e.step hc) fun d hd => r d (List.mem_cons_of_mem _ hd)
theorem eff_call {m l : Int} (f : Frm m l) {g : List Int} (hg : Ord m g) {cs : List CT} (r : Row m l cs) : effM m.toNat l.toNat (cs.map (callC g)) = (effM m.toNat l.toNat cs).map (conj g) := by
  have m1 := f.m1
  have k := fold_call hg cs _ (eff0_ok f) r
  rw [List.map_replicate, conj_iota (by omega) hg] at k
  exact k
theorem row_call {m l : Int} {g : List Int} (hg : Ord m g) {cs : List CT} (r : Row m l cs) : Row m l (cs.map (callC g)) := fun c hc => by
  obtain ⟨d, hd, rfl⟩ := List.mem_map.mp hc
  exact call_cut hg (r d hd)
end DL

namespace DL
open PySem PySem.Spec L2
open PyProof.Rows hiding St
variable {fs : Nat → Option Fn} {gl : Nat → Option D} {n : Nat}
/-- led -/
def F68 : Fn := ⟨2, [], 2, (.cons (.expr (.call 65 (.d (.var 0) .nil)))
 (.cons (.expr (.call 22 (.d (.call 66 (.d (.var 0) .nil)) (.d (.var 1) .nil))))
 (.cons (.ret (.call 67 (.d (.var 0) (.d (.var 1) .nil))))
 .nil)))⟩
/-- power_of -/
def F71 : Fn := ⟨2, [], 6, (.cons (.set 2 true (.blt .list (.cons (.var 0) .nil)))
 (.cons (.for (.seq (.call 42 (.d (.var 0) .nil))) (.n 3) (.cons (.for (.enL (.var 3)) (.t (.cons (.n 4) (.cons (.n 5) .nil))) (.cons (.asg (.ix 2 (.var 5)) (.idx (.var 3) (.bin .Mod (.bin .Add (.var 4) (.var 1)) (.blt .len (.cons (.var 3) .nil)))))
 .nil))
 .nil))
 (.cons (.ret (.tupV 2))
 .nil)))⟩
/-- far_by -/
def F156 : Fn := ⟨3, [], 4, (.cons (.ret (.blt .tuple (.cons (.lc [3] (.seq (.call 143 (.d (.var 0) (.d (.var 1) .nil)))) (.n 3) .no (.call 71 (.d (.var 3) (.d (.var 2) .nil)))) .nil)))
 .nil)⟩
/-- common -/
def F73 : Fn := ⟨2, [], 2, (.cons (.whl 1000000 (.cmp .Gt (.var 1) (.cst (.int 0))) (.cons (.par2 0 1 false false (.var 1) (.bin .Mod (.var 0) (.var 1)))
 .nil))
 (.cons (.ret (.var 0))
 .nil))⟩
/-- round_of -/
def F157 : Fn := ⟨2, [], 5, (.cons (.expr (.call 7 (.d (.var 0) (.d (.var 1) .nil))))
 (.cons (.set 2 false (.cst (.int 1)))
 (.cons (.for (.seq (.call 143 (.d (.var 0) (.d (.var 1) .nil)))) (.n 3) (.cons (.for (.seq (.call 42 (.d (.var 3) .nil))) (.n 4) (.cons (.set 2 false (.bin .FloorDiv (.bin .Mult (.var 2) (.blt .len (.cons (.var 4) .nil))) (.call 73 (.d (.var 2) (.d (.blt .len (.cons (.var 4) .nil)) .nil)))))
 .nil))
 .nil))
 (.cons (.ret (.var 2))
 .nil))))⟩
/-- round_from -/
def F158 : Fn := ⟨2, [], 3, (.cons (.expr (.call 65 (.d (.var 0) .nil)))
 (.cons (.expr (.call 7 (.d (.call 66 (.d (.var 0) .nil)) (.d (.var 1) .nil))))
 (.cons (.set 2 false (.cst (.int 1)))
 (.cons (.whl 1000000 (.cmp .NotEq (.call 67 (.d (.var 0) (.d (.call 156 (.d (.call 66 (.d (.var 0) .nil)) (.d (.var 1) (.d (.var 2) .nil)))) .nil))) (.var 0)) (.cons (.set 2 false (.bin .Add (.var 2) (.cst (.int 1))))
 .nil))
 (.cons (.ret (.var 2))
 .nil)))))⟩
structure HasFar (fs : Nat → Option Fn) (gl : Nat → Option D) : Prop extends HasBoard fs gl where
  h42 : fs 42 = some F42
  h71 : fs 71 = some F71
  h73 : fs 73 = some F73
  h156 : fs 156 = some F156
  h157 : fs 157 = some F157
  h158 : fs 158 = some F158
/-! ### powers -/
theorem enumD_drop : ∀ (xs : List D) (k i : Nat), i < xs.length → ∃ x, xs[i]? = some x ∧ (enumD k xs).drop i = .tuple [.int ((k + i : Nat) : Int), x] :: (enumD k xs).drop (i + 1)
  | [], k, i, h => by simp at h
  | x :: r, k, 0, h => ⟨x, rfl, by simp [enumD]⟩
  | x :: r, k, i + 1, h => by
    obtain ⟨y, h1, h2⟩ := enumD_drop r (k + 1) i (by simpa using h)
    refine ⟨y, by simpa using h1, ?_⟩
    show (enumD (k + 1) r).drop i = _ :: (enumD (k + 1) r).drop (i + 1)
    rw [h2, show k + 1 + i = k + (i + 1) by omega]
theorem enumD_ln : ∀ (xs : List D) (k : Nat), (enumD k xs).length = xs.length
  | [], _ => rfl
  | x :: r, k => by rw [enumD, List.length_cons, List.length_cons, enumD_ln r]
abbrev in71 : Ss := (((F71.body.nth 1).inner).nth 0).inner
theorem pow_turn_core {fd : List D} {R : List D} {i t x L y : Int} (hlen : lenD [.tuple R] = some (.d (.int L))) (hL : 0 < L) (hy : atD R ((i + t) % L) = some (.int y)) (hx : 0 ≤ x) (hx2 : x < fd.length) (hf : x < 1152921504606846976) {v0 v4 v5 : Option Sl} :
    turnF (gT (.t (.cons (.n 4) (.cons (.n 5) .nil)))) (evSs (run fs gl n) gl in71) (.tuple [.int i, .int x]) [v0, some (.d (.int t)), some (.l fd), some (.d (.tuple R)), v4, v5] =
      some ([v0, some (.d (.int t)), some (.l (fd.set x.toNat (.int y))), some (.d (.tuple R)), some (.d (.int i)), some (.d (.int x))], .nx) := by
  have hix : ixD fd.length x = some x.toNat := by
    unfold ixD
    rw [if_pos hx, if_pos hx2]
  simp [in71, F71, Ss.nth, hlen, hL, hy, hix, -lenD]
theorem pow_row {m : Int} {o r : List Int} (ho : Ord m o) (hr : Rnd m o r) (hm : m ≤ 5) {t : Nat} {fd : List Int} (hf : (fd.length : Int) = m) {v0 v3 v4 v5 : Option Sl} :
    ∃ w4 w5, turnF (gT (.n 3)) (evSs (run fs gl n) gl (F71.body.nth 1).inner) (orderD r) [v0, some (.d (.int t)), some (.l (fd.map PyData.int)), v3, v4, v5] =
      some ([v0, some (.d (.int t)), some (.l ((putAll fd (pairsR t r)).map PyData.int)), some (.d (orderD r)), w4, w5], .nx) := by
  have l1 := hr.l1
  have l5 := hr.l5
  obtain ⟨ρ', el, w4, w5, i, ex, rfl, hi⟩ := loopF_inv (tg := gT (.t (.cons (.n 4) (.cons (.n 5) .nil)))) (body := evSs (run fs gl n) gl in71)
    (fun xs ρ => ∃ (w4 w5 : Option Sl) (i : Nat), xs = (enumD 0 (r.map PyData.int)).drop i ∧ ρ = [v0, some (.d (.int t)), some (.l ((putAll fd ((pairsR t r).take i)).map PyData.int)), some (.d (orderD r)), w4, w5] ∧ i ≤ r.length)
    (fun d xs ρ ⟨w4, w5, i, ex, eρ, hi⟩ => by
      subst eρ
      have hi2 : i < r.length := by
        apply Nat.lt_of_not_le
        intro z
        rw [List.drop_eq_nil_of_le (by rw [enumD_ln, List.length_map]; exact z)] at ex
        cases ex
      obtain ⟨x, hx, ed⟩ := enumD_drop (r.map PyData.int) 0 i (by rw [List.length_map]; exact hi2)
      rw [ed] at ex
      injection ex with e1 e2
      subst e1 e2
      rw [List.getElem?_map, List.getElem?_eq_getElem hi2] at hx
      injection hx with hx
      subst hx
      have rg := hr.rg r[i] (List.getElem_mem hi2)
      have lp := putAll_len ((pairsR t r).take i) fd
      have hj : (i + t) % r.length < r.length := Nat.mod_lt _ (by omega)
      have hy : atD (r.map PyData.int) ((((0 + i : Nat) : Int) + (t : Int)) % (r.length : Int)) = some (.int (r.getD ((i + t) % r.length) 0)) := by
        have e : ((((0 + i : Nat) : Int) + (t : Int)) % (r.length : Int)) = (((i + t) % r.length : Nat) : Int) := by
          rw [Int.natCast_emod, Nat.zero_add, Int.natCast_add]
        rw [e]
        unfold atD ixD
        rw [List.length_map, if_pos (by omega), if_pos (by omega)]
        show (r.map PyData.int)[(((i + t) % r.length : Nat) : Int).toNat]? = _
        rw [Int.toNat_natCast, List.getElem?_map, List.getElem?_eq_getElem hj, List.getD_eq_getElem?_getD, List.getElem?_eq_getElem hj]
        rfl
      have tt := pow_turn_core (fs := fs) (gl := gl) (n := n) (fd := (putAll fd ((pairsR t r).take i)).map PyData.int) (R := r.map PyData.int) (i := ((0 + i : Nat) : Int)) (t := (t : Int)) (x := r[i]) (L := (r.length : Int)) (by simp) (by omega) hy rg.1 (by rw [List.length_map, lp]; omega) (by omega) (v0 := v0) (v4 := w4) (v5 := w5)
      refine ⟨_, tt, some (.d (.int ((0 + i : Nat) : Int))), some (.d (.int r[i])), i + 1, rfl, ?_, hi2⟩
      have lpr : i < (pairsR t r).length := by unfold pairsR; rw [List.length_map, List.length_range]; exact hi2
      rw [List.take_succ_eq_append_getElem lpr, putAll_app]
      have e3 : (pairsR t r)[i] = ((r[i]).toNat, r.getD ((i + t) % r.length) 0) := by
        simp [pairsR, List.getD, hi2]
      rw [e3]
      show _ = [v0, _, some (.l (((putAll fd ((pairsR t r).take i)).set (r[i]).toNat (r.getD ((i + t) % r.length) 0)).map PyData.int)), _, _, _]
      rw [List.map_set]
      rfl)
    (enumD 0 (r.map PyData.int)) [v0, some (.d (.int t)), some (.l (fd.map PyData.int)), some (.d (orderD r)), v4, v5] ⟨v4, v5, 0, rfl, rfl, Nat.zero_le _⟩
  have hi3 : i = r.length := by
    have := congrArg List.length ex
    rw [List.length_drop, enumD_ln, List.length_map] at this
    simp at this
    omega
  subst hi3
  have et : (pairsR t r).take r.length = pairsR t r := List.take_of_length_le (by unfold pairsR; rw [List.length_map, List.length_range]; exact Nat.le_refl _)
  rw [et] at el
  refine ⟨w4, w5, ?_⟩
  have s0 : evS (run fs gl n) gl (((F71.body.nth 1).inner).nth 0) [v0, some (.d (.int t)), some (.l (fd.map PyData.int)), some (.d (orderD r)), v4, v5] = some ([v0, some (.d (.int t)), some (.l ((putAll fd (pairsR t r)).map PyData.int)), some (.d (orderD r)), w4, w5], .nx) := by
    refine for_eq (s := .enL (.var 3)) (ρ1 := [v0, some (.d (.int t)), some (.l (fd.map PyData.int)), some (.d (orderD r)), v4, v5]) ?_ el
    unfold orderD
    generalize (t : Int) = T
    generalize fd.map PyData.int = FF
    generalize r.map PyData.int = RR
    simp [ltD2]
  exact (evSs_nx s0).trans rfl
theorem power_ok (h : HasFar fs gl) {m : Int} (h0 : 0 ≤ m) (h5 : m ≤ 5) {o : List Int} (ho : Ord m o) (t : Nat) :
    run fs gl (n + 2) 71 [.d (orderD o), .d (.int t)] = some ([.d (orderD o), .d (.int t)], .d (orderD (powM o t))) := by
  have k1 := rounds_ok (n := n) (gl := gl) h.h42 ho (by omega)
  have rr := rounds_rnd h0 h5 ho
  have lo := ho.len
  obtain ⟨ρ', el, w3, w4, w5, B, fd, ex, rfl, hB, hf, hl⟩ := loopF_inv (tg := gT (.n 3)) (body := evSs (run fs gl (n + 1)) gl (F71.body.nth 1).inner)
    (fun xs ρ => ∃ (w3 w4 w5 : Option Sl) (B : List (List Int)) (fd : List Int), xs = B.map orderD ∧ ρ = [some (.d (orderD o)), some (.d (.int t)), some (.l (fd.map PyData.int)), w3, w4, w5] ∧ (∀ r ∈ B, Rnd m o r) ∧ B.foldl (fun fd r => putAll fd (pairsR t r)) fd = powM o t ∧ (fd.length : Int) = m)
    (fun d xs ρ ⟨w3, w4, w5, B, fd, ex, eρ, hB, hf, hl⟩ => by
      subst eρ
      cases B with
      | nil => cases ex
      | cons r B =>
        rw [List.map_cons] at ex
        injection ex with e1 e2
        subst e1 e2
        obtain ⟨w4', w5', tt⟩ := pow_row (fs := fs) (gl := gl) (n := n + 1) ho (hB r List.mem_cons_self) h5 (t := t) (fd := fd) hl (v0 := some (.d (orderD o))) (v3 := w3) (v4 := w4) (v5 := w5)
        exact ⟨_, tt, _, _, _, B, _, rfl, rfl, fun x hx => hB x (List.mem_cons_of_mem _ hx), hf, by rw [putAll_len]; exact hl⟩)
    ((roundsM o).map orderD) [some (.d (orderD o)), some (.d (.int t)), some (.l (o.map PyData.int)), none, none, none] ⟨none, none, none, roundsM o, o, rfl, rfl, rr, rfl, lo⟩
  have hB2 : B = [] := by
    cases B with
    | nil => rfl
    | cons => cases ex
  subst hB2
  have hf' : fd = powM o t := hf
  subst hf'
  have ft : fit (o.map PyData.int).length = true := fit_of (by rw [List.length_map]; omega)
  have s0 : evS (run fs gl (n + 1)) gl (F71.body.nth 0) [some (.d (orderD o)), some (.d (.int t)), none, none, none, none] = some ([some (.d (orderD o)), some (.d (.int t)), some (.l (o.map PyData.int)), none, none, none], .nx) := by
    unfold orderD
    generalize (t : Int) = T
    generalize o.map PyData.int = O at ft ⊢
    simp [F71, Ss.nth, ft]
  have s1 : evS (run fs gl (n + 1)) gl (F71.body.nth 1) [some (.d (orderD o)), some (.d (.int t)), some (.l (o.map PyData.int)), none, none, none] = some ([some (.d (orderD o)), some (.d (.int t)), some (.l ((powM o t).map PyData.int)), w3, w4, w5], .nx) := by
    refine for_eq (s := .seq (.call 42 (.d (.var 0) .nil))) (ρ1 := [some (.d (orderD o)), some (.d (.int t)), some (.l (o.map PyData.int)), none, none, none]) (xs := (roundsM o).map orderD) ?_ el
    generalize (t : Int) = T
    generalize (roundsM o).map orderD = R at k1 ⊢
    generalize orderD o = O at k1 ⊢
    generalize o.map PyData.int = OO
    simp [k1]
  have s2 : evS (run fs gl (n + 1)) gl (F71.body.nth 2) [some (.d (orderD o)), some (.d (.int t)), some (.l ((powM o t).map PyData.int)), w3, w4, w5] = some ([some (.d (orderD o)), some (.d (.int t)), some (.l ((powM o t).map PyData.int)), w3, w4, w5], .rt (.d (orderD (powM o t)))) := by
    have e : orderD (powM o t) = .tuple ((powM o t).map PyData.int) := rfl
    rw [e]
    generalize (t : Int) = T
    generalize (powM o t).map PyData.int = P
    generalize orderD o = O
    simp [F71, Ss.nth]
  exact run_of h.h71 rfl ((evSs_nx s0).trans ((evSs_nx s1).trans (evSs_rt s2))) rfl
def farM (m : Nat) (E : List (List Int)) (t : Nat) : List (List Int) := E.map fun o => iterO m o t
theorem far_eff {m l : Int} (f : Frm m l) {E : List (List Int)} (e : Eff m l E) (t : Nat) : Eff m l (farM m.toNat E t) := by
  have m1 := f.m1
  refine ⟨by unfold farM; rw [List.length_map]; exact e.len, fun o ho => ?_⟩
  obtain ⟨x, hx, rfl⟩ := List.mem_map.mp ho
  exact iterO_ord (by omega) (e.all x hx) t
theorem far_ok (h : HasFar fs gl) {m l : Int} (f : Frm m l) {cs : List CT} (r : Row m l cs) (t : Nat) :
    run fs gl (n + 3) 156 [.d (frameD m l), .d (rowD cs), .d (.int t)] = some ([.d (frameD m l), .d (rowD cs), .d (.int t)], .d (effD (farM m.toNat (effM m.toNat l.toNat cs) t))) := by
  have m1 := f.m1
  have m2 := f.m2
  have l2 := f.l2
  have e := effM_ok f r
  have k1 := effect_ok (n := n) (gl := gl) h.h34 h.h35 h.h143 f r
  have le := e.len
  have all := e.all
  generalize effM m.toNat l.toNat cs = E at k1 e le all
  have k := loopC_map (vs := [3]) (tg := gT (.n 3)) (cd := gYes) (el := gd (evX (run fs gl (n + 2)) gl (.call 71 (.d (.var 3) (.d (.var 2) .nil))))) (ρ := [some (.d (frameD m l)), some (.d (rowD cs)), some (.d (.int t)), none])
    (fun d => orderD (iterO m.toNat (ordOf d) t)) (E.map orderD) [] (by rw [List.length_map]; simp; omega) (fun d hd => by
      obtain ⟨o, ho, rfl⟩ := List.mem_map.mp hd
      have k2 := power_ok (n := n) h (by omega) m2 (all o ho) t
      rw [pow_iter (by omega) m2 (all o ho)] at k2
      show turnC _ _ _ _ _ _ = some (_, some (orderD (iterO m.toNat (ordOf (orderD o)) t)))
      rw [ordOf_ord]
      generalize (t : Int) = T at k2 ⊢
      generalize orderD (iterO m.toNat o t) = OI at k2 ⊢
      generalize orderD o = OO at k2 ⊢
      generalize rowD cs = C
      generalize frameD m l = FD
      simp [k2])
  have e3 : (E.map orderD).map (fun d => orderD (iterO m.toNat (ordOf d) t)) = (farM m.toNat E t).map orderD := by
    unfold farM
    rw [List.map_map, List.map_map]
    refine List.map_congr_left fun o _ => ?_
    show orderD (iterO m.toNat (ordOf (orderD o)) t) = _
    rw [ordOf_ord]
    rfl
  rw [e3, List.nil_append] at k
  have k2 : evX (run fs gl (n + 2)) gl (.lc [3] (.seq (.call 143 (.d (.var 0) (.d (.var 1) .nil)))) (.n 3) .no (.call 71 (.d (.var 3) (.d (.var 2) .nil)))) [some (.d (frameD m l)), some (.d (rowD cs)), some (.d (.int t)), none] = some ([some (.d (frameD m l)), some (.d (rowD cs)), some (.d (.int t)), none], .l ((farM m.toNat E t).map orderD)) := by
    refine lc_eq (vs := [3]) (t := .n 3) (c := .no) (xs := E.map orderD) (ρ1 := [some (.d (frameD m l)), some (.d (rowD cs)), some (.d (.int t)), none]) ?_ k
    have ee : effD E = .tuple (E.map orderD) := rfl
    rw [ee] at k1
    generalize (t : Int) = T
    generalize E.map orderD = ED at k1 ⊢
    generalize rowD cs = C at k1 ⊢
    generalize frameD m l = FD at k1 ⊢
    simp [k1]
  exact run_of h.h156 rfl (evSs_rt (ret_x (tup_lc k2))) rfl
/-! ### the greatest divisor -/
theorem gcd_loop {a b : Nat} : ∀ (k : Nat), b ≤ k → ∀ (fuel : Nat), k < fuel → ∃ z : Int, whileF (evB (run fs gl n) gl (.cmp .Gt (.var 1) (.cst (.int 0)))) (evSs (run fs gl n) gl (F73.body.nth 0).inner) fuel [some (.d (.int a)), some (.d (.int b))] = some ([some (.d (.int (Nat.gcd a b : Nat))), some (.d (.int z))], .nx) := by
  intro k
  induction k generalizing a b with
  | zero =>
    intro hb fuel hf
    have : b = 0 := by omega
    subst this
    obtain ⟨fu, rfl⟩ : ∃ fu, fuel = fu + 1 := ⟨fuel - 1, by omega⟩
    refine ⟨0, ?_⟩
    rw [Nat.gcd_zero_right]
    refine whileF_stop ?_
    generalize (a : Int) = A
    show evB _ _ _ [some (.d (.int A)), some (.d (.int 0))] = some ([some (.d (.int A)), some (.d (.int 0))], false)
    simp
  | succ k ih =>
    intro hb fuel hf
    obtain ⟨fu, rfl⟩ : ∃ fu, fuel = fu + 1 := ⟨fuel - 1, by omega⟩
    by_cases z0 : b = 0
    · subst z0
      refine ⟨0, ?_⟩
      rw [Nat.gcd_zero_right]
      refine whileF_stop ?_
      generalize (a : Int) = A
      show evB _ _ _ [some (.d (.int A)), some (.d (.int 0))] = some ([some (.d (.int A)), some (.d (.int 0))], false)
      simp
    · have lt : a % b < b := Nat.mod_lt _ (by omega)
      obtain ⟨z, e⟩ := ih (a := b) (b := a % b) (by omega) fu (by omega)
      refine ⟨z, ?_⟩
      rw [Nat.gcd_comm, Nat.gcd_rec, Nat.gcd_comm, ← e]
      have em : ((a % b : Nat) : Int) = (a : Int) % (b : Int) := Int.natCast_emod a b
      rw [em]
      have bp : (0 : Int) < b := by omega
      refine whileF_step (ρ1 := [some (.d (.int a)), some (.d (.int b))]) ?_ ?_
      · generalize (a : Int) = A
        generalize (b : Int) = B at bp ⊢
        simp [bp]
      · generalize (a : Int) = A
        generalize (b : Int) = B at bp ⊢
        simp [F73, Ss.nth, bp]
theorem gcd_ok (h73 : fs 73 = some F73) {a b : Nat} (hb : b ≤ 1000) : run fs gl (n + 1) 73 [.d (.int a), .d (.int b)] = some ([.d (.int a), .d (.int b)], .d (.int (Nat.gcd a b : Nat))) := by
  obtain ⟨z, el⟩ := gcd_loop (fs := fs) (gl := gl) (n := n) (a := a) (b := b) b (Nat.le_refl _) 1000000 (by omega)
  have s0 : evS (run fs gl n) gl (F73.body.nth 0) [some (.d (.int a)), some (.d (.int b))] = some ([some (.d (.int (Nat.gcd a b : Nat))), some (.d (.int z))], .nx) := el
  have s1 : evS (run fs gl n) gl (F73.body.nth 1) [some (.d (.int (Nat.gcd a b : Nat))), some (.d (.int z))] = some ([some (.d (.int (Nat.gcd a b : Nat))), some (.d (.int z))], .rt (.d (.int (Nat.gcd a b : Nat)))) := by
    generalize ((Nat.gcd a b : Nat) : Int) = G
    simp [F73, Ss.nth]
  exact run_of h73 rfl ((evSs_nx s0).trans (evSs_rt s1)) rfl
/-! ### the round of a row -/
theorem lcm_turn_core {f g L q : Int} {r : D} (hlen : lenD [r] = some (.d (.int L))) (hL : L.natAbs < 18446744073709551616) (k : run fs gl n 73 [.d (.int f), .d (.int L)] = some ([.d (.int f), .d (.int L)], .d (.int g))) (g0 : 0 < g) (g1 : g.natAbs < 2 ^ 8000) (hq : f * L / g = q) {v0 v1 v3 v4 : Option Sl} :
    turnF (gT (.n 4)) (evSs (run fs gl n) gl (((F157.body.nth 2).inner).nth 0).inner) r [v0, v1, some (.d (.int f)), v3, v4] = some ([v0, v1, some (.d (.int q)), v3, some (.d r)], .nx) := by
  subst hq
  simp [F157, Ss.nth, hlen, hL, k, g0, g1, -lenD]
theorem lcm_turn (h73 : fs 73 = some F73) {f : Nat} (hf : 1 ≤ f) {r : List Int} (h1 : 1 ≤ r.length) (h5 : r.length ≤ 5) {v0 v1 v3 v4 : Option Sl} :
    turnF (gT (.n 4)) (evSs (run fs gl (n + 1)) gl (((F157.body.nth 2).inner).nth 0).inner) (orderD r) [v0, v1, some (.d (.int f)), v3, v4] = some ([v0, v1, some (.d (.int (Nat.lcm f r.length : Nat))), v3, some (.d (orderD r))], .nx) := by
  have k := gcd_ok (n := n) (gl := gl) h73 (a := f) (b := r.length) (by omega)
  have gp : 0 < Nat.gcd f r.length := Nat.gcd_pos_of_pos_left _ (by omega)
  have gl' : Nat.gcd f r.length ≤ r.length := Nat.le_of_dvd (by omega) (Nat.gcd_dvd_right _ _)
  have hlen : lenD [orderD r] = some (.d (.int (r.length : Int))) := by unfold orderD; simp
  refine lcm_turn_core hlen (by omega) k (by omega) (Nat.lt_trans (show ((Nat.gcd f r.length : Nat) : Int).natAbs < 2 ^ 60 by omega) (Nat.pow_lt_pow_right (by decide) (by decide))) ?_
  unfold Nat.lcm
  rw [Int.natCast_ediv, Int.natCast_mul]
theorem rnd_turn (h : HasFar fs gl) {m : Int} (h0 : 0 ≤ m) (h5 : m ≤ 5) {o : List Int} (ho : Ord m o) {f : Nat} (hf : 1 ≤ f) {v0 v1 v3 v4 : Option Sl} :
    ∃ w4, turnF (gT (.n 3)) (evSs (run fs gl (n + 1)) gl (F157.body.nth 2).inner) (orderD o) [v0, v1, some (.d (.int f)), v3, v4] = some ([v0, v1, some (.d (.int (rndR f o : Nat))), some (.d (orderD o)), w4], .nx) ∧ 1 ≤ rndR f o := by
  have k1 := rounds_ok (n := n) (gl := gl) h.h42 ho (by omega)
  have rr := rounds_rnd h0 h5 ho
  obtain ⟨ρ', el, w4, B, x, ex, rfl, hB, hx, h1⟩ := loopF_inv (tg := gT (.n 4)) (body := evSs (run fs gl (n + 1)) gl (((F157.body.nth 2).inner).nth 0).inner)
    (fun xs ρ => ∃ (w4 : Option Sl) (B : List (List Int)) (x : Nat), xs = B.map orderD ∧ ρ = [v0, v1, some (.d (.int x)), some (.d (orderD o)), w4] ∧ (∀ r ∈ B, Rnd m o r) ∧ B.foldl (fun f r => Nat.lcm f r.length) x = rndR f o ∧ 1 ≤ x)
    (fun d xs ρ ⟨w4, B, x, ex, eρ, hB, hx, h1⟩ => by
      subst eρ
      cases B with
      | nil => cases ex
      | cons r B =>
        rw [List.map_cons] at ex
        injection ex with e1 e2
        subst e1 e2
        have hr := hB r List.mem_cons_self
        have t := lcm_turn (fs := fs) (gl := gl) (n := n) h.h73 (f := x) h1 (r := r) hr.l1 hr.l5 (v0 := v0) (v1 := v1) (v3 := some (.d (orderD o))) (v4 := w4)
        exact ⟨_, t, _, B, _, rfl, rfl, fun y hy => hB y (List.mem_cons_of_mem _ hy), hx, Nat.lcm_pos (by omega) (by have := hr.l1; omega)⟩)
    ((roundsM o).map orderD) [v0, v1, some (.d (.int f)), some (.d (orderD o)), v4] ⟨v4, roundsM o, f, rfl, rfl, rr, rfl, hf⟩
  have hB2 : B = [] := by
    cases B with
    | nil => rfl
    | cons => cases ex
  subst hB2
  have hx' : x = rndR f o := hx
  subst hx'
  refine ⟨w4, ?_, h1⟩
  have s0 : evS (run fs gl (n + 1)) gl (((F157.body.nth 2).inner).nth 0) [v0, v1, some (.d (.int f)), some (.d (orderD o)), v4] = some ([v0, v1, some (.d (.int (rndR f o : Nat))), some (.d (orderD o)), w4], .nx) := by
    refine for_eq (s := .seq (.call 42 (.d (.var 3) .nil))) (ρ1 := [v0, v1, some (.d (.int f)), some (.d (orderD o)), v4]) (xs := (roundsM o).map orderD) ?_ el
    generalize (f : Int) = T
    generalize (roundsM o).map orderD = R at k1 ⊢
    generalize orderD o = O at k1 ⊢
    simp [k1]
  exact (evSs_nx s0).trans rfl
theorem round_of_ok (h : HasFar fs gl) {m l : Int} (f : Frm m l) {cs : List CT} (r : Row m l cs) (hl : cs.length ≤ 10000) :
    run fs gl (n + 6) 157 [.d (frameD m l), .d (rowD cs)] = some ([.d (frameD m l), .d (rowD cs)], .d (.int (rndM (effM m.toNat l.toNat cs) : Nat))) := by
  have m1 := f.m1
  have m2 := f.m2
  have k0 := need_row_ok (n := n) h.toHasRow f r hl
  have k1 := effect_ok (n := n + 3) (gl := gl) h.h34 h.h35 h.h143 f r
  have all := (effM_ok f r).all
  generalize effM m.toNat l.toNat cs = E at k1 all
  obtain ⟨ρ', el, w3, w4, B, x, ex, rfl, hB, hx, h1⟩ := loopF_inv (tg := gT (.n 3)) (body := evSs (run fs gl (n + 5)) gl (F157.body.nth 2).inner)
    (fun xs ρ => ∃ (w3 w4 : Option Sl) (B : List (List Int)) (x : Nat), xs = B.map orderD ∧ ρ = [some (.d (frameD m l)), some (.d (rowD cs)), some (.d (.int x)), w3, w4] ∧ (∀ r ∈ B, Ord m r) ∧ B.foldl rndR x = rndM E ∧ 1 ≤ x)
    (fun d xs ρ ⟨w3, w4, B, x, ex, eρ, hB, hx, h1⟩ => by
      subst eρ
      cases B with
      | nil => cases ex
      | cons o B =>
        rw [List.map_cons] at ex
        injection ex with e1 e2
        subst e1 e2
        obtain ⟨w4', t, h2⟩ := rnd_turn (n := n + 4) h (by omega) m2 (hB o List.mem_cons_self) h1 (v0 := some (.d (frameD m l))) (v1 := some (.d (rowD cs))) (v3 := w3) (v4 := w4)
        exact ⟨_, t, _, _, B, _, rfl, rfl, fun y hy => hB y (List.mem_cons_of_mem _ hy), hx, h2⟩)
    (E.map orderD) [some (.d (frameD m l)), some (.d (rowD cs)), some (.d (.int ((1 : Nat) : Int))), none, none] ⟨none, none, E, 1, rfl, rfl, all, rfl, Nat.le_refl _⟩
  have hB2 : B = [] := by
    cases B with
    | nil => rfl
    | cons => cases ex
  subst hB2
  have hx' : x = rndM E := hx
  subst hx'
  have ee : effD E = .tuple (E.map orderD) := rfl
  rw [ee] at k1
  have s0 : evS (run fs gl (n + 5)) gl (F157.body.nth 0) [some (.d (frameD m l)), some (.d (rowD cs)), none, none, none] = some ([some (.d (frameD m l)), some (.d (rowD cs)), none, none, none], .nx) := by
    generalize rowD cs = C at k0 ⊢
    generalize frameD m l = FD at k0 ⊢
    simp [F157, Ss.nth, k0]
  have s1 : evS (run fs gl (n + 5)) gl (F157.body.nth 1) [some (.d (frameD m l)), some (.d (rowD cs)), none, none, none] = some ([some (.d (frameD m l)), some (.d (rowD cs)), some (.d (.int ((1 : Nat) : Int))), none, none], .nx) := by
    show _ = some ([some (Sl.d (frameD m l)), some (Sl.d (rowD cs)), some (Sl.d (.int 1)), none, none], Fl.nx)
    generalize rowD cs = C
    generalize frameD m l = FD
    simp [F157, Ss.nth]
  have s2 : evS (run fs gl (n + 5)) gl (F157.body.nth 2) [some (.d (frameD m l)), some (.d (rowD cs)), some (.d (.int ((1 : Nat) : Int))), none, none] = some ([some (.d (frameD m l)), some (.d (rowD cs)), some (.d (.int (rndM E : Nat))), w3, w4], .nx) := by
    refine for_eq (s := .seq (.call 143 (.d (.var 0) (.d (.var 1) .nil)))) (ρ1 := [some (.d (frameD m l)), some (.d (rowD cs)), some (.d (.int ((1 : Nat) : Int))), none, none]) (xs := E.map orderD) ?_ el
    generalize ((1 : Nat) : Int) = ONE
    generalize E.map orderD = ED at k1 ⊢
    generalize rowD cs = C at k1 ⊢
    generalize frameD m l = FD at k1 ⊢
    simp [k1]
  have s3 : evS (run fs gl (n + 5)) gl (F157.body.nth 3) [some (.d (frameD m l)), some (.d (rowD cs)), some (.d (.int (rndM E : Nat))), w3, w4] = some ([some (.d (frameD m l)), some (.d (rowD cs)), some (.d (.int (rndM E : Nat))), w3, w4], .rt (.d (.int (rndM E : Nat)))) := by
    generalize ((rndM E : Nat) : Int) = X
    generalize rowD cs = C
    generalize frameD m l = FD
    simp [F157, Ss.nth]
  exact run_of h.h157 rfl ((evSs_nx s0).trans ((evSs_nx s1).trans ((evSs_nx s2).trans (evSs_rt s3)))) rfl
end DL

namespace DL
open PySem PySem.Spec L2
open PyProof.Rows hiding St
variable {fs : Nat → Option Fn} {gl : Nat → Option D} {n : Nat}
/-- _law_board -/
def F77 : Fn := ⟨2, [0], 6, (.cons (.set 2 false (.sli (.cst (.str "abcdefghijklmnopqrstuvwxyz")) .no (.so (.idx (.lst (.cons (.cst (.int 1)) (.cons (.cst (.int 2)) (.cons (.cst (.int 3)) (.cons (.cst (.int 26)) .nil))))) (.call 53 (.s 0 (.d (.cst (.int 4)) .nil)))))))
 (.cons (.set 3 true (.lst .nil))
 (.cons (.for (.rng (.idx (.var 1) (.cst (.int 0)))) (.n 4) (.cons (.expr (.app 3 (.meth .join (.cst (.str "")) (.cons (.lc [5] (.rng (.idx (.var 1) (.cst (.int 1)))) (.n 5) .no (.call 54 (.s 0 (.d (.var 2) .nil)))) .nil))))
 .nil))
 (.cons (.ret (.tupV 3))
 .nil))))⟩
/-- _law_called -/
def F78 : Fn := ⟨2, [], 6, (.cons (.set 2 true (.lst .nil))
 (.cons (.for (.seq (.var 0)) (.t (.cons (.n 3) (.cons (.n 4) (.cons (.n 5) .nil)))) (.cons (.expr (.app 2 (.tup (.cons (.var 3) (.cons (.blt .min (.cons (.idx (.var 1) (.var 4)) (.cons (.idx (.var 1) (.var 5)) .nil))) (.cons (.blt .max (.cons (.idx (.var 1) (.var 4)) (.cons (.idx (.var 1) (.var 5)) .nil))) .nil))))))
 .nil))
 (.cons (.ret (.tupV 2))
 .nil)))⟩
/-- _law_board_called -/
def F79 : Fn := ⟨2, [], 5, (.cons (.set 2 true (.bin .Mult (.lst (.cons (.cst .none) .nil)) (.blt .len (.cons (.var 0) .nil))))
 (.cons (.for (.enL (.var 0)) (.t (.cons (.n 3) (.cons (.n 4) .nil))) (.cons (.asg (.ix 2 (.idx (.var 1) (.var 3))) (.var 4))
 .nil))
 (.cons (.ret (.tupV 2))
 .nil)))⟩
theorem led68_ok (h : HasBoard fs gl) (he : HasEff fs gl) (h68 : fs 68 = some F68) {m l : Int} (f : Frm m l) {B : List (List Nat)} (b : Brd m l B) {E : List (List Int)} (e : Eff m l E) :
    run fs gl (n + 6) 68 [.d (boardD B), .d (effD E)] = some ([.d (boardD B), .d (effD E)], .d (boardD (ledM m.toNat l.toNat B E))) := by
  have k0 := need_board_ok (n := n + 2) h f b
  have k1 := frame_by_ok (n := n + 4) h f b
  have k2 := need_effect_ok (n := n) he f e
  have k3 := led_by_ok (n := n + 3) h f b e
  rw [run_step h68]
  generalize boardD (ledM m.toNat l.toNat B E) = L at k3 ⊢
  generalize boardD B = BD at k0 k1 k3 ⊢
  generalize effD E = ED at k2 k3 ⊢
  generalize frameD m l = FD at k1 k2
  simp [F68, k0, k1, k2, k3]
theorem led_brd {m l : Int} (f : Frm m l) {B : List (List Nat)} (b : Brd m l B) {E : List (List Int)} (e : Eff m l E) : Brd m l (ledM m.toNat l.toNat B E) := by
  have m1 := f.m1
  have l1 := f.l1
  have lb := b.len
  refine ⟨by unfold ledM; rw [List.length_map, List.length_range]; omega, fun s hs => ?_, fun s hs c hc => ?_⟩
  · obtain ⟨r, _, rfl⟩ := List.mem_map.mp hs
    rw [List.length_map, List.length_range]
    omega
  · obtain ⟨r, hr, rfl⟩ := List.mem_map.mp hs
    obtain ⟨q, hq, rfl⟩ := List.mem_map.mp hc
    rw [List.mem_range] at hr hq
    have rg := col_rng e (q := q) (b := r) (by omega) (by omega)
    have h1 : (colX E r q).toNat < B.length := by omega
    have ls := b.lens _ (List.getElem_mem h1)
    have h2 : q < (B[(colX E r q).toNat]).length := by omega
    have e1 : (B.getD (colX E r q).toNat []).getD q 0 = B[(colX E r q).toNat][q] := by simp [List.getD, h1, h2]
    rw [e1]
    exact b.lets _ (List.getElem_mem h1) _ (List.getElem_mem h2)
/-! ### the round from a board -/
def backM (m l : Nat) (B : List (List Nat)) (E : List (List Int)) (t : Nat) : Prop := ledM m l B (farM m E t) = B
abbrev C158 : E := .cmp .NotEq (.call 67 (.d (.var 0) (.d (.call 156 (.d (.call 66 (.d (.var 0) .nil)) (.d (.var 1) (.d (.var 2) .nil)))) .nil))) (.var 0)
abbrev B158 : Ss := (F158.body.nth 3).inner
theorem rf_cond (h : HasFar fs gl) {m l : Int} (f : Frm m l) {B : List (List Nat)} (b : Brd m l B) {cs : List CT} (r : Row m l cs) (s : Nat) :
    evB (run fs gl (n + 3)) gl C158 [some (.d (boardD B)), some (.d (rowD cs)), some (.d (.int s))] = some ([some (.d (boardD B)), some (.d (rowD cs)), some (.d (.int s))], decide (ledM m.toNat l.toNat B (farM m.toNat (effM m.toNat l.toNat cs) s) ≠ B)) := by
  have k1 := frame_by_ok (n := n + 2) h.toHasBoard f b
  have k2 := far_ok (n := n) h f r s
  have k3 := led_by_ok (n := n + 1) h.toHasBoard f b (far_eff f (effM_ok f r) s)
  have q := ne_board (ledM m.toNat l.toNat B (farM m.toNat (effM m.toNat l.toNat cs) s)) B
  generalize (s : Int) = S at k2 ⊢
  generalize decide (ledM m.toNat l.toNat B (farM m.toNat (effM m.toNat l.toNat cs) s) ≠ B) = bb at q ⊢
  generalize boardD (ledM m.toNat l.toNat B (farM m.toNat (effM m.toNat l.toNat cs) s)) = L at k3 q
  generalize effD (farM m.toNat (effM m.toNat l.toNat cs) s) = ED at k2 k3
  generalize boardD B = BD at k1 k3 q ⊢
  generalize rowD cs = C at k2 ⊢
  generalize frameD m l = FD at k1 k2
  simp [k1, k2, k3, q, -neD]
theorem rf_loop (h : HasFar fs gl) {m l : Int} (f : Frm m l) {B : List (List Nat)} (b : Brd m l B) {cs : List CT} (r : Row m l cs) {t : Nat} (ht : backM m.toNat l.toNat B (effM m.toNat l.toNat cs) t) (hl : ∀ s, 1 ≤ s → s < t → ¬ backM m.toNat l.toNat B (effM m.toNat l.toNat cs) s) :
    ∀ (k s : Nat), 1 ≤ s → s + k = t → ∀ fuel, k < fuel → whileF (evB (run fs gl (n + 3)) gl C158) (evSs (run fs gl (n + 3)) gl B158) fuel [some (.d (boardD B)), some (.d (rowD cs)), some (.d (.int s))] = some ([some (.d (boardD B)), some (.d (rowD cs)), some (.d (.int t))], .nx)
  | 0, s, hs, hk, fuel, hf => by
    obtain ⟨fu, rfl⟩ : ∃ fu, fuel = fu + 1 := ⟨fuel - 1, by omega⟩
    have : s = t := by omega
    subst this
    have c := rf_cond (n := n) h f b r s
    rw [decide_eq_false (fun z => z ht)] at c
    exact whileF_stop c
  | k + 1, s, hs, hk, fuel, hf => by
    obtain ⟨fu, rfl⟩ : ∃ fu, fuel = fu + 1 := ⟨fuel - 1, by omega⟩
    have c := rf_cond (n := n) h f b r s
    have nb : ledM m.toNat l.toNat B (farM m.toNat (effM m.toNat l.toNat cs) s) ≠ B := fun z => hl s hs (by omega) z
    rw [decide_eq_true nb] at c
    rw [← rf_loop h f b r ht hl k (s + 1) (by omega) (by omega) fu (by omega)]
    refine whileF_step c ?_
    rw [show ((s + 1 : Nat) : Int) = (s : Int) + 1 by omega]
    generalize (s : Int) = S
    generalize boardD B = BD
    generalize rowD cs = C
    simp [B158, F158, Ss.nth]
theorem round_from_ok (h : HasFar fs gl) {m l : Int} (f : Frm m l) {B : List (List Nat)} (b : Brd m l B) {cs : List CT} (r : Row m l cs) (hl : cs.length ≤ 10000) {t : Nat} (t1 : 1 ≤ t) (t2 : t ≤ 60) (ht : backM m.toNat l.toNat B (effM m.toNat l.toNat cs) t) (hlt : ∀ s, 1 ≤ s → s < t → ¬ backM m.toNat l.toNat B (effM m.toNat l.toNat cs) s) :
    run fs gl (n + 6) 158 [.d (boardD B), .d (rowD cs)] = some ([.d (boardD B), .d (rowD cs)], .d (.int t)) := by
  have k0 := need_board_ok (n := n + 2) h.toHasBoard f b
  have k1 := frame_by_ok (n := n + 4) h.toHasBoard f b
  have k2 := need_row_ok (n := n) h.toHasRow f r hl
  have el := rf_loop (n := n + 2) h f b r ht hlt (t - 1) 1 (Nat.le_refl _) (by omega) 1000000 (by omega)
  have s0 : evS (run fs gl (n + 5)) gl (F158.body.nth 0) [some (.d (boardD B)), some (.d (rowD cs)), none] = some ([some (.d (boardD B)), some (.d (rowD cs)), none], .nx) := by
    generalize boardD B = BD at k0 ⊢
    generalize rowD cs = C
    simp [F158, Ss.nth, k0]
  have s1 : evS (run fs gl (n + 5)) gl (F158.body.nth 1) [some (.d (boardD B)), some (.d (rowD cs)), none] = some ([some (.d (boardD B)), some (.d (rowD cs)), none], .nx) := by
    generalize boardD B = BD at k1 ⊢
    generalize rowD cs = C at k2 ⊢
    generalize frameD m l = FD at k1 k2
    simp [F158, Ss.nth, k1, k2]
  have s2 : evS (run fs gl (n + 5)) gl (F158.body.nth 2) [some (.d (boardD B)), some (.d (rowD cs)), none] = some ([some (.d (boardD B)), some (.d (rowD cs)), some (.d (.int ((1 : Nat) : Int)))], .nx) := by
    show _ = some ([some (Sl.d (boardD B)), some (Sl.d (rowD cs)), some (Sl.d (.int 1))], Fl.nx)
    generalize boardD B = BD
    generalize rowD cs = C
    simp [F158, Ss.nth]
  have s3 : evS (run fs gl (n + 5)) gl (F158.body.nth 3) [some (.d (boardD B)), some (.d (rowD cs)), some (.d (.int ((1 : Nat) : Int)))] = some ([some (.d (boardD B)), some (.d (rowD cs)), some (.d (.int t))], .nx) := el
  have s4 : evS (run fs gl (n + 5)) gl (F158.body.nth 4) [some (.d (boardD B)), some (.d (rowD cs)), some (.d (.int t))] = some ([some (.d (boardD B)), some (.d (rowD cs)), some (.d (.int t))], .rt (.d (.int t))) := by
    generalize (t : Int) = T
    generalize boardD B = BD
    generalize rowD cs = C
    simp [F158, Ss.nth]
  exact run_of h.h158 rfl ((evSs_nx s0).trans ((evSs_nx s1).trans ((evSs_nx s2).trans ((evSs_nx s3).trans (evSs_rt s4))))) rfl
theorem far_sixty {m l : Int} (f : Frm m l) {E : List (List Int)} (e : Eff m l E) : farM m.toNat E 60 = effM m.toNat l.toNat [] := by
  have m1 := f.m1
  have le := e.len
  show E.map _ = List.replicate l.toNat (iota m.toNat)
  rw [show l.toNat = E.length by omega]
  have all := e.all
  clear le e
  induction E with
  | nil => rfl
  | cons o E ih =>
    rw [List.map_cons, iter_sixty (by omega) f.m2 (all o List.mem_cons_self), ih fun x hx => all x (List.mem_cons_of_mem _ hx)]
    rfl
theorem led_none {m l : Int} (f : Frm m l) {B : List (List Nat)} (b : Brd m l B) : ledM m.toNat l.toNat B (effM m.toNat l.toNat []) = B := by
  have m1 := f.m1
  have l1 := f.l1
  have lb := b.len
  apply List.ext_getElem
  · unfold ledM
    rw [List.length_map, List.length_range]
    omega
  · intro r h1 h2
    have ls := b.lens _ (List.getElem_mem h2)
    have er : (ledM m.toNat l.toNat B (effM m.toNat l.toNat []))[r] = (List.range l.toNat).map fun q => (B.getD (colX (effM m.toNat l.toNat []) r q).toNat []).getD q 0 := by
      simp [ledM]
    rw [er]
    apply List.ext_getElem
    · rw [List.length_map, List.length_range]
      omega
    · intro q g1 g2
      rw [List.length_map, List.length_range] at g1
      rw [List.getElem_map, List.getElem_range]
      have ec : colX (effM m.toNat l.toNat []) r q = r := by
        unfold colX
        have e0 : (effM m.toNat l.toNat []).getD q [] = iota m.toNat := by
          show (List.replicate l.toNat (iota m.toNat)).getD q [] = _
          have : q < l.toNat := by omega
          simp [List.getD, this]
        rw [e0, at_iota (by omega)]
      rw [ec]
      simp [List.getD, h2, g2]
theorem rf_exists {m l : Int} (f : Frm m l) {B : List (List Nat)} (b : Brd m l B) {E : List (List Int)} (e : Eff m l E) : ∃ t, 1 ≤ t ∧ t ≤ 60 ∧ backM m.toNat l.toNat B E t ∧ ∀ s, 1 ≤ s → s < t → ¬ backM m.toNat l.toNat B E s := by
  have k60 : backM m.toNat l.toNat B E 60 := by
    unfold backM
    rw [far_sixty f e, led_none f b]
  rcases least_of (P := fun q => 1 ≤ q ∧ backM m.toNat l.toNat B E q) 61 with h | ⟨q, hq, ⟨q1, hb⟩, hl⟩
  · exact absurd ⟨by omega, k60⟩ (h 60 (by omega))
  · exact ⟨q, q1, by omega, hb, fun s s1 s2 hs => hl s s2 ⟨s1, hs⟩⟩
/-! ### boards by other numbers -/
def callB (g : List Int) (B : List (List Nat)) : List (List Nat) := (List.range B.length).map fun (i : Nat) => B.getD (g.idxOf (i : Int)) []
theorem callB_len (g : List Int) (B : List (List Nat)) : (callB g B).length = B.length := by
  unfold callB
  rw [List.length_map, List.length_range]
theorem callB_at {m : Int} {g : List Int} (hg : Ord m g) {B : List (List Nat)} (lb : (B.length : Int) = m) {r : Nat} (hr : (r : Int) < m) : (callB g B).getD (g.getD r 0).toNat [] = B.getD r [] := by
  have rg := getD_rng hg hr
  have h1 : (g.getD r 0).toNat < B.length := by omega
  unfold callB
  have e : ((List.range B.length).map fun (i : Nat) => B.getD (g.idxOf (i : Int)) []).getD (g.getD r 0).toNat [] = B.getD (g.idxOf (((g.getD r 0).toNat : Nat) : Int)) [] := by
    rw [List.getD_eq_getElem?_getD, List.getElem?_map, List.getElem?_range h1]
    rfl
  rw [e, Int.toNat_of_nonneg rg.1, idx_at hg hr]
theorem call_sur {m : Int} {g : List Int} (hg : Ord m g) {i : Nat} (hi : (i : Int) < m) : ∃ r : Nat, (r : Int) < m ∧ (g.getD r 0).toNat = i := by
  have lg := hg.len
  have h1 := hg.idx hi
  refine ⟨g.idxOf (i : Int), by omega, ?_⟩
  have : g.getD (g.idxOf (i : Int)) 0 = (i : Int) := by
    rw [List.getD_eq_getElem?_getD, List.getElem?_eq_getElem h1, List.getElem_idxOf]
    rfl
  rw [this, Int.toNat_natCast]
theorem call_ext {m : Int} {g : List Int} (hg : Ord m g) {X Y : List (List Nat)} (lx : (X.length : Int) = m) (ly : (Y.length : Int) = m) (h : ∀ r : Nat, (r : Int) < m → X.getD (g.getD r 0).toNat [] = Y.getD (g.getD r 0).toNat []) : X = Y := by
  apply List.ext_getElem
  · omega
  · intro i h1 h2
    obtain ⟨r, hr, e⟩ := call_sur hg (i := i) (by omega)
    have k := h r hr
    rw [e] at k
    simpa [List.getD, h1, h2] using k
theorem callB_inj {m : Int} {g : List Int} (hg : Ord m g) {X Y : List (List Nat)} (lx : (X.length : Int) = m) (ly : (Y.length : Int) = m) (h : callB g X = callB g Y) : X = Y := by
  apply List.ext_getElem
  · omega
  · intro i h1 h2
    have k1 := callB_at hg lx (r := i) (by omega)
    have k2 := callB_at hg ly (r := i) (by omega)
    rw [h, k2] at k1
    simpa [List.getD, h1, h2] using k1.symm
theorem callB_brd {m l : Int} {g : List Int} (hg : Ord m g) {B : List (List Nat)} (b : Brd m l B) : Brd m l (callB g B) := by
  have lb := b.len
  have lg := hg.len
  have key : ∀ s ∈ callB g B, s ∈ B := fun s hs => by
    obtain ⟨i, hi, rfl⟩ := List.mem_map.mp hs
    rw [List.mem_range] at hi
    have h1 := hg.idx (r := i) (by omega)
    have h2 : g.idxOf (i : Int) < B.length := by omega
    have e : B.getD (g.idxOf (i : Int)) [] = B[g.idxOf (i : Int)] := by simp [List.getD, h2]
    rw [e]
    exact List.getElem_mem h2
  exact ⟨by rw [callB_len]; exact lb, fun s hs => b.lens s (key s hs), fun s hs => b.lets s (key s hs)⟩
theorem col_conj {m l : Int} {g : List Int} (hg : Ord m g) {E : List (List Int)} (e : Eff m l E) {q r : Nat} (hq : (q : Int) < l) (hr : (r : Int) < m) : colX (E.map (conj g)) (g.getD r 0).toNat q = g.getD (colX E r q).toNat 0 := by
  have le := e.len
  have h1 : q < E.length := by omega
  have ho := e.all _ (List.getElem_mem h1)
  have lo := ho.len
  have lg := hg.len
  unfold colX
  have e1 : (E.map (conj g)).getD q [] = conj g E[q] := by simp [List.getD, h1]
  have e2 : E.getD q [] = E[q] := by simp [List.getD, h1]
  rw [e1, e2]
  have k : (comp (conj g E[q]) g).getD r 0 = (comp g E[q]).getD r 0 := by rw [conj_comp hg ho]
  rw [comp_at (by omega), comp_at (by omega)] at k
  exact k
theorem led_call {m l : Int} (f : Frm m l) {g : List Int} (hg : Ord m g) {B : List (List Nat)} (b : Brd m l B) {E : List (List Int)} (e : Eff m l E) : ledM m.toNat l.toNat (callB g B) (E.map (conj g)) = callB g (ledM m.toNat l.toNat B E) := by
  have m1 := f.m1
  have l1 := f.l1
  have lb := b.len
  have ll : ((ledM m.toNat l.toNat B E).length : Int) = m := (led_brd f b e).len
  refine call_ext hg ?_ (by rw [callB_len]; exact ll) fun r hr => ?_
  · unfold ledM
    rw [List.length_map, List.length_range]
    omega
  · rw [callB_at hg ll hr]
    have rg := getD_rng hg hr
    have e1 : (ledM m.toNat l.toNat (callB g B) (E.map (conj g))).getD (g.getD r 0).toNat [] = (List.range l.toNat).map fun q => ((callB g B).getD (colX (E.map (conj g)) (g.getD r 0).toNat q).toNat []).getD q 0 := by
      unfold ledM
      rw [List.getD_eq_getElem?_getD, List.getElem?_map, List.getElem?_range (by omega)]
      rfl
    have e2 : (ledM m.toNat l.toNat B E).getD r [] = (List.range l.toNat).map fun q => (B.getD (colX E r q).toNat []).getD q 0 := by
      unfold ledM
      rw [List.getD_eq_getElem?_getD, List.getElem?_map, List.getElem?_range (by omega)]
      rfl
    rw [e1, e2]
    refine List.map_congr_left fun q hq => ?_
    rw [List.mem_range] at hq
    have cr := col_rng e (q := q) (b := r) (by omega) hr
    rw [col_conj hg e (by omega) hr, callB_at hg lb (by omega)]
theorem far_call {m l : Int} (f : Frm m l) {g : List Int} (hg : Ord m g) {E : List (List Int)} (e : Eff m l E) (t : Nat) : farM m.toNat (E.map (conj g)) t = (farM m.toNat E t).map (conj g) := by
  have m1 := f.m1
  unfold farM
  rw [List.map_map, List.map_map]
  refine List.map_congr_left fun o ho => ?_
  exact conj_iter (by omega) f.m2 hg (e.all o ho) t
theorem back_call {m l : Int} (f : Frm m l) {g : List Int} (hg : Ord m g) {B : List (List Nat)} (b : Brd m l B) {E : List (List Int)} (e : Eff m l E) (t : Nat) : backM m.toNat l.toNat (callB g B) (E.map (conj g)) t ↔ backM m.toNat l.toNat B E t := by
  unfold backM
  rw [far_call f hg e, led_call f hg b (far_eff f e t)]
  constructor
  · intro h
    exact callB_inj hg (led_brd f b (far_eff f e t)).len b.len h
  · intro h
    rw [h]
theorem few_call {m l : Int} (f : Frm m l) {g : List Int} (hg : Ord m g) {E : List (List Int)} (e : Eff m l E) : fewM m.toNat (E.map (conj g)) = fewM m.toNat E := by
  have m1 := f.m1
  have k := few_conj (by omega) f.m2 hg E (iota m.toNat) (iota_ord (by omega)) e.all
  rw [conj_iota (by omega) hg] at k
  rw [fewM_L, fewM_L]
  exact k
theorem conj_eff {m l : Int} {g : List Int} (hg : Ord m g) {E : List (List Int)} (e : Eff m l E) : Eff m l (E.map (conj g)) :=
  ⟨by rw [List.length_map]; exact e.len, fun o ho => by
    obtain ⟨x, hx, rfl⟩ := List.mem_map.mp ho
    exact conj_ord hg (e.all x hx)⟩
end DL

namespace DL
open PySem PySem.Spec L2
open PyProof.Rows hiding St
variable {fs : Nat → Option Fn} {gl : Nat → Option D} {n : Nat}
theorem ord_at14 {m : Int} {a : List Int} (ha : Ord m a) {x : Int} (x0 : 0 ≤ x) (x1 : x < m) : atD (a.map PyData.int) x = some (.int (a.getD x.toNat 0)) := by
  have la := ha.len
  unfold atD
  have e : ixD (a.map PyData.int).length x = some x.toNat := by
    unfold ixD
    rw [List.length_map, if_pos x0, if_pos (by omega)]
  rw [e]
  show (a.map PyData.int)[x.toNat]? = _
  have hx : x.toNat < a.length := by omega
  rw [List.getElem?_map, List.getElem?_eq_getElem hx, List.getD_eq_getElem?_getD, List.getElem?_eq_getElem hx]
  rfl
/-! ### rows called -/
theorem called_turn14 {g : List D} {p a b x y : Int} (ha : atD g a = some (.int x)) (hb : atD g b = some (.int y)) {fd : List D} (hf : fd.length < 16777216) {v0 v3 v4 v5 : Option Sl} :
    turnF (gT (.t (.cons (.n 3) (.cons (.n 4) (.cons (.n 5) .nil))))) (evSs (run fs gl n) gl (F78.body.nth 1).inner) (.tuple [.int p, .int a, .int b]) [v0, some (.d (.list g)), some (.l fd), v3, v4, v5] =
      some ([v0, some (.d (.list g)), some (.l (fd ++ [.tuple [.int p, .int (min x y), .int (max x y)]])), some (.d (.int p)), some (.d (.int a)), some (.d (.int b))], .nx) := by
  have z3 : (3 : Nat) ≤ sizeLine := by rw [sizeLine_eq]; decide
  have e1 : min x y = if y < x then y else x := by split <;> omega
  have e2 : max x y = if x < y then y else x := by split <;> omega
  rw [e1, e2]
  simp [F78, Ss.nth, ha, hb, z3, hf]
theorem called78_ok (h78 : fs 78 = some F78) {m l : Int} {g : List Int} (hg : Ord m g) {cs : List CT} (r : Row m l cs) (hl : cs.length ≤ 1000) :
    run fs gl (n + 1) 78 [.d (rowD cs), .d (.list (g.map PyData.int))] = some ([.d (rowD cs), .d (.list (g.map PyData.int))], .d (rowD (cs.map (callC g)))) := by
  obtain ⟨ρ', el, w3, w4, w5, A, B, ex, rfl, hA, hAB, hc⟩ := loopF_inv (tg := gT (.t (.cons (.n 3) (.cons (.n 4) (.cons (.n 5) .nil))))) (body := evSs (run fs gl n) gl (F78.body.nth 1).inner)
    (fun xs ρ => ∃ (w3 w4 w5 : Option Sl) (A B : List CT), xs = A.map cutOf ∧ ρ = [some (.d (rowD cs)), some (.d (.list (g.map PyData.int))), some (.l (B.map cutOf)), w3, w4, w5] ∧ Row m l A ∧ B ++ A.map (callC g) = cs.map (callC g) ∧ A.length + B.length ≤ 1000)
    (fun d xs ρ ⟨w3, w4, w5, A, B, ex, eρ, hA, hAB, hc⟩ => by
      subst eρ
      cases A with
      | nil => cases ex
      | cons c A =>
        rw [List.map_cons] at ex
        injection ex with e1 e2
        subst e1 e2
        rw [List.length_cons] at hc
        obtain ⟨p1, p2, a1, ab, b2⟩ := hA c List.mem_cons_self
        have at1 := ord_at14 hg (x := c.2.1) a1 (by omega)
        have at2 := ord_at14 hg (x := c.2.2) (by omega) (by omega)
        have t := called_turn14 (fs := fs) (gl := gl) (n := n) (p := c.1) at1 at2 (fd := B.map cutOf) (by rw [List.length_map]; omega) (v0 := some (.d (rowD cs))) (v3 := w3) (v4 := w4) (v5 := w5)
        refine ⟨_, t, some (.d (.int c.1)), some (.d (.int c.2.1)), some (.d (.int c.2.2)), A, B ++ [callC g c], rfl, ?_, fun x hx => hA x (List.mem_cons_of_mem _ hx), by rw [← hAB]; simp, by rw [List.length_append]; show A.length + (B.length + 1) ≤ _; omega⟩
        rw [List.map_append]
        rfl)
    (cs.map cutOf) [some (.d (rowD cs)), some (.d (.list (g.map PyData.int))), some (.l []), none, none, none] ⟨none, none, none, cs, [], rfl, rfl, r, rfl, by simp; omega⟩
  have hA2 : A = [] := by
    cases A with
    | nil => rfl
    | cons => cases ex
  subst hA2
  have hB : B = cs.map (callC g) := by simpa using hAB
  subst hB
  have s0 : evS (run fs gl n) gl (F78.body.nth 0) [some (.d (rowD cs)), some (.d (.list (g.map PyData.int))), none, none, none, none] = some ([some (.d (rowD cs)), some (.d (.list (g.map PyData.int))), some (.l []), none, none, none], .nx) := by
    generalize rowD cs = C
    generalize g.map PyData.int = G
    simp [F78, Ss.nth]
  have s1 : evS (run fs gl n) gl (F78.body.nth 1) [some (.d (rowD cs)), some (.d (.list (g.map PyData.int))), some (.l []), none, none, none] = some ([some (.d (rowD cs)), some (.d (.list (g.map PyData.int))), some (.l ((cs.map (callC g)).map cutOf)), w3, w4, w5], .nx) := by
    refine for_eq (s := .seq (.var 0)) (ρ1 := [some (.d (rowD cs)), some (.d (.list (g.map PyData.int))), some (.l []), none, none, none]) ?_ el
    unfold rowD
    generalize cs.map cutOf = C
    generalize g.map PyData.int = G
    simp
  have s2 : evS (run fs gl n) gl (F78.body.nth 2) [some (.d (rowD cs)), some (.d (.list (g.map PyData.int))), some (.l ((cs.map (callC g)).map cutOf)), w3, w4, w5] = some ([some (.d (rowD cs)), some (.d (.list (g.map PyData.int))), some (.l ((cs.map (callC g)).map cutOf)), w3, w4, w5], .rt (.d (rowD (cs.map (callC g))))) := by
    have e : rowD (cs.map (callC g)) = .tuple ((cs.map (callC g)).map cutOf) := rfl
    rw [e]
    generalize (cs.map (callC g)).map cutOf = CC
    generalize rowD cs = C
    generalize g.map PyData.int = G
    simp [F78, Ss.nth]
  exact run_of h78 rfl ((evSs_nx s0).trans ((evSs_nx s1).trans (evSs_rt s2))) rfl
/-! ### boards called -/
def putS2 (fd : List D) (ps : List (Nat × D)) : List D := ps.foldl (fun fd p => fd.set p.1 p.2) fd
theorem putS2_len : ∀ (ps : List (Nat × D)) (fd : List D), (putS2 fd ps).length = fd.length
  | [], fd => rfl
  | p :: ps, fd => by
    show (putS2 (fd.set p.1 p.2) ps).length = _
    rw [putS2_len ps, List.length_set]
theorem putS2_out : ∀ (ps : List (Nat × D)) (fd : List D) (k : Nat), k ∉ ps.map (·.1) → (putS2 fd ps)[k]? = fd[k]?
  | [], fd, k, _ => rfl
  | p :: ps, fd, k, h => by
    rw [List.map_cons, List.mem_cons, not_or] at h
    show (putS2 (fd.set p.1 p.2) ps)[k]? = _
    rw [putS2_out ps _ k h.2, List.getElem?_set_ne (fun z => h.1 z.symm)]
theorem putS2_in : ∀ (ps : List (Nat × D)) (fd : List D) (k : Nat) (v : D), (ps.map (·.1)).Nodup → (k, v) ∈ ps → k < fd.length → (putS2 fd ps)[k]? = some v
  | [], fd, k, v, _, h, _ => by cases h
  | p :: ps, fd, k, v, nd, h, hk => by
    rw [List.map_cons, List.nodup_cons] at nd
    show (putS2 (fd.set p.1 p.2) ps)[k]? = _
    rcases List.mem_cons.mp h with z | z
    · subst z
      rw [putS2_out ps _ _ nd.1, List.getElem?_set_self hk]
    · exact putS2_in ps _ k v nd.2 z (by rw [List.length_set]; exact hk)
def namesP (g : List Int) (B : List (List Nat)) : List (Nat × D) := (List.range B.length).map fun r => ((g.getD r 0).toNat, .str (txt (B.getD r [])))
theorem names_call {m : Int} {g : List Int} (hg : Ord m g) {B : List (List Nat)} (lb : (B.length : Int) = m) : putS2 (List.replicate B.length .none) (namesP g B) = (callB g B).map fun s => .str (txt s) := by
  have lg := hg.len
  have inj : ∀ i j : Nat, (i : Int) < m → (j : Int) < m → (g.getD i 0).toNat = (g.getD j 0).toNat → i = j := by
    intro i j hi hj z
    have r1 := getD_rng hg hi
    have r2 := getD_rng hg hj
    have k1 := idx_at hg (r := i) hi
    have k2 := idx_at hg (r := j) hj
    rw [show g.getD i 0 = g.getD j 0 by omega] at k1
    omega
  apply List.ext_getElem?
  intro i
  by_cases hi : (i : Int) < m
  · obtain ⟨r, hr, e⟩ := call_sur hg hi
    have k := callB_at hg lb hr
    have nd : ((namesP g B).map (·.1)).Nodup := by
      unfold namesP
      rw [List.map_map, List.Nodup, List.pairwise_map]
      refine List.Pairwise.imp_of_mem (fun {x y} hx hy hxy z => ?_) (List.pairwise_lt_range (n := B.length))
      rw [List.mem_range] at hx hy
      have := inj x y (by omega) (by omega) z
      omega
    have e1 := putS2_in (namesP g B) (List.replicate B.length .none) (g.getD r 0).toNat (.str (txt (B.getD r []))) nd (List.mem_map.mpr ⟨r, List.mem_range.mpr (by omega), rfl⟩) (by rw [List.length_replicate]; omega)
    rw [e] at e1 k
    rw [e1, List.getElem?_map]
    have hi2 : i < (callB g B).length := by rw [callB_len]; omega
    rw [List.getD_eq_getElem?_getD, List.getElem?_eq_getElem hi2] at k
    rw [List.getElem?_eq_getElem hi2]
    show _ = some (PyData.str (txt ((callB g B)[i])))
    rw [show (callB g B)[i] = B.getD r [] from k]
  · rw [List.getElem?_eq_none (by rw [putS2_len, List.length_replicate]; omega), List.getElem?_eq_none (by rw [List.length_map, callB_len]; omega)]
theorem name_turn {g fd : List D} {i x : Int} {d : D} (hx : atD g i = some (.int x)) (x0 : 0 ≤ x) (x1 : x < fd.length) {v0 v3 v4 : Option Sl} :
    turnF (gT (.t (.cons (.n 3) (.cons (.n 4) .nil)))) (evSs (run fs gl n) gl (F79.body.nth 1).inner) (.tuple [.int i, d]) [v0, some (.d (.list g)), some (.l fd), v3, v4] =
      some ([v0, some (.d (.list g)), some (.l (fd.set x.toNat d)), some (.d (.int i)), some (.d d)], .nx) := by
  have hix : ixD fd.length x = some x.toNat := by
    unfold ixD
    rw [if_pos x0, if_pos x1]
  simp [F79, Ss.nth, hx, hix]
theorem mul_nones {m : Int} (h0 : 0 ≤ m) (h1 : m ≤ 1000) : mulD (.list [.none]) (.int m) = some (.l (List.replicate m.toNat [PyData.none]).flatten) := by
  have b1 : m < 9223372036854775808 := by omega
  have b2 : -9223372036854775808 ≤ m := by omega
  have ft : fit m.toNat = true := fit_of (by omega)
  simp [mulD, b1, b2, ft]
theorem bc_s0 {BD : D} {G RN : List D} {m : Int} (hlen : lenD [BD] = some (.d (.int m))) (km : mulD (.list [.none]) (.int m) = some (.l RN)) : evS (run fs gl n) gl (F79.body.nth 0) [some (.d BD), some (.d (.list G)), none, none, none] = some ([some (.d BD), some (.d (.list G)), some (.l RN), none, none], .nx) := by
  have z1 : (1 : Nat) ≤ sizeLine := by rw [sizeLine_eq]; decide
  simp [F79, Ss.nth, hlen, z1, km, -lenD, -mulD]
theorem board_called_ok (h79 : fs 79 = some F79) {m l : Int} (f : Frm m l) {g : List Int} (hg : Ord m g) {B : List (List Nat)} (b : Brd m l B) :
    run fs gl (n + 1) 79 [.d (boardD B), .d (.list (g.map PyData.int))] = some ([.d (boardD B), .d (.list (g.map PyData.int))], .d (boardD (callB g B))) := by
  have m1 := f.m1
  have m2 := f.m2
  have lb := b.len
  have hlen : lenD [boardD B] = some (.d (.int m)) := by
    unfold boardD
    rw [← lb]
    simp
  have lbm : m.toNat = B.length := by omega
  obtain ⟨ρ', el, w3, w4, i, ex, rfl, hi⟩ := loopF_inv (tg := gT (.t (.cons (.n 3) (.cons (.n 4) .nil)))) (body := evSs (run fs gl n) gl (F79.body.nth 1).inner)
    (fun xs ρ => ∃ (w3 w4 : Option Sl) (i : Nat), xs = (enumD 0 (B.map fun s => PyData.str (txt s))).drop i ∧ ρ = [some (.d (boardD B)), some (.d (.list (g.map PyData.int))), some (.l (putS2 (List.replicate B.length .none) ((namesP g B).take i))), w3, w4] ∧ i ≤ B.length)
    (fun d xs ρ ⟨w3, w4, i, ex, eρ, hi⟩ => by
      subst eρ
      have hi2 : i < B.length := by
        apply Nat.lt_of_not_le
        intro z
        rw [List.drop_eq_nil_of_le (by rw [enumD_ln, List.length_map]; exact z)] at ex
        cases ex
      obtain ⟨x, hx, ed⟩ := enumD_drop (B.map fun s => PyData.str (txt s)) 0 i (by rw [List.length_map]; exact hi2)
      rw [ed] at ex
      injection ex with e1 e2
      subst e1 e2
      rw [List.getElem?_map, List.getElem?_eq_getElem hi2] at hx
      injection hx with hx
      subst hx
      have rg := getD_rng hg (r := i) (by omega)
      have at1 := ord_at14 hg (x := ((0 + i : Nat) : Int)) (by omega) (by omega)
      have ei : (((0 + i : Nat) : Int)).toNat = i := by omega
      rw [ei] at at1
      have t := name_turn (fs := fs) (gl := gl) (n := n) (fd := putS2 (List.replicate B.length .none) ((namesP g B).take i)) (d := .str (txt B[i])) at1 rg.1 (by rw [putS2_len, List.length_replicate]; omega) (v0 := some (.d (boardD B))) (v3 := w3) (v4 := w4)
      refine ⟨_, t, some (.d (.int ((0 + i : Nat) : Int))), some (.d (.str (txt B[i]))), i + 1, rfl, ?_, hi2⟩
      have lpr : i < (namesP g B).length := by unfold namesP; rw [List.length_map, List.length_range]; exact hi2
      have e3 : (namesP g B)[i] = ((g.getD i 0).toNat, .str (txt B[i])) := by
        simp [namesP, List.getD, hi2]
      rw [List.take_succ_eq_append_getElem lpr, e3]
      unfold putS2
      rw [List.foldl_append]
      rfl)
    (enumD 0 (B.map fun s => PyData.str (txt s))) [some (.d (boardD B)), some (.d (.list (g.map PyData.int))), some (.l (List.replicate B.length .none)), none, none] ⟨none, none, 0, rfl, rfl, Nat.zero_le _⟩
  have hi3 : i = B.length := by
    have := congrArg List.length ex
    rw [List.length_drop, enumD_ln, List.length_map] at this
    simp at this
    omega
  subst hi3
  have et : (namesP g B).take B.length = namesP g B := List.take_of_length_le (by unfold namesP; rw [List.length_map, List.length_range]; exact Nat.le_refl _)
  rw [et, names_call hg lb] at el
  have s0 : evS (run fs gl n) gl (F79.body.nth 0) [some (.d (boardD B)), some (.d (.list (g.map PyData.int))), none, none, none] = some ([some (.d (boardD B)), some (.d (.list (g.map PyData.int))), some (.l (List.replicate B.length .none)), none, none], .nx) := by
    have km := mul_nones (m := m) (by omega) (by omega)
    have er : (List.replicate m.toNat [PyData.none]).flatten = List.replicate B.length .none := by rw [lbm]; simp
    rw [er] at km
    exact bc_s0 hlen km
  have s1 : evS (run fs gl n) gl (F79.body.nth 1) [some (.d (boardD B)), some (.d (.list (g.map PyData.int))), some (.l (List.replicate B.length .none)), none, none] = some ([some (.d (boardD B)), some (.d (.list (g.map PyData.int))), some (.l ((callB g B).map fun s => .str (txt s))), w3, w4], .nx) := by
    refine for_eq (s := .enL (.var 0)) (ρ1 := [some (.d (boardD B)), some (.d (.list (g.map PyData.int))), some (.l (List.replicate B.length .none)), none, none]) ?_ el
    unfold boardD
    generalize (B.map fun s => PyData.str (txt s)) = BD
    generalize List.replicate B.length PyData.none = RN
    generalize g.map PyData.int = G
    simp [ltD2]
  have s2 : evS (run fs gl n) gl (F79.body.nth 2) [some (.d (boardD B)), some (.d (.list (g.map PyData.int))), some (.l ((callB g B).map fun s => .str (txt s))), w3, w4] = some ([some (.d (boardD B)), some (.d (.list (g.map PyData.int))), some (.l ((callB g B).map fun s => .str (txt s))), w3, w4], .rt (.d (boardD (callB g B)))) := by
    have e : boardD (callB g B) = .tuple ((callB g B).map fun s => .str (txt s)) := rfl
    rw [e]
    generalize ((callB g B).map fun s => PyData.str (txt s)) = CB
    generalize boardD B = BD
    generalize g.map PyData.int = G
    simp [F79, Ss.nth]
  exact run_of h79 rfl ((evSs_nx s0).trans ((evSs_nx s1).trans (evSs_rt s2))) rfl
/-! ### a drawn board -/
theorem lets_txt : ("abcdefghijklmnopqrstuvwxyz" : Str) = txt ((List.range 26).map fun i => 97 + i) := by decide +kernel
theorem picked_txt (h3 : fs 53 = some F53) (h4 : fs 54 = some F54) {k : Nat} {p : List D} {s : List Nat} (hp : Pn (k + 1) p) (x1 : s ≠ []) (x2 : s.length ≤ 1000) :
    ∃ p' c, run fs gl (n + 2) 54 [.l p, .d (.str (txt s))] = some ([.l p', .d (.str (txt s))], .d (.str (sgn c))) ∧ c ∈ s ∧ Pn k p' := by
  have lx : 0 < s.length := List.length_pos_iff.mpr x1
  obtain ⟨p', d, e, d1, d2, q⟩ := drawn_ok (n := n) (gl := gl) h3 hp (show (1 : Int) ≤ s.length by omega) (by omega)
  have hd : d.toNat < s.length := by omega
  have at_ : atD (txt s).cps.toList d = some s[d.toNat] := by
    rw [txt_list]
    unfold atD ixD
    rw [if_pos d1, if_pos d2]
    exact List.getElem?_eq_getElem hd
  refine ⟨p', s[d.toNat], ?_, List.getElem_mem hd, q⟩
  have hlen := len_txt (s := s) x2
  have ft : fit (txt s).length = true := fit_of (by rw [txt_len]; omega)
  rw [run_step h4]
  generalize (s.length : Int) = L at e hlen
  generalize s[d.toNat] = c at at_ ⊢
  generalize txt s = T at at_ hlen ft ⊢
  simp [F54, e, at_, hlen, ft, -lenD]
end DL

namespace DL
open PySem PySem.Spec L2
open PyProof.Rows hiding St
variable {fs : Nat → Option Fn} {gl : Nat → Option D} {n : Nat}
theorem join_ok {cs : List Nat} (lc : cs.length ≤ 1000) : joinD (.str "") [.list (cs.map fun c => PyData.str (sgn c))] = some (.d (.str (txt cs))) := by
  have ft : fit (((cs.map sgn).map (·.length)).sum + (cs.map sgn).length * ("" : Str).length) = true := fit_of (by
    have e0 : ("" : Str).length = 0 := rfl
    have e1 : ∀ xs : List Nat, ((xs.map sgn).map (·.length)).sum = xs.length := fun xs => by
      induction xs with
      | nil => rfl
      | cons x xs ih =>
        rw [List.map_cons, List.map_cons, List.sum_cons, ih, List.length_cons]
        show 1 + xs.length = _
        omega
    rw [e0, e1]
    omega)
  show (strsOf (cs.map fun c => PyData.str (sgn c))).bind (fun ys => if fit ((ys.map (·.length)).sum + ys.length * ("" : Str).length) = true then some (Sl.d (.str (Txt.join "" ys))) else none) = _
  rw [strs_of, Option.bind_some, if_pos ft, join_sgn]
abbrev lc77 : E := .lc [5] (.rng (.idx (.var 1) (.cst (.int 1)))) (.n 5) .no (.call 54 (.s 0 (.d (.var 2) .nil)))
theorem lc77_ok (h53 : fs 53 = some F53) (h54 : fs 54 = some F54) {m l : Int} (f : Frm m l) {k : Nat} {p : List D} (hp : Pn (k + 12) p) {s : List Nat} (s1 : s ≠ []) (s2 : s.length ≤ 1000) {v3 v4 : Option Sl} :
    ∃ (p' : List D) (cs : List Nat), evX (run fs gl (n + 2)) gl lc77 [some (.l p), some (.d (frameD m l)), some (.d (.str (txt s))), v3, v4, none] = some ([some (.l p'), some (.d (frameD m l)), some (.d (.str (txt s))), v3, v4, none], .l (cs.map fun c => PyData.str (sgn c))) ∧ (cs.length : Int) = l ∧ (∀ c ∈ cs, c ∈ s) ∧ Pn k p' := by
  have l1 := f.l1
  have l2 := f.l2
  obtain ⟨ρ', out, el, p', cs, rfl, rfl, hc, hl, q⟩ := loopC_inv (vs := [5]) (tg := gT (.n 5)) (cd := gYes) (el := gd (evX (run fs gl (n + 2)) gl (.call 54 (.s 0 (.d (.var 2) .nil)))))
    (fun xs ρ acc => ∃ (p' : List D) (cs : List Nat), ρ = [some (.l p'), some (.d (frameD m l)), some (.d (.str (txt s))), v3, v4, none] ∧ acc = (cs.map fun c => PyData.str (sgn c)) ∧ (∀ c ∈ cs, c ∈ s) ∧ cs.length + xs.length = l.toNat ∧ Pn (k + xs.length) p') 12 (by decide)
    (fun xs ρ acc ⟨p', cs, _, ea, _, hl, _⟩ => by rw [ea, List.length_map]; omega)
    (fun x xs ρ acc ⟨p', cs, eρ, ea, hc, hl, q⟩ => by
      subst eρ ea
      rw [List.length_cons] at hl
      obtain ⟨p2, c, e2, hcs, q2⟩ := picked_txt (n := n) (gl := gl) (k := k + xs.length) h53 h54 (p := p') (s := s) (q.less (by rw [List.length_cons]; omega)) s1 s2
      refine ⟨[some (.l p2), some (.d (frameD m l)), some (.d (.str (txt s))), v3, v4, none], some (.str (sgn c)), ?_, p2, cs ++ [c], rfl, by simp, fun y hy => ?_, by rw [List.length_append]; show cs.length + 1 + xs.length = _; omega, q2⟩
      · generalize sgn c = CC at e2 ⊢
        generalize txt s = T at e2 ⊢
        generalize frameD m l = FD
        simp [e2]
      · rcases List.mem_append.mp hy with z | z
        · exact hc y z
        · rw [List.mem_singleton] at z
          subst z
          exact hcs)
    (rngD 0 l.toNat) [some (.l p), some (.d (frameD m l)), some (.d (.str (txt s))), v3, v4, none] [] ⟨p, [], rfl, rfl, (fun c hc => by cases hc), by rw [rngD_length]; simp, by rw [rngD_length]; exact hp.less (by omega)⟩
  refine ⟨p', cs, ?_, by simp at hl; omega, hc, by simpa using q⟩
  have src : evI (run fs gl (n + 2)) gl (.rng (.idx (.var 1) (.cst (.int 1)))) [some (.l p), some (.d (frameD m l)), some (.d (.str (txt s))), v3, v4, none] = some ([some (.l p), some (.d (frameD m l)), some (.d (.str (txt s))), v3, v4, none], rngD 0 l.toNat) := by
    refine rng_eq (d := .int l) ?_ (rng1_of (by omega) (by omega))
    have a1 : ∀ x y : D, atD [x, y] 1 = some y := fun _ _ => rfl
    generalize txt s = T
    simp [frameD, a1]
  exact lc_eq (vs := [5]) (t := .n 5) (c := .no) src el
theorem board77_turn (h53 : fs 53 = some F53) (h54 : fs 54 = some F54) {m l : Int} (f : Frm m l) {k : Nat} {p : List D} (hp : Pn (k + 12) p) {s : List Nat} (s1 : s ≠ []) (s2 : s.length ≤ 1000) {B : List (List Nat)} (hB : B.length ≤ 100) {d : D} {v4 : Option Sl} :
    ∃ (p' : List D) (cs : List Nat), turnF (gT (.n 4)) (evSs (run fs gl (n + 2)) gl (F77.body.nth 2).inner) d [some (.l p), some (.d (frameD m l)), some (.d (.str (txt s))), some (.l (B.map fun s => .str (txt s))), v4, none] = some ([some (.l p'), some (.d (frameD m l)), some (.d (.str (txt s))), some (.l ((B ++ [cs]).map fun s => .str (txt s))), some (.d d), none], .nx) ∧ (cs.length : Int) = l ∧ (∀ c ∈ cs, c ∈ s) ∧ Pn k p' := by
  have l2 := f.l2
  obtain ⟨p', cs, k1, hl, hc, q⟩ := lc77_ok (n := n) (gl := gl) h53 h54 f hp s1 s2 (v3 := some (.l (B.map fun s => .str (txt s)))) (v4 := some (.d d))
  refine ⟨p', cs, ?_, hl, hc, q⟩
  have jn := join_ok (cs := cs) (by omega)
  have ft : (B.map fun s => PyData.str (txt s)).length < 16777216 := by rw [List.length_map]; omega
  have em : (B ++ [cs]).map (fun s => PyData.str (txt s)) = (B.map fun s => PyData.str (txt s)) ++ [.str (txt cs)] := by rw [List.map_append]; rfl
  rw [em]
  have s0 : evS (run fs gl (n + 2)) gl ((F77.body.nth 2).inner.nth 0) [some (.l p), some (.d (frameD m l)), some (.d (.str (txt s))), some (.l (B.map fun s => .str (txt s))), some (.d d), none] = some ([some (.l p'), some (.d (frameD m l)), some (.d (.str (txt s))), some (.l ((B.map fun s => .str (txt s)) ++ [.str (txt cs)])), some (.d d), none], .nx) := by
    show evS _ _ (.expr (.app 3 (.meth .join (.cst (.str "")) (.cons lc77 .nil)))) _ = _
    generalize (cs.map fun c => PyData.str (sgn c)) = CL at k1 jn
    generalize txt cs = TC at jn ⊢
    generalize txt s = T at k1 ⊢
    generalize frameD m l = FD at k1 ⊢
    generalize (B.map fun s => PyData.str (txt s)) = BB at k1 ft ⊢
    generalize lc77 = LC at k1 ⊢
    simp at k1
    simp [k1, jn, ft, -joinD]
  exact (evSs_nx s0).trans rfl
theorem letters_ok (h53 : fs 53 = some F53) {k : Nat} {p : List D} (hp : Pn (k + 1) p) {v1 v3 v4 v5 : Option Sl} {v2 : Option Sl} :
    ∃ p' s, evS (run fs gl (n + 1)) gl (F77.body.nth 0) [some (.l p), v1, v2, v3, v4, v5] = some ([some (.l p'), v1, some (.d (.str (txt s))), v3, v4, v5], .nx) ∧ s ≠ [] ∧ s.length ≤ 1000 ∧ (∀ c ∈ s, 97 ≤ c ∧ c ≤ 122) ∧ Pn k p' := by
  obtain ⟨p', d, e, d0, d1, q⟩ := drawn_ok (n := n) (gl := gl) h53 hp (m := 4) (by decide) (by decide)
  have z4 : (4 : Nat) ≤ sizeLine := by rw [sizeLine_eq]; decide
  have ft : fit ("abcdefghijklmnopqrstuvwxyz" : Str).length = true := by decide +kernel
  have key : ∀ x : Int, 0 < x → x ≤ 26 → atD [PyData.int 1, .int 2, .int 3, .int 26] d = some (.int x) → ∃ p' s, evS (run fs gl (n + 1)) gl (F77.body.nth 0) [some (.l p), v1, v2, v3, v4, v5] = some ([some (.l p'), v1, some (.d (.str (txt s))), v3, v4, v5], .nx) ∧ s ≠ [] ∧ s.length ≤ 1000 ∧ (∀ c ∈ s, 97 ≤ c ∧ c ≤ 122) ∧ Pn k p' := by
    intro x x0 x1 hx
    have cu := cut_txt (s := (List.range 26).map fun i => 97 + i) (p := x) (by omega)
    rw [← lets_txt] at cu
    refine ⟨p', ((List.range 26).map fun i => 97 + i).take x.toNat, ?_, ?_, ?_, fun c hc => ?_, q⟩
    · generalize txt (((List.range 26).map fun i => 97 + i).take x.toNat) = T at cu ⊢
      simp [F77, Ss.nth, e, z4, hx, ft, cu]
    · intro z
      have := congrArg List.length z
      rw [List.length_take, List.length_map, List.length_range] at this
      simp at this
      omega
    · rw [List.length_take, List.length_map, List.length_range]
      omega
    · obtain ⟨i, hi, rfl⟩ := List.mem_map.mp (List.mem_of_mem_take hc)
      rw [List.mem_range] at hi
      omega
  have cs : d = 0 ∨ d = 1 ∨ d = 2 ∨ d = 3 := by omega
  rcases cs with z | z | z | z
  · exact key 1 (by decide) (by decide) (by rw [z]; rfl)
  · exact key 2 (by decide) (by decide) (by rw [z]; rfl)
  · exact key 3 (by decide) (by decide) (by rw [z]; rfl)
  · exact key 26 (by decide) (by decide) (by rw [z]; rfl)
theorem board77_ok (h53 : fs 53 = some F53) (h54 : fs 54 = some F54) (h77 : fs 77 = some F77) {m l : Int} (f : Frm m l) {k : Nat} {p : List D} (hp : Pn (k + 61) p) :
    ∃ p' B, run fs gl (n + 3) 77 [.l p, .d (frameD m l)] = some ([.l p', .d (frameD m l)], .d (boardD B)) ∧ Brd m l B ∧ Pn k p' := by
  have m1 := f.m1
  have m2 := f.m2
  obtain ⟨p1, s, s0, sn, sl, sr, q1⟩ := letters_ok (n := n + 1) (gl := gl) h53 (k := k + 60) hp (v1 := some (.d (frameD m l))) (v2 := none) (v3 := none) (v4 := none) (v5 := none)
  obtain ⟨ρ', el, p', B, w4, j, ex, rfl, hl, hb, hc, q⟩ := loopF_inv (tg := gT (.n 4)) (body := evSs (run fs gl (n + 2)) gl (F77.body.nth 2).inner)
    (fun xs ρ => ∃ (p' : List D) (B : List (List Nat)) (w4 : Option Sl) (j : Nat), xs.length = j ∧ ρ = [some (.l p'), some (.d (frameD m l)), some (.d (.str (txt s))), some (.l (B.map fun s => .str (txt s))), w4, none] ∧ B.length + j = m.toNat ∧ (∀ b ∈ B, (b.length : Int) = l) ∧ (∀ b ∈ B, ∀ c ∈ b, c ∈ s) ∧ Pn (k + 12 * j) p')
    (fun d xs ρ ⟨p', B, w4, j, ex, eρ, hl, hb, hc, q⟩ => by
      subst eρ
      rw [List.length_cons] at ex
      obtain ⟨p2, cs, t, cl, cc, q2⟩ := board77_turn (n := n) (gl := gl) h53 h54 f (k := k + 12 * xs.length) (p := p') (q.less (by omega)) sn sl (B := B) (by omega) (d := d) (v4 := w4)
      refine ⟨_, t, p2, B ++ [cs], _, xs.length, rfl, rfl, by rw [List.length_append]; show B.length + 1 + xs.length = _; omega, fun b hb' => ?_, fun b hb' => ?_, q2⟩
      · rcases List.mem_append.mp hb' with z | z
        · exact hb b z
        · rw [List.mem_singleton] at z
          subst z
          exact cl
      · rcases List.mem_append.mp hb' with z | z
        · exact hc b z
        · rw [List.mem_singleton] at z
          subst z
          exact cc)
    (rngD 0 m.toNat) [some (.l p1), some (.d (frameD m l)), some (.d (.str (txt s))), some (.l []), none, none] ⟨p1, [], none, m.toNat, by rw [rngD_length], rfl, by simp, (fun b hb => by cases hb), (fun b hb => by cases hb), q1.less (by omega)⟩
  have hj : j = 0 := by simpa using ex.symm
  subst hj
  refine ⟨p', B, ?_, ⟨by omega, hb, fun b hb' c hc' => sr c (hc b hb' c hc')⟩, q⟩
  have s1 : evS (run fs gl (n + 2)) gl (F77.body.nth 1) [some (.l p1), some (.d (frameD m l)), some (.d (.str (txt s))), none, none, none] = some ([some (.l p1), some (.d (frameD m l)), some (.d (.str (txt s))), some (.l []), none, none], .nx) := by
    generalize txt s = T
    generalize frameD m l = FD
    simp [F77, Ss.nth]
  have s2 : evS (run fs gl (n + 2)) gl (F77.body.nth 2) [some (.l p1), some (.d (frameD m l)), some (.d (.str (txt s))), some (.l []), none, none] = some ([some (.l p'), some (.d (frameD m l)), some (.d (.str (txt s))), some (.l (B.map fun s => .str (txt s))), w4, none], .nx) := by
    refine for_eq (rng_eq (a := .idx (.var 1) (.cst (.int 0))) (d := .int m) (ρ1 := [some (.l p1), some (.d (frameD m l)), some (.d (.str (txt s))), some (.l []), none, none]) ?_ (rng1_of (by omega) (by omega))) el
    have a0 : ∀ x y : D, atD [x, y] 0 = some x := fun _ _ => rfl
    generalize txt s = T
    simp [frameD, a0]
  have s3 : evS (run fs gl (n + 2)) gl (F77.body.nth 3) [some (.l p'), some (.d (frameD m l)), some (.d (.str (txt s))), some (.l (B.map fun s => .str (txt s))), w4, none] = some ([some (.l p'), some (.d (frameD m l)), some (.d (.str (txt s))), some (.l (B.map fun s => .str (txt s))), w4, none], .rt (.d (boardD B))) := by
    have e : boardD B = .tuple (B.map fun s => .str (txt s)) := rfl
    rw [e]
    generalize (B.map fun s => PyData.str (txt s)) = BB
    generalize txt s = T
    generalize frameD m l = FD
    simp [F77, Ss.nth]
  exact run_of h77 rfl ((evSs_nx s0).trans ((evSs_nx s1).trans ((evSs_nx s2).trans (evSs_rt s3)))) rfl
/-! ### joints behind a cut -/
theorem joints_step {m l : Int} (f : Frm m l) {E : List (List Int)} (e : Eff m l E) {c : CT} (hc : Cut m l c.1 c.2.1 c.2.2) :
    ∃ x y : Nat, (x : Int) < m ∧ (y : Int) < m ∧ x ≠ y ∧ jointsM (iota m.toNat) (effStep E c) = (jointsM (iota m.toNat) E).set c.1.toNat (with2 ((jointsM (iota m.toNat) E).getD c.1.toNat []) x y) := by
  have m1 := f.m1
  have le := e.len
  obtain ⟨p1, p2, a1, ab, b2⟩ := hc
  have hp : Ord m (lastL (iota m.toNat) (E.take c.1.toNat)) := lastL_ord _ _ (iota_ord (by omega)) fun o ho => e.all o (List.mem_of_mem_take ho)
  have lX : (jointsM (iota m.toNat) (E.take c.1.toNat)).length = c.1.toNat := by rw [jointsM_len, List.length_take]; omega
  have eE : jointsM (iota m.toNat) E = jointsM (iota m.toNat) (E.take c.1.toNat) ++ jointsM (lastL (iota m.toNat) (E.take c.1.toNat)) (E.drop c.1.toNat) := by
    rw [← jointsM_app, List.take_append_drop]
  rw [eE]
  unfold effStep
  rw [jointsM_app]
  generalize lastL (iota m.toNat) (E.take c.1.toNat) = p at hp
  generalize jointsM (iota m.toNat) (E.take c.1.toNat) = X at lX
  cases hd : E.drop c.1.toNat with
  | nil =>
    have := congrArg List.length hd
    rw [List.length_drop] at this
    simp at this
    omega
  | cons o r =>
    have hall : ∀ x ∈ o :: r, Ord m x := fun x hx => e.all x (List.mem_of_mem_drop (hd ▸ hx))
    have ho := hall o List.mem_cons_self
    have hr : ∀ x ∈ r, Ord m x := fun x hx => hall x (List.mem_cons_of_mem _ hx)
    obtain ⟨j1, ne⟩ := joint_behind hp ho (a := c.2.1.toNat) (b := c.2.2.toNat) (by omega) (by omega) (by omega)
    have ra := getD_rng hp (r := c.2.1.toNat) (by omega)
    have rb := getD_rng hp (r := c.2.2.toNat) (by omega)
    refine ⟨(p.getD c.2.1.toNat 0).toNat, (p.getD c.2.2.toNat 0).toNat, by omega, by omega, ne, ?_⟩
    show X ++ jointOf p (with2 o c.2.1.toNat c.2.2.toNat) :: jointsM (with2 o c.2.1.toNat c.2.2.toNat) (r.map fun o => with2 o c.2.1.toNat c.2.2.toNat) = (X ++ jointOf p o :: jointsM o r).set c.1.toNat _
    have jw : ∀ (r : List (List Int)) (q : List Int), Ord m q → (∀ o ∈ r, Ord m o) → jointsM (with2 q c.2.1.toNat c.2.2.toNat) (r.map fun o => with2 o c.2.1.toNat c.2.2.toNat) = jointsM q r := by
      intro r
      induction r with
      | nil => intro q _ _; rfl
      | cons x r ih =>
        intro q hq hx
        show jointOf _ _ :: jointsM _ _ = jointOf _ _ :: jointsM _ _
        rw [joint_with2 hq (hx x List.mem_cons_self) (by omega) (by omega) (by omega), ih x (hx x List.mem_cons_self) fun y hy => hx y (List.mem_cons_of_mem _ hy)]
    rw [jw r o ho hr, j1, ← lX]
    have eg : (X ++ jointOf p o :: jointsM o r).getD X.length [] = jointOf p o := by simp [List.getD]
    have es : (X ++ jointOf p o :: jointsM o r).set X.length (with2 (jointOf p o) (p.getD c.2.1.toNat 0).toNat (p.getD c.2.2.toNat 0).toNat) = X ++ with2 (jointOf p o) (p.getD c.2.1.toNat 0).toNat (p.getD c.2.2.toNat 0).toNat :: jointsM o r := by simp
    rw [show (jointsM p (o :: r)) = jointOf p o :: jointsM o r from rfl, eg, es]
def cntAt (cs : List CT) (q : Nat) : Nat := (cs.filter fun c => decide (c.1 = (q : Int))).length
def twoJ (k : Nat) : List Int := if k % 2 = 0 then [0, 1] else [1, 0]
theorem two_flip {x y : Nat} (hx : (x : Int) < 2) (hy : (y : Int) < 2) (xy : x ≠ y) (k : Nat) : with2 (twoJ k) x y = twoJ (k + 1) := by
  have cs : (x = 0 ∧ y = 1) ∨ (x = 1 ∧ y = 0) := by omega
  have ck : k % 2 = 0 ∨ k % 2 = 1 := by omega
  unfold twoJ
  rcases ck with z | z
  · rw [if_pos z, if_neg (by omega)]
    rcases cs with ⟨rfl, rfl⟩ | ⟨rfl, rfl⟩ <;> rfl
  · rw [if_neg (by omega), if_pos (by omega)]
    rcases cs with ⟨rfl, rfl⟩ | ⟨rfl, rfl⟩ <;> rfl
theorem two_joints {l : Int} (f : Frm 2 l) : ∀ (cs : List CT), Row 2 l cs.reverse → jointsM (iota 2) (effM 2 l.toNat cs.reverse) = (List.range l.toNat).map fun q => twoJ (cntAt cs.reverse q)
  | [], _ => by
    show jointsM (iota 2) (List.replicate l.toNat (iota 2)) = (List.range l.toNat).map fun q => twoJ 0
    generalize l.toNat = k
    have e : ∀ k, jointsM (iota 2) (List.replicate k (iota 2)) = List.replicate k [0, 1] := by
      intro k
      induction k with
      | zero => rfl
      | succ k ih =>
        rw [List.replicate_succ]
        show jointOf _ _ :: jointsM _ _ = _
        rw [ih]
        rfl
    rw [e k]
    show List.replicate k [0, 1] = (List.range k).map (Function.const Nat [0, 1])
    rw [List.map_const, List.length_range]
  | c :: cs, r => by
    rw [List.reverse_cons] at r ⊢
    have r1 : Row 2 l cs.reverse := fun d hd => r d (List.mem_append_left _ hd)
    have hc : Cut 2 l c.1 c.2.1 c.2.2 := r c (by simp)
    have ih := two_joints f cs r1
    have e1 : effM 2 l.toNat (cs.reverse ++ [c]) = effStep (effM 2 l.toNat cs.reverse) c := by
      unfold effM
      rw [List.foldl_append]
      rfl
    obtain ⟨x, y, hx, hy, xy, k⟩ := joints_step f (effM_ok f r1) hc
    have e2 : (2 : Int).toNat = 2 := rfl
    rw [e2] at k
    have eg : ((List.range l.toNat).map fun q => twoJ (cntAt cs.reverse q)).getD c.1.toNat [] = twoJ (cntAt cs.reverse c.1.toNat) := by
      have q1 := hc.p1
      have q2 := hc.p2
      have : c.1.toNat < l.toNat := by omega
      simp [List.getD, this]
    rw [e1, k, ih, eg, two_flip hx hy xy]
    have p1 := hc.p1
    have p2 := hc.p2
    apply List.ext_getElem
    · rw [List.length_set, List.length_map, List.length_map]
    · intro q h1 h2
      rw [List.length_map, List.length_range] at h2
      rw [List.getElem_set, List.getElem_map, List.getElem_range, List.getElem_map, List.getElem_range]
      have ec : cntAt (cs.reverse ++ [c]) q = cntAt cs.reverse q + (if c.1 = (q : Int) then 1 else 0) := by
        unfold cntAt
        rw [List.filter_append, List.length_append]
        by_cases z : c.1 = (q : Int)
        · simp [z]
        · simp [z]
      rw [ec]
      by_cases z : c.1.toNat = q
      · rw [if_pos z, if_pos (by omega), z]
      · rw [if_neg z, if_neg (by omega)]
        rfl
end DL

namespace DL
open PySem PySem.Spec L2
open PyProof.Rows hiding St
variable {fs : Nat → Option Fn} {gl : Nat → Option D} {n : Nat}
/-- _law_right -/
def F159 : Fn := ⟨4, [], 6, (.cons (.par2 4 5 false false (.call 78 (.d (.var 2) (.d (.var 3) .nil))) (.call 79 (.d (.var 1) (.d (.var 3) .nil))))
 (.cons (.ite (.cmp .NotEq (.call 155 (.d (.var 5) (.d (.var 4) .nil))) (.call 79 (.d (.call 155 (.d (.var 1) (.d (.var 2) .nil))) (.d (.var 3) .nil)))) (.cons (.ret (.cst (.bool false)))
 .nil) .nil)
 (.cons (.ite (.cmp .NotEq (.call 68 (.d (.var 5) (.d (.call 144 (.d (.var 0) (.d (.var 4) .nil))) .nil))) (.call 79 (.d (.call 68 (.d (.var 1) (.d (.call 144 (.d (.var 0) (.d (.var 2) .nil))) .nil))) (.d (.var 3) .nil)))) (.cons (.ret (.cst (.bool false)))
 .nil) .nil)
 (.cons (.ite (.cmp .NotEq (.lst (.cons (.call 157 (.d (.var 0) (.d (.var 4) .nil))) (.cons (.call 158 (.d (.var 5) (.d (.var 4) .nil))) .nil))) (.lst (.cons (.call 157 (.d (.var 0) (.d (.var 2) .nil))) (.cons (.call 158 (.d (.var 1) (.d (.var 2) .nil))) .nil)))) (.cons (.ret (.cst (.bool false)))
 .nil) .nil)
 (.cons (.ite (.cmp .NotEq (.call 148 (.d (.var 0) (.d (.var 4) .nil))) (.call 148 (.d (.var 0) (.d (.var 2) .nil)))) (.cons (.ret (.cst (.bool false)))
 .nil) .nil)
 (.cons (.ret (.cmp .Eq (.call 100 (.d (.var 0) (.d (.call 144 (.d (.var 0) (.d (.var 4) .nil))) .nil))) (.call 100 (.d (.var 0) (.d (.call 144 (.d (.var 0) (.d (.var 2) .nil))) .nil)))))
 .nil))))))⟩
/-- _law_two_right -/
def F160 : Fn := ⟨1, [0], 7, (.cons (.set 1 false (.tup (.cons (.cst (.int 2)) (.cons (.bin .Add (.cst (.int 1)) (.call 53 (.s 0 (.d (.cst (.int 12)) .nil)))) .nil))))
 (.cons (.set 2 false (.call 58 (.s 0 (.d (.var 1) (.d (.cst (.int 20)) .nil)))))
 (.cons (.set 3 false (.call 99 (.d (.var 1) (.d (.call 144 (.d (.var 1) (.d (.var 2) .nil))) .nil))))
 (.cons (.for (.rng (.idx (.var 1) (.cst (.int 1)))) (.n 4) (.cons (.set 5 false (.bin .Mod (.blt .len (.cons (.lc [6] (.seq (.var 2)) (.n 6) (.so (.cmp .Eq (.idx (.var 6) (.cst (.int 0))) (.var 4))) (.var 6)) .nil)) (.cst (.int 2))))
 (.cons (.ite (.cmp .NotEq (.idx (.var 3) (.var 4)) (.idx (.lst (.cons (.tup (.cons (.cst (.int 0)) (.cons (.cst (.int 1)) .nil))) (.cons (.tup (.cons (.cst (.int 1)) (.cons (.cst (.int 0)) .nil))) .nil))) (.var 5))) (.cons (.ret (.cst (.bool false)))
 .nil) .nil)
 .nil)))
 (.cons (.ret (.cst (.bool true)))
 .nil)))))⟩
/-- law -/
def F161 : Fn := ⟨1, [], 8, (.cons (.for (.rng (.blt .max (.cons (.cst (.int 1)) (.cons (.blt .min (.cons (.lenV 0) (.cons (.cst (.int 3)) .nil))) .nil)))) (.n 1) (.cons (.set 2 true (.call 52 (.d (.call 11 (.s 0 (.d (.var 1) .nil))) .nil)))
 (.cons (.for (.rng (.cst (.int 4))) (.n 3) (.cons (.set 4 false (.call 56 (.s 2 (.d (.cst (.int 5)) (.d (.cst (.int 12)) .nil)))))
 (.cons (.par2 5 6 false false (.call 77 (.s 2 (.d (.var 4) .nil))) (.call 58 (.s 2 (.d (.var 4) (.d (.cst (.int 15)) .nil)))))
 (.cons (.set 7 false (.call 55 (.s 2 (.d (.idx (.var 4) (.cst (.int 0))) .nil))))
 (.cons (.ite (.or (.not (.call 159 (.d (.var 4) (.d (.var 5) (.d (.var 6) (.d (.var 7) .nil)))))) (.not (.call 160 (.s 2 .nil)))) (.cons (.ret (.cst (.bool false)))
 .nil) .nil)
 .nil)))))
 .nil)))
 (.cons (.ret (.cst (.bool true)))
 .nil))⟩
structure Has14 (fs : Nat → Option Fn) (gl : Nat → Option D) : Prop extends HasEff fs gl, HasFar fs gl, HasFew fs gl where
  h11 : fs 11 = some F11
  h52 : fs 52 = some F52
  h53 : fs 53 = some F53
  h54 : fs 54 = some F54
  h55 : fs 55 = some F55
  h56 : fs 56 = some F56
  h57 : fs 57 = some F57
  h58 : fs 58 = some F58
  h68 : fs 68 = some F68
  h77 : fs 77 = some F77
  h78 : fs 78 = some F78
  h79 : fs 79 = some F79
  h99 : fs 99 = some F99
  h100 : fs 100 = some F100
  h147 : fs 147 = some F147
  h148 : fs 148 = some F148
  h159 : fs 159 = some F159
  h160 : fs 160 = some F160
  h161 : fs 161 = some F161
abbrev B159 (i : Nat) : S := F159.body.nth i
section
variable (h : Has14 fs gl) {m l : Int} (f : Frm m l) {B : List (List Nat)} (b : Brd m l B) {cs : List CT} (r : Row m l cs) (hl : cs.length ≤ 100) {g : List Int} (hg : Ord m g)
include h f b r hl hg
theorem p14_0 : evS (run fs gl (n + 6)) gl (B159 0) [some (.d (frameD m l)), some (.d (boardD B)), some (.d (rowD cs)), some (.d (.list (g.map PyData.int))), none, none] = some ([some (.d (frameD m l)), some (.d (boardD B)), some (.d (rowD cs)), some (.d (.list (g.map PyData.int))), some (.d (rowD (cs.map (callC g)))), some (.d (boardD (callB g B)))], .nx) := by
  have k1 := called78_ok (n := n + 5) (gl := gl) h.h78 hg r (by omega)
  have k2 := board_called_ok (n := n + 5) (gl := gl) h.h79 f hg b
  generalize rowD (cs.map (callC g)) = C2 at k1 ⊢
  generalize boardD (callB g B) = B2 at k2 ⊢
  generalize rowD cs = C at k1 ⊢
  generalize boardD B = BD at k2 ⊢
  generalize g.map PyData.int = G at k1 k2 ⊢
  generalize frameD m l = FD
  simp [B159, F159, Ss.nth, k1, k2]
theorem p14_1 : evS (run fs gl (n + 6)) gl (B159 1) [some (.d (frameD m l)), some (.d (boardD B)), some (.d (rowD cs)), some (.d (.list (g.map PyData.int))), some (.d (rowD (cs.map (callC g)))), some (.d (boardD (callB g B)))] = some ([some (.d (frameD m l)), some (.d (boardD B)), some (.d (rowD cs)), some (.d (.list (g.map PyData.int))), some (.d (rowD (cs.map (callC g)))), some (.d (boardD (callB g B)))], .nx) := by
  have e := effM_ok f r
  have k1 := behind_ok155 (n := n) h.toHasBoard f (callB_brd hg b) (row_call hg r) (by rw [List.length_map]; omega)
  have k2 := behind_ok155 (n := n) h.toHasBoard f b r (by omega)
  have k3 := board_called_ok (n := n + 5) (gl := gl) h.h79 f hg (led_brd f b e)
  rw [eff_call f hg r, led_call f hg b e] at k1
  have q := ne_board (callB g (ledM m.toNat l.toNat B (effM m.toNat l.toNat cs))) (callB g (ledM m.toNat l.toNat B (effM m.toNat l.toNat cs)))
  rw [decide_eq_false (fun z => z rfl)] at q
  generalize boardD (callB g (ledM m.toNat l.toNat B (effM m.toNat l.toNat cs))) = L2 at k1 k3 q
  generalize boardD (ledM m.toNat l.toNat B (effM m.toNat l.toNat cs)) = L1 at k2 k3
  generalize rowD (cs.map (callC g)) = C2 at k1 ⊢
  generalize boardD (callB g B) = B2 at k1 ⊢
  generalize rowD cs = C at k2 ⊢
  generalize boardD B = BD at k2 ⊢
  generalize g.map PyData.int = G at k3 ⊢
  generalize frameD m l = FD
  simp [B159, F159, Ss.nth, k1, k2, k3, q, -neD]
theorem p14_2 : evS (run fs gl (n + 6)) gl (B159 2) [some (.d (frameD m l)), some (.d (boardD B)), some (.d (rowD cs)), some (.d (.list (g.map PyData.int))), some (.d (rowD (cs.map (callC g)))), some (.d (boardD (callB g B)))] = some ([some (.d (frameD m l)), some (.d (boardD B)), some (.d (rowD cs)), some (.d (.list (g.map PyData.int))), some (.d (rowD (cs.map (callC g)))), some (.d (boardD (callB g B)))], .nx) := by
  have e := effM_ok f r
  have k0 := doesP_ok (n := n) h.toHasDoes f (row_call hg r) (by rw [List.length_map]; omega)
  have k5 := doesP_ok (n := n) h.toHasDoes f r (by omega)
  rw [eff_call f hg r] at k0
  have k1 := led68_ok (n := n) h.toHasBoard h.toHasEff h.h68 f (callB_brd hg b) (conj_eff hg e)
  have k2 := led68_ok (n := n) h.toHasBoard h.toHasEff h.h68 f b e
  have k3 := board_called_ok (n := n + 5) (gl := gl) h.h79 f hg (led_brd f b e)
  rw [led_call f hg b e] at k1
  have q := ne_board (callB g (ledM m.toNat l.toNat B (effM m.toNat l.toNat cs))) (callB g (ledM m.toNat l.toNat B (effM m.toNat l.toNat cs)))
  rw [decide_eq_false (fun z => z rfl)] at q
  generalize boardD (callB g (ledM m.toNat l.toNat B (effM m.toNat l.toNat cs))) = L2 at k1 k3 q
  generalize boardD (ledM m.toNat l.toNat B (effM m.toNat l.toNat cs)) = L1 at k2 k3
  generalize effD ((effM m.toNat l.toNat cs).map (conj g)) = E2 at k0 k1
  generalize effD (effM m.toNat l.toNat cs) = E1 at k5 k2
  generalize rowD (cs.map (callC g)) = C2 at k0 ⊢
  generalize boardD (callB g B) = B2 at k1 ⊢
  generalize rowD cs = C at k5 ⊢
  generalize boardD B = BD at k2 ⊢
  generalize g.map PyData.int = G at k3 ⊢
  generalize frameD m l = FD at k0 k5 ⊢
  simp [B159, F159, Ss.nth, k0, k1, k2, k3, k5, q, -neD]
theorem p14_3 : evS (run fs gl (n + 6)) gl (B159 3) [some (.d (frameD m l)), some (.d (boardD B)), some (.d (rowD cs)), some (.d (.list (g.map PyData.int))), some (.d (rowD (cs.map (callC g)))), some (.d (boardD (callB g B)))] = some ([some (.d (frameD m l)), some (.d (boardD B)), some (.d (rowD cs)), some (.d (.list (g.map PyData.int))), some (.d (rowD (cs.map (callC g)))), some (.d (boardD (callB g B)))], .nx) := by
  have m1 := f.m1
  have e := effM_ok f r
  have r2 := row_call hg r
  have l2 : (cs.map (callC g)).length ≤ 10000 := by rw [List.length_map]; omega
  have k1 := round_of_ok (n := n) h.toHasFar f r2 l2
  have k2 := round_of_ok (n := n) h.toHasFar f r (by omega)
  rw [eff_call f hg r] at k1
  have er : rndM ((effM m.toNat l.toNat cs).map (conj g)) = rndM (effM m.toNat l.toNat cs) := rnd_conj (by omega) f.m2 hg _ 1 e.all
  rw [er] at k1
  have rb : rndM (effM m.toNat l.toNat cs) ≤ 60 := Nat.le_of_dvd (by decide) (rnd_dvd (by omega) f.m2 _ 1 (by decide) e.all)
  obtain ⟨t, t1, t2, ht, hlt⟩ := rf_exists f b e
  have k3 := round_from_ok (n := n) h.toHasFar f b r (by omega) t1 t2 ht hlt
  have k4 := round_from_ok (n := n) h.toHasFar f (callB_brd hg b) r2 l2 t1 t2 (by rw [eff_call f hg r]; exact (back_call f hg b e t).mpr ht) (fun s s1 s2 z => hlt s s1 s2 ((back_call f hg b e s).mp (by rw [eff_call f hg r] at z; exact z)))
  have z2 : (2 : Nat) ≤ sizeLine := by rw [sizeLine_eq]; decide
  have b1 : ((rndM (effM m.toNat l.toNat cs) : Nat) : Int).natAbs < 10 ^ 18 := by omega
  have b2 : ((t : Nat) : Int).natAbs < 10 ^ 18 := by omega
  have q : neD (.list [.int (rndM (effM m.toNat l.toNat cs) : Nat), .int t]) (.list [.int (rndM (effM m.toNat l.toNat cs) : Nat), .int t]) = some (.d (.bool false)) := by
    refine Tame.ne (k := 1) (w := 100) ((Tame.lst (k := 0) (w := 20) fun x hx => ?_).less (Nat.le_refl _) (by simp)) (by decide)
    rcases List.mem_cons.mp hx with z | z
    · subst z
      exact Tame.int b1
    · rw [List.mem_singleton] at z
      subst z
      exact Tame.int b2
  generalize ((rndM (effM m.toNat l.toNat cs) : Nat) : Int) = X at k1 k2 q
  generalize ((t : Nat) : Int) = T at k3 k4 q
  generalize rowD (cs.map (callC g)) = C2 at k1 k4 ⊢
  generalize boardD (callB g B) = B2 at k4 ⊢
  generalize rowD cs = C at k2 k3 ⊢
  generalize boardD B = BD at k3 ⊢
  generalize g.map PyData.int = G
  generalize frameD m l = FD at k1 k2 ⊢
  simp [B159, F159, Ss.nth, k1, k2, k3, k4, z2, q, -neD]
theorem p14_4 : evS (run fs gl (n + 6)) gl (B159 4) [some (.d (frameD m l)), some (.d (boardD B)), some (.d (rowD cs)), some (.d (.list (g.map PyData.int))), some (.d (rowD (cs.map (callC g)))), some (.d (boardD (callB g B)))] = some ([some (.d (frameD m l)), some (.d (boardD B)), some (.d (rowD cs)), some (.d (.list (g.map PyData.int))), some (.d (rowD (cs.map (callC g)))), some (.d (boardD (callB g B)))], .nx) := by
  have e := effM_ok f r
  have k1 := is_short_ok (n := n) h.toHasFew h.toHasDoes h.h147 h.h148 f (row_call hg r) (by rw [List.length_map]; omega)
  have k2 := is_short_ok (n := n) h.toHasFew h.toHasDoes h.h147 h.h148 f r (by omega)
  rw [eff_call f hg r, few_call f hg e, List.length_map] at k1
  generalize decide ((cs.length : Int) = fewM m.toNat (effM m.toNat l.toNat cs)) = bb at k1 k2
  have q := ne_bool bb
  generalize rowD (cs.map (callC g)) = C2 at k1 ⊢
  generalize boardD (callB g B) = B2
  generalize rowD cs = C at k2 ⊢
  generalize boardD B = BD
  generalize g.map PyData.int = G
  generalize frameD m l = FD at k1 k2 ⊢
  simp [B159, F159, Ss.nth, k1, k2, q, -neD]
theorem p14_5 : evS (run fs gl (n + 6)) gl (B159 5) [some (.d (frameD m l)), some (.d (boardD B)), some (.d (rowD cs)), some (.d (.list (g.map PyData.int))), some (.d (rowD (cs.map (callC g)))), some (.d (boardD (callB g B)))] = some ([some (.d (frameD m l)), some (.d (boardD B)), some (.d (rowD cs)), some (.d (.list (g.map PyData.int))), some (.d (rowD (cs.map (callC g)))), some (.d (boardD (callB g B)))], .rt (.d (.bool true))) := by
  have e := effM_ok f r
  have k0 := doesP_ok (n := n) h.toHasDoes f (row_call hg r) (by rw [List.length_map]; omega)
  have k5 := doesP_ok (n := n) h.toHasDoes f r (by omega)
  rw [eff_call f hg r] at k0
  have k1 := fewest_ok (n := n) h.toHasEff h.toHasFew h.h100 f (conj_eff hg e)
  have k2 := fewest_ok (n := n) h.toHasEff h.toHasFew h.h100 f e
  rw [few_call f hg e] at k1
  have q := eq_int (fewM m.toNat (effM m.toNat l.toNat cs)) (fewM m.toNat (effM m.toNat l.toNat cs))
  rw [decide_eq_true rfl] at q
  generalize fewM m.toNat (effM m.toNat l.toNat cs) = X at k1 k2 q
  generalize effD ((effM m.toNat l.toNat cs).map (conj g)) = E2 at k0 k1
  generalize effD (effM m.toNat l.toNat cs) = E1 at k5 k2
  generalize rowD (cs.map (callC g)) = C2 at k0 ⊢
  generalize boardD (callB g B) = B2
  generalize rowD cs = C at k5 ⊢
  generalize boardD B = BD
  generalize g.map PyData.int = G
  generalize frameD m l = FD at k0 k1 k2 k5 ⊢
  simp [B159, F159, Ss.nth, k0, k1, k2, k5, q, -eqD]
theorem right159_ok : run fs gl (n + 7) 159 [.d (frameD m l), .d (boardD B), .d (rowD cs), .d (.list (g.map PyData.int))] = some ([.d (frameD m l), .d (boardD B), .d (rowD cs), .d (.list (g.map PyData.int))], .d (.bool true)) :=
  run_of h.h159 rfl ((evSs_nx (p14_0 h f b r hl hg)).trans ((evSs_nx (p14_1 h f b r hl hg)).trans ((evSs_nx (p14_2 h f b r hl hg)).trans ((evSs_nx (p14_3 h f b r hl hg)).trans ((evSs_nx (p14_4 h f b r hl hg)).trans (evSs_rt (p14_5 h f b r hl hg))))))) rfl
end
/-! ### two ribbons -/
abbrev in160 : Ss := (F160.body.nth 3).inner
theorem cnt_lc {l : Int} {cs : List CT} (hl : cs.length ≤ 1000) {q : Int} {v0 v1 v3 v5 : Option Sl} :
    evX (run fs gl n) gl (.lc [6] (.seq (.var 2)) (.n 6) (.so (.cmp .Eq (.idx (.var 6) (.cst (.int 0))) (.var 4))) (.var 6)) [v0, v1, some (.d (rowD cs)), v3, some (.d (.int q)), v5, none] =
      some ([v0, v1, some (.d (rowD cs)), v3, some (.d (.int q)), v5, none], .l ((cs.filter fun c => decide (c.1 = q)).map cutOf)) := by
  obtain ⟨ρ', out, el, A, B, ex, rfl, rfl, hAB⟩ := loopC_inv (vs := [6]) (tg := gT (.n 6)) (cd := evC (run fs gl n) gl (.so (.cmp .Eq (.idx (.var 6) (.cst (.int 0))) (.var 4)))) (el := gd (evX (run fs gl n) gl (.var 6)))
    (fun xs ρ acc => ∃ (A B : List CT), xs = A.map cutOf ∧ ρ = [v0, v1, some (.d (rowD cs)), v3, some (.d (.int q)), v5, none] ∧ acc = (B.filter fun c => decide (c.1 = q)).map cutOf ∧ B ++ A = cs) 1000 (by decide)
    (fun xs ρ acc ⟨A, B, ex, _, ea, hAB⟩ => by
      have := List.length_filter_le (fun c : CT => decide (c.1 = q)) B
      have h2 := congrArg List.length hAB
      rw [List.length_append] at h2
      rw [ex, ea, List.length_map, List.length_map]
      omega)
    (fun x xs ρ acc ⟨A, B, ex, eρ, ea, hAB⟩ => by
      subst eρ ea
      cases A with
      | nil => cases ex
      | cons c A =>
        rw [List.map_cons] at ex
        injection ex with e1 e2
        subst e1 e2
        have a0 : ∀ x y z : D, atD [x, y, z] 0 = some x := fun _ _ _ => rfl
        have qq := eq_int c.1 q
        have ef : (B ++ [c]).filter (fun c => decide (c.1 = q)) = (B.filter fun c => decide (c.1 = q)) ++ (if c.1 = q then [c] else []) := by
          rw [List.filter_append]
          congr 1
          by_cases z : c.1 = q <;> simp [z]
        by_cases z : c.1 = q
        · rw [decide_eq_true z] at qq
          refine ⟨[v0, v1, some (.d (rowD cs)), v3, some (.d (.int q)), v5, none], some (cutOf c), ?_, A, B ++ [c], rfl, rfl, by rw [ef, if_pos z, List.map_append]; rfl, by rw [← hAB]; simp⟩
          show turnC _ _ _ _ (.tuple [.int c.1, .int c.2.1, .int c.2.2]) _ = some (_, some (.tuple [.int c.1, .int c.2.1, .int c.2.2]))
          generalize rowD cs = C
          simp [a0, qq, -eqD]
        · rw [decide_eq_false z] at qq
          refine ⟨[v0, v1, some (.d (rowD cs)), v3, some (.d (.int q)), v5, none], none, ?_, A, B ++ [c], rfl, rfl, by rw [ef, if_neg z]; simp, by rw [← hAB]; simp⟩
          show turnC _ _ _ _ (.tuple [.int c.1, .int c.2.1, .int c.2.2]) _ = some (_, none)
          generalize rowD cs = C
          simp [a0, qq, -eqD])
    (cs.map cutOf) [v0, v1, some (.d (rowD cs)), v3, some (.d (.int q)), v5, none] [] ⟨cs, [], rfl, rfl, rfl, rfl⟩
  have hA2 : A = [] := by
    cases A with
    | nil => rfl
    | cons => cases ex
  subst hA2
  rw [List.append_nil] at hAB
  subst hAB
  refine lc_eq (vs := [6]) (t := .n 6) (xs := B.map cutOf) (ρ1 := [v0, v1, some (.d (rowD B)), v3, some (.d (.int q)), v5, none]) ?_ el
  unfold rowD
  generalize B.map cutOf = C
  simp
theorem two_core {J R : List D} {q L o : Int} {FD : D} {j : D} {LC : DL.E} {v0 v1 v2 v5 : Option Sl} (k : evX (run fs gl n) gl LC [v0, v1, v2, some (.d (.tuple J)), some (.d (.int q)), v5, none] = some ([v0, v1, v2, some (.d (.tuple J)), some (.d (.int q)), v5, none], .l R))
    (hlen : lenD [.list R] = some (.d (.int L))) (hj : atD J q = some j) (ho : L % 2 = o) (hd : atD [PyData.tuple [.int 0, .int 1], .tuple [.int 1, .int 0]] o = some j) (hn : neD j j = some (.d (.bool false))) :
    evSs (run fs gl n) gl (.cons (.set 5 false (.bin .Mod (.blt .len (.cons LC .nil)) (.cst (.int 2)))) (.cons (.ite (.cmp .NotEq (.idx (.var 3) (.var 4)) (.idx (.lst (.cons (.tup (.cons (.cst (.int 0)) (.cons (.cst (.int 1)) .nil))) (.cons (.tup (.cons (.cst (.int 1)) (.cons (.cst (.int 0)) .nil))) .nil))) (.var 5))) (.cons (.ret (.cst (.bool false))) .nil) .nil) .nil)) [v0, v1, v2, some (.d (.tuple J)), some (.d (.int q)), v5, none] =
      some ([v0, v1, v2, some (.d (.tuple J)), some (.d (.int q)), some (.d (.int o)), none], .nx) := by
  have z2 : (2 : Nat) ≤ sizeLine := by rw [sizeLine_eq]; decide
  subst ho
  simp at k
  simp [k, hlen, hj, hd, hn, z2, -lenD, -neD]
theorem two_turn {l : Int} (f : Frm 2 l) {cs : List CT} (r : Row 2 l cs) (hl : cs.length ≤ 1000) {q : Nat} (hq : (q : Int) < l) {v0 v1 v4 v5 : Option Sl} :
    ∃ w5, turnF (gT (.n 4)) (evSs (run fs gl n) gl in160) (.int q) [v0, v1, some (.d (rowD cs)), some (.d (effD (jointsM (iota 2) (effM 2 l.toNat cs)))), v4, v5, none] = some ([v0, v1, some (.d (rowD cs)), some (.d (effD (jointsM (iota 2) (effM 2 l.toNat cs)))), some (.d (.int q)), w5, none], .nx) := by
  have tj := two_joints f cs.reverse (by rw [List.reverse_reverse]; exact r)
  rw [List.reverse_reverse] at tj
  rw [tj]
  have k := cnt_lc (fs := fs) (gl := gl) (n := n) (l := l) (cs := cs) hl (q := (q : Int)) (v0 := v0) (v1 := v1) (v3 := some (.d (effD ((List.range l.toNat).map fun q => twoJ (cntAt cs q))))) (v5 := v5)
  have hlen : lenD [.list ((cs.filter fun c => decide (c.1 = (q : Int))).map cutOf)] = some (.d (.int (cntAt cs q : Nat))) := by
    unfold cntAt
    simp
  have hj : atD (((List.range l.toNat).map fun q => twoJ (cntAt cs q)).map orderD) (q : Int) = some (orderD (twoJ (cntAt cs q))) := by
    have h1 : q < l.toNat := by omega
    unfold atD ixD
    rw [List.length_map, List.length_map, List.length_range, if_pos (by omega), if_pos (by omega)]
    show ((((List.range l.toNat).map fun q => twoJ (cntAt cs q)).map orderD))[((q : Nat) : Int).toNat]? = _
    rw [Int.toNat_natCast, List.getElem?_map, List.getElem?_map, List.getElem?_range h1]
    rfl
  have hd : atD [PyData.tuple [.int 0, .int 1], .tuple [.int 1, .int 0]] ((cntAt cs q % 2 : Nat) : Int) = some (orderD (twoJ (cntAt cs q))) := by
    have ck : cntAt cs q % 2 = 0 ∨ cntAt cs q % 2 = 1 := by omega
    unfold twoJ
    rcases ck with z | z
    · rw [z, if_pos rfl]; rfl
    · rw [z, if_neg (by decide)]; rfl
  have hn : neD (orderD (twoJ (cntAt cs q))) (orderD (twoJ (cntAt cs q))) = some (.d (.bool false)) := by
    refine Tame.ne (k := 1) (w := 100) ((Tame.tup (k := 0) (w := 20) fun x hx => ?_).less (Nat.le_refl _) ?_) (by decide)
    · obtain ⟨y, hy, rfl⟩ := List.mem_map.mp hx
      refine Tame.int ?_
      unfold twoJ at hy
      split at hy <;> simp at hy <;> omega
    · unfold twoJ
      split <;> simp
  have ho : ((cntAt cs q : Nat) : Int) % 2 = ((cntAt cs q % 2 : Nat) : Int) := by omega
  refine ⟨some (.d (.int ((cntAt cs q % 2 : Nat) : Int))), ?_⟩
  exact two_core (fs := fs) (gl := gl) (n := n) (FD := .none) (LC := .lc [6] (.seq (.var 2)) (.n 6) (.so (.cmp .Eq (.idx (.var 6) (.cst (.int 0))) (.var 4))) (.var 6)) k hlen hj ho hd hn
theorem two_right_ok (h : Has14 fs gl) {k : Nat} {p : List D} (hp : Pn (k + 22) p) : ∃ p', run fs gl (n + 7) 160 [.l p] = some ([.l p'], .d (.bool true)) ∧ Pn k p' := by
  obtain ⟨p1, d, e1, d0, d1, q1⟩ := drawn_ok (n := n + 5) (gl := gl) h.h53 (k := k + 21) hp (m := 12) (by decide) (by decide)
  have f : Frm 2 (1 + d) := ⟨by decide, by decide, by omega, by omega⟩
  obtain ⟨p2, cs, e2, r, hl, q2⟩ := row58_ok (n := n + 3) (gl := gl) (k := k) (most := 20) h.h53 h.h54 h.h57 h.h58 q1 f (by decide)
  have k1 := doesP_ok (n := n) h.toHasDoes f r (by omega)
  have k2 := joints_ok (n := n) h.toHasEff h.h84 h.h99 f (effM_ok f r)
  have e2' : (2 : Int).toNat = 2 := rfl
  rw [e2'] at k1 k2
  refine ⟨p2, ?_, q2⟩
  obtain ⟨ρ', el, w4, w5, i, ex, rfl, hi⟩ := loopF_inv (tg := gT (.n 4)) (body := evSs (run fs gl (n + 6)) gl in160)
    (fun xs ρ => ∃ (w4 w5 : Option Sl) (i : Nat), xs = (rngD 0 (1 + d).toNat).drop i ∧ ρ = [some (.l p2), some (.d (frameD 2 (1 + d))), some (.d (rowD cs)), some (.d (effD (jointsM (iota 2) (effM 2 (1 + d).toNat cs)))), w4, w5, none] ∧ i ≤ (1 + d).toNat)
    (fun x xs ρ ⟨w4, w5, i, ex, eρ, hi⟩ => by
      subst eρ
      have hi2 : i < (1 + d).toNat := by
        apply Nat.lt_of_not_le
        intro z
        rw [List.drop_eq_nil_of_le (by rw [rngD_length]; exact z)] at ex
        cases ex
      rw [rngD_drop hi2] at ex
      injection ex with e1 e2
      subst e1 e2
      rw [Int.zero_add]
      obtain ⟨w5', t⟩ := two_turn (fs := fs) (gl := gl) (n := n + 6) f r (by omega) (q := i) (by omega) (v0 := some (.l p2)) (v1 := some (.d (frameD 2 (1 + d)))) (v4 := w4) (v5 := w5)
      exact ⟨_, t, _, _, i + 1, rfl, rfl, hi2⟩)
    (rngD 0 (1 + d).toNat) [some (.l p2), some (.d (frameD 2 (1 + d))), some (.d (rowD cs)), some (.d (effD (jointsM (iota 2) (effM 2 (1 + d).toNat cs)))), none, none, none] ⟨none, none, 0, rfl, rfl, Nat.zero_le _⟩
  have z2 : (2 : Nat) ≤ sizeLine := by rw [sizeLine_eq]; decide
  have s0 : evS (run fs gl (n + 6)) gl (F160.body.nth 0) [some (.l p), none, none, none, none, none, none] = some ([some (.l p1), some (.d (frameD 2 (1 + d))), none, none, none, none, none], .nx) := by
    unfold frameD
    simp [F160, Ss.nth, e1, z2]
  have s1 : evS (run fs gl (n + 6)) gl (F160.body.nth 1) [some (.l p1), some (.d (frameD 2 (1 + d))), none, none, none, none, none] = some ([some (.l p2), some (.d (frameD 2 (1 + d))), some (.d (rowD cs)), none, none, none, none], .nx) := by
    generalize rowD cs = C at e2 ⊢
    generalize frameD 2 (1 + d) = FD at e2 ⊢
    simp at e2
    simp [F160, Ss.nth, e2]
  have s2 : evS (run fs gl (n + 6)) gl (F160.body.nth 2) [some (.l p2), some (.d (frameD 2 (1 + d))), some (.d (rowD cs)), none, none, none, none] = some ([some (.l p2), some (.d (frameD 2 (1 + d))), some (.d (rowD cs)), some (.d (effD (jointsM (iota 2) (effM 2 (1 + d).toNat cs)))), none, none, none], .nx) := by
    generalize effD (jointsM (iota 2) (effM 2 (1 + d).toNat cs)) = J at k2 ⊢
    generalize effD (effM 2 (1 + d).toNat cs) = E at k1 k2
    generalize rowD cs = C at k1 ⊢
    generalize frameD 2 (1 + d) = FD at k1 k2 ⊢
    simp [F160, Ss.nth, k1, k2]
  have s3 : evS (run fs gl (n + 6)) gl (F160.body.nth 3) [some (.l p2), some (.d (frameD 2 (1 + d))), some (.d (rowD cs)), some (.d (effD (jointsM (iota 2) (effM 2 (1 + d).toNat cs)))), none, none, none] = some ([some (.l p2), some (.d (frameD 2 (1 + d))), some (.d (rowD cs)), some (.d (effD (jointsM (iota 2) (effM 2 (1 + d).toNat cs)))), w4, w5, none], .nx) := by
    refine for_eq (rng_eq (a := .idx (.var 1) (.cst (.int 1))) (d := .int (1 + d)) (ρ1 := [some (.l p2), some (.d (frameD 2 (1 + d))), some (.d (rowD cs)), some (.d (effD (jointsM (iota 2) (effM 2 (1 + d).toNat cs)))), none, none, none]) ?_ (rng1_of (by omega) (by omega))) el
    have a1 : ∀ x y : D, atD [x, y] 1 = some y := fun _ _ => rfl
    generalize effD (jointsM (iota 2) (effM 2 (1 + d).toNat cs)) = J
    generalize rowD cs = C
    simp [frameD, a1]
  have s4 : evS (run fs gl (n + 6)) gl (F160.body.nth 4) [some (.l p2), some (.d (frameD 2 (1 + d))), some (.d (rowD cs)), some (.d (effD (jointsM (iota 2) (effM 2 (1 + d).toNat cs)))), w4, w5, none] = some ([some (.l p2), some (.d (frameD 2 (1 + d))), some (.d (rowD cs)), some (.d (effD (jointsM (iota 2) (effM 2 (1 + d).toNat cs)))), w4, w5, none], .rt (.d (.bool true))) := by
    generalize effD (jointsM (iota 2) (effM 2 (1 + d).toNat cs)) = J
    generalize rowD cs = C
    generalize frameD 2 (1 + d) = FD
    simp [F160, Ss.nth]
  exact run_of h.h160 rfl ((evSs_nx s0).trans ((evSs_nx s1).trans ((evSs_nx s2).trans ((evSs_nx s3).trans (evSs_rt s4))))) rfl
/-! ### the law -/
abbrev out14 : Ss := (F161.body.nth 0).inner
abbrev mid14 : Ss := (out14.nth 1).inner
theorem mid_turn14 (h : Has14 fs gl) {k : Nat} {p : List D} {d : D} {v0 v1 v3 v4 v5 v6 v7 : Option Sl} (hp : Pn (k + 200) p) :
    ∃ p' w4 w5 w6 w7, turnF (gT (.n 3)) (evSs (run fs gl (n + 7)) gl mid14) d [v0, v1, some (.l p), v3, v4, v5, v6, v7] = some ([v0, v1, some (.l p'), some (.d d), w4, w5, w6, w7], .nx) ∧ Pn k p' := by
  obtain ⟨p1, m, l, e1, m1, m2, l1, l2, q1⟩ := framed_ok (n := n + 5) (gl := gl) (k := k + 198) (a := 5) (b := 12) h.h53 h.h56 hp (by decide) (by decide) (by decide) (by decide)
  have f : Frm m l := ⟨m1, m2, l1, l2⟩
  obtain ⟨p2, B, e2, b, q2⟩ := board77_ok (n := n + 4) (gl := gl) h.h53 h.h54 h.h77 f (k := k + 137) q1
  obtain ⟨p3, cs, e3, r, hl, q3⟩ := row58_ok (n := n + 4) (gl := gl) (k := k + 121) (most := 15) h.h53 h.h54 h.h57 h.h58 q2 f (by decide)
  obtain ⟨p4, g, e4, hg, q4⟩ := mixed55_ok (n := n + 5) (gl := gl) h.h53 h.h55 (k := k + 116) (p := p3) m1 m2 q3
  have e5 := right159_ok (n := n) h f b r (by omega) hg
  obtain ⟨p5, e6, q5⟩ := two_right_ok (n := n) h (k := k + 94) (p := p4) q4
  refine ⟨p5, some (.d (frameD m l)), some (.d (boardD B)), some (.d (rowD cs)), some (.d (.list (g.map PyData.int))), ?_, q5.less (by omega)⟩
  have s0 : evS (run fs gl (n + 7)) gl (mid14.nth 0) [v0, v1, some (.l p), some (.d d), v4, v5, v6, v7] = some ([v0, v1, some (.l p1), some (.d d), some (.d (frameD m l)), v5, v6, v7], .nx) := by
    generalize frameD m l = FD at e1 ⊢
    simp [mid14, out14, F161, Ss.nth, e1]
  have s1 : evS (run fs gl (n + 7)) gl (mid14.nth 1) [v0, v1, some (.l p1), some (.d d), some (.d (frameD m l)), v5, v6, v7] = some ([v0, v1, some (.l p3), some (.d d), some (.d (frameD m l)), some (.d (boardD B)), some (.d (rowD cs)), v7], .nx) := by
    generalize rowD cs = C at e3 ⊢
    generalize boardD B = BD at e2 ⊢
    generalize frameD m l = FD at e2 e3 ⊢
    simp at e3
    simp [mid14, out14, F161, Ss.nth, e2, e3]
  have s2 : evS (run fs gl (n + 7)) gl (mid14.nth 2) [v0, v1, some (.l p3), some (.d d), some (.d (frameD m l)), some (.d (boardD B)), some (.d (rowD cs)), v7] = some ([v0, v1, some (.l p4), some (.d d), some (.d (frameD m l)), some (.d (boardD B)), some (.d (rowD cs)), some (.d (.list (g.map PyData.int)))], .nx) := by
    have a0 : ∀ x y : D, atD [x, y] 0 = some x := fun _ _ => rfl
    generalize rowD cs = C
    generalize boardD B = BD
    generalize g.map PyData.int = G at e4 ⊢
    unfold frameD
    simp [mid14, out14, F161, Ss.nth, a0, e4]
  have s3 : evS (run fs gl (n + 7)) gl (mid14.nth 3) [v0, v1, some (.l p4), some (.d d), some (.d (frameD m l)), some (.d (boardD B)), some (.d (rowD cs)), some (.d (.list (g.map PyData.int)))] = some ([v0, v1, some (.l p5), some (.d d), some (.d (frameD m l)), some (.d (boardD B)), some (.d (rowD cs)), some (.d (.list (g.map PyData.int)))], .nx) := by
    generalize rowD cs = C at e5 ⊢
    generalize boardD B = BD at e5 ⊢
    generalize g.map PyData.int = G at e5 ⊢
    generalize frameD m l = FD at e5 ⊢
    simp [mid14, out14, F161, Ss.nth, e5, e6]
  exact (evSs_nx s0).trans ((evSs_nx s1).trans ((evSs_nx s2).trans ((evSs_nx s3).trans rfl)))
theorem out_turn14 (h : Has14 fs gl) {ns : List Int} {i : Nat} {v1 v2 v3 v4 v5 v6 v7 : Option Sl} :
    ∃ w2 w3 w4 w5 w6 w7, turnF (gT (.n 1)) (evSs (run fs gl (n + 7)) gl out14) (.int i) [some (.s (ns.map PyData.int)), v1, v2, v3, v4, v5, v6, v7] =
      some ([some (.s (ns.map PyData.int)), some (.d (.int i)), w2, w3, w4, w5, w6, w7], .nx) := by
  obtain ⟨c, e1⟩ := law_cell_ok (n := n + 6) (gl := gl) h.h11 ns i
  obtain ⟨p, e2, hp⟩ := penned_ok (n := n + 6) (gl := gl) h.h52 c
  obtain ⟨ρ', el, p', w3, w4, w5, w6, w7, rfl, _⟩ := loopF_inv (tg := gT (.n 3)) (body := evSs (run fs gl (n + 7)) gl mid14)
    (fun xs ρ => ∃ (p' : List D) (v3 v4 v5 v6 v7 : Option Sl), ρ = [some (.s (ns.map PyData.int)), some (.d (.int i)), some (.l p'), v3, v4, v5, v6, v7] ∧ Pn (200 * xs.length) p')
    (fun x xs ρ ⟨p', v3, v4, v5, v6, v7, eρ, hp'⟩ => by
      subst eρ
      obtain ⟨p2, w4, w5, w6, w7, e, q⟩ := mid_turn14 (n := n) h (k := 200 * xs.length) (d := x) (v0 := some (.s (ns.map PyData.int))) (v1 := some (.d (.int i))) (v3 := v3) (v4 := v4) (v5 := v5) (v6 := v6) (v7 := v7) (hp'.less (by rw [List.length_cons]; omega))
      exact ⟨_, e, p2, _, w4, w5, w6, w7, rfl, q⟩)
    (rngD 0 4) [some (.s (ns.map PyData.int)), some (.d (.int i)), some (.l p), v3, v4, v5, v6, v7] ⟨p, _, _, _, _, _, rfl, hp.less (by rw [rngD_length]; decide)⟩
  have s0 : evS (run fs gl (n + 7)) gl (out14.nth 0) [some (.s (ns.map PyData.int)), some (.d (.int i)), v2, v3, v4, v5, v6, v7] = some ([some (.s (ns.map PyData.int)), some (.d (.int i)), some (.l p), v3, v4, v5, v6, v7], .nx) := by
    simp [out14, F161, e1, e2]
  have er : rng1 (.int 4) = some (rngD 0 4) := rng1_of (b := 4) (by decide) (by decide)
  have s1 : evS (run fs gl (n + 7)) gl (out14.nth 1) [some (.s (ns.map PyData.int)), some (.d (.int i)), some (.l p), v3, v4, v5, v6, v7] = some ([some (.s (ns.map PyData.int)), some (.d (.int i)), some (.l p'), w3, w4, w5, w6, w7], .nx) := for_eq (rng_eq (a := .cst (.int 4)) rfl er) el
  exact ⟨_, _, _, _, _, _, (evSs_nx s0).trans ((evSs_nx s1).trans rfl)⟩
theorem law14 (h : Has14 fs gl) (ns : List Int) (hn : ns.length ≤ 63) : ∃ ss', run fs gl (n + 8) 161 [.s (ns.map PyData.int)] = some (ss', .d (.bool true)) := by
  obtain ⟨ρ', el, _, v1, v2, v3, v4, v5, v6, v7, rfl⟩ := loopF_inv (tg := gT (.n 1)) (body := evSs (run fs gl (n + 7)) gl out14)
    (fun xs ρ => (∀ d ∈ xs, ∃ i : Nat, d = .int i) ∧ ∃ v1 v2 v3 v4 v5 v6 v7, ρ = [some (.s (ns.map PyData.int)), v1, v2, v3, v4, v5, v6, v7])
    (fun x xs ρ ⟨hx, v1, v2, v3, v4, v5, v6, v7, eρ⟩ => by
      subst eρ
      obtain ⟨i, rfl⟩ := hx x List.mem_cons_self
      obtain ⟨w2, w3, w4, w5, w6, w7, e⟩ := out_turn14 (n := n) h (ns := ns) (i := i) (v1 := v1) (v2 := v2) (v3 := v3) (v4 := v4) (v5 := v5) (v6 := v6) (v7 := v7)
      exact ⟨_, e, fun y hy => hx y (List.mem_cons_of_mem _ hy), _, w2, w3, w4, w5, w6, w7, rfl⟩)
    (rngD 0 (if (if (3 : Int) < ns.length then 3 else (ns.length : Int)) > 1 then (if (3 : Int) < ns.length then 3 else (ns.length : Int)) else 1).toNat) [some (.s (ns.map PyData.int)), none, none, none, none, none, none, none]
    ⟨fun y hy => by
      obtain ⟨i, e, hi⟩ := mem_rng hy
      exact ⟨i, e⟩, _, _, _, _, _, _, _, rfl⟩
  refine ⟨[.s (ns.map PyData.int)], ?_⟩
  · rw [run_step h.h161]
    generalize hc : (if (if (3 : Int) < ns.length then 3 else (ns.length : Int)) > 1 then (if (3 : Int) < ns.length then 3 else (ns.length : Int)) else 1) = c at el
    have b1 : -4611686018427387904 ≤ c := by omega
    have b2 : c < 4611686018427387904 := by omega
    simp [out14, F161] at el ⊢
    simp at hc
    simp [hc, b1, b2, el]
end DL

namespace T_k14
open PySem PySem.Spec L2 DL
open PyProof.Rows hiding St
def top (i : Nat) : Stmt := PySem.Challenge.pw_tailswap_k14_whole_ribbons_called_anew.main.body.getD i (.Pass ⟨0, 0, 0, 0⟩)
/-- is_whole(thing); slots 0:thing -/
def e0 : Fe := ⟨"is_whole", top 10, ["thing"], ["thing"], F0⟩
/-- is_among(thing, low, high); slots 0:thing 1:low 2:high -/
def e1 : Fe := ⟨"is_among", top 11, ["thing", "low", "high"], ["thing", "low", "high"], F1⟩
/-- are_some(thing, low, high); slots 0:thing 1:low 2:high -/
def e2 : Fe := ⟨"are_some", top 12, ["thing", "low", "high"], ["thing", "low", "high"], F2⟩
/-- is_frame(thing); slots 0:thing -/
def e3 : Fe := ⟨"is_frame", top 13, ["thing"], ["thing"], F3⟩
/-- need_frame(thing); slots 0:thing -/
def e4 : Fe := ⟨"need_frame", top 14, ["thing"], ["thing"], F4⟩
/-- is_ribbon_text(thing); slots 0:thing 1:sign -/
def e63 : Fe := ⟨"is_ribbon_text", top 15, ["thing", "sign"], ["thing"], F63⟩
/-- is_board(thing); slots 0:thing 1:one -/
def e64 : Fe := ⟨"is_board", top 16, ["thing", "one"], ["thing"], F64⟩
/-- need_board(thing); slots 0:thing -/
def e65 : Fe := ⟨"need_board", top 17, ["thing"], ["thing"], F65⟩
/-- frame_by(board); slots 0:board -/
def e66 : Fe := ⟨"frame_by", top 18, ["board"], ["board"], F66⟩
/-- is_cut(frame, thing); slots 0:frame 1:thing 2:many 3:long 4:one -/
def e5 : Fe := ⟨"is_cut", top 20, ["frame", "thing", "many", "long", "one"], ["frame", "thing"], F5⟩
/-- is_row(frame, thing); slots 0:frame 1:thing 2:one -/
def e6 : Fe := ⟨"is_row", top 21, ["frame", "thing", "one"], ["frame", "thing"], F6⟩
/-- need_row(frame, thing); slots 0:frame 1:thing -/
def e7 : Fe := ⟨"need_row", top 22, ["frame", "thing"], ["frame", "thing"], F7⟩
/-- no_cut(frame); slots 0:frame 1:many 2:long -/
def e34 : Fe := ⟨"no_cut", top 23, ["frame", "many", "long"], ["frame"], F34⟩
/-- with_two(order, one, other); slots 0:order 1:one 2:other 3:found -/
def e35 : Fe := ⟨"with_two", top 24, ["order", "one", "other", "found"], ["order", "one", "other"], F35⟩
/-- effect_by(frame, row); slots 0:frame 1:row 2:found 3:place 4:one 5:other 6:order -/
def e143 : Fe := ⟨"effect_by", top 25, ["frame", "row", "found", "place", "one", "other", "order"], ["frame", "row"], F143⟩
/-- does(frame, row); slots 0:frame 1:row -/
def e144 : Fe := ⟨"does", top 26, ["frame", "row"], ["frame", "row"], F144⟩
/-- is_order(many, thing); slots 0:many 1:thing 2:one -/
def e20 : Fe := ⟨"is_order", top 27, ["many", "thing", "one"], ["many", "thing"], F20⟩
/-- is_effect_by(frame, thing); slots 0:frame 1:thing 2:many 3:long 4:order -/
def e21 : Fe := ⟨"is_effect_by", top 28, ["frame", "thing", "many", "long", "order"], ["frame", "thing"], F21⟩
/-- need_effect(frame, thing); slots 0:frame 1:thing -/
def e22 : Fe := ⟨"need_effect", top 29, ["frame", "thing"], ["frame", "thing"], F22⟩
/-- led_by(board, effect); slots 0:board 1:effect 2:many 3:long 4:found 5:ribbon 6:place -/
def e67 : Fe := ⟨"led_by", top 30, ["board", "effect", "many", "long", "found", "ribbon", "place"], ["board", "effect"], F67⟩
/-- led(board, effect); slots 0:board 1:effect -/
def e68 : Fe := ⟨"led", top 31, ["board", "effect"], ["board", "effect"], F68⟩
/-- behind_by(board, row); slots 0:board 1:row -/
def e154 : Fe := ⟨"behind_by", top 32, ["board", "row"], ["board", "row"], F154⟩
/-- behind(board, row); slots 0:board 1:row -/
def e155 : Fe := ⟨"behind", top 33, ["board", "row"], ["board", "row"], F155⟩
/-- rounds_of(order); slots 0:order 1:found 2:met 3:begin 4:row 5:here -/
def e42 : Fe := ⟨"rounds_of", top 35, ["order", "found", "met", "begin", "row", "here"], ["order"], F42⟩
/-- power_of(order, times); slots 0:order 1:times 2:found 3:row 4:at 5:place -/
def e71 : Fe := ⟨"power_of", top 36, ["order", "times", "found", "row", "at", "place"], ["order", "times"], F71⟩
/-- far_by(frame, row, times); slots 0:frame 1:row 2:times 3:order -/
def e156 : Fe := ⟨"far_by", top 37, ["frame", "row", "times", "order"], ["frame", "row", "times"], F156⟩
/-- common(one, other); slots 0:one 1:other -/
def e73 : Fe := ⟨"common", top 38, ["one", "other"], ["one", "other"], F73⟩
/-- round_of(frame, row); slots 0:frame 1:row 2:found 3:order 4:one -/
def e157 : Fe := ⟨"round_of", top 39, ["frame", "row", "found", "order", "one"], ["frame", "row"], F157⟩
/-- round_from(board, row); slots 0:board 1:row 2:found -/
def e158 : Fe := ⟨"round_from", top 40, ["board", "row", "found"], ["board", "row"], F158⟩
/-- joints_by(frame, effect); slots 0:frame 1:effect 2:ahead 3:found 4:order 5:ribbon -/
def e84 : Fe := ⟨"joints_by", top 42, ["frame", "effect", "ahead", "found", "order", "ribbon"], ["frame", "effect"], F84⟩
/-- joints(frame, effect); slots 0:frame 1:effect -/
def e99 : Fe := ⟨"joints", top 43, ["frame", "effect"], ["frame", "effect"], F99⟩
/-- joint_cost(joint); slots 0:joint -/
def e44 : Fe := ⟨"joint_cost", top 44, ["joint"], ["joint"], F44⟩
/-- fewest_by(frame, effect); slots 0:frame 1:effect 2:joint -/
def e85 : Fe := ⟨"fewest_by", top 45, ["frame", "effect", "joint"], ["frame", "effect"], F85⟩
/-- fewest(frame, effect); slots 0:frame 1:effect -/
def e100 : Fe := ⟨"fewest", top 46, ["frame", "effect"], ["frame", "effect"], F100⟩
/-- is_short_by(frame, row); slots 0:frame 1:row -/
def e147 : Fe := ⟨"is_short_by", top 47, ["frame", "row"], ["frame", "row"], F147⟩
/-- is_short(frame, row); slots 0:frame 1:row -/
def e148 : Fe := ⟨"is_short", top 48, ["frame", "row"], ["frame", "row"], F148⟩
/-- _law_cell_at(_law_script, _law_k); slots 0:_law_script 1:_law_k -/
def e11 : Fe := ⟨"_law_cell_at", top 50, ["_law_script", "_law_k"], ["_law_script", "_law_k"], F11⟩
/-- _law_pen(_law_cell); slots 0:_law_cell -/
def e52 : Fe := ⟨"_law_pen", top 51, ["_law_cell"], ["_law_cell"], F52⟩
/-- _law_draw(_law_pen_here, _law_many); slots 0:_law_pen_here 1:_law_many 2:_law_found 3:_law_stirred -/
def e53 : Fe := ⟨"_law_draw", top 52, ["_law_pen_here", "_law_many", "_law_found", "_law_stirred"], ["_law_pen_here", "_law_many"], F53⟩
/-- _law_pick(_law_pen_here, _law_some); slots 0:_law_pen_here 1:_law_some -/
def e54 : Fe := ⟨"_law_pick", top 53, ["_law_pen_here", "_law_some"], ["_law_pen_here", "_law_some"], F54⟩
/-- _law_mixed(_law_pen_here, _law_many); slots 0:_law_pen_here 1:_law_many 2:_law_left 3:_law_found 4:_law_turn -/
def e55 : Fe := ⟨"_law_mixed", top 54, ["_law_pen_here", "_law_many", "_law_left", "_law_found", "_law_turn"], ["_law_pen_here", "_law_many"], F55⟩
/-- _law_frame(_law_pen_here, _law_most, _law_far); slots 0:_law_pen_here 1:_law_most 2:_law_far -/
def e56 : Fe := ⟨"_law_frame", top 55, ["_law_pen_here", "_law_most", "_law_far"], ["_law_pen_here", "_law_most", "_law_far"], F56⟩
/-- _law_board(_law_pen_here, _law_frame_here); slots 0:_law_pen_here 1:_law_frame_here 2:_law_letters 3:_law_found 4:_law_ribbon 5:_law_place -/
def e77 : Fe := ⟨"_law_board", top 56, ["_law_pen_here", "_law_frame_here", "_law_letters", "_law_found", "_law_ribbon", "_law_place"], ["_law_pen_here", "_law_frame_here"], F77⟩
/-- _law_cuts(_law_frame_here); slots 0:_law_frame_here 1:_law_found 2:_law_place 3:_law_one 4:_law_other -/
def e57 : Fe := ⟨"_law_cuts", top 57, ["_law_frame_here", "_law_found", "_law_place", "_law_one", "_law_other"], ["_law_frame_here"], F57⟩
/-- _law_row(_law_pen_here, _law_frame_here, _law_most); slots 0:_law_pen_here 1:_law_frame_here 2:_law_most 3:_law_some 4:_law_turn -/
def e58 : Fe := ⟨"_law_row", top 58, ["_law_pen_here", "_law_frame_here", "_law_most", "_law_some", "_law_turn"], ["_law_pen_here", "_law_frame_here", "_law_most"], F58⟩
/-- _law_called(_law_row_here, _law_names); slots 0:_law_row_here 1:_law_names 2:_law_found 3:_law_place 4:_law_one 5:_law_other -/
def e78 : Fe := ⟨"_law_called", top 59, ["_law_row_here", "_law_names", "_law_found", "_law_place", "_law_one", "_law_other"], ["_law_row_here", "_law_names"], F78⟩
/-- _law_board_called(_law_board_here, _law_names); slots 0:_law_board_here 1:_law_names 2:_law_found 3:_law_ribbon 4:_law_text -/
def e79 : Fe := ⟨"_law_board_called", top 60, ["_law_board_here", "_law_names", "_law_found", "_law_ribbon", "_law_text"], ["_law_board_here", "_law_names"], F79⟩
/-- _law_right(_law_frame_here, _law_board_here, _law_row_here, _law_names); slots 0:_law_frame_here 1:_law_board_here 2:_law_row_here 3:_law_names 4:_law_its 5:_law_other -/
def e159 : Fe := ⟨"_law_right", top 61, ["_law_frame_here", "_law_board_here", "_law_row_here", "_law_names", "_law_its", "_law_other"], ["_law_frame_here", "_law_board_here", "_law_row_here", "_law_names"], F159⟩
/-- _law_two_right(_law_pen_here); slots 0:_law_pen_here 1:_law_frame_here 2:_law_row_here 3:_law_told 4:_law_place 5:_law_odd 6:_law_cut -/
def e160 : Fe := ⟨"_law_two_right", top 62, ["_law_pen_here", "_law_frame_here", "_law_row_here", "_law_told", "_law_place", "_law_odd", "_law_cut"], ["_law_pen_here"], F160⟩
/-- law(_law_script); slots 0:_law_script 1:_law_k 2:_law_pen_here 3:_law_lap 4:_law_frame_here 5:_law_board_here 6:_law_row_here 7:_law_names -/
def e161 : Fe := ⟨"law", top 63, ["_law_script", "_law_k", "_law_pen_here", "_law_lap", "_law_frame_here", "_law_board_here", "_law_row_here", "_law_names"], ["_law_script"], F161⟩
def nm : Nm := ⟨[(0, (("is_whole" : Str), 1)), (1, (("is_among" : Str), 3)), (2, (("are_some" : Str), 3)), (3, (("is_frame" : Str), 1)), (4, (("need_frame" : Str), 1)), (63, (("is_ribbon_text" : Str), 1)), (64, (("is_board" : Str), 1)), (65, (("need_board" : Str), 1)), (66, (("frame_by" : Str), 1)), (5, (("is_cut" : Str), 2)), (6, (("is_row" : Str), 2)), (7, (("need_row" : Str), 2)), (34, (("no_cut" : Str), 1)), (35, (("with_two" : Str), 3)), (143, (("effect_by" : Str), 2)), (144, (("does" : Str), 2)), (20, (("is_order" : Str), 2)), (21, (("is_effect_by" : Str), 2)), (22, (("need_effect" : Str), 2)), (67, (("led_by" : Str), 2)), (68, (("led" : Str), 2)), (154, (("behind_by" : Str), 2)), (155, (("behind" : Str), 2)), (42, (("rounds_of" : Str), 1)), (71, (("power_of" : Str), 2)), (156, (("far_by" : Str), 3)), (73, (("common" : Str), 2)), (157, (("round_of" : Str), 2)), (158, (("round_from" : Str), 2)), (84, (("joints_by" : Str), 2)), (99, (("joints" : Str), 2)), (44, (("joint_cost" : Str), 1)), (85, (("fewest_by" : Str), 2)), (100, (("fewest" : Str), 2)), (147, (("is_short_by" : Str), 2)), (148, (("is_short" : Str), 2)), (11, (("_law_cell_at" : Str), 2)), (52, (("_law_pen" : Str), 1)), (53, (("_law_draw" : Str), 2)), (54, (("_law_pick" : Str), 2)), (55, (("_law_mixed" : Str), 2)), (56, (("_law_frame" : Str), 3)), (77, (("_law_board" : Str), 2)), (57, (("_law_cuts" : Str), 1)), (58, (("_law_row" : Str), 3)), (78, (("_law_called" : Str), 2)), (79, (("_law_board_called" : Str), 2)), (159, (("_law_right" : Str), 4)), (160, (("_law_two_right" : Str), 1)), (161, (("law" : Str), 1))], [(0, ("MOST_PLACES" : Str)), (1, ("MOST_RIBBONS" : Str)), (2, ("LETTERS" : Str))], ["isinstance", "bool", "int", "len", "tuple", "all", "str", "range", "list", "set", "enumerate", "sum", "max", "min"]⟩
def gl : Nat → Option D
  | 0 => some (.int 12)
  | 1 => some (.int 5)
  | 2 => some (.str "abcdefghijklmnopqrstuvwxyz")
  | _ => none
def tb : List (Nat × Fe) := [(0, e0), (1, e1), (2, e2), (3, e3), (4, e4), (63, e63), (64, e64), (65, e65), (66, e66), (5, e5), (6, e6), (7, e7), (34, e34), (35, e35), (143, e143), (144, e144), (20, e20), (21, e21), (22, e22), (67, e67), (68, e68), (154, e154), (155, e155), (42, e42), (71, e71), (156, e156), (73, e73), (157, e157), (158, e158), (84, e84), (99, e99), (44, e44), (85, e85), (100, e100), (147, e147), (148, e148), (11, e11), (52, e52), (53, e53), (54, e54), (55, e55), (56, e56), (77, e77), (57, e57), (58, e58), (78, e78), (79, e79), (159, e159), (160, e160), (161, e161)]
abbrev R (n f : Nat) : List Sl → Option (List Sl × Sl) := run (fsOf tb) gl n f
end T_k14

namespace T_k14
open PySem PySem.Spec L2 DL
open PyProof.Rows hiding St
theorem c0 : feB nm e0 = true := by decide +kernel
theorem c1 : feB nm e1 = true := by decide +kernel
theorem c2 : feB nm e2 = true := by decide +kernel
theorem c3 : feB nm e3 = true := by decide +kernel
theorem c4 : feB nm e4 = true := by decide +kernel
theorem c63 : feB nm e63 = true := by decide +kernel
theorem c64 : feB nm e64 = true := by decide +kernel
theorem c65 : feB nm e65 = true := by decide +kernel
theorem c66 : feB nm e66 = true := by decide +kernel
theorem c5 : feB nm e5 = true := by decide +kernel
theorem c6 : feB nm e6 = true := by decide +kernel
theorem c7 : feB nm e7 = true := by decide +kernel
theorem c34 : feB nm e34 = true := by decide +kernel
theorem c35 : feB nm e35 = true := by decide +kernel
theorem c143 : feB nm e143 = true := by decide +kernel
theorem c144 : feB nm e144 = true := by decide +kernel
theorem c20 : feB nm e20 = true := by decide +kernel
theorem c21 : feB nm e21 = true := by decide +kernel
theorem c22 : feB nm e22 = true := by decide +kernel
theorem c67 : feB nm e67 = true := by decide +kernel
theorem c68 : feB nm e68 = true := by decide +kernel
theorem c154 : feB nm e154 = true := by decide +kernel
theorem c155 : feB nm e155 = true := by decide +kernel
theorem c42 : feB nm e42 = true := by decide +kernel
theorem c71 : feB nm e71 = true := by decide +kernel
theorem c156 : feB nm e156 = true := by decide +kernel
theorem c73 : feB nm e73 = true := by decide +kernel
theorem c157 : feB nm e157 = true := by decide +kernel
theorem c158 : feB nm e158 = true := by decide +kernel
theorem c84 : feB nm e84 = true := by decide +kernel
theorem c99 : feB nm e99 = true := by decide +kernel
theorem c44 : feB nm e44 = true := by decide +kernel
theorem c85 : feB nm e85 = true := by decide +kernel
theorem c100 : feB nm e100 = true := by decide +kernel
theorem c147 : feB nm e147 = true := by decide +kernel
theorem c148 : feB nm e148 = true := by decide +kernel
theorem c11 : feB nm e11 = true := by decide +kernel
theorem c52 : feB nm e52 = true := by decide +kernel
theorem c53 : feB nm e53 = true := by decide +kernel
theorem c54 : feB nm e54 = true := by decide +kernel
theorem c55 : feB nm e55 = true := by decide +kernel
theorem c56 : feB nm e56 = true := by decide +kernel
theorem c77 : feB nm e77 = true := by decide +kernel
theorem c57 : feB nm e57 = true := by decide +kernel
theorem c58 : feB nm e58 = true := by decide +kernel
theorem c78 : feB nm e78 = true := by decide +kernel
theorem c79 : feB nm e79 = true := by decide +kernel
theorem c159 : feB nm e159 = true := by decide +kernel
theorem c160 : feB nm e160 = true := by decide +kernel
theorem c161 : feB nm e161 = true := by decide +kernel
theorem ck : (tb.all fun p => feB nm p.2) = true := by
  simp only [tb, List.all_cons, List.all_nil, Bool.and_true, Bool.and_eq_true]
  exact ⟨c0, c1, c2, c3, c4, c63, c64, c65, c66, c5, c6, c7, c34, c35, c143, c144, c20, c21, c22, c67, c68, c154, c155, c42, c71, c156, c73, c157, c158, c84, c99, c44, c85, c100, c147, c148, c11, c52, c53, c54, c55, c56, c77, c57, c58, c78, c79, c159, c160, c161⟩
end T_k14

namespace T_k14
open PySem PySem.Spec L2 DL
open PyProof.Rows hiding St
theorem good : ∀ ns : List Int, ns.length ≤ 63 → (∀ z ∈ ns, Builtin.Int.intBits z ≤ 1048576) → ∃ ss', run (fsOf tb) gl 8 161 [.s (ns.map PyData.int)] = some (ss', .d (.bool true)) := fun ns hn _ =>
  law14 (n := 0) (fs := fsOf tb) (gl := gl) (by repeat' first | rfl | constructor) ns hn
end T_k14

open PySem PySem.W PyProof.Rows in
set_option maxHeartbeats 0 in
theorem PySem.Challenge.cw_tailswap_k14_whole_ribbons_called_anew_holds : PySem.Challenge.rw_tailswap_k14_whole_ribbons_called_anew.Holds := by
  w_on; o_law; k_head; (case hw => w_witness2)
  k_fill
  refine DL.walk_tb (l := PySem.Challenge.rw_tailswap_k14_whole_ribbons_called_anew) (n := 63) (k := 8) (x := "_law_script") T_k14.nm T_k14.gl T_k14.tb 161 T_k14.e161 rfl (by decide) rfl ⟨rfl, by decide, by decide⟩ (fun w h Y => PySem.W.kIn_of Y) rfl T_k14.ck rfl rfl rfl ?F T_k14.good
  case F =>
    intro w mg h KX G
    refine ⟨?_, ?_, ?_⟩
    · simp only [T_k14.tb, List.forall_mem_cons]
      refine ⟨?f0, ?f1, ?f2, ?f3, ?f4, ?f5, ?f6, ?f7, ?f8, ?f9, ?f10, ?f11, ?f12, ?f13, ?f14, ?f15, ?f16, ?f17, ?f18, ?f19, ?f20, ?f21, ?f22, ?f23, ?f24, ?f25, ?f26, ?f27, ?f28, ?f29, ?f30, ?f31, ?f32, ?f33, ?f34, ?f35, ?f36, ?f37, ?f38, ?f39, ?f40, ?f41, ?f42, ?f43, ?f44, ?f45, ?f46, ?f47, ?f48, ?f49, fun _ hz => absurd hz (by simp)⟩
      case f0 =>
        refine' DL.lies_mk (e := T_k14.e0) KX G (fun _ _ _ _ _ _ us hl => match us, hl with | [_], _ => rfl) ?a ?l ?c ?k
        (case a => k_is); (case l => k_is); (case c => k_is); (case k => k_is)
      case f1 =>
        refine' DL.lies_mk (e := T_k14.e1) KX G (fun _ _ _ _ _ _ us hl => match us, hl with | [_, _, _], _ => rfl) ?a ?l ?c ?k
        (case a => k_is); (case l => k_is); (case c => k_is); (case k => k_is)
      case f2 =>
        refine' DL.lies_mk (e := T_k14.e2) KX G (fun _ _ _ _ _ _ us hl => match us, hl with | [_, _, _], _ => rfl) ?a ?l ?c ?k
        (case a => k_is); (case l => k_is); (case c => k_is); (case k => k_is)
      case f3 =>
        refine' DL.lies_mk (e := T_k14.e3) KX G (fun _ _ _ _ _ _ us hl => match us, hl with | [_], _ => rfl) ?a ?l ?c ?k
        (case a => k_is); (case l => k_is); (case c => k_is); (case k => k_is)
      case f4 =>
        refine' DL.lies_mk (e := T_k14.e4) KX G (fun _ _ _ _ _ _ us hl => match us, hl with | [_], _ => rfl) ?a ?l ?c ?k
        (case a => k_is); (case l => k_is); (case c => k_is); (case k => k_is)
      case f5 =>
        refine' DL.lies_mk (e := T_k14.e63) KX G (fun _ _ _ _ _ _ us hl => match us, hl with | [_], _ => rfl) ?a ?l ?c ?k
        (case a => k_is); (case l => k_is); (case c => k_is); (case k => k_is)
      case f6 =>
        refine' DL.lies_mk (e := T_k14.e64) KX G (fun _ _ _ _ _ _ us hl => match us, hl with | [_], _ => rfl) ?a ?l ?c ?k
        (case a => k_is); (case l => k_is); (case c => k_is); (case k => k_is)
      case f7 =>
        refine' DL.lies_mk (e := T_k14.e65) KX G (fun _ _ _ _ _ _ us hl => match us, hl with | [_], _ => rfl) ?a ?l ?c ?k
        (case a => k_is); (case l => k_is); (case c => k_is); (case k => k_is)
      case f8 =>
        refine' DL.lies_mk (e := T_k14.e66) KX G (fun _ _ _ _ _ _ us hl => match us, hl with | [_], _ => rfl) ?a ?l ?c ?k
        (case a => k_is); (case l => k_is); (case c => k_is); (case k => k_is)
      case f9 =>
        refine' DL.lies_mk (e := T_k14.e5) KX G (fun _ _ _ _ _ _ us hl => match us, hl with | [_, _], _ => rfl) ?a ?l ?c ?k
        (case a => k_is); (case l => k_is); (case c => k_is); (case k => k_is)
      case f10 =>
        refine' DL.lies_mk (e := T_k14.e6) KX G (fun _ _ _ _ _ _ us hl => match us, hl with | [_, _], _ => rfl) ?a ?l ?c ?k
        (case a => k_is); (case l => k_is); (case c => k_is); (case k => k_is)
      case f11 =>
        refine' DL.lies_mk (e := T_k14.e7) KX G (fun _ _ _ _ _ _ us hl => match us, hl with | [_, _], _ => rfl) ?a ?l ?c ?k
        (case a => k_is); (case l => k_is); (case c => k_is); (case k => k_is)
      case f12 =>
        refine' DL.lies_mk (e := T_k14.e34) KX G (fun _ _ _ _ _ _ us hl => match us, hl with | [_], _ => rfl) ?a ?l ?c ?k
        (case a => k_is); (case l => k_is); (case c => k_is); (case k => k_is)
      case f13 =>
        refine' DL.lies_mk (e := T_k14.e35) KX G (fun _ _ _ _ _ _ us hl => match us, hl with | [_, _, _], _ => rfl) ?a ?l ?c ?k
        (case a => k_is); (case l => k_is); (case c => k_is); (case k => k_is)
      case f14 =>
        refine' DL.lies_mk (e := T_k14.e143) KX G (fun _ _ _ _ _ _ us hl => match us, hl with | [_, _], _ => rfl) ?a ?l ?c ?k
        (case a => k_is); (case l => k_is); (case c => k_is); (case k => k_is)
      case f15 =>
        refine' DL.lies_mk (e := T_k14.e144) KX G (fun _ _ _ _ _ _ us hl => match us, hl with | [_, _], _ => rfl) ?a ?l ?c ?k
        (case a => k_is); (case l => k_is); (case c => k_is); (case k => k_is)
      case f16 =>
        refine' DL.lies_mk (e := T_k14.e20) KX G (fun _ _ _ _ _ _ us hl => match us, hl with | [_, _], _ => rfl) ?a ?l ?c ?k
        (case a => k_is); (case l => k_is); (case c => k_is); (case k => k_is)
      case f17 =>
        refine' DL.lies_mk (e := T_k14.e21) KX G (fun _ _ _ _ _ _ us hl => match us, hl with | [_, _], _ => rfl) ?a ?l ?c ?k
        (case a => k_is); (case l => k_is); (case c => k_is); (case k => k_is)
      case f18 =>
        refine' DL.lies_mk (e := T_k14.e22) KX G (fun _ _ _ _ _ _ us hl => match us, hl with | [_, _], _ => rfl) ?a ?l ?c ?k
        (case a => k_is); (case l => k_is); (case c => k_is); (case k => k_is)
      case f19 =>
        refine' DL.lies_mk (e := T_k14.e67) KX G (fun _ _ _ _ _ _ us hl => match us, hl with | [_, _], _ => rfl) ?a ?l ?c ?k
        (case a => k_is); (case l => k_is); (case c => k_is); (case k => k_is)
      case f20 =>
        refine' DL.lies_mk (e := T_k14.e68) KX G (fun _ _ _ _ _ _ us hl => match us, hl with | [_, _], _ => rfl) ?a ?l ?c ?k
        (case a => k_is); (case l => k_is); (case c => k_is); (case k => k_is)
      case f21 =>
        refine' DL.lies_mk (e := T_k14.e154) KX G (fun _ _ _ _ _ _ us hl => match us, hl with | [_, _], _ => rfl) ?a ?l ?c ?k
        (case a => k_is); (case l => k_is); (case c => k_is); (case k => k_is)
      case f22 =>
        refine' DL.lies_mk (e := T_k14.e155) KX G (fun _ _ _ _ _ _ us hl => match us, hl with | [_, _], _ => rfl) ?a ?l ?c ?k
        (case a => k_is); (case l => k_is); (case c => k_is); (case k => k_is)
      case f23 =>
        refine' DL.lies_mk (e := T_k14.e42) KX G (fun _ _ _ _ _ _ us hl => match us, hl with | [_], _ => rfl) ?a ?l ?c ?k
        (case a => k_is); (case l => k_is); (case c => k_is); (case k => k_is)
      case f24 =>
        refine' DL.lies_mk (e := T_k14.e71) KX G (fun _ _ _ _ _ _ us hl => match us, hl with | [_, _], _ => rfl) ?a ?l ?c ?k
        (case a => k_is); (case l => k_is); (case c => k_is); (case k => k_is)
      case f25 =>
        refine' DL.lies_mk (e := T_k14.e156) KX G (fun _ _ _ _ _ _ us hl => match us, hl with | [_, _, _], _ => rfl) ?a ?l ?c ?k
        (case a => k_is); (case l => k_is); (case c => k_is); (case k => k_is)
      case f26 =>
        refine' DL.lies_mk (e := T_k14.e73) KX G (fun _ _ _ _ _ _ us hl => match us, hl with | [_, _], _ => rfl) ?a ?l ?c ?k
        (case a => k_is); (case l => k_is); (case c => k_is); (case k => k_is)
      case f27 =>
        refine' DL.lies_mk (e := T_k14.e157) KX G (fun _ _ _ _ _ _ us hl => match us, hl with | [_, _], _ => rfl) ?a ?l ?c ?k
        (case a => k_is); (case l => k_is); (case c => k_is); (case k => k_is)
      case f28 =>
        refine' DL.lies_mk (e := T_k14.e158) KX G (fun _ _ _ _ _ _ us hl => match us, hl with | [_, _], _ => rfl) ?a ?l ?c ?k
        (case a => k_is); (case l => k_is); (case c => k_is); (case k => k_is)
      case f29 =>
        refine' DL.lies_mk (e := T_k14.e84) KX G (fun _ _ _ _ _ _ us hl => match us, hl with | [_, _], _ => rfl) ?a ?l ?c ?k
        (case a => k_is); (case l => k_is); (case c => k_is); (case k => k_is)
      case f30 =>
        refine' DL.lies_mk (e := T_k14.e99) KX G (fun _ _ _ _ _ _ us hl => match us, hl with | [_, _], _ => rfl) ?a ?l ?c ?k
        (case a => k_is); (case l => k_is); (case c => k_is); (case k => k_is)
      case f31 =>
        refine' DL.lies_mk (e := T_k14.e44) KX G (fun _ _ _ _ _ _ us hl => match us, hl with | [_], _ => rfl) ?a ?l ?c ?k
        (case a => k_is); (case l => k_is); (case c => k_is); (case k => k_is)
      case f32 =>
        refine' DL.lies_mk (e := T_k14.e85) KX G (fun _ _ _ _ _ _ us hl => match us, hl with | [_, _], _ => rfl) ?a ?l ?c ?k
        (case a => k_is); (case l => k_is); (case c => k_is); (case k => k_is)
      case f33 =>
        refine' DL.lies_mk (e := T_k14.e100) KX G (fun _ _ _ _ _ _ us hl => match us, hl with | [_, _], _ => rfl) ?a ?l ?c ?k
        (case a => k_is); (case l => k_is); (case c => k_is); (case k => k_is)
      case f34 =>
        refine' DL.lies_mk (e := T_k14.e147) KX G (fun _ _ _ _ _ _ us hl => match us, hl with | [_, _], _ => rfl) ?a ?l ?c ?k
        (case a => k_is); (case l => k_is); (case c => k_is); (case k => k_is)
      case f35 =>
        refine' DL.lies_mk (e := T_k14.e148) KX G (fun _ _ _ _ _ _ us hl => match us, hl with | [_, _], _ => rfl) ?a ?l ?c ?k
        (case a => k_is); (case l => k_is); (case c => k_is); (case k => k_is)
      case f36 =>
        refine' DL.lies_mk (e := T_k14.e11) KX G (fun _ _ _ _ _ _ us hl => match us, hl with | [_, _], _ => rfl) ?a ?l ?c ?k
        (case a => k_is); (case l => k_is); (case c => k_is); (case k => k_is)
      case f37 =>
        refine' DL.lies_mk (e := T_k14.e52) KX G (fun _ _ _ _ _ _ us hl => match us, hl with | [_], _ => rfl) ?a ?l ?c ?k
        (case a => k_is); (case l => k_is); (case c => k_is); (case k => k_is)
      case f38 =>
        refine' DL.lies_mk (e := T_k14.e53) KX G (fun _ _ _ _ _ _ us hl => match us, hl with | [_, _], _ => rfl) ?a ?l ?c ?k
        (case a => k_is); (case l => k_is); (case c => k_is); (case k => k_is)
      case f39 =>
        refine' DL.lies_mk (e := T_k14.e54) KX G (fun _ _ _ _ _ _ us hl => match us, hl with | [_, _], _ => rfl) ?a ?l ?c ?k
        (case a => k_is); (case l => k_is); (case c => k_is); (case k => k_is)
      case f40 =>
        refine' DL.lies_mk (e := T_k14.e55) KX G (fun _ _ _ _ _ _ us hl => match us, hl with | [_, _], _ => rfl) ?a ?l ?c ?k
        (case a => k_is); (case l => k_is); (case c => k_is); (case k => k_is)
      case f41 =>
        refine' DL.lies_mk (e := T_k14.e56) KX G (fun _ _ _ _ _ _ us hl => match us, hl with | [_, _, _], _ => rfl) ?a ?l ?c ?k
        (case a => k_is); (case l => k_is); (case c => k_is); (case k => k_is)
      case f42 =>
        refine' DL.lies_mk (e := T_k14.e77) KX G (fun _ _ _ _ _ _ us hl => match us, hl with | [_, _], _ => rfl) ?a ?l ?c ?k
        (case a => k_is); (case l => k_is); (case c => k_is); (case k => k_is)
      case f43 =>
        refine' DL.lies_mk (e := T_k14.e57) KX G (fun _ _ _ _ _ _ us hl => match us, hl with | [_], _ => rfl) ?a ?l ?c ?k
        (case a => k_is); (case l => k_is); (case c => k_is); (case k => k_is)
      case f44 =>
        refine' DL.lies_mk (e := T_k14.e58) KX G (fun _ _ _ _ _ _ us hl => match us, hl with | [_, _, _], _ => rfl) ?a ?l ?c ?k
        (case a => k_is); (case l => k_is); (case c => k_is); (case k => k_is)
      case f45 =>
        refine' DL.lies_mk (e := T_k14.e78) KX G (fun _ _ _ _ _ _ us hl => match us, hl with | [_, _], _ => rfl) ?a ?l ?c ?k
        (case a => k_is); (case l => k_is); (case c => k_is); (case k => k_is)
      case f46 =>
        refine' DL.lies_mk (e := T_k14.e79) KX G (fun _ _ _ _ _ _ us hl => match us, hl with | [_, _], _ => rfl) ?a ?l ?c ?k
        (case a => k_is); (case l => k_is); (case c => k_is); (case k => k_is)
      case f47 =>
        refine' DL.lies_mk (e := T_k14.e159) KX G (fun _ _ _ _ _ _ us hl => match us, hl with | [_, _, _, _], _ => rfl) ?a ?l ?c ?k
        (case a => k_is); (case l => k_is); (case c => k_is); (case k => k_is)
      case f48 =>
        refine' DL.lies_mk (e := T_k14.e160) KX G (fun _ _ _ _ _ _ us hl => match us, hl with | [_], _ => rfl) ?a ?l ?c ?k
        (case a => k_is); (case l => k_is); (case c => k_is); (case k => k_is)
      case f49 =>
        refine' DL.lies_mk (e := T_k14.e161) KX G (fun _ _ _ _ _ _ us hl => match us, hl with | [_], _ => rfl) ?a ?l ?c ?k
        (case a => k_is); (case l => k_is); (case c => k_is); (case k => k_is)
    · refine DL.glbs ?_
      simp only [T_k14.nm, List.forall_mem_cons]
      refine ⟨?glv0, ?glv1, ?glv2, fun _ hz => absurd hz (by simp)⟩
      case glv0 =>
        intro d hd; cases hd
        refine' DL.glb_int (x := "MOST_PLACES") KX G ?glo0 ?glp0; (case glo0 => k_is); (case glp0 => rfl)
      case glv1 =>
        intro d hd; cases hd
        refine' DL.glb_int (x := "MOST_RIBBONS") KX G ?glo1 ?glp1; (case glo1 => k_is); (case glp1 => rfl)
      case glv2 =>
        intro d hd; cases hd
        refine' DL.glb_str (x := "LETTERS") KX G ?glo2 ?glp2; (case glo2 => k_is); (case glp2 => rfl)
    · refine DL.none_all ?_
      simp only [T_k14.nm, List.forall_mem_cons]
      refine ⟨PySem.W.mg_none_of KX G ?z0, PySem.W.mg_none_of KX G ?z1, PySem.W.mg_none_of KX G ?z2, PySem.W.mg_none_of KX G ?z3, PySem.W.mg_none_of KX G ?z4, PySem.W.mg_none_of KX G ?z5, PySem.W.mg_none_of KX G ?z6, PySem.W.mg_none_of KX G ?z7, PySem.W.mg_none_of KX G ?z8, PySem.W.mg_none_of KX G ?z9, PySem.W.mg_none_of KX G ?z10, PySem.W.mg_none_of KX G ?z11, PySem.W.mg_none_of KX G ?z12, PySem.W.mg_none_of KX G ?z13, fun _ hz => absurd hz (by simp)⟩
      (case z0 => k_is); (case z1 => k_is); (case z2 => k_is); (case z3 => k_is); (case z4 => k_is); (case z5 => k_is); (case z6 => k_is); (case z7 => k_is); (case z8 => k_is); (case z9 => k_is); (case z10 => k_is); (case z11 => k_is); (case z12 => k_is); (case z13 => k_is)

