import PyProof.Rows.All
import Wide.All
import OpenK.AllK
import Wide.FinOn
import HandS.ForMost
import HandS.TupAny
import HandS.TupMul
import HandS.Conv
import HandS.Evl
import HandS.HeadHook2
import HandS.Wide
import HandS.Deep
import HandS.Style
import HandS.Zip
import KE.GoesEnum
import HandS.IsInst
import HandS.Strs
import HandS.SetFor
import HandS.Text
import HandS.Dict
import KE.KTupSum
import KE.SortData
import PyProof.P3In
import HandS.Sort
import HandS.SortOrd
import HandS.SortRule
import HandS.TupLe
import KE.KSortTup
import HandS.Words
import HandS.WordsExc
import HandS.ClsMeth
import HandS.Property
import KE.KCallOwn
import HandS.ExcInit
import KE.KStateDown
import HandS.Base
import HandS.Call
import HandS.Ends
import HandS.More
import HandS.Defaults
import HandS.Head0
import HandS.Head1
import HandS.Head2
import HandS.HeadEnd
import HandS.HeadHook1
import HandS.Star
import KE.KExcLine
import HandS.ExcField
import HandS.ExcIs
import KE.KExcIs
import KE.KIsAll
import PySem.Challenge.RW_handsowing_k15_texts_spoilt
set_option Elab.async false
set_option linter.all false
set_option maxRecDepth 100000
set_option maxHeartbeats 4000000
namespace PD
open PySem PySem.Spec PyProof.Rows L2

/-! ## tuples that are known as objects -/
/-- a tuple's own object -/
structure TOb (o : Obj) : Prop where
  cls : o.cls = .type "tuple"
  dict : o.dict = none
abbrev tuO (its : List Value) : Obj := { cls := .type "tuple", data := .seq its.toArray }
theorem tuO_ok (its : List Value) : TOb (tuO its) := ⟨rfl, rfl⟩
/-- it stands there, and its object is known -/
def SqD (K : PySem.W.Frag) (H : Hp) (a : Addr) (xs : List V) : Prop :=
  (∃ o, TOb o ∧ H a = some (.frz o (.tup xs))) ∨ ∃ (o : Obj) (its : Array Value) (n : Nat), TOb o ∧ K.lookup a = some o ∧ o.data = .seq its n ∧ its.size ≤ sizeLine ∧ Vals xs its.toList
theorem SqD.t {K : PySem.W.Frag} {H : Hp} {a : Addr} {xs : List V} (h : SqD K H a xs) : SqT K H a xs := by
  rcases h with ⟨o, _, h⟩ | ⟨o, its, n, t, h1, h2, h3, h4⟩
  · exact .inl (.inr ⟨o, h⟩)
  · exact .inr ⟨o, its, n, h1, t.cls, h2, h3, h4⟩
theorem SqD.ex {K : PySem.W.Frag} {H H' : Hp} {a : Addr} {xs : List V} (e : ∀ a o, H a = some o → H' a = some o) (h : SqD K H a xs) : SqD K H' a xs := by
  rcases h with ⟨o, t, h⟩ | h
  · exact .inl ⟨o, t, e _ _ h⟩
  · exact .inr h
theorem SqD.upd {K : PySem.W.Frag} {H : Hp} {p : Addr} {o : Obj} {xs : List V} (t : TOb o) : SqD K (upd H p (.frz o (.tup xs))) p xs := .inl ⟨o, t, upd_same⟩
/-- what is wanted of a new tuple -/
def NT (xs : List V) (H : Hp) (Q : VK) : Prop := ∀ p o, TOb o → H p = none → Q (.ref p) (upd H p (.frz o (.tup xs)))
section
variable {X : Cx} {pins : List (Addr × Obj)} {σ : L2.St} {H : Hp} {s : Shared} {xs : List V} {its : List Value}
theorem laidT {h' : Heap} {p : Addr} {t' : Nat} (I : Inv X pins σ H s) (k : ∀ b u, s.heap.get? b = some u → h'.get? b = some u) (hp : s.heap.objs.size ≤ p) (r : Vals xs its) (hz : xs.length ≤ sizeLine) (e : h'.get? p = some (tuO its)) {Q : VK} (q : NT xs H Q) : EP X pins σ Q (.ref p) { s with heap := h', toks := t' } := by
  have ob : ObjOk X.prog X.w (upd H p (.frz (tuO its) (.tup xs))) h' p (.frz (tuO its) (.tup xs)) := ⟨e, hz, its, r, ⟨_, e, rfl, 0, rfl⟩⟩
  exact ⟨.ref p, _, I.laid (t' := t') k hp ob, rfl, q p _ (tuO_ok its) (I.hok.fresh hp)⟩
/-- a tuple display -/
def tTupF (t : TA) : TE := fun σ H Q => t σ H fun xs H1 => xs.length ≤ sizeLine ∧ NT xs H1 Q
theorem pe_tupF {es : List Expr} {pos : Pos} {x1} {t : TA} (h : PA X es t) : PE X (.Tuple es x1 pos) (tTupF t) := ⟨fun pins s σ H Q I hq =>
  wpAny_Tuple_spliced (thn (h.run pos pins s σ H _ I hq) fun us s1 ⟨xs, H1, I1, r, z, q⟩ => ⟨by rw [← r.length]; exact z,
    laidT (t' := s1.toks) I1 (fun b u e => Heap.get?_push_of_some _ e) (Nat.le_refl _) r z (Heap.get?_push_size _ rfl) q⟩)⟩
/-- t + u -/
def rCatF (K : PySem.W.Frag) : R2 := fun x y H Q => ∃ a b xs ys, x = .ref a ∧ y = .ref b ∧ SqT K H a xs ∧ SqT K H b ys ∧ xs.length + ys.length ≤ sizeLine ∧
  (xs = [] → Q (.ref b) H) ∧ (xs ≠ [] → ys = [] → Q (.ref a) H) ∧ (xs ≠ [] → ys ≠ [] → NT (xs ++ ys) H Q)
theorem op_catF : OpR X (binaryOp .Add) (rCatF X.K) := by
  intro pins s σ H x y v u Q I rx ry h
  obtain ⟨a, b, xs, ys, rfl, rfl, ha, hb, hz, q0, q1, q2⟩ := h
  cases rx; cases ry
  obtain ⟨its, r1, p1, _⟩ := I.tuple ha
  obtain ⟨its2, r2, p2, _⟩ := I.tuple hb
  by_cases hx : xs = []
  · subst hx
    cases r1
    exact cat_tup0 p1 p2 ⟨.ref b, H, I, rfl, q0 rfl⟩
  · exact HT.cat_tup p1 p2 (fun z => hx (r1.nil_iff.mp z)) (fun z => ⟨.ref a, H, I, rfl, q1 hx (r2.nil_iff.mp z)⟩)
      (fun z => laidT (t' := s.toks) I (fun b ob q => Heap.get?_push_of_some _ q) (Nat.le_refl _) (r1.append r2) (by rw [List.length_append]; exact hz) (Heap.get?_push_size _ rfl) (q2 hx (fun w => z (r2.nil_iff.mpr w))))
      (by rw [← r1.length, ← r2.length]; exact hz)
/-- t[lo:hi] -/
def rSlF (K : PySem.W.Frag) : V → Option Int → Option Int → Hp → VK → Prop := fun x lo hi H Q => ∃ a xs, x = .ref a ∧ SqT K H a xs ∧
  (HT.sIx xs.length 0 lo = 0 ∧ HT.sIx xs.length xs.length hi = xs.length → Q (.ref a) H) ∧ (¬ (HT.sIx xs.length 0 lo = 0 ∧ HT.sIx xs.length xs.length hi = xs.length) → NT (cutV xs lo hi) H Q)
theorem sl_tupF : SlR X (rSlF X.K) := by
  intro pins s σ H x v vl vu lo hi sl Q I rx hs pl pu h
  obtain ⟨a, xs, rfl, hx, q1, q2⟩ := h
  cases rx
  obtain ⟨its, r, ht, hz⟩ := I.tuple hx
  have hlen : its.toArray.size = xs.length := by rw [List.size_toArray]; exact r.length.symm
  refine ⟨"tuple", _, PyProof.Rows.slot_tuple_getitem.lookup, ht.typeIs, ?_⟩
  by_cases hw : HT.sIx xs.length 0 lo = 0 ∧ HT.sIx xs.length xs.length hi = xs.length
  · exact getItem_tuple_whole ht hs pl pu (by rw [hlen]; exact hw) ⟨.ref a, H, I, rfl, q1 hw⟩
  · refine HT.getItem_tuple_cut ht hs pl pu (by rw [hlen]; exact hw) ?_ (by rw [hlen]; exact hz)
    rw [hlen]
    exact laidT (t' := s.toks) I (fun b ob q => Heap.get?_push_of_some _ q) (Nat.le_refl _) ((r.drop (HT.sIx xs.length 0 lo)).take (HT.sIx xs.length xs.length hi - HT.sIx xs.length 0 lo)) (Nat.le_trans (cutV_length xs lo hi) hz) (Heap.get?_push_size _ rfl) (q2 hw)
/-- tuple(x) -/
def rTupF (K : PySem.W.Frag) : List V → Hp → VK → Prop := fun vs H Q => ∃ p ys, vs = [.ref p] ∧ ((SqL K H p ys ∧ NT ys H Q) ∨ (SqT K H p ys ∧ Q (.ref p) H))
theorem call_tupF : CallR X (.type "tuple") (rTupF X.K) := by
  intro pins s σ H vs us Q I r h
  obtain ⟨p, ys, rfl, h⟩ := h
  obtain ⟨u, rfl, rx⟩ := vals1 r
  cases rx
  rcases h with ⟨hq, q⟩ | ⟨hq, q⟩
  · obtain ⟨its, r', pl, hz⟩ := I.list hq
    have hlen := r'.length
    refine call_tuple_list pl.isList (fun h' kp => ?_) (by simp only [List.size_toArray] <;> omega)
    have I1 : Inv X pins σ H { s with heap := h' } := I.kept (t' := s.toks) kp
    exact laidT (t' := s.toks) I1 (fun b o e => Heap.get?_push_of_some _ e) (Nat.le_refl _) r' hz (Heap.get?_push_size _ rfl) q
  · obtain ⟨its, r', pl, hz⟩ := I.tuple hq
    exact call_tuple_same pl ⟨.ref p, H, I, rfl, q⟩
/-- tuple(range(..)) -/
def tTrF (te : L2.St → Hp → (Int → Int → Hp → Prop) → Prop) : TE := fun σ H Q => te σ H fun a b H1 => RgOk a b ∧ NT (rgV a b) H1 Q
theorem pe_trF {e : Expr} {te : L2.St → Hp → (Int → Int → Hp → Prop) → Prop} {p pos : Pos} (hc : X.calm = true) (hg : Gl X "tuple") (hm : X.mg "tuple" = none) (he : PRg X e te) (na : starEach [e] X.env = (false, eval e X.env) :: starEach [] X.env) : PE X (.Call (.Name "tuple" p) [e] [] pos) (tTrF te) := by
  refine ⟨fun pins s σ H Q I h => ?_⟩
  refine Call_ (ld_blt I hg hm boot_tuple (PyProof.Rows.callWith_type1 (args_cons (thn (he pins s σ H _ I h) fun x s1 ⟨r, a, b, t, u, v, H1, ex, hr, I1, ok, q⟩ => args_nil ?_) na) na))
  subst ex
  obtain ⟨b1, b2, b3, b4, b5⟩ := ok
  refine call_tuple_range (n := (b - a).toNat) (I1.ok.hd hc) hr (small_one b1 b2 b3 b4) (rangeSize_nat a b) b5 fun h' tk acc hk hi => ?_
  have I2 : Inv X pins σ H1 { s1 with heap := h', toks := tk } := I1.kept hk
  exact laidT (t' := tk) (its := acc.toList) I2 (fun c o e => Heap.get?_push_of_some _ e) (Nat.le_refl _) (vals_rg hi) (by rw [rgV_length, sizeLine_eq]; omega) (by rw [show tuO acc.toList = { cls := .type "tuple", data := .seq acc } by simp]; exact Heap.get?_push_size _ rfl) q
/-- t * n -/
def rRepF (K : PySem.W.Frag) : R2 := fun x y H Q => ∃ l k xs, x = .ref l ∧ y = .int k ∧ SqT K H l xs ∧ xs ≠ [] ∧ 2 ≤ k ∧ k ≤ 1000 ∧ xs.length ≤ 1000 ∧ NT (List.replicate k.toNat xs).flatten H Q
theorem op_repF : OpR X (binaryOp .Mult) (rRepF X.K) := by
  intro pins s σ H x y v u Q I rx ry h
  obtain ⟨l, k, xs, rfl, rfl, hT, hne, h1, h2, hz, q⟩ := h
  cases rx
  obtain ⟨t, rfl⟩ := ry
  obtain ⟨its, r, ⟨⟨cls, dd, data, sl⟩, ho, hc, n, hd⟩, hs⟩ := I.tuple hT
  simp only at hc hd
  subst hc hd
  have hle : its.length = xs.length := r.length.symm
  have hpos : 0 < xs.length := List.length_pos_iff.mpr hne
  have hi : its.toArray.isEmpty = false := by
    cases its with
    | nil => simp at hle; omega
    | cons a b => rfl
  have hm : ((its.toArray.size : Nat) : Int) * k ≤ 1000000 := by
    rw [List.size_toArray, hle]
    have := Int.mul_le_mul_of_nonneg_right (show ((xs.length : Nat) : Int) ≤ 1000 by omega) (show 0 ≤ k by omega)
    omega
  have fl : (List.replicate k.toNat its).flatten.length ≤ 1000000 := by
    rw [PyProof.Rows.lm_len_rep_flat, hle]
    exact Nat.le_trans (Nat.mul_le_mul (show k.toNat ≤ 1000 by omega) hz) (by decide)
  have c0 : (decide (k < -(2 ^ 63)) || decide (k ≥ 2 ^ 63)) = false := by simp; omega
  have c1 : (its.toArray.isEmpty || k == 1) = false := by rw [hi]; simp; omega
  have c2 : (decide (k ≤ 0) || its.toArray.isEmpty) = false := by rw [hi]; simp; omega
  have c4 : Builtin.Tuple.tupleTooMany (((its.toArray.size : Nat) : Int) * k) = false := by
    unfold Builtin.Tuple.tupleTooMany
    have := sizeLine_eq
    exact decide_eq_false (by omega)
  have fz : (List.replicate k.toNat its).flatten.length ≤ sizeLine := Nat.le_trans fl (by decide)
  refine wpAny_binaryOp_repeat_ref (T := "tuple") (U := "int") (by decide) ⟨_, ho, rfl⟩ (fun s' => typeIs_int s' k t) noFill_tuple_mul F.fills_int_mul F.slot_int_rmul repeat_tuple F.slot_int_index.lookup
    (call_meets F.slot_int_rmul (typeIs_int s k t) F.entry_int_rmul (F.args_int_rmul_2 _ _) (int_rmul_tuple k t l its.toArray n dd sl)
      ⟨ho, rfl, ⟨_, ho, rfl⟩, call_meets F.slot_tuple_mul ⟨_, ho, rfl⟩ F.entry_tuple_mul (F.args_tuple_mul_2 _ _) (tuple_mulW l its.toArray n dd sl k t c0 c1 c2 (by omega) c4 (by rw [size_rep, List.size_toArray]; exact fz)) ⟨ho, ?_⟩⟩)
  rw [size_rep]
  exact laidT (t' := s.toks) I (fun b ob q => Heap.get?_push_of_some _ q) (Nat.le_refl _) (r.rep k.toNat) (by rw [(r.rep k.toNat).length]; exact fz) (Heap.get?_push_size _ rfl) q
end
end PD
set_option maxRecDepth 100000
set_option maxHeartbeats 4000000
namespace PD
open PySem PySem.Spec PyProof.Rows L2

/-! ## data, store, world -/
inductive D where
  | non | bl (b : Bool) | int (i : Int) | str (x : Str) | lst (xs : List D) | tup (xs : List D) | cel (i : Nat) | scr (ns : List Int) | dki (ks : List Int) (ds : List D) | dkt (ks : List (List Int)) (ds : List D) | ins (c f : Str) (d : D)
inductive Cell where
  | lst (ds : List D)
abbrev Store := List Cell
inductive SV where
  | nul | dat (d : D) | own (ds : List D)
abbrev Env := List SV
structure Er where
  cls : Str
  fld : Option (Str × D)
inductive R (α : Type) where
  | ok (a : α) (s : Store) | er (e : Er) (s : Store) | bad
abbrev M (α : Type) := Store → R α
def R.bind {α β : Type} : R α → (α → Store → R β) → R β
  | .ok a s, f => f a s
  | .er e s, _ => .er e s
  | .bad, _ => .bad
/-- a pure value or none -/
def R.opt {α : Type} (o : Option α) (s : Store) : R α := match o with
  | some a => .ok a s
  | none => .bad

/-- a dict whose keys are tuples of ints, as it stands -/
def entT (x : List Int × Addr × Value) : DictEntry := ⟨reduceHash (Builtin.Tuple.tupleHashOf (x.1.map hashInt)), .ref x.2.1, x.2.2⟩
def TabAt (a : Addr) (xs : List (List Int × Addr × Value)) : Heap → Prop := fun h => ∃ o es ep, h.get? a = some o ∧ o.ExactDict ∧ o.data = .dict es ep ∧ es.toList = xs.map entT ∧ (xs.map (·.1)).Nodup
structure Wd where
  F : Hp
  H : Hp
  A : List Addr
  sub : ∀ a o, F a = some o → H a = some o

mutual
inductive Rep (K : PySem.W.Frag) (W : Wd) : D → V → Prop where
  | non : Rep K W .non .non
  | bl (b : Bool) : Rep K W (.bl b) (.bl b)
  | int (i : Int) : Rep K W (.int i) (.int i)
  | str (x : Str) : Rep K W (.str x) (.str x)
  | lst {a : Addr} {vs : List V} {ds : List D} (h : W.F a = some (.lst vs)) (r : RepL K W ds vs) : Rep K W (.lst ds) (.ref a)
  | scr {a : Addr} {ns : List Int} (h : SqL K W.F a (ns.map V.int)) : Rep K W (.scr ns) (.ref a)
  | dki {a : Addr} {ks : List Int} {vs : List V} {ds : List D} (h : W.F a = some (.dK (List.zipWith (fun k v => (Sum.inl k, v)) ks vs))) (hl : ks.length = ds.length) (r : RepL K W ds vs) : Rep K W (.dki ks ds) (.ref a)
  | dkt {a : Addr} {xs : List (List Int × Addr × Value)} {vs : List V} {ds : List D} (h : W.F a = some (.ext (TabAt a xs))) (hs : (a == sysModules) = false) (ka : ∀ q ∈ xs, SqD K W.F q.2.1 (q.1.map V.int)) (hv : Vals vs (xs.map (·.2.2))) (r : RepL K W ds vs) : Rep K W (.dkt (xs.map (·.1)) ds) (.ref a)
  | ins {a dx : Addr} {c f : Str} {d : D} {v : V} (h : W.F a = some (.ins (He.ga K c) dx [(f, v)])) (ho : W.F dx = some (.own a)) (r : Rep K W d v) : Rep K W (.ins c f d) (.ref a)
  | tup {a : Addr} {vs : List V} {ds : List D} (h : SqD K W.F a vs) (r : RepL K W ds vs) : Rep K W (.tup ds) (.ref a)
  | cel {i : Nat} {a : Addr} (h : W.A[i]? = some a) : Rep K W (.cel i) (.ref a)
inductive RepL (K : PySem.W.Frag) (W : Wd) : List D → List V → Prop where
  | nil : RepL K W [] []
  | cons {d : D} {v : V} {ds : List D} {vs : List V} (h : Rep K W d v) (t : RepL K W ds vs) : RepL K W (d :: ds) (v :: vs)
end

structure Grow (W W' : Wd) : Prop where
  f : ∀ a o, W.F a = some o → W'.F a = some o
  h : ∀ a o, a ∉ W.A → W.H a = some o → W'.H a = some o
  n : ∀ a, W.F a = none → W.H a ≠ none → W'.F a = none
  t : ∀ a, W.H a ≠ none → W'.H a ≠ none
  p : ∃ B, W'.A = W.A ++ B
  q : ∀ a, a ∈ W'.A → a ∈ W.A ∨ W.H a = none

theorem Grow.refl (W : Wd) : Grow W W := ⟨fun _ _ h => h, fun _ _ _ h => h, fun _ h _ => h, fun _ h => h, ⟨[], by simp⟩, fun _ h => .inl h⟩
theorem Grow.notA {W W' : Wd} (g : Grow W W') {a : Addr} (h : a ∉ W.A) (e : W.H a ≠ none) : a ∉ W'.A := fun m => (g.q a m).elim h e
theorem Grow.trans {W W1 W2 : Wd} (a : Grow W W1) (b : Grow W1 W2) : Grow W W2 where
  f := fun x o h => b.f x o (a.f x o h)
  h := fun x o n h => b.h x o (a.notA n (by rw [h]; simp)) (a.h x o n h)
  n := fun x h e => b.n x (a.n x h e) (a.t x e)
  t := fun x h => b.t x (a.t x h)
  p := by
    obtain ⟨B, e⟩ := a.p
    obtain ⟨C, e'⟩ := b.p
    exact ⟨B ++ C, by rw [e', e, List.append_assoc]⟩
  q := fun x h => by
    rcases b.q x h with h | h
    · exact a.q x h
    · right
      cases e : W.H x with
      | none => rfl
      | some o => exact absurd h (a.t x (by rw [e]; simp))
theorem Grow.ix {W W' : Wd} (g : Grow W W') {i : Nat} {a : Addr} (h : W.A[i]? = some a) : W'.A[i]? = some a := by
  obtain ⟨B, e⟩ := g.p
  rw [e, List.getElem?_append_left (List.getElem?_eq_some_iff.mp h).1]
  exact h

mutual
theorem Rep.of {K : PySem.W.Frag} {W W' : Wd} (hF : ∀ a o, W.F a = some o → W'.F a = some o) (hA : ∀ (i : Nat) (a : Addr), W.A[i]? = some a → W'.A[i]? = some a) : ∀ {d : D} {v : V}, Rep K W d v → Rep K W' d v
  | _, _, .non => .non
  | _, _, .bl b => .bl b
  | _, _, .int i => .int i
  | _, _, .str x => .str x
  | _, _, .lst h r => .lst (hF _ _ h) (RepL.of hF hA r)
  | _, _, .scr h => .scr (Evl.ex_l hF h)
  | _, _, .dki h hl r => .dki (hF _ _ h) hl (RepL.of hF hA r)
  | _, _, .dkt h hs ka hv r => .dkt (hF _ _ h) hs (fun q hq => (ka q hq).ex hF) hv (RepL.of hF hA r)
  | _, _, .ins h ho r => .ins (hF _ _ h) (hF _ _ ho) (Rep.of hF hA r)
  | _, _, .tup h r => .tup (h.ex hF) (RepL.of hF hA r)
  | _, _, .cel h => .cel (hA _ _ h)
theorem RepL.of {K : PySem.W.Frag} {W W' : Wd} (hF : ∀ a o, W.F a = some o → W'.F a = some o) (hA : ∀ (i : Nat) (a : Addr), W.A[i]? = some a → W'.A[i]? = some a) : ∀ {ds : List D} {vs : List V}, RepL K W ds vs → RepL K W' ds vs
  | _, _, .nil => .nil
  | _, _, .cons h t => .cons (Rep.of hF hA h) (RepL.of hF hA t)
end
theorem Rep.grow {K : PySem.W.Frag} {W W' : Wd} (g : Grow W W') {d : D} {v : V} (h : Rep K W d v) : Rep K W' d v := Rep.of g.f (fun _ _ => g.ix) h
theorem RepL.grow {K : PySem.W.Frag} {W W' : Wd} (g : Grow W W') {d : List D} {v : List V} (h : RepL K W d v) : RepL K W' d v := RepL.of g.f (fun _ _ => g.ix) h
theorem RepL.len {K : PySem.W.Frag} {W : Wd} : ∀ {ds : List D} {vs : List V}, RepL K W ds vs → ds.length = vs.length
  | _, _, .nil => rfl
  | _, _, .cons _ t => congrArg (· + 1) (RepL.len t)
theorem RepL.get {K : PySem.W.Frag} {W : Wd} : ∀ {ds : List D} {vs : List V} {i : Nat} {d : D}, RepL K W ds vs → ds[i]? = some d → ∃ v, vs[i]? = some v ∧ Rep K W d v
  | _, _, _, _, .nil, e => by simp at e
  | _, _, 0, _, .cons h _, e => by simp at e; subst e; exact ⟨_, rfl, h⟩
  | _, _, i + 1, d, .cons _ t, e => by
    obtain ⟨v, h1, h2⟩ := RepL.get (i := i) (d := d) t (by simpa using e)
    exact ⟨v, by simpa using h1, h2⟩
theorem RepL.getV {K : PySem.W.Frag} {W : Wd} : ∀ {ds : List D} {vs : List V} {i : Nat} {v : V}, RepL K W ds vs → vs[i]? = some v → ∃ d, ds[i]? = some d ∧ Rep K W d v
  | _, _, _, _, .nil, e => by simp at e
  | _, _, 0, _, .cons h _, e => by simp at e; subst e; exact ⟨_, rfl, h⟩
  | _, _, i + 1, v, .cons _ t, e => by
    obtain ⟨d, h1, h2⟩ := RepL.getV (i := i) (v := v) t (by simpa using e)
    exact ⟨d, by simpa using h1, h2⟩
theorem RepL.app {K : PySem.W.Frag} {W : Wd} : ∀ {ds es : List D} {vs us : List V}, RepL K W ds vs → RepL K W es us → RepL K W (ds ++ es) (vs ++ us)
  | _, _, _, _, .nil, s => s
  | _, _, _, _, .cons h t, s => .cons h (RepL.app t s)
theorem RepL.take {K : PySem.W.Frag} {W : Wd} : ∀ {ds : List D} {vs : List V} (n : Nat), RepL K W ds vs → RepL K W (ds.take n) (vs.take n)
  | _, _, 0, _ => .nil
  | _, _, _ + 1, .nil => .nil
  | _, _, n + 1, .cons h t => .cons h (RepL.take n t)
theorem RepL.drop {K : PySem.W.Frag} {W : Wd} : ∀ {ds : List D} {vs : List V} (n : Nat), RepL K W ds vs → RepL K W (ds.drop n) (vs.drop n)
  | _, _, 0, h => h
  | _, _, _ + 1, .nil => .nil
  | _, _, n + 1, .cons _ t => RepL.drop n t
theorem RepL.set {K : PySem.W.Frag} {W : Wd} {d : D} {v : V} (h : Rep K W d v) : ∀ {ds : List D} {vs : List V} (n : Nat), RepL K W ds vs → RepL K W (ds.set n d) (vs.set n v)
  | _, _, _, .nil => .nil
  | _, _, 0, .cons _ t => .cons h t
  | _, _, n + 1, .cons q t => .cons q (RepL.set h n t)

/-! ## the store, the slots -/
def CellRep (K : PySem.W.Frag) (W : Wd) (a : Addr) : Cell → Prop
  | .lst ds => ∃ vs, W.H a = some (.lst vs) ∧ RepL K W ds vs
structure SRep (K : PySem.W.Frag) (W : Wd) (s : Store) : Prop where
  len : W.A.length = s.length
  nd : W.A.Nodup
  at_ : ∀ (i : Nat) (a : Addr) (c : Cell), W.A[i]? = some a → s[i]? = some c → W.F a = none ∧ CellRep K W a c

/-- one slot; B: the heap at the def's entry -/
def SlotOk (K : PySem.W.Frag) (B : Hp) (W : Wd) : SV → Option V → Prop
  | .nul, _ => True
  | .dat d, o => ∃ v, o = some v ∧ Rep K W d v
  | .own ds, o => ∃ p vs, o = some (.ref p) ∧ W.H p = some (.lst vs) ∧ W.F p = none ∧ p ∉ W.A ∧ B p = none ∧ RepL K W ds vs
def isOwn : SV → Bool
  | .own _ => true
  | _ => false
structure Sat (K : PySem.W.Frag) (B : Hp) (W : Wd) (Γ : Env) (σ : L2.St) : Prop where
  len : σ.length = Γ.length
  at_ : ∀ (i : Nat) (x : SV) (o : Option V), Γ[i]? = some x → σ[i]? = some o → SlotOk K B W x o
  sep : ∀ (i j : Nat) (x y : SV) (o : Option V), Γ[i]? = some x → Γ[j]? = some y → isOwn x = true → isOwn y = true → σ[i]? = some o → σ[j]? = some o → i = j
theorem SlotOk.grow {K : PySem.W.Frag} {B : Hp} {W W' : Wd} (g : Grow W W') {x : SV} {o : Option V} (h : SlotOk K B W x o) : SlotOk K B W' x o := by
  cases x with
  | nul => trivial
  | dat d => obtain ⟨v, e, r⟩ := h; exact ⟨v, e, r.grow g⟩
  | own ds =>
    obtain ⟨p, vs, e, h1, h2, h3, h4, r⟩ := h
    have ne : W.H p ≠ none := by rw [h1]; simp
    exact ⟨p, vs, e, g.h p _ h3 h1, g.n p h2 ne, g.notA h3 ne, h4, r.grow g⟩
theorem Sat.grow {K : PySem.W.Frag} {B : Hp} {W W' : Wd} (g : Grow W W') {Γ : Env} {σ : L2.St} (h : Sat K B W Γ σ) : Sat K B W' Γ σ := ⟨h.len, fun i x o e1 e2 => (h.at_ i x o e1 e2).grow g, h.sep⟩
theorem Sat.slot {K : PySem.W.Frag} {B : Hp} {W : Wd} {Γ : Env} {σ : L2.St} (h : Sat K B W Γ σ) {i : Nat} {x : SV} (e : Γ[i]? = some x) : ∃ o, σ[i]? = some o ∧ SlotOk K B W x o := by
  have hl : i < σ.length := by rw [h.len]; exact (List.getElem?_eq_some_iff.mp e).1
  exact ⟨σ[i], by simp [hl], h.at_ i x _ e (by simp [hl])⟩
theorem Sat.dat {K : PySem.W.Frag} {B : Hp} {W : Wd} {Γ : Env} {σ : L2.St} (h : Sat K B W Γ σ) {i : Nat} {d : D} (e : Γ[i]? = some (.dat d)) : ∃ v, σ[i]? = some (some v) ∧ Rep K W d v := by
  obtain ⟨o, h1, v, h2, h3⟩ := h.slot e
  exact ⟨v, by rw [h1, h2], h3⟩
/-- a slot is stored with plain data -/
theorem Sat.set {K : PySem.W.Frag} {B : Hp} {W : Wd} {Γ : Env} {σ : L2.St} (h : Sat K B W Γ σ) {i : Nat} {d : D} {v : V} (r : Rep K W d v) : Sat K B W (Γ.set i (.dat d)) (σ.set i (some v)) := by
  refine ⟨by simp [h.len], fun j x o e1 e2 => ?_, fun j k x y o e1 e2 ox oy e3 e4 => ?_⟩
  · by_cases hj : i = j
    · subst hj
      have hl : i < Γ.length := by simpa using (List.getElem?_eq_some_iff.mp e1).1
      have hl2 : i < σ.length := by rw [h.len]; exact hl
      rw [List.getElem?_set_self hl] at e1
      rw [List.getElem?_set_self hl2] at e2
      cases e1; cases e2
      exact ⟨v, rfl, r⟩
    · rw [List.getElem?_set_ne hj] at e1 e2
      exact h.at_ j x o e1 e2
  · have nj : i ≠ j := fun e => by
      subst e
      have hl : i < Γ.length := by simpa using (List.getElem?_eq_some_iff.mp e1).1
      rw [List.getElem?_set_self hl] at e1
      cases e1; cases ox
    have nk : i ≠ k := fun e => by
      subst e
      have hl : i < Γ.length := by simpa using (List.getElem?_eq_some_iff.mp e2).1
      rw [List.getElem?_set_self hl] at e2
      cases e2; cases oy
    rw [List.getElem?_set_ne nj] at e1 e3
    rw [List.getElem?_set_ne nk] at e2 e4
    exact h.sep j k x y o e1 e2 ox oy e3 e4
/-- slots forgotten -/
def wipeE (Γ : Env) : List Nat → Env
  | [] => Γ
  | v :: vs => (wipeE Γ vs).set v .nul
theorem Sat.nul1 {K : PySem.W.Frag} {B : Hp} {W : Wd} {Γ : Env} {σ : L2.St} (h : Sat K B W Γ σ) (i : Nat) (o' : Option V) : Sat K B W (Γ.set i .nul) (σ.set i o') := by
  refine ⟨by simp [h.len], fun j x o e1 e2 => ?_, fun j k x y o e1 e2 ox oy e3 e4 => ?_⟩
  · by_cases hj : i = j
    · subst hj
      have hl : i < Γ.length := by simpa using (List.getElem?_eq_some_iff.mp e1).1
      rw [List.getElem?_set_self hl] at e1
      cases e1
      trivial
    · rw [List.getElem?_set_ne hj] at e1 e2
      exact h.at_ j x o e1 e2
  · have nj : i ≠ j := fun e => by
      subst e
      have hl : i < Γ.length := by simpa using (List.getElem?_eq_some_iff.mp e1).1
      rw [List.getElem?_set_self hl] at e1
      cases e1; cases ox
    have nk : i ≠ k := fun e => by
      subst e
      have hl : i < Γ.length := by simpa using (List.getElem?_eq_some_iff.mp e2).1
      rw [List.getElem?_set_self hl] at e2
      cases e2; cases oy
    rw [List.getElem?_set_ne nj] at e1 e3
    rw [List.getElem?_set_ne nk] at e2 e4
    exact h.sep j k x y o e1 e2 ox oy e3 e4
theorem Sat.wipe {K : PySem.W.Frag} {B : Hp} {W : Wd} {Γ : Env} {σ : L2.St} (h : Sat K B W Γ σ) : ∀ vs : List Nat, Sat K B W (wipeE Γ vs) (L2.wipe σ vs)
  | [] => h
  | v :: vs => (Sat.wipe h vs).nul1 v none

/-! ## what is wanted behind an expression -/
def ErRep (K : PySem.W.Frag) (W : Wd) (e : Er) (c : Value) (d : Option Addr) : Prop :=
  c = .ref (He.ga K e.cls) ∧ match e.fld with
    | none => d = none
    | some (f, x) => ∃ dd v, d = some dd ∧ W.H dd = some (.xd [(f, v)]) ∧ Rep K W x v
def Post {α : Type} (K : PySem.W.Frag) (EX : XK) (W : Wd) (r : R α) (T : Wd → Store → α → Prop) : Prop := match r with
  | .ok a s => ∀ W', Grow W W' → SRep K W' s → T W' s a
  | .er e s => ∀ W' c d, Grow W W' → SRep K W' s → ErRep K W' e c d → EX c d W'.H
  | .bad => False
section
variable {α β : Type} {K : PySem.W.Frag} {EX : XK} {W W1 : Wd} {r : R α} {T : Wd → Store → α → Prop}
theorem Post.grow (g : Grow W W1) (h : Post K EX W r T) : Post K EX W1 r T := by
  cases r with
  | ok a s => exact fun W' g' sr => h W' (g.trans g') sr
  | er e s => exact fun W' c d g' sr q => h W' c d (g.trans g') sr q
  | bad => exact h
theorem Post.bind {f : α → Store → R β} {U : Wd → Store → β → Prop} (h : Post K EX W (r.bind f) U) (step : ∀ a s1 W1, r = .ok a s1 → Grow W W1 → SRep K W1 s1 → Post K EX W1 (f a s1) U → T W1 s1 a) : Post K EX W r T := by
  cases r with
  | ok a s => exact fun W' g sr => step a s W' rfl g sr (Post.grow g h)
  | er e s => exact h
  | bad => exact h
theorem Post.mono {U : Wd → Store → α → Prop} (h : Post K EX W r U) (f : ∀ W1 s1 a, r = .ok a s1 → Grow W W1 → SRep K W1 s1 → U W1 s1 a → T W1 s1 a) : Post K EX W r T := by
  cases r with
  | ok a s => exact fun W' g sr => f W' s a rfl g sr (h W' g sr)
  | er e s => exact h
  | bad => exact h
theorem Post.opt {o : Option α} {s : Store} {U : Wd → Store → α → Prop} (h : Post K EX W (R.opt o s) U) : ∃ a, o = some a ∧ ∀ W', Grow W W' → SRep K W' s → U W' s a := by
  cases o with
  | none => exact h.elim
  | some a => exact ⟨a, rfl, h⟩
end

/-! ## data as the library's data -/
mutual
def D.py : D → PyData
  | .non => .none | .bl b => .bool b | .int i => .int i | .str x => .str x | .lst xs => .list (D.pyL xs) | .tup xs => .tuple (D.pyL xs) | .cel _ => .dict [] | .scr _ => .dict [] | .dki _ _ => .dict [] | .dkt _ _ => .dict [] | .ins _ _ _ => .dict []
def D.pyL : List D → List PyData
  | [] => []
  | d :: ds => D.py d :: D.pyL ds
end
/-- small, and of plain data alone -/
def strFine (x : Str) : Bool := x.cps.toList.all fun c => decide (c < 1114112)
mutual
def D.fine : Nat → D → Bool
  | _, .non => true | _, .bl _ => true | _, .int _ => true | _, .str x => strFine x
  | n, .lst xs => n != 0 && D.fineL (n - 1) xs
  | n, .tup xs => n != 0 && D.fineL (n - 1) xs
  | _, .cel _ => false | _, .scr _ => false | _, .dki _ _ => false | _, .dkt _ _ => false | _, .ins _ _ _ => false
def D.fineL : Nat → List D → Bool
  | _, [] => true
  | n, d :: ds => D.fine n d && D.fineL n ds
end
mutual
def D.eqv : D → D → Bool
  | .non, .non => true
  | .bl a, .bl b => a == b
  | .bl a, .int j => (if a then 1 else 0) == j
  | .int i, .bl b => i == (if b then 1 else 0)
  | .int i, .int j => i == j
  | .str x, .str y => x == y
  | .lst xs, .lst ys => D.eqvL xs ys
  | .tup xs, .tup ys => D.eqvL xs ys
  | _, _ => false
def D.eqvL : List D → List D → Bool
  | [], [] => true
  | x :: xs, y :: ys => D.eqv x y && D.eqvL xs ys
  | _, _ => false
end
theorem strFine_ok {x : Str} (h : strFine x = true) : PyData.strOk x = true := by
  unfold strFine at h
  unfold PyData.strOk
  rw [← Array.all_toList]
  exact h
mutual
theorem D.fine_lay : ∀ (n : Nat) (d : D), D.fine n d = true → d.py.canLay0 = true
  | _, .non, _ => by simp only [D.py, PyData.canLay0]
  | _, .bl _, _ => by simp only [D.py, PyData.canLay0]
  | _, .int _, _ => by simp only [D.py, PyData.canLay0]
  | _, .str x, h => by
    simp only [D.fine] at h
    simp only [D.py, PyData.canLay0]
    exact strFine_ok h
  | n, .lst xs, h => by
    simp only [D.fine, Bool.and_eq_true] at h
    simp only [D.py, PyData.canLay0]
    exact D.fineL_lay _ xs h.2
  | n, .tup xs, h => by
    simp only [D.fine, Bool.and_eq_true] at h
    simp only [D.py, PyData.canLay0]
    exact D.fineL_lay _ xs h.2
  | _, .cel _, h => by simp [D.fine] at h
  | _, .scr _, h => by simp [D.fine] at h
  | _, .dki _ _, h => by simp [D.fine] at h
  | _, .dkt _ _, h => by simp [D.fine] at h
  | _, .ins _ _ _, h => by simp [D.fine] at h
theorem D.fineL_lay : ∀ (n : Nat) (ds : List D), D.fineL n ds = true → PyData.canLayAll0 (D.pyL ds) = true
  | _, [], _ => by simp only [D.pyL, PyData.canLayAll0]
  | n, d :: ds, h => by
    simp only [D.fineL, Bool.and_eq_true] at h
    simp only [D.pyL, PyData.canLayAll0, Bool.and_eq_true]
    exact ⟨D.fine_lay n d h.1, D.fineL_lay n ds h.2⟩
end
mutual
theorem D.fine_dep : ∀ (n : Nat) (d : D), D.fine n d = true → d.py.depth ≤ n
  | _, .non, _ => by simp [D.py, PyData.depth]
  | _, .bl _, _ => by simp [D.py, PyData.depth]
  | _, .int _, _ => by simp [D.py, PyData.depth]
  | _, .str _, _ => by simp [D.py, PyData.depth]
  | n, .lst xs, h => by
    simp only [D.fine, Bool.and_eq_true, bne_iff_ne] at h
    have q := D.fineL_dep _ xs h.2
    simp only [D.py, PyData.depth]
    omega
  | n, .tup xs, h => by
    simp only [D.fine, Bool.and_eq_true, bne_iff_ne] at h
    have q := D.fineL_dep _ xs h.2
    simp only [D.py, PyData.depth]
    omega
  | _, .cel _, h => by simp [D.fine] at h
  | _, .scr _, h => by simp [D.fine] at h
  | _, .dki _ _, h => by simp [D.fine] at h
  | _, .dkt _ _, h => by simp [D.fine] at h
  | _, .ins _ _ _, h => by simp [D.fine] at h
theorem D.fineL_dep : ∀ (n : Nat) (ds : List D), D.fineL n ds = true → PyData.depthAll (D.pyL ds) ≤ n
  | _, [], _ => by simp [D.pyL, PyData.depthAll]
  | n, d :: ds, h => by
    simp only [D.fineL, Bool.and_eq_true] at h
    have q1 := D.fine_dep n d h.1
    have q2 := D.fineL_dep n ds h.2
    simp only [D.pyL, PyData.depthAll]
    omega
end
theorem D.fine_shaped {d : D} (h : D.fine 60 d = true) : SeqAt.shaped d.py = true := by
  unfold SeqAt.shaped
  rw [D.fine_lay 60 d h, Bool.true_and, decide_eq_true_eq]
  exact Nat.le_trans (D.fine_dep 60 d h) (by decide)
mutual
theorem D.eqv_py : ∀ (a b : D) (n m : Nat), D.fine n a = true → D.fine m b = true → PyData.eqv a.py b.py = D.eqv a b
  | .lst xs, .lst ys, n, m, h, h' => by
    simp only [D.fine, Bool.and_eq_true] at h h'
    simp only [D.py, PyData.eqv, D.eqv]
    exact D.eqvL_py xs ys _ _ h.2 h'.2
  | .tup xs, .tup ys, n, m, h, h' => by
    simp only [D.fine, Bool.and_eq_true] at h h'
    simp only [D.py, PyData.eqv, D.eqv]
    exact D.eqvL_py xs ys _ _ h.2 h'.2
  | .non, b, _, _, _, _ => by cases b <;> simp [D.py, PyData.eqv, D.eqv]
  | .bl _, b, _, _, _, _ => by cases b <;> simp [D.py, PyData.eqv, D.eqv]
  | .int _, b, _, _, _, _ => by cases b <;> simp [D.py, PyData.eqv, D.eqv]
  | .str _, b, _, _, _, _ => by cases b <;> simp [D.py, PyData.eqv, D.eqv]
  | .lst _, .non, _, _, _, _ => by simp [D.py, PyData.eqv, D.eqv]
  | .lst _, .bl _, _, _, _, _ => by simp [D.py, PyData.eqv, D.eqv]
  | .lst _, .int _, _, _, _, _ => by simp [D.py, PyData.eqv, D.eqv]
  | .lst _, .str _, _, _, _, _ => by simp [D.py, PyData.eqv, D.eqv]
  | .lst _, .tup _, _, _, _, _ => by simp [D.py, PyData.eqv, D.eqv]
  | .lst _, .cel _, _, _, _, _ => by simp [D.py, PyData.eqv, D.eqv]
  | .lst _, .scr _, _, _, _, _ => by simp [D.py, PyData.eqv, D.eqv]
  | .lst _, .dki _ _, _, _, _, _ => by simp [D.py, PyData.eqv, D.eqv]
  | .lst _, .dkt _ _, _, _, _, _ => by simp [D.py, PyData.eqv, D.eqv]
  | .lst _, .ins _ _ _, _, _, _, _ => by simp [D.py, PyData.eqv, D.eqv]
  | .tup _, .non, _, _, _, _ => by simp [D.py, PyData.eqv, D.eqv]
  | .tup _, .bl _, _, _, _, _ => by simp [D.py, PyData.eqv, D.eqv]
  | .tup _, .int _, _, _, _, _ => by simp [D.py, PyData.eqv, D.eqv]
  | .tup _, .str _, _, _, _, _ => by simp [D.py, PyData.eqv, D.eqv]
  | .tup _, .lst _, _, _, _, _ => by simp [D.py, PyData.eqv, D.eqv]
  | .tup _, .cel _, _, _, _, _ => by simp [D.py, PyData.eqv, D.eqv]
  | .tup _, .scr _, _, _, _, _ => by simp [D.py, PyData.eqv, D.eqv]
  | .tup _, .dki _ _, _, _, _, _ => by simp [D.py, PyData.eqv, D.eqv]
  | .tup _, .dkt _ _, _, _, _, _ => by simp [D.py, PyData.eqv, D.eqv]
  | .tup _, .ins _ _ _, _, _, _, _ => by simp [D.py, PyData.eqv, D.eqv]
  | .cel _, _, _, _, h, _ => by simp [D.fine] at h
  | .scr _, _, _, _, h, _ => by simp [D.fine] at h
  | .dki _ _, _, _, _, h, _ => by simp [D.fine] at h
  | .dkt _ _, _, _, _, h, _ => by simp [D.fine] at h
  | .ins _ _ _, _, _, _, h, _ => by simp [D.fine] at h
theorem D.eqvL_py : ∀ (a b : List D) (n m : Nat), D.fineL n a = true → D.fineL m b = true → PyData.eqvAll (D.pyL a) (D.pyL b) = D.eqvL a b
  | [], [], _, _, _, _ => by simp [D.pyL, PyData.eqvAll, D.eqvL]
  | [], _ :: _, _, _, _, _ => by simp [D.pyL, PyData.eqvAll, D.eqvL]
  | _ :: _, [], _, _, _, _ => by simp [D.pyL, PyData.eqvAll, D.eqvL]
  | x :: xs, y :: ys, n, m, h, h' => by
    simp only [D.fineL, Bool.and_eq_true] at h h'
    simp only [D.pyL, PyData.eqvAll, D.eqvL]
    rw [D.eqv_py x y n m h.1 h'.1, D.eqvL_py xs ys n m h.2 h'.2]
end

/-! ## views: plain data, or a list of the def's own -/
inductive RepV (K : PySem.W.Frag) (W : Wd) : D → V → Prop where
  | of {d : D} {v : V} (h : Rep K W d v) : RepV K W d v
  | own {a : Addr} {vs : List V} {ds : List D} (n : a ∉ W.A) (h : W.H a = some (.lst vs)) (r : RepL K W ds vs) : RepV K W (.lst ds) (.ref a)
theorem RepV.grow {K : PySem.W.Frag} {W W' : Wd} (g : Grow W W') {d : D} {v : V} (h : RepV K W d v) : RepV K W' d v := by
  cases h with
  | of h => exact .of (h.grow g)
  | own n h r => exact .own (g.notA n (by rw [h]; simp)) (g.h _ _ n h) (r.grow g)
theorem RepV.lst {K : PySem.W.Frag} {W : Wd} {ds : List D} {v : V} (h : RepV K W (.lst ds) v) : ∃ a vs, v = .ref a ∧ W.H a = some (.lst vs) ∧ RepL K W ds vs := by
  cases h with
  | of h => cases h with | lst h r => exact ⟨_, _, rfl, W.sub _ _ h, r⟩
  | own n h r => exact ⟨_, _, rfl, h, r⟩
theorem RepV.tup {K : PySem.W.Frag} {W : Wd} {ds : List D} {v : V} (h : RepV K W (.tup ds) v) : ∃ a vs, v = .ref a ∧ SqT K W.H a vs ∧ RepL K W ds vs := by
  cases h with
  | of h => cases h with | tup h r => exact ⟨_, _, rfl, (h.ex W.sub).t, r⟩
theorem RepV.int {K : PySem.W.Frag} {W : Wd} {i : Int} {v : V} (h : RepV K W (.int i) v) : v = .int i := by
  cases h with | of h => cases h; rfl
theorem RepV.bl {K : PySem.W.Frag} {W : Wd} {i : Bool} {v : V} (h : RepV K W (.bl i) v) : v = .bl i := by
  cases h with | of h => cases h; rfl
theorem RepV.str {K : PySem.W.Frag} {W : Wd} {i : Str} {v : V} (h : RepV K W (.str i) v) : v = .str i := by
  cases h with | of h => cases h; rfl
theorem RepV.non {K : PySem.W.Frag} {W : Wd} {v : V} (h : RepV K W .non v) : v = .non := by
  cases h with | of h => cases h; rfl
mutual
theorem Rep.dp {K : PySem.W.Frag} {W : Wd} : ∀ {n : Nat} {d : D} {v : V}, D.fine n d = true → Rep K W d v → Dp K W.H v d.py
  | _, _, _, _, .non => by simp only [D.py]; exact .non
  | _, _, _, _, .bl b => by simp only [D.py]; exact .bl b
  | _, _, _, _, .int i => by simp only [D.py]; exact .int i
  | _, _, _, _, .str x => by simp only [D.py]; exact .str x
  | n, _, _, f, .lst h r => by
    simp only [D.fine, Bool.and_eq_true] at f
    simp only [D.py]
    exact .lst (.inl (.inl (W.sub _ _ h))) (RepL.dp f.2 r)
  | n, _, _, f, .tup h r => by
    simp only [D.fine, Bool.and_eq_true] at f
    simp only [D.py]
    exact .tup (h.ex W.sub).t (RepL.dp f.2 r)
  | _, _, _, f, .cel _ => by simp [D.fine] at f
  | _, _, _, f, .scr _ => by simp [D.fine] at f
  | _, _, _, f, .dki _ _ _ => by simp [D.fine] at f
  | _, _, _, f, .dkt _ _ _ _ _ => by simp [D.fine] at f
  | _, _, _, f, .ins _ _ _ => by simp [D.fine] at f
theorem RepL.dp {K : PySem.W.Frag} {W : Wd} : ∀ {n : Nat} {ds : List D} {vs : List V}, D.fineL n ds = true → RepL K W ds vs → DpAll K W.H vs (D.pyL ds)
  | _, _, _, _, .nil => by simp only [D.pyL]; exact .nil
  | n, _, _, f, .cons h t => by
    simp only [D.fineL, Bool.and_eq_true] at f
    simp only [D.pyL]
    exact .cons (Rep.dp f.1 h) (RepL.dp f.2 t)
end
theorem RepV.dp {K : PySem.W.Frag} {W : Wd} {n : Nat} {d : D} {v : V} (f : D.fine n d = true) (h : RepV K W d v) : Dp K W.H v d.py := by
  cases h with
  | of h => exact h.dp f
  | own n h r =>
    simp only [D.fine, Bool.and_eq_true] at f
    simp only [D.py]
    exact .lst (.inl (.inl h)) (r.dp f.2)
end PD
set_option maxRecDepth 100000
set_option maxHeartbeats 4000000
namespace PD
open PySem PySem.Spec PyProof.Rows L2

/-! ## a new object is data -/
/-- H, F both get o at p -/
def Wd.new (W : Wd) (p : Addr) (o : HO) : Wd where
  F := upd W.F p o
  H := upd W.H p o
  A := W.A
  sub := fun a u h => by
    by_cases e : a = p
    · subst e; rw [upd_same] at h ⊢; exact h
    · rw [upd_ne e] at h ⊢; exact W.sub a u h
theorem Wd.fnone {W : Wd} {p : Addr} (h : W.H p = none) : W.F p = none := by
  cases e : W.F p with
  | none => rfl
  | some o => rw [W.sub p o e] at h; cases h
theorem SRep.there {K : PySem.W.Frag} {W : Wd} {s : Store} (sr : SRep K W s) {a : Addr} (h : a ∈ W.A) : W.H a ≠ none := by
  obtain ⟨i, hi, e⟩ := List.mem_iff_getElem.mp h
  have h1 : W.A[i]? = some a := by rw [List.getElem?_eq_getElem hi, e]
  have hl : i < s.length := by rw [← sr.len]; exact hi
  obtain ⟨_, c⟩ := sr.at_ i a s[i] h1 (by simp [hl])
  cases hc : s[i] with
  | lst ds => rw [hc] at c; obtain ⟨vs, e1, _⟩ := c; rw [e1]; simp
theorem Grow.new {K : PySem.W.Frag} {W : Wd} {p : Addr} {o : HO} {s : Store} (hp : W.H p = none) (sr : SRep K W s) : Grow W (W.new p o) where
  f := fun a u h => by
    have : a ≠ p := fun e => by subst e; rw [Wd.fnone hp] at h; cases h
    show upd W.F p o a = _
    rw [upd_ne this]; exact h
  h := fun a u _ h => by
    have : a ≠ p := fun e => by subst e; rw [hp] at h; cases h
    show upd W.H p o a = _
    rw [upd_ne this]; exact h
  n := fun a h e => by
    have : a ≠ p := fun q => by subst q; exact e hp
    show upd W.F p o a = _
    rw [upd_ne this]; exact h
  t := fun a e => by
    show upd W.H p o a ≠ none
    by_cases h : a = p
    · subst h; rw [upd_same]; simp
    · rw [upd_ne h]; exact e
  p := ⟨[], by simp [Wd.new]⟩
  q := fun a h => .inl h
theorem CellRep.grow {K : PySem.W.Frag} {W W' : Wd} (hF : ∀ a o, W.F a = some o → W'.F a = some o) (hA : ∀ (i : Nat) (a : Addr), W.A[i]? = some a → W'.A[i]? = some a) {a : Addr} (e : W'.H a = W.H a) {c : Cell} (h : CellRep K W a c) : CellRep K W' a c := by
  cases c with
  | lst ds =>
    obtain ⟨vs, h1, r⟩ := h
    exact ⟨vs, e.trans h1, r.of hF hA⟩
theorem SRep.new {K : PySem.W.Frag} {W : Wd} {p : Addr} {o : HO} {s : Store} (hp : W.H p = none) (sr : SRep K W s) : SRep K (W.new p o) s := by
  refine ⟨sr.len, sr.nd, fun i a c h1 h2 => ?_⟩
  obtain ⟨h3, h4⟩ := sr.at_ i a c h1 h2
  have ne : a ≠ p := fun e => by subst e; exact sr.there (List.mem_of_getElem? h1) hp
  refine ⟨?_, h4.grow (Grow.new (o := o) hp sr).f (fun _ _ h => h) ?_⟩
  · show upd W.F p o a = none
    rw [upd_ne ne]; exact h3
  · show upd W.H p o a = _
    rw [upd_ne ne]

/-! ## the judgements -/
abbrev Want (K : PySem.W.Frag) (Q : VK) : Wd → Store → D → Prop := fun W' _ d => ∀ v, Rep K W' d v → Q v W'.H
abbrev WantV (K : PySem.W.Frag) (Q : VK) : Wd → Store → D → Prop := fun W' _ d => ∀ v, RepV K W' d v → Q v W'.H
abbrev WantL (K : PySem.W.Frag) (Q : List V → Hp → Prop) : Wd → Store → List D → Prop := fun W' _ ds => ∀ vs, RepL K W' ds vs → Q vs W'.H
abbrev WantB (Q : Bool → Hp → Prop) : Wd → Store → Bool → Prop := fun W' _ b => Q b W'.H
/-- an expression gives data -/
def PEd (X : Cx) (EX : XK) (e : Expr) (m : Env → M D) : Prop := ∃ t, PE X e t ∧
  ∀ B W Γ σ s Q, Sat X.K B W Γ σ → SRep X.K W s → Post X.K EX W (m Γ s) (Want X.K Q) → t σ W.H Q
/-- .. or a view -/
def PVd (X : Cx) (EX : XK) (e : Expr) (m : Env → M D) : Prop := ∃ t, PE X e t ∧
  ∀ B W Γ σ s Q, Sat X.K B W Γ σ → SRep X.K W s → Post X.K EX W (m Γ s) (WantV X.K Q) → t σ W.H Q
def PAd (X : Cx) (EX : XK) (es : List Expr) (m : Env → M (List D)) : Prop := ∃ t, PA X es t ∧
  ∀ B W Γ σ s Q, Sat X.K B W Γ σ → SRep X.K W s → Post X.K EX W (m Γ s) (WantL X.K Q) → t σ W.H Q
def PTd (X : Cx) (EX : XK) (e : Expr) (m : Env → M Bool) : Prop := ∃ t, PT X e t ∧
  ∀ B W Γ σ s Q, Sat X.K B W Γ σ → SRep X.K W s → Post X.K EX W (m Γ s) (WantB Q) → t σ W.H Q
def PWd (X : Cx) (EX : XK) (e : Expr) (m : Env → M Bool) : Prop := ∃ t, PW X e t ∧
  ∀ B W Γ σ s Q, Sat X.K B W Γ σ → SRep X.K W s → Post X.K EX W (m Γ s) (WantB Q) → t σ W.H Q
section
variable {X : Cx} {EX : XK} {a b c e : Expr} {pos : Pos}
theorem PEd.v {m : Env → M D} (h : PEd X EX e m) : PVd X EX e m := by
  obtain ⟨t, ht, q⟩ := h
  exact ⟨t, ht, fun B W Γ σ s Q sat sr p => q B W Γ σ s Q sat sr (p.mono fun _ _ _ _ _ _ w v r => w v (.of r))⟩
theorem PWd.t {m : Env → M Bool} (h : PWd X EX e m) : PTd X EX e m := by
  obtain ⟨t, ht, q⟩ := h
  exact ⟨t, ht.pt, q⟩

/-! ### names, constants -/
def mVar (i : Nat) : Env → M D := fun Γ s => match Γ[i]? with
  | some (.dat d) => .ok d s
  | _ => .bad
/-- looked at, not handed on -/
def mPeek (i : Nat) : Env → M D := fun Γ s => match Γ[i]? with
  | some (.dat d) => .ok d s
  | some (.own ds) => .ok (.lst ds) s
  | _ => .bad
def mCon (d : D) : Env → M D := fun _ s => .ok d s
theorem de_var {i : Nat} {x : Str} (hN : X.N[i]? = some x) (hv : Vis X.env.scope x) (hd : (x == ("__debug__" : Str)) = false) (hcd : (x == ("__classdict__" : Str)) = false) : PEd X EX (.Name x pos) (mVar i) := by
  refine ⟨tVar i, pe_var hN hv hd hcd, fun B W Γ σ s Q sat sr p => ?_⟩
  unfold mVar at p
  split at p
  · rename_i d e
    obtain ⟨v, h1, r⟩ := sat.dat e
    exact ⟨v, h1, p W (Grow.refl W) sr v r⟩
  · exact p.elim
theorem dv_peek {i : Nat} {x : Str} (hN : X.N[i]? = some x) (hv : Vis X.env.scope x) (hd : (x == ("__debug__" : Str)) = false) (hcd : (x == ("__classdict__" : Str)) = false) : PVd X EX (.Name x pos) (mPeek i) := by
  refine ⟨tVar i, pe_var hN hv hd hcd, fun B W Γ σ s Q sat sr p => ?_⟩
  unfold mPeek at p
  split at p
  · rename_i d e
    obtain ⟨v, h1, r⟩ := sat.dat e
    exact ⟨v, h1, p W (Grow.refl W) sr v (.of r)⟩
  · rename_i ds e
    obtain ⟨o, h1, q, vs, h2, h3, h4, h5, h6, r⟩ := sat.slot e
    exact ⟨.ref q, by rw [h1, h2], p W (Grow.refl W) sr _ (.own h5 h3 r)⟩
  · exact p.elim
theorem de_con {d : D} {v : V} (h : PE X e (tC v)) (r : ∀ W, Rep X.K W d v) : PEd X EX e (mCon d) :=
  ⟨_, h, fun B W Γ σ s Q sat sr p => p W (Grow.refl W) sr v (r W)⟩
theorem de_int {i : Int} {k : Nat} : PEd X EX (.Constant (.int i) k pos) (mCon (.int i)) := de_con pe_int fun _ => .int i
theorem de_bl {i : Bool} {k : Nat} : PEd X EX (.Constant (.bool i) k pos) (mCon (.bl i)) := de_con pe_bl fun _ => .bl i
theorem de_str {i : Str} {k : Nat} : PEd X EX (.Constant (.str i) k pos) (mCon (.str i)) := de_con pe_str fun _ => .str i
theorem de_non {k : Nat} : PEd X EX (.Constant .none k pos) (mCon .non) := de_con pe_non fun _ => .non

/-! ### two operands -/
/-- a value operation is f on data -/
def OpD (K : PySem.W.Frag) (r : R2) (f : D → D → Option D) : Prop := ∀ (W : Wd) (s : Store) (d1 d2 d : D) (x y : V) (Q : VK), RepV K W d1 x → RepV K W d2 y → SRep K W s → f d1 d2 = some d →
  (∀ W' v, Grow W W' → SRep K W' s → Rep K W' d v → Q v W'.H) → r x y W.H Q
def mOp (f : D → D → Option D) (ma mb : Env → M D) : Env → M D := fun Γ s => (ma Γ s).bind fun d1 s1 => (mb Γ s1).bind fun d2 s2 => R.opt (f d1 d2) s2
theorem op_run {r : R2} {f : D → D → Option D} {ta tb : TE} {ma mb : Env → M D}
    (qa : ∀ B W Γ σ s Q, Sat X.K B W Γ σ → SRep X.K W s → Post X.K EX W (ma Γ s) (WantV X.K Q) → ta σ W.H Q) (qb : ∀ B W Γ σ s Q, Sat X.K B W Γ σ → SRep X.K W s → Post X.K EX W (mb Γ s) (WantV X.K Q) → tb σ W.H Q)
    (hr : OpD X.K r f) : ∀ B W Γ σ s Q, Sat X.K B W Γ σ → SRep X.K W s → Post X.K EX W (mOp f ma mb Γ s) (Want X.K Q) → tOp r ta tb σ W.H Q := fun B W Γ σ s Q sat sr p => by
  refine qa B W Γ σ s _ sat sr (Post.bind p fun d1 s1 W1 _ g1 sr1 p1 x rx => ?_)
  refine qb B W1 Γ σ s1 _ (sat.grow g1) sr1 (Post.bind p1 fun d2 s2 W2 _ g2 sr2 p2 y ry => ?_)
  obtain ⟨d, e, q⟩ := p2.opt
  exact hr W2 s2 d1 d2 d x y Q (rx.grow g2) ry sr2 e fun W' v g s' r => q W' g s' v r
theorem de_bin {op : Operator} {r : R2} {f : D → D → Option D} {ma mb : Env → M D} (ho : OpR X (binaryOp op) r) (hr : OpD X.K r f) (ha : PVd X EX a ma) (hb : PVd X EX b mb) : PEd X EX (.BinOp a op b pos) (mOp f ma mb) := by
  obtain ⟨ta, pa, qa⟩ := ha
  obtain ⟨tb, pb, qb⟩ := hb
  exact ⟨_, pe_op ho pa pb, op_run qa qb hr⟩
theorem de_cmp {op : CmpOp} {r : R2} {f : D → D → Option D} {ma mb : Env → M D} (ho : OpR X (compareOp op) r) (hr : OpD X.K r f) (hm : behindInMarks op b = false) (ha : PVd X EX a ma) (hb : PVd X EX b mb) : PEd X EX (.Compare a [op] [b] pos) (mOp f ma mb) := by
  obtain ⟨ta, pa, qa⟩ := ha
  obtain ⟨tb, pb, qb⟩ := hb
  exact ⟨_, pe_cmpR ho pa pb hm, op_run qa qb hr⟩
/-- one operand -/
def OpU (K : PySem.W.Frag) (r : V → Hp → VK → Prop) (f : D → Option D) : Prop := ∀ (W : Wd) (s : Store) (d1 d : D) (x : V) (Q : VK), RepV K W d1 x → SRep K W s → f d1 = some d →
  (∀ W' v, Grow W W' → SRep K W' s → Rep K W' d v → Q v W'.H) → r x W.H Q
def mOp1 (f : D → Option D) (ma : Env → M D) : Env → M D := fun Γ s => (ma Γ s).bind fun d1 s1 => R.opt (f d1) s1
theorem de_un {op : UnaryOp} {r : V → Hp → VK → Prop} {f : D → Option D} {ma : Env → M D} (ho : UnR X (unaryOp op) r) (hr : OpU X.K r f) (ha : PVd X EX a ma) : PEd X EX (.UnaryOp op a pos) (mOp1 f ma) := by
  obtain ⟨ta, pa, qa⟩ := ha
  refine ⟨_, pe_un ho pa, fun B W Γ σ s Q sat sr p => ?_⟩
  refine qa B W Γ σ s _ sat sr (Post.bind p fun d1 s1 W1 _ g1 sr1 p1 x rx => ?_)
  obtain ⟨d, e, q⟩ := p1.opt
  exact hr W1 s1 d1 d x Q rx sr1 e fun W' v g s' r => q W' g s' v r

/-! ### the operations -/
def fAdd : D → D → Option D
  | .int i, .int j => some (.int (i + j))
  | .bl b, .int j => some (.int (b2i b + j))
  | .str x, .str y => if x.length + y.length ≤ 100000 then some (.str (x ++ y)) else none
  | .lst xs, .lst ys => if xs.length + ys.length ≤ 100000 then some (.lst (xs ++ ys)) else none
  | .tup xs, .tup ys => if xs.length + ys.length ≤ 100000 then some (.tup (xs ++ ys)) else none
  | _, _ => none
def fSub : D → D → Option D
  | .int i, .int j => some (.int (i - j))
  | _, _ => none
def fMul : D → D → Option D
  | .int i, .int j => if i.natAbs.log2 + j.natAbs.log2 < 1000000 then some (.int (i * j)) else none
  | .lst xs, .int k => if -1000 ≤ k ∧ k ≤ 1000 ∧ xs.length ≤ 100 then some (.lst (List.replicate k.toNat xs).flatten) else none
  | .tup xs, .int k => if xs ≠ [] ∧ 2 ≤ k ∧ k ≤ 1000 ∧ xs.length ≤ 100 then some (.tup (List.replicate k.toNat xs).flatten) else none
  | _, _ => none
def fDiv : D → D → Option D
  | .int i, .int j => if 0 < j ∧ j.natAbs.log2 < 9000 then some (.int (i / j)) else if j ≠ 0 ∧ j.natAbs < 1073741824 then some (.int (i.fdiv j)) else none
  | _, _ => none
def fMod : D → D → Option D
  | .int i, .int j => if 0 < j then some (.int (i % j)) else if j ≠ 0 then some (.int (i.fmod j)) else none
  | _, _ => none
def fPow : D → D → Option D
  | .int i, .int j => if 0 ≤ j ∧ j ≤ 1000000 ∧ i.natAbs < 18446744073709551616 then some (.int (i ^ j.toNat)) else none
  | _, _ => none
end
theorem two_lst {K : PySem.W.Frag} {W : Wd} {s : Store} {xs : List D} {vs : List V} {p : Addr} (hp : W.H p = none) (sr : SRep K W s) (r : RepL K W xs vs) : Rep K (W.new p (.lst vs)) (.lst xs) (.ref p) :=
  .lst (show upd W.F p _ p = _ from upd_same) (r.grow (Grow.new hp sr))
theorem two_tup {K : PySem.W.Frag} {W : Wd} {s : Store} {xs : List D} {vs : List V} {p : Addr} {o : Obj} (to : TOb o) (hp : W.H p = none) (sr : SRep K W s) (r : RepL K W xs vs) : Rep K (W.new p (.frz o (.tup vs))) (.tup xs) (.ref p) :=
  .tup (.inl ⟨o, to, show upd W.F p _ p = _ from upd_same⟩) (r.grow (Grow.new hp sr))
theorem RepL.rep {K : PySem.W.Frag} {W : Wd} {xs : List D} {vs : List V} (r : RepL K W xs vs) : ∀ n : Nat, RepL K W (List.replicate n xs).flatten (List.replicate n vs).flatten
  | 0 => .nil
  | n + 1 => by
    rw [List.replicate_succ, List.replicate_succ, List.flatten_cons, List.flatten_cons]
    exact r.app (RepL.rep r n)
theorem RepL.nil_iff {K : PySem.W.Frag} {W : Wd} {xs : List D} {vs : List V} (r : RepL K W xs vs) : xs = [] ↔ vs = [] := by
  cases r <;> simp
section
variable {X : Cx}
theorem op_add_bi : OpR X (binaryOp .Add) (fun x y H Q => ∃ k i, x = .bl k ∧ y = .int i ∧ Q (.int (b2i k + i)) H) := by
  intro pins s σ H x y v u Q I rx ry h
  obtain ⟨k, i, rfl, rfl, q⟩ := h
  cases rx
  obtain ⟨t, rfl⟩ := ry
  exact PySem.IntBool.add_bool_int ⟨.int (b2i k + i), H, I.tok _, ⟨_, rfl⟩, q⟩
def rAddD (K : PySem.W.Frag) : R2 := fun x y H Q => (∃ k i, x = .bl k ∧ y = .int i ∧ Q (.int (b2i k + i)) H) ∨ rI0 (fun i j => .int (i + j)) x y H Q ∨ (∃ i j, x = .str i ∧ y = .str j ∧ i.length + j.length ≤ sizeLine ∧ Q (.str (i ++ j)) H) ∨ rCat x y H Q ∨ rCatF K x y H Q
theorem op_addD : OpR X (binaryOp .Add) (rAddD X.K) := op_add_bi.or (op_add.or (op_add_str.or (op_cat.or op_catF)))
theorem od_add (K : PySem.W.Frag) : OpD K (rAddD K) fAdd := fun W s d1 d2 d x y Q r1 r2 sr e q => by
  unfold fAdd at e
  split at e
  · cases e
    exact .inr (.inl ⟨_, _, r1.int, r2.int, q W _ (Grow.refl W) sr (.int _)⟩)
  · cases e
    exact .inl ⟨_, _, r1.bl, r2.int, q W _ (Grow.refl W) sr (.int _)⟩
  · split at e
    · cases e
      exact .inr (.inr (.inl ⟨_, _, r1.str, r2.str, Evl.sz_of (by assumption), q W _ (Grow.refl W) sr (.str _)⟩))
    · cases e
  · split at e
    · rename_i hl
      cases e
      obtain ⟨a1, v1, e1, h1, l1⟩ := r1.lst
      obtain ⟨a2, v2, e2, h2, l2⟩ := r2.lst
      have := l1.len
      have := l2.len
      exact .inr (.inr (.inr (.inl ⟨a1, a2, v1, v2, e1, e2, h1, h2, Evl.sz_of (by omega), fun p hp => q (W.new p (.lst (v1 ++ v2))) _ (Grow.new hp sr) (sr.new hp) (two_lst hp sr (l1.app l2))⟩)))
    · cases e
  · split at e
    · rename_i xs ys hl
      cases e
      obtain ⟨a1, v1, e1, h1, l1⟩ := r1.tup
      obtain ⟨a2, v2, e2, h2, l2⟩ := r2.tup
      have := l1.len
      have := l2.len
      refine .inr (.inr (.inr (.inr ⟨a1, a2, v1, v2, e1, e2, h1, h2, Evl.sz_of (by omega), fun z => ?_, fun _ z => ?_, fun _ _ p o to hp => q (W.new p (.frz o (.tup (v1 ++ v2)))) _ (Grow.new hp sr) (sr.new hp) (two_tup to hp sr (l1.app l2))⟩)))
      · have z1 := l1.nil_iff.mpr z
        subst z1
        cases r2 with
        | of r2 =>
          rw [← e2]
          rw [List.nil_append] at q
          exact q W y (Grow.refl W) sr r2
      · have z1 := l2.nil_iff.mpr z
        subst z1
        cases r1 with
        | of r1 =>
          rw [← e1]
          rw [List.append_nil] at q
          exact q W x (Grow.refl W) sr r1
    · cases e
  · cases e
theorem od_sub (K : PySem.W.Frag) : OpD K (rI0 fun i j => .int (i - j)) fSub := fun W s d1 d2 d x y Q r1 r2 sr e q => by
  unfold fSub at e
  split at e
  · cases e
    exact ⟨_, _, r1.int, r2.int, q W _ (Grow.refl W) sr (.int _)⟩
  · cases e
def rMulD (K : PySem.W.Frag) : R2 := fun x y H Q => rI CMulW (fun i j => .int (i * j)) x y H Q ∨ rRep x y H Q ∨ rRepF K x y H Q
theorem op_mulD : OpR X (binaryOp .Mult) (rMulD X.K) := op_mulW.or (op_rep.or op_repF)
theorem od_mul (K : PySem.W.Frag) : OpD K (rMulD K) fMul := fun W s d1 d2 d x y Q r1 r2 sr e q => by
  unfold fMul at e
  split at e
  · split at e
    · rename_i h
      cases e
      exact .inl ⟨_, _, r1.int, r2.int, h, q W _ (Grow.refl W) sr (.int _)⟩
    · cases e
  · split at e
    · rename_i xs k h
      cases e
      obtain ⟨a1, v1, e1, h1, l1⟩ := r1.lst
      have ll := l1.len
      refine .inr (.inl ⟨a1, k, v1, e1, r2.int, h1, by omega, by omega, Evl.sz_of ?_, fun p hp => q (W.new p (.lst (List.replicate k.toNat v1).flatten)) _ (Grow.new hp sr) (sr.new hp) (two_lst hp sr (l1.rep _))⟩)
      rw [← ll]
      exact Nat.le_trans (Nat.mul_le_mul h.2.2 (show k.toNat ≤ 1000 by omega)) (by decide)
    · cases e
  · split at e
    · rename_i xs k h
      cases e
      obtain ⟨a1, v1, e1, h1, l1⟩ := r1.tup
      have ll := l1.len
      exact .inr (.inr ⟨a1, k, v1, e1, r2.int, h1, fun z => h.1 (l1.nil_iff.mpr z), h.2.1, h.2.2.1, by omega, fun p o to hp => q (W.new p (.frz o (.tup (List.replicate k.toNat v1).flatten))) _ (Grow.new hp sr) (sr.new hp) (two_tup to hp sr (l1.rep _))⟩)
    · cases e
  · cases e
def rDivD : R2 := fun x y H Q => rI CDivW (fun i j => .int (i / j)) x y H Q ∨ rI CDivN (fun i j => .int (i.fdiv j)) x y H Q
theorem op_divD : OpR X (binaryOp .FloorDiv) rDivD := op_fdivW.or op_fdivN
theorem od_div (K : PySem.W.Frag) : OpD K rDivD fDiv := fun W s d1 d2 d x y Q r1 r2 sr e q => by
  unfold fDiv at e
  split at e
  · split at e
    · rename_i h
      cases e
      exact .inl ⟨_, _, r1.int, r2.int, h, q W _ (Grow.refl W) sr (.int _)⟩
    · split at e
      · rename_i h
        cases e
        exact .inr ⟨_, _, r1.int, r2.int, h, q W _ (Grow.refl W) sr (.int _)⟩
      · cases e
  · cases e
def rModD : R2 := fun x y H Q => rI (fun _ j => 0 < j) (fun i j => .int (i % j)) x y H Q ∨ rI (fun _ j => j ≠ 0) (fun i j => .int (i.fmod j)) x y H Q
theorem op_modD : OpR X (binaryOp .Mod) rModD := op_mod.or op_modN
theorem od_mod (K : PySem.W.Frag) : OpD K rModD fMod := fun W s d1 d2 d x y Q r1 r2 sr e q => by
  unfold fMod at e
  split at e
  · split at e
    · rename_i h
      cases e
      exact .inl ⟨_, _, r1.int, r2.int, h, q W _ (Grow.refl W) sr (.int _)⟩
    · split at e
      · rename_i h
        cases e
        exact .inr ⟨_, _, r1.int, r2.int, h, q W _ (Grow.refl W) sr (.int _)⟩
      · cases e
  · cases e
theorem od_pow (K : PySem.W.Frag) : OpD K (rI CPow fun i j => .int (i ^ j.toNat)) fPow := fun W s d1 d2 d x y Q r1 r2 sr e q => by
  unfold fPow at e
  split at e
  · split at e
    · rename_i h
      cases e
      exact ⟨_, _, r1.int, r2.int, h, q W _ (Grow.refl W) sr (.int _)⟩
    · cases e
  · cases e
def fNeg : D → Option D
  | .int i => some (.int (-i))
  | _ => none
theorem od_neg (K : PySem.W.Frag) : OpU K (rU fun i => .int (-i)) fNeg := fun W s d1 d x Q r1 sr e q => by
  unfold fNeg at e
  split at e
  · cases e
    exact ⟨_, r1.int, q W _ (Grow.refl W) sr (.int _)⟩
  · cases e

/-! ### comparisons -/
def fLt : D → D → Option D
  | .int i, .int j => some (.bl (decide (i < j)))
  | _, _ => none
def fLe : D → D → Option D
  | .int i, .int j => some (.bl (decide (i ≤ j)))
  | _, _ => none
def fGt : D → D → Option D
  | .int i, .int j => some (.bl (decide (j < i)))
  | _, _ => none
def fGe : D → D → Option D
  | .int i, .int j => some (.bl (decide (j ≤ i)))
  | _, _ => none
def fEq (a b : D) : Option D := if D.fine 60 a && D.fine 60 b then some (.bl (D.eqv a b)) else none
def fNe (a b : D) : Option D := if D.fine 60 a && D.fine 60 b then some (.bl (!D.eqv a b)) else none
def D.isN : D → Bool
  | .non => true
  | _ => false
def fIsN (a b : D) : Option D := match b with
  | .non => some (.bl a.isN)
  | _ => none
def fNotN (a b : D) : Option D := match b with
  | .non => some (.bl (!a.isN))
  | _ => none
theorem od_lt (K : PySem.W.Frag) : OpD K (rI0 fun i j => .bl (decide (i < j))) fLt := fun W s d1 d2 d x y Q r1 r2 sr e q => by
  unfold fLt at e
  split at e
  · cases e; exact ⟨_, _, r1.int, r2.int, q W _ (Grow.refl W) sr (.bl _)⟩
  · cases e
theorem od_le (K : PySem.W.Frag) : OpD K (rI0 fun i j => .bl (decide (i ≤ j))) fLe := fun W s d1 d2 d x y Q r1 r2 sr e q => by
  unfold fLe at e
  split at e
  · cases e; exact ⟨_, _, r1.int, r2.int, q W _ (Grow.refl W) sr (.bl _)⟩
  · cases e
theorem od_gt (K : PySem.W.Frag) : OpD K (rI0 fun i j => .bl (decide (j < i))) fGt := fun W s d1 d2 d x y Q r1 r2 sr e q => by
  unfold fGt at e
  split at e
  · cases e; exact ⟨_, _, r1.int, r2.int, q W _ (Grow.refl W) sr (.bl _)⟩
  · cases e
theorem od_ge (K : PySem.W.Frag) : OpD K (rI0 fun i j => .bl (decide (j ≤ i))) fGe := fun W s d1 d2 d x y Q r1 r2 sr e q => by
  unfold fGe at e
  split at e
  · cases e; exact ⟨_, _, r1.int, r2.int, q W _ (Grow.refl W) sr (.bl _)⟩
  · cases e
theorem od_eq (K : PySem.W.Frag) : OpD K (rEqD K) fEq := fun W s d1 d2 d x y Q r1 r2 sr e q => by
  unfold fEq at e
  split at e
  · rename_i h
    rw [Bool.and_eq_true] at h
    cases e
    refine ⟨_, _, r1.dp h.1, r2.dp h.2, D.fine_shaped h.1, D.fine_shaped h.2, ?_⟩
    rw [D.eqv_py _ _ _ _ h.1 h.2]
    exact q W _ (Grow.refl W) sr (.bl _)
  · cases e
theorem od_ne (K : PySem.W.Frag) : OpD K (rNeD K) fNe := fun W s d1 d2 d x y Q r1 r2 sr e q => by
  unfold fNe at e
  split at e
  · rename_i h
    rw [Bool.and_eq_true] at h
    cases e
    refine ⟨_, _, r1.dp h.1, r2.dp h.2, D.fine_shaped h.1, D.fine_shaped h.2, ?_⟩
    rw [D.eqv_py _ _ _ _ h.1 h.2]
    exact q W _ (Grow.refl W) sr (.bl _)
  · cases e
theorem rep_non {K : PySem.W.Frag} {W : Wd} {d : D} {v : V} (h : RepV K W d v) : decide (v = V.non) = d.isN := by
  cases h with
  | of h => cases h <;> simp [D.isN]
  | own _ _ _ => simp [D.isN]
theorem od_isN (K : PySem.W.Frag) : OpD K (fun x y H Q => y = .non ∧ Q (.bl (decide (x = .non))) H) fIsN := fun W s d1 d2 d x y Q r1 r2 sr e q => by
  unfold fIsN at e
  split at e
  · cases e
    refine ⟨r2.non, ?_⟩
    rw [rep_non r1]
    exact q W _ (Grow.refl W) sr (.bl _)
  · cases e
theorem od_notN (K : PySem.W.Frag) : OpD K (fun x y H Q => y = .non ∧ Q (.bl (!decide (x = .non))) H) fNotN := fun W s d1 d2 d x y Q r1 r2 sr e q => by
  unfold fNotN at e
  split at e
  · cases e
    refine ⟨r2.non, ?_⟩
    rw [rep_non r1]
    exact q W _ (Grow.refl W) sr (.bl _)
  · cases e
end
end PD
set_option maxRecDepth 100000
set_option maxHeartbeats 4000000
namespace PD
open PySem PySem.Spec PyProof.Rows L2

/-! ## lists and tuples alike -/
def SqB (l : Bool) (K : PySem.W.Frag) (H : Hp) (a : Addr) (xs : List V) : Prop := match l with
  | true => SqL K H a xs
  | false => SqT K H a xs
def IsSeqB (l : Bool) (h : Heap) (a : Addr) (items : Array Value) : Prop := match l with
  | true => h.IsList a items
  | false => h.IsTuple a items
def IterB (l : Bool) (h : Heap) (it a : Addr) (i : Nat) : Prop := match l with
  | true => h.IsListIter it a i
  | false => h.IsTupleIter it a i
theorem IterB.there {l : Bool} {h : Heap} {it a : Addr} {i : Nat} (x : IterB l h it a i) : ∃ o, h.get? it = some o ∧ ∀ v, o.data ≠ .cell v := by
  cases l with
  | true => obtain ⟨o, e, _, d⟩ := x; exact ⟨o, e, fun v q => by rw [d] at q; cases q⟩
  | false => obtain ⟨o, e, _, d⟩ := x; exact ⟨o, e, fun v q => by rw [d] at q; cases q⟩
theorem IterB.at' {l : Bool} {h h' : Heap} {it a : Addr} {i : Nat} (x : IterB l h it a i) (k : ∀ o, h.get? it = some o → h'.get? it = some o) : IterB l h' it a i := by
  cases l with
  | true => exact Heap.IsListIter.at x k
  | false => exact Heap.IsTupleIter.at x k
theorem inv_seq {l : Bool} {X : Cx} {pins : List (Addr × Obj)} {σ : L2.St} {H : Hp} {s : Shared} {a : Addr} {xs : List V} (I : Inv X pins σ H s) (h : SqB l X.K H a xs) : ∃ its : List Value, Vals xs its ∧ IsSeqB l s.heap a its.toArray := by
  cases l with
  | true => obtain ⟨its, r, p, _⟩ := I.list h; exact ⟨its, r, p.isList⟩
  | false => obtain ⟨its, r, p, _⟩ := I.tuple h; exact ⟨its, r, p⟩
theorem seq_inj {l : Bool} {X : Cx} {pins : List (Addr × Obj)} {σ : L2.St} {H : Hp} {s : Shared} {a : Addr} {xs ys : List V} (I : Inv X pins σ H s) (h : SqB l X.K H a xs) (h' : SqB l X.K H a ys) : xs = ys := by
  cases l with
  | true => exact I.list_inj h h'
  | false => exact I.tuple_inj h h'
theorem IsSeqB.lt {l : Bool} {h : Heap} {a : Addr} {items : Array Value} (x : IsSeqB l h a items) : a < h.objs.size := by
  cases l with
  | true => obtain ⟨o, e, _⟩ := x; exact Heap.lt_size e
  | false => obtain ⟨o, e, _⟩ := x; exact Heap.lt_size e
abbrev StB (l : Bool) (it a : Addr) (items : Array Value) : Nat → Heap → Prop := fun i h => IterB l h it a i ∧ IsSeqB l h a items
theorem draws_seq {prog : Program} {w : World} {A : Around} (l : Bool) (hh : A.handled = none) (it a : Addr) (hne : a ≠ it) (items : Array Value) :
    Draws prog w A it [it, a] items.size (fun i v => items[i]? = some v) (StB l it a items) := by
  cases l with
  | true => exact Draws.list hh it a hne items
  | false => exact Draws.tuple hh it a hne items
def objB (l : Bool) (a : Addr) : Obj := match l with
  | true => { cls := .type "list_iterator", data := .fields #[.ref a, .int 0 0] }
  | false => { cls := .type "tuple_iterator", data := .fields #[.ref a, .int 0 0] }
theorem begins_seq (l : Bool) (a : Addr) (items : Array Value) : Begins (.ref a) (objB l a) fun h => IsSeqB l h a items := by
  cases l with
  | true => exact begins_list a items
  | false => exact begins_tuple a items
theorem iter0 {l : Bool} {h : Heap} {it a : Addr} (e : h.get? it = some (objB l a)) : IterB l h it a 0 := by
  cases l with
  | true => exact ⟨_, e, rfl, rfl⟩
  | false => exact ⟨_, e, rfl, rfl⟩

/-! ## zip of two, any mix -/
def ItzB (l1 l2 : Bool) (K : PySem.W.Frag) (a b : Addr) : It :=
  ⟨fun i H => ∃ (xs ys : List V) (x y : V), SqB l1 K H a xs ∧ SqB l2 K H b ys ∧ xs[i]? = some x ∧ ys[i]? = some y,
    fun i H v H' => ∃ T x y ob, v = .ref T ∧ H T = none ∧ TOb ob ∧ H' = upd H T (.frz ob (.tup [x, y])) ∧ (∀ xs, SqB l1 K H a xs → xs[i]? = some x) ∧ ∀ ys, SqB l2 K H b ys → ys[i]? = some y,
    fun i H => ∃ xs ys : List V, SqB l1 K H a xs ∧ SqB l2 K H b ys ∧ i ≤ xs.length ∧ i ≤ ys.length ∧ (xs.length = i ∨ ys.length = i)⟩
theorem turn_zipB {P : Program} {w : World} {K : PySem.W.Frag} {elts : List Expr} {kk : Nat} {tpos : Pos} {l1 l2 : Bool} {a b z TI TO i1 i2 : Addr} (S : ZipSep2 z TI TO i1 i2 [i1, a] [i2, b]) (na : a ≠ i1) (nb : b ≠ i2) :
    Turn P w K (.Tuple elts kk tpos) (ItzB l1 l2 K a b) [z, TI, TO, i1, i2] z (fun i h => IsZip h z TI TO .none ∧ IsTupOf2 h TI (.ref i1) (.ref i2) ∧ (∃ x y, IsTupOf2 h TO x y) ∧ IterB l1 h i1 a i ∧ IterB l2 h i2 b i) where
  mem := by simp
  obj := fun i h st c hc => by
    obtain ⟨hz, hTI, ⟨x, y, hTO⟩, h1, h2⟩ := st
    have e' : c = z ∨ c = TI ∨ c = TO ∨ c = i1 ∨ c = i2 := by simpa using hc
    rcases e' with q | q | q | q | q
    · rw [q]; exact ⟨_, hz, fun v q => nomatch q⟩
    · rw [q]; exact ⟨_, hTI, fun v q => nomatch q⟩
    · rw [q]; exact ⟨_, hTO, fun v q => nomatch q⟩
    · rw [q]; exact h1.there
    · rw [q]; exact h2.there
  keep := fun i h h' st k => by
    obtain ⟨hz, hTI, ⟨x, y, hTO⟩, h1, h2⟩ := st
    exact ⟨k z (by simp) _ hz, k TI (by simp) _ hTI, ⟨x, y, k TO (by simp) _ hTO⟩, h1.at' fun o q => k i1 (by simp) o q, h2.at' fun o q => k i2 (by simp) o q⟩
  item := by
    intro X hP hw hK hc i pins s σ H E I hf st hg
    subst hP hw hK
    obtain ⟨hz, hTI, ⟨x0, y0, hTO⟩, h1, h2⟩ := st
    obtain ⟨xs, ys, x, y, hqx, hqy, hx, hy⟩ := hg
    obtain ⟨its, rv, p⟩ := inv_seq I hqx
    obtain ⟨its2, rv2, p2⟩ := inv_seq I hqy
    have hzl : z < s.heap.objs.size := Heap.lt_size hz
    have n1 : i < its.toArray.size := by rw [List.size_toArray, ← rv.length]; exact (List.getElem?_eq_some_iff.mp hx).1
    have n2 : i < its2.toArray.size := by rw [List.size_toArray, ← rv2.length]; exact (List.getElem?_eq_some_iff.mp hy).1
    have hh : X.A.handled = none := I.ok.hd hc
    refine wpAny_pyNext_zipD2_item S (draws_seq l1 (show X.A.in1.handled = none from hh) i1 a na its.toArray) (draws_seq l2 (show X.A.in1.handled = none from hh) i2 b nb its2.toArray) hz hTI hTO ⟨h1, p⟩ ⟨h2, p2⟩ n1 n2
      fun u u2 h' tk hu hu2 z' TO' st1 st2 hT hsz hk => ?_
    have hu : its[i]? = some u := by simpa using hu
    have hu2 : its2[i]? = some u2 := by simpa using hu2
    obtain ⟨u', q1, ru⟩ := rv.get hx
    obtain ⟨u2', q2, ru2⟩ := rv2.get hy
    rw [hu] at q1; cases q1
    rw [hu2] at q2; cases q2
    refine ⟨_, rfl, wpAny_letOwnedTupleGo_zip (s := { s with heap := h', toks := tk }) z' fun h'' z'' sb => ?_⟩
    have hT2 : h''.get? s.heap.objs.size = some { cls := .type "tuple", data := .seq #[u, u2] } := (sb.2 _ (Nat.ne_of_gt hzl)).trans hT
    have new : ObjOk X.prog X.w (upd H s.heap.objs.size (.frz (tuO [u, u2]) (.tup [x, y]))) h'' s.heap.objs.size (.frz (tuO [u, u2]) (.tup [x, y])) :=
      ⟨hT2, by show 2 ≤ sizeLine; decide, [u, u2], .cons ru (.cons ru2 .nil), ⟨_, hT2, rfl, _, rfl⟩⟩
    have I1 : Inv X pins σ (upd H s.heap.objs.size (.frz (tuO [u, u2]) (.tup [x, y]))) { s with heap := h'', toks := tk } :=
      I.turnedNew (t' := tk) (ch := [z, TI, TO, i1, i2]) (fun c o hb q => (sb.2 c (fun q' => hb (by simp [q']))).trans (hk c o (fun q' => hb (by simp [q'])) (fun q' => hb (by simp [q'])) (fun q' => hb (by simp [q'])) (fun q' => hb (by simp [q'])) q)) hf (Nat.le_refl _) new
    refine ⟨.ref s.heap.objs.size, _, I1, rfl, ⟨_, x, y, _, rfl, I.hok.fresh (Nat.le_refl _), tuO_ok _, rfl, fun l hl => by rw [seq_inj I hl hqx]; exact hx, fun l hl => by rw [seq_inj I hl hqy]; exact hy⟩, ⟨z'', ?_, ⟨u, u2, ?_⟩, ?_, ?_⟩, fun c hcm => ?_⟩
    · exact (sb.2 _ S.TIz).trans (hk _ _ S.TIz S.TITO S.TIi1 S.TIi2 hTI)
    · exact (sb.2 _ S.TOz).trans TO'
    · exact st1.1.at' fun o q => (sb.2 _ S.zi1.symm).trans q
    · exact st2.1.at' fun o q => (sb.2 _ S.zi2.symm).trans q
    · have hlt : c < s.heap.objs.size := by
        have e' : c = z ∨ c = TI ∨ c = TO ∨ c = i1 ∨ c = i2 := by simpa using hcm
        rcases e' with q | q | q | q | q
        · rw [q]; exact hzl
        · rw [q]; exact Heap.lt_size hTI
        · rw [q]; exact Heap.lt_size hTO
        · rw [q]; obtain ⟨_, e1, _⟩ := h1.there; exact Heap.lt_size e1
        · rw [q]; obtain ⟨_, e2, _⟩ := h2.there; exact Heap.lt_size e2
      rw [upd_ne (Nat.ne_of_lt hlt)]
      exact (hf c hcm).1
  done := by
    intro X hP hw hK hc i pins s σ H E I hf st hg
    subst hP hw hK
    obtain ⟨hz, hTI, ⟨x0, y0, hTO⟩, h1, h2⟩ := st
    obtain ⟨xs, ys, hqx, hqy, hle1, hle2, hend⟩ := hg
    obtain ⟨its, rv, p⟩ := inv_seq I hqx
    obtain ⟨its2, rv2, p2⟩ := inv_seq I hqy
    have hl1 := rv.length
    have hl2 := rv2.length
    have hh : X.A.handled = none := I.ok.hd hc
    refine wpAny_pyNext_zipD2_end S (draws_seq l1 (show X.A.in1.handled = none from hh) i1 a na its.toArray) (draws_seq l2 (show X.A.in1.handled = none from hh) i2 b nb its2.toArray) hz hTI hTO ⟨h1, p⟩ ⟨h2, p2⟩
      (by rw [List.size_toArray]; omega) (by rw [List.size_toArray]; omega) (by rw [List.size_toArray, List.size_toArray]; omega)
      fun h' tk hk => ⟨rfl, I.turnedL (t' := tk) (ch := [z, TI, TO, i1, i2]) (fun c o hb q =>
      hk c o (fun q' => hb (by simp [q'])) (fun q' => hb (by simp [q'])) (fun q' => hb (by simp [q'])) (fun q' => hb (by simp [q'])) q) hf⟩
  self := fun A i s Q E st h => wpAny_pyIter_zip st.1 h
def iZipB (K : PySem.W.Frag) (ta : TA) : TI := fun σ H R => ta σ H fun vs H1 => ∃ l1 l2 a b xs ys, vs = [.ref a, .ref b] ∧ SqB l1 K H1 a xs ∧ SqB l2 K H1 b ys ∧ R (ItzB l1 l2 K a b) H1
theorem pi_zipB {X : Cx} {e e2 : Expr} {ta : TA} {p pos tpos : Pos} {elts : List Expr} {kk : Nat} (hg : Gl X "zip") (hm : X.mg "zip" = none) (ha : PA X [e, e2] ta)
    (hs : starEach [e, e2] X.env = (false, eval e X.env) :: starEach [e2] X.env := by rfl) (hpl : (backTo pos (starEach [e2] X.env)).any (·.1) = false := by rfl) :
    PI X (.Tuple elts kk tpos) (.Call (.Name "zip" p) [e, e2] [] pos) (iZipB X.K ta) := by
  refine ⟨fun pins s σ H R I h => ?_⟩
  refine Call_ (ld_blt I hg hm PyProof.Rows.boot_zip (PyProof.Rows.callWith_type1 (thn (ha.run pos pins s σ H _ I h) fun us s1 ⟨vs, H1, I1, r1, q1⟩ => ?_) hs hpl))
  obtain ⟨l1, l2, a, b, xs, ys, ex, hqx, hqy, q⟩ := q1
  subst ex
  cases r1 with
  | cons r rr =>
    cases rr with
    | cons r' rr =>
      cases rr
      cases r
      cases r'
      obtain ⟨its, rv, p1⟩ := inv_seq I1 hqx
      obtain ⟨its2, rv2, p2⟩ := inv_seq I1 hqy
      have la := p1.lt
      have lb := p2.lt
      refine zip_begins2 (begins_seq l1 a its.toArray) (begins_seq l2 b its2.toArray) p1 p2 fun h' hz hTI hTO g1 g2 hsz hk => wpAny_pyIter_zip hz ?_
      have I2 : Inv X pins σ H1 { s1 with heap := h' } := I1.kept (t' := s1.toks) hk
      refine ⟨s1.heap.objs.size + 4, [s1.heap.objs.size + 4, s1.heap.objs.size + 2, s1.heap.objs.size + 3, s1.heap.objs.size, s1.heap.objs.size + 1], _, _, H1, rfl, I2,
        turn_zipB (l1 := l1) (l2 := l2) (a := a) (b := b) (zip_sep2 (N := s1.heap.objs.size) (fp1 := [a]) (fp2 := [b]) (fun c hc => by rw [List.mem_singleton.mp hc]; exact la) (fun c hc => by rw [List.mem_singleton.mp hc]; exact lb)) (Nat.ne_of_lt la) (Nat.ne_of_lt (Nat.lt_succ_of_lt lb)), ⟨hz, hTI, ⟨_, _, hTO⟩, iter0 g1, iter0 g2⟩, fun c hcm => ?_, q⟩
      have e' : c = s1.heap.objs.size + 4 ∨ c = s1.heap.objs.size + 2 ∨ c = s1.heap.objs.size + 3 ∨ c = s1.heap.objs.size ∨ c = s1.heap.objs.size + 1 := by simpa using hcm
      have hle : s1.heap.objs.size ≤ c := by
        rcases e' with z | z | z | z | z
        · rw [z]; exact Nat.le_add_right _ _
        · rw [z]; exact Nat.le_add_right _ _
        · rw [z]; exact Nat.le_add_right _ _
        · rw [z]; exact Nat.le_refl _
        · rw [z]; exact Nat.le_add_right _ _
      exact I1.fpOk hle (I1.hok.fresh hle)

/-! ## enumerate of a list or a tuple -/
def IteB (l : Bool) (K : PySem.W.Frag) (a : Addr) : It :=
  ⟨fun i H => ∃ (xs : List V) (x : V), SqB l K H a xs ∧ xs[i]? = some x, fun i H v H' => ∃ T x ob, v = .ref T ∧ H T = none ∧ TOb ob ∧ H' = upd H T (.frz ob (.tup [.int (i : Nat), x])) ∧ ∀ xs, SqB l K H a xs → xs[i]? = some x, fun i H => ∃ xs : List V, SqB l K H a xs ∧ xs.length = i⟩
theorem turn_enumB {P : Program} {w : World} {K : PySem.W.Frag} {elts : List Expr} {kk : Nat} {tpos : Pos} {l : Bool} (a e it : Addr) (na : a ≠ it) (ne : a ≠ e) :
    Turn P w K (.Tuple elts kk tpos) (IteB l K a) [e, it] e (fun i h => (∃ old, IsEnum h e it ((i : Nat) : Int) old) ∧ IterB l h it a i ∧ e ≠ it) where
  mem := by simp
  obj := fun i h st b hb => by
    obtain ⟨⟨old, he⟩, h1, _⟩ := st
    have e' : b = e ∨ b = it := by simpa using hb
    rcases e' with z | z
    · rw [z]; exact ⟨_, he, fun v q => nomatch q⟩
    · rw [z]; exact h1.there
  keep := fun i h h' st k => let ⟨⟨old, he⟩, hi, hne⟩ := st; ⟨⟨old, k e (by simp) _ he⟩, hi.at' fun o q => k it (by simp) o q, hne⟩
  item := by
    intro X hP hw hK hc i pins s σ H E I hf st hg
    subst hP hw hK
    obtain ⟨⟨old, he⟩, hit, hne⟩ := st
    obtain ⟨xs, x, hq, hx⟩ := hg
    obtain ⟨its, rv, p⟩ := inv_seq I hq
    have hel : e < s.heap.objs.size := Heap.lt_size he
    have hil : it < s.heap.objs.size := by obtain ⟨_, q, _⟩ := hit.there; exact Heap.lt_size q
    have n1 : i < its.toArray.size := by rw [List.size_toArray, ← rv.length]; exact (List.getElem?_eq_some_iff.mp hx).1
    have hh : X.A.handled = none := I.ok.hd hc
    refine wpAny_pyNext_enum_itemD (draws_seq l (show X.A.in1.handled = none from hh) it a na its.toArray) he ⟨hit, p⟩ n1 hne (by simp [hne, ne.symm]) fun u h' tk hu ho st' hT hsz hk => ?_
    have hu : its[i]? = some u := by simpa using hu
    obtain ⟨u', q1, ru⟩ := rv.get hx
    rw [hu] at q1; cases q1
    refine ⟨_, rfl, wpAny_letOwnedTupleGo_enum (s := { s with heap := h', toks := tk + 1 }) ho fun h'' he' sb => ?_⟩
    have hT2 : h''.get? s.heap.objs.size = some { cls := .type "tuple", data := .seq #[.int i tk, u] } := (sb.2 _ (Nat.ne_of_gt hel)).trans hT
    have new : ObjOk X.prog X.w (upd H s.heap.objs.size (.frz (tuO [.int i tk, u]) (.tup [.int (i : Nat), x]))) h'' s.heap.objs.size (.frz (tuO [.int i tk, u]) (.tup [.int (i : Nat), x])) :=
      ⟨hT2, by show 2 ≤ sizeLine; decide, [.int i tk, u], .cons ⟨_, rfl⟩ (.cons ru .nil), ⟨_, hT2, rfl, _, rfl⟩⟩
    have I1 : Inv X pins σ (upd H s.heap.objs.size (.frz (tuO [.int i tk, u]) (.tup [.int (i : Nat), x]))) { s with heap := h'', toks := tk + 1 } :=
      I.turnedNew (ch := [e, it]) (fun b ob hb q => (sb.2 b (fun z => hb (by simp [z]))).trans (hk b ob (fun z => hb (by simp [z])) (fun z => hb (by simp [z])) q)) hf (Nat.le_refl _) new
    refine ⟨.ref s.heap.objs.size, _, I1, rfl, ⟨_, x, _, rfl, I.hok.fresh (Nat.le_refl _), tuO_ok _, rfl, fun ys hy => by rw [seq_inj I hy hq]; exact hx⟩, ⟨⟨u, ?_⟩, st'.1.at' fun o q => (sb.2 it (Ne.symm hne)).trans q, hne⟩, fun b hb => ?_⟩
    · have e1 : ((i + 1 : Nat) : Int) = (i : Int) + 1 := by omega
      rw [e1]; exact he'
    · have hb' : b < s.heap.objs.size := by
        have e' : b = e ∨ b = it := by simpa using hb
        rcases e' with z | z
        · rw [z]; exact hel
        · rw [z]; exact hil
      rw [upd_ne (Nat.ne_of_lt hb')]
      exact (hf b hb).1
  done := by
    intro X hP hw hK hc i pins s σ H E I hf st hg
    subst hP hw hK
    obtain ⟨⟨old, he⟩, hit, hne⟩ := st
    obtain ⟨xs, hq, hx⟩ := hg
    obtain ⟨its, rv, p⟩ := inv_seq I hq
    obtain ⟨f0, f1, f2, f3, f4, f5⟩ := hf it (by simp)
    have hl := rv.length
    have hh : X.A.handled = none := I.ok.hd hc
    have en : i = its.toArray.size := by rw [List.size_toArray]; omega
    subst en
    exact wpAny_pyNext_enum_endD (draws_seq l (show X.A.in1.handled = none from hh) it a na its.toArray) he ⟨hit, p⟩ fun h' eb => ⟨rfl, I.turned (t' := s.toks) (fun b o hb q => eb b o hb q) f0 f1 f3 f4 f5⟩
  self := fun A i s Q E st h => let ⟨⟨_, he⟩, _⟩ := st; wpAny_pyIter_enum he h
set_option maxHeartbeats 1000000 in
theorem meets_enumerate_newB1 {v : Value} {o : Obj} {H : Heap → Prop} (B : Begins v o H) :
    Meets (Builtin.«enumerate.__new__» ⟨[.type "enumerate", v], []⟩) (fun _ R s => H s.heap ∧
      R (.ok (.ret (.ref (s.heap.push o).objs.size))) { s with heap := (s.heap.push o).push { cls := .type "enumerate", data := .fields #[.none, .bool false, .ref s.heap.objs.size, rawInt 0, .none, .none] } }) :=
  .of_wp fun prog w A R s h => by
    obtain ⟨hp, g, d, tk, os⟩ := s; obtain ⟨h1, h⟩ := h
    have hsub := sub_enumerate
    have q1 : ∀ {A' : Around} {E : Value → Shared → Prop} {Q : Value → Shared → Prop}, Q (.ref hp.objs.size) ⟨hp.push o, g, d, tk, os⟩ → wpAny (model prog w) A' (pyIter v) Q E ⟨hp, g, d, tk, os⟩ :=
      fun q => B.iter prog w _ _ ⟨hp, g, d, tk, os⟩ _ h1 q
    wp_walk using q1
    refine wpAny_stack_any fun st => wpAny_pure ?_
    split
    · rename_i c _ _ _ _ _
      cases (c == Value.type "enumerate")
      · wp_walk using q1
        exact ⟨_, rfl, h⟩
      · wp_walk using q1
        exact ⟨_, rfl, h⟩
    · wp_walk using q1
      exact ⟨_, rfl, h⟩
theorem enum_begins1 {prog : Program} {w : World} {A : Around} {E : Value → Shared → Prop} {s : Shared} {v : Value} {o : Obj} {H : Heap → Prop} {Q : Value → Shared → Prop} (B : Begins v o H) (h1 : H s.heap)
    (h : ∀ h', IsEnum h' (s.heap.objs.size + 1) s.heap.objs.size 0 .none → h'.get? s.heap.objs.size = some o → h'.objs.size = s.heap.objs.size + 2 →
      (∀ b o, s.heap.get? b = some o → h'.get? b = some o) → Q (.ref (s.heap.objs.size + 1)) { s with heap := h' }) :
    wpAny (model prog w) A (call (.type "enumerate") [v]) Q E s := by
  refine callType_new F.called_enumerate (by decide) (F.typeCall_enumerate_1 _) (F.newCall_enumerate_1 _) (fun obj => F.args_object_init_2 obj _) F.entry_enumerate_new
    (meets_enumerate_newB1 B) ⟨h1, ?_⟩
  have hz : (s.heap.push o).objs.size = s.heap.objs.size + 1 := Heap.size_push ..
  show _ ∧ _
  rw [hz]
  have he : IsEnum ((s.heap.push o).push { cls := .type "enumerate", data := .fields #[.none, .bool false, .ref s.heap.objs.size, rawInt 0, .none, .none] }) (s.heap.objs.size + 1) s.heap.objs.size 0 .none := by
    have := Heap.get?_push_size (s.heap.push o) (o := { cls := .type "enumerate", data := .fields #[.none, .bool false, .ref s.heap.objs.size, rawInt 0, .none, .none] }) rfl
    rw [hz] at this; exact this
  refine ⟨⟨_, he, rfl⟩, h _ he (Heap.get?_push_of_some _ (Heap.get?_push_size _ B.free)) (by rw [Heap.size_push, hz]) fun b o x => Heap.get?_push_of_some _ (Heap.get?_push_of_some _ x)⟩
def iEnumB (K : PySem.W.Frag) (ta : TA) : TI := fun σ H R => ta σ H fun vs H1 => ∃ l a xs, vs = [.ref a] ∧ SqB l K H1 a xs ∧ R (IteB l K a) H1
theorem pi_enumB {X : Cx} {e : Expr} {ta : TA} {p pos tpos : Pos} {elts : List Expr} {kk : Nat} (hg : Gl X "enumerate") (hm : X.mg "enumerate" = none) (ha : PA X [e] ta) (hs : starEach [e] X.env = [(false, eval e X.env)] := by rfl) :
    PI X (.Tuple elts kk tpos) (.Call (.Name "enumerate" p) [e] [] pos) (iEnumB X.K ta) := by
  refine ⟨fun pins s σ H R I h => ?_⟩
  refine Call_ (ld_blt I hg hm boot_enumerate (PyProof.Rows.callWith_type1 (thn (ha.run pos pins s σ H _ I h) fun us s1 ⟨vs, H1, I1, r1, q1⟩ => ?_) hs rfl))
  obtain ⟨l, a, xs, ex, hq, q⟩ := q1
  subst ex
  cases r1 with
  | cons r rr =>
    cases rr
    cases r
    obtain ⟨its, rv, p'⟩ := inv_seq I1 hq
    have la := p'.lt
    refine enum_begins1 (begins_seq l a its.toArray) p' fun h' he g1 hsz hk => wpAny_pyIter_enum he ?_
    have I2 : Inv X pins σ H1 { s1 with heap := h' } := I1.kept (t' := s1.toks) hk
    refine ⟨s1.heap.objs.size + 1, [s1.heap.objs.size + 1, s1.heap.objs.size], _, _, H1, rfl, I2, turn_enumB (l := l) a (s1.heap.objs.size + 1) s1.heap.objs.size (Nat.ne_of_lt la) (Nat.ne_of_lt (Nat.lt_succ_of_lt la)), ⟨⟨.none, he⟩, iter0 g1, Nat.succ_ne_self _⟩, fun b hb => ?_, q⟩
    have e' : b = s1.heap.objs.size + 1 ∨ b = s1.heap.objs.size := by simpa using hb
    have hle : s1.heap.objs.size ≤ b := by
      rcases e' with z | z
      · rw [z]; exact Nat.le_add_right _ _
      · rw [z]; exact Nat.le_refl _
    exact I1.fpOk hle (I1.hok.fresh hle)
end PD
set_option maxRecDepth 100000
set_option maxHeartbeats 4000000
namespace PD
open PySem PySem.Spec PyProof.Rows L2
section
variable {X : Cx} {EX : XK} {a b c e : Expr} {pos : Pos} {rest es : List Expr}

/-! ### tests -/
def toB : D → Store → R Bool
  | .bl b, s => .ok b s
  | _, _ => .bad
def mTest (m : Env → M D) : Env → M Bool := fun Γ s => (m Γ s).bind toB
def mNotT (m : Env → M Bool) : Env → M Bool := fun Γ s => (m Γ s).bind fun b s1 => .ok (!b) s1
def mAndT (m n : Env → M Bool) : Env → M Bool := fun Γ s => (m Γ s).bind fun b s1 => match b with
  | true => n Γ s1
  | false => .ok false s1
def mOrT (m n : Env → M Bool) : Env → M Bool := fun Γ s => (m Γ s).bind fun b s1 => match b with
  | true => .ok true s1
  | false => n Γ s1
theorem test_run {t : TE} {m : Env → M D} (q : ∀ B W Γ σ s Q, Sat X.K B W Γ σ → SRep X.K W s → Post X.K EX W (m Γ s) (Want X.K Q) → t σ W.H Q) :
    ∀ B W Γ σ s Q, Sat X.K B W Γ σ → SRep X.K W s → Post X.K EX W (mTest m Γ s) (WantB Q) → tB t σ W.H Q := fun B W Γ σ s Q sat sr p => by
  refine q B W Γ σ s _ sat sr (Post.bind p fun d s1 W1 _ g sr1 p1 v r => ?_)
  cases d with
  | bl b =>
    cases r
    exact ⟨b, rfl, p1 W1 (Grow.refl W1) sr1⟩
  | _ => exact p1.elim
theorem dt_cmp {op : CmpOp} {r : R2} {f : D → D → Option D} {ma mb : Env → M D} (ho : OpR X (compareOp op) r) (hr : OpD X.K r f) (hm : behindInMarks op b = false) (ha : PVd X EX a ma) (hb : PVd X EX b mb) : PTd X EX (.Compare a [op] [b] pos) (mTest (mOp f ma mb)) := by
  obtain ⟨ta, pa, qa⟩ := ha
  obtain ⟨tb, pb, qb⟩ := hb
  exact ⟨_, pt_cmpR ho pa pb hm, test_run (op_run qa qb hr)⟩
theorem dt_val {m : Env → M D} (h : PEd X EX e m) (he : ∀ whole, isTrue e X.env whole = (do let v ← whole; standAt e.pos; holding [v] (truthy v))) : PTd X EX e (mTest m) := by
  obtain ⟨t, p, q⟩ := h
  exact ⟨_, pt_val p he, test_run q⟩
theorem dt_not {m : Env → M Bool} (h : PTd X EX a m) : PTd X EX (.UnaryOp .Not a pos) (mNotT m) := by
  obtain ⟨t, p, q⟩ := h
  exact ⟨_, pt_not p, fun B W Γ σ s Q sat sr pp => q B W Γ σ s _ sat sr (Post.bind pp fun b s1 W1 _ g sr1 p1 => p1 W1 (Grow.refl W1) sr1)⟩
theorem dw_and1 {m : Env → M Bool} (h : PTd X EX a m) : PWd X EX (.BoolOp .And [a] pos) m := by
  obtain ⟨t, p, q⟩ := h
  exact ⟨_, pw_and1 p, q⟩
theorem dw_or1 {m : Env → M Bool} (h : PTd X EX a m) : PWd X EX (.BoolOp .Or [a] pos) m := by
  obtain ⟨t, p, q⟩ := h
  exact ⟨_, pw_or1 p, q⟩
theorem dw_and {m n : Env → M Bool} (h : PTd X EX a m) (h2 : PWd X EX (.BoolOp .And (b :: rest) pos) n) : PWd X EX (.BoolOp .And (a :: b :: rest) pos) (mAndT m n) := by
  obtain ⟨t, p, q⟩ := h
  obtain ⟨t2, p2, q2⟩ := h2
  refine ⟨_, pw_and p p2, fun B W Γ σ s Q sat sr pp => q B W Γ σ s _ sat sr (Post.bind pp fun b s1 W1 _ g sr1 p1 => ?_)⟩
  cases b with
  | true => exact q2 B W1 Γ σ s1 Q (sat.grow g) sr1 p1
  | false => exact p1 W1 (Grow.refl W1) sr1
theorem dw_or {m n : Env → M Bool} (h : PTd X EX a m) (h2 : PWd X EX (.BoolOp .Or (b :: rest) pos) n) : PWd X EX (.BoolOp .Or (a :: b :: rest) pos) (mOrT m n) := by
  obtain ⟨t, p, q⟩ := h
  obtain ⟨t2, p2, q2⟩ := h2
  refine ⟨_, pw_or p p2, fun B W Γ σ s Q sat sr pp => q B W Γ σ s _ sat sr (Post.bind pp fun b s1 W1 _ g sr1 p1 => ?_)⟩
  cases b with
  | false => exact q2 B W1 Γ σ s1 Q (sat.grow g) sr1 p1
  | true => exact p1 W1 (Grow.refl W1) sr1

/-! ### truth values, conditional expressions -/
def mAndV (m n : Env → M D) : Env → M D := fun Γ s => (m Γ s).bind fun d s1 => match d with
  | .bl true => n Γ s1
  | .bl false => .ok (.bl false) s1
  | _ => .bad
def mOrV (m n : Env → M D) : Env → M D := fun Γ s => (m Γ s).bind fun d s1 => match d with
  | .bl false => n Γ s1
  | .bl true => .ok (.bl true) s1
  | _ => .bad
def mNotV (m : Env → M D) : Env → M D := fun Γ s => (m Γ s).bind fun d s1 => match d with
  | .bl b => .ok (.bl (!b)) s1
  | _ => .bad
def mIte (c : Env → M Bool) (m n : Env → M D) : Env → M D := fun Γ s => (c Γ s).bind fun b s1 => match b with
  | true => m Γ s1
  | false => n Γ s1
theorem de_one {op : BoolOp} {m : Env → M D} (h : PEd X EX a m) : PEd X EX (.BoolOp op [a] pos) m := by
  obtain ⟨t, p, q⟩ := h
  exact ⟨_, pe_one p, q⟩
theorem de_and {m n : Env → M D} (h : PEd X EX a m) (h2 : PEd X EX (.BoolOp .And (b :: rest) pos) n) : PEd X EX (.BoolOp .And (a :: b :: rest) pos) (mAndV m n) := by
  obtain ⟨t, p, q⟩ := h
  obtain ⟨t2, p2, q2⟩ := h2
  refine ⟨_, pe_and p p2, fun B W Γ σ s Q sat sr pp => q B W Γ σ s _ sat sr (Post.bind pp fun d s1 W1 _ g sr1 p1 v r => ?_)⟩
  cases d with
  | bl b =>
    cases r
    cases b with
    | true => exact ⟨true, rfl, q2 B W1 Γ σ s1 Q (sat.grow g) sr1 p1⟩
    | false => exact ⟨false, rfl, p1 W1 (Grow.refl W1) sr1 _ (.bl _)⟩
  | _ => exact p1.elim
theorem de_or {m n : Env → M D} (h : PEd X EX a m) (h2 : PEd X EX (.BoolOp .Or (b :: rest) pos) n) : PEd X EX (.BoolOp .Or (a :: b :: rest) pos) (mOrV m n) := by
  obtain ⟨t, p, q⟩ := h
  obtain ⟨t2, p2, q2⟩ := h2
  refine ⟨_, pe_or p p2, fun B W Γ σ s Q sat sr pp => q B W Γ σ s _ sat sr (Post.bind pp fun d s1 W1 _ g sr1 p1 v r => ?_)⟩
  cases d with
  | bl b =>
    cases r
    cases b with
    | false => exact ⟨false, rfl, q2 B W1 Γ σ s1 Q (sat.grow g) sr1 p1⟩
    | true => exact ⟨true, rfl, p1 W1 (Grow.refl W1) sr1 _ (.bl _)⟩
  | _ => exact p1.elim
theorem de_not {m : Env → M D} (h : PEd X EX a m) : PEd X EX (.UnaryOp .Not a pos) (mNotV m) := by
  obtain ⟨t, p, q⟩ := h
  refine ⟨_, pe_not p, fun B W Γ σ s Q sat sr pp => q B W Γ σ s _ sat sr (Post.bind pp fun d s1 W1 _ g sr1 p1 v r => ?_)⟩
  cases d with
  | bl b =>
    cases r
    exact ⟨b, rfl, p1 W1 (Grow.refl W1) sr1 _ (.bl _)⟩
  | _ => exact p1.elim
theorem de_ite {mc : Env → M Bool} {m n : Env → M D} (hc : PTd X EX c mc) (ha : PEd X EX a m) (hb : PEd X EX b n) : PEd X EX (.IfExp c a b pos) (mIte mc m n) := by
  obtain ⟨t, p, q⟩ := hc
  obtain ⟨ta, pa, qa⟩ := ha
  obtain ⟨tb, pb, qb⟩ := hb
  refine ⟨_, pe_ifExp p pa pb, fun B W Γ σ s Q sat sr pp => q B W Γ σ s _ sat sr (Post.bind pp fun b s1 W1 _ g sr1 p1 => ?_)⟩
  cases b with
  | true => exact qa B W1 Γ σ s1 Q (sat.grow g) sr1 p1
  | false => exact qb B W1 Γ σ s1 Q (sat.grow g) sr1 p1
theorem dv_ite {mc : Env → M Bool} {m n : Env → M D} (hc : PTd X EX c mc) (ha : PVd X EX a m) (hb : PVd X EX b n) : PVd X EX (.IfExp c a b pos) (mIte mc m n) := by
  obtain ⟨t, p, q⟩ := hc
  obtain ⟨ta, pa, qa⟩ := ha
  obtain ⟨tb, pb, qb⟩ := hb
  refine ⟨_, pe_ifExp p pa pb, fun B W Γ σ s Q sat sr pp => q B W Γ σ s _ sat sr (Post.bind pp fun b s1 W1 _ g sr1 p1 => ?_)⟩
  cases b with
  | true => exact qa B W1 Γ σ s1 Q (sat.grow g) sr1 p1
  | false => exact qb B W1 Γ σ s1 Q (sat.grow g) sr1 p1
/-- a < b < c -/
def mChain (f f' : D → D → Option D) (ma mb mc : Env → M D) : Env → M D := fun Γ s => (ma Γ s).bind fun d1 s1 => (mb Γ s1).bind fun d2 s2 => match f d1 d2 with
  | some (.bl true) => (mc Γ s2).bind fun d3 s3 => R.opt (f' d2 d3) s3
  | some (.bl false) => .ok (.bl false) s2
  | _ => .bad
theorem chain_run {r r' : R2} {f f' : D → D → Option D} {ta tb tc : TE} {ma mb mc : Env → M D}
    (qa : ∀ B W Γ σ s Q, Sat X.K B W Γ σ → SRep X.K W s → Post X.K EX W (ma Γ s) (WantV X.K Q) → ta σ W.H Q) (qb : ∀ B W Γ σ s Q, Sat X.K B W Γ σ → SRep X.K W s → Post X.K EX W (mb Γ s) (WantV X.K Q) → tb σ W.H Q)
    (qc : ∀ B W Γ σ s Q, Sat X.K B W Γ σ → SRep X.K W s → Post X.K EX W (mc Γ s) (WantV X.K Q) → tc σ W.H Q)
    (hr : OpD X.K r f) (hr' : OpD X.K r' f') : ∀ B W Γ σ s Q, Sat X.K B W Γ σ → SRep X.K W s → Post X.K EX W (mChain f f' ma mb mc Γ s) (Want X.K Q) → tChain r r' ta tb tc σ W.H Q := fun B W Γ σ s Q sat sr p => by
  refine qa B W Γ σ s _ sat sr (Post.bind p fun d1 s1 W1 _ g1 sr1 p1 x rx => ?_)
  refine qb B W1 Γ σ s1 _ (sat.grow g1) sr1 (Post.bind p1 fun d2 s2 W2 _ g2 sr2 p2 y ry => ?_)
  cases hf : f d1 d2 with
  | none => rw [hf] at p2; exact p2.elim
  | some d =>
    rw [hf] at p2
    refine hr W2 s2 d1 d2 d x y _ (rx.grow g2) ry sr2 hf fun W3 v g3 sr3 rv => ?_
    cases d with
    | bl k =>
      cases rv
      cases k with
      | true =>
        refine ⟨true, rfl, ?_⟩
        show tc σ W3.H _
        refine qc B W3 Γ σ s2 _ (((sat.grow g1).grow g2).grow g3) sr3 (Post.bind (Post.grow g3 p2) fun d3 s3 W4 _ g4 sr4 p3 z rz => ?_)
        obtain ⟨d', e', q⟩ := p3.opt
        exact hr' W4 s3 d2 d3 d' y z Q ((ry.grow g3).grow g4) rz sr4 e' fun W' v g s' r => q W' g s' v r
      | false => exact ⟨false, rfl, p2 W3 g3 sr3 _ (.bl _)⟩
    | _ => exact p2.elim
theorem de_chain {op op' : CmpOp} {r r' : R2} {f f' : D → D → Option D} {ma mb mc : Env → M D} (ho : OpR X (compareOp op) r) (ho' : OpR X (compareOp op') r') (hr : OpD X.K r f) (hr' : OpD X.K r' f')
    (ha : PVd X EX a ma) (hb : PVd X EX b mb) (hc : PVd X EX c mc) (hm : lastMarks [op, op'] [b, c] = false) : PEd X EX (.Compare a [op, op'] [b, c] pos) (mChain f f' ma mb mc) := by
  obtain ⟨ta, pa, qa⟩ := ha
  obtain ⟨tb, pb, qb⟩ := hb
  obtain ⟨tc, pc, qc⟩ := hc
  exact ⟨_, pe_chain ho ho' pa pb pc (hm := hm), chain_run qa qb qc hr hr'⟩
theorem dt_chain {op op' : CmpOp} {r r' : R2} {f f' : D → D → Option D} {ma mb mc : Env → M D} (ho : OpR X (compareOp op) r) (ho' : OpR X (compareOp op') r') (hr : OpD X.K r f) (hr' : OpD X.K r' f')
    (ha : PVd X EX a ma) (hb : PVd X EX b mb) (hc : PVd X EX c mc) (hm : lastMarks [op, op'] [b, c] = false) : PTd X EX (.Compare a [op, op'] [b, c] pos) (mTest (mChain f f' ma mb mc)) := by
  obtain ⟨ta, pa, qa⟩ := ha
  obtain ⟨tb, pb, qb⟩ := hb
  obtain ⟨tc, pc, qc⟩ := hc
  exact ⟨_, pt_chain ho ho' pa pb pc (hm := hm), test_run (chain_run qa qb qc hr hr')⟩

/-! ### arguments, displays -/
def mNil : Env → M (List D) := fun _ s => .ok [] s
def mCons (m : Env → M D) (ms : Env → M (List D)) : Env → M (List D) := fun Γ s => (m Γ s).bind fun d s1 => (ms Γ s1).bind fun ds s2 => .ok (d :: ds) s2
theorem da_nil : PAd X EX [] mNil := ⟨_, pa_nil, fun B W Γ σ s Q sat sr p => p W (Grow.refl W) sr [] .nil⟩
theorem da_cons {m : Env → M D} {ms : Env → M (List D)} (h : PEd X EX e m) (hs : PAd X EX es ms) (hst : starEach (e :: es) X.env = (false, eval e X.env) :: starEach es X.env) : PAd X EX (e :: es) (mCons m ms) := by
  obtain ⟨t, p, q⟩ := h
  obtain ⟨t2, p2, q2⟩ := hs
  refine ⟨_, pa_cons p p2 hst, fun B W Γ σ s Q sat sr pp => q B W Γ σ s _ sat sr (Post.bind pp fun d s1 W1 _ g1 sr1 p1 v r => ?_)⟩
  exact q2 B W1 Γ σ s1 _ (sat.grow g1) sr1 (Post.bind p1 fun ds s2 W2 _ g2 sr2 pp2 vs rs => pp2 W2 (Grow.refl W2) sr2 _ (.cons (r.grow g2) rs))
def few (f : List D → D) (ds : List D) : Option D := if ds.length ≤ 100000 then some (f ds) else none
def mTup (ms : Env → M (List D)) : Env → M D := fun Γ s => (ms Γ s).bind fun ds s1 => R.opt (few .tup ds) s1
def mLst (ms : Env → M (List D)) : Env → M D := fun Γ s => (ms Γ s).bind fun ds s1 => R.opt (few .lst ds) s1
theorem few_some {f : List D → D} {ds : List D} {d : D} (h : few f ds = some d) : ds.length ≤ 100000 ∧ d = f ds := by
  unfold few at h
  split at h
  · cases h; exact ⟨by assumption, rfl⟩
  · cases h
theorem de_tup {ms : Env → M (List D)} {k : Nat} (h : PAd X EX es ms) : PEd X EX (.Tuple es k pos) (mTup ms) := by
  obtain ⟨t, p, q⟩ := h
  refine ⟨_, pe_tupF p, fun B W Γ σ s Q sat sr pp => q B W Γ σ s _ sat sr (Post.bind pp fun ds s1 W1 _ g1 sr1 p1 vs rs => ?_)⟩
  obtain ⟨d, e, w⟩ := p1.opt
  obtain ⟨hl, rfl⟩ := few_some e
  exact ⟨Evl.sz_of (by rw [← rs.len]; exact hl), fun p o to hp => w (W1.new p (.frz o (.tup vs))) (Grow.new hp sr1) (sr1.new hp) _ (two_tup to hp sr1 rs)⟩
theorem de_lst {ms : Env → M (List D)} (h : PAd X EX es ms) : PEd X EX (.List es pos) (mLst ms) := by
  obtain ⟨t, p, q⟩ := h
  refine ⟨_, pe_lst p, fun B W Γ σ s Q sat sr pp => q B W Γ σ s _ sat sr (Post.bind pp fun ds s1 W1 _ g1 sr1 p1 vs rs => ?_)⟩
  obtain ⟨d, e, w⟩ := p1.opt
  obtain ⟨hl, rfl⟩ := few_some e
  exact ⟨Evl.sz_of (by rw [← rs.len]; exact hl), fun p hp => w (W1.new p (.lst vs)) (Grow.new hp sr1) (sr1.new hp) _ (two_lst hp sr1 rs)⟩

/-! ### subscripts, slices -/
/-- a list that lies in the store -/
def Store.lstAt (s : Store) (i : Nat) : D := match s[i]? with
  | some (.lst ds) => .lst ds
  | _ => .cel i
def Store.deref (s : Store) : D → D
  | .cel i => s.lstAt i
  | d => d
def fIx (a b : D) : Option D := match b with
  | .int i => (match a with
    | .lst xs => atI xs i
    | .tup xs => atI xs i
    | .scr ns => (atI ns i).map D.int
    | .str z => if z.length ≤ 100000 then (atI z.cps.toList i).map fun c => .str ⟨#[c]⟩ else none
    | _ => none)
  | _ => none
def mIx (ma mb : Env → M D) : Env → M D := fun Γ s => (ma Γ s).bind fun d1 s1 => (mb Γ s1).bind fun d2 s2 => R.opt (fIx (s2.deref d1) d2) s2
theorem atI_rep {K : PySem.W.Frag} {W : Wd} {ds : List D} {vs : List V} {i : Int} {d : D} (r : RepL K W ds vs) (h : atI ds i = some d) : ∃ v, atI vs i = some v ∧ Rep K W d v := by
  unfold atI at h ⊢
  rw [← r.len]
  cases e : ixN ds.length i with
  | none => rw [e] at h; cases h
  | some j =>
    rw [e] at h
    exact r.get h
theorem ix_at {K : PySem.W.Frag} {W : Wd} {s : Store} {d1 d : D} {i : Int} {x : V} {Q : VK} (r : RepV K W d1 x) (sr : SRep K W s) (e : fIx (s.deref d1) (.int i) = some d) (q : ∀ v, Rep K W d v → Q v W.H) : rIx K x (.int i) W.H Q := by
  have at_l : ∀ {a : Addr} {vs : List V} {ds : List D}, W.H a = some (.lst vs) → RepL K W ds vs → atI ds i = some d → rIx K (.ref a) (.int i) W.H Q := fun {a vs ds} h rl e => by
    obtain ⟨v, e1, r1⟩ := atI_rep rl e
    exact .inl ⟨a, vs, i, v, rfl, rfl, .inl (.inl h), e1, q v r1⟩
  cases d1 with
  | lst xs =>
    obtain ⟨a, vs, rfl, h, rl⟩ := r.lst
    exact at_l h rl e
  | tup xs =>
    obtain ⟨a, vs, rfl, h, rl⟩ := r.tup
    obtain ⟨v, e1, r1⟩ := atI_rep rl e
    exact .inr (.inl ⟨a, vs, i, v, rfl, rfl, h, e1, q v r1⟩)
  | str z =>
    have hx := r.str
    subst hx
    have e' : (if z.length ≤ 100000 then (atI z.cps.toList i).map (fun c => D.str ⟨#[c]⟩) else none) = some d := e
    split at e'
    · rename_i hl
      cases hc : atI z.cps.toList i with
      | none => rw [hc] at e'; cases e'
      | some c =>
        rw [hc] at e'
        cases e'
        exact .inr (.inr ⟨z, i, c, rfl, rfl, Evl.sz_of hl, hc, q _ (.str _)⟩)
    · cases e'
  | scr ns =>
    cases r with
    | of r =>
      cases r with
      | scr h =>
        rename_i a
        have e' : (atI ns i).map D.int = some d := e
        cases hc : atI ns i with
        | none => rw [hc] at e'; cases e'
        | some n =>
          rw [hc] at e'
          cases e'
          have e2 : atI (ns.map V.int) i = some (.int n) := by
            unfold atI at hc ⊢
            rw [List.length_map]
            cases hj : ixN ns.length i with
            | none => rw [hj] at hc; cases hc
            | some j =>
              rw [hj] at hc
              have hc : ns[j]? = some n := hc
              show (ns.map V.int)[j]? = _
              rw [List.getElem?_map, hc]; rfl
          exact .inl ⟨a, ns.map V.int, i, _, rfl, rfl, Evl.ex_l W.sub h, e2, q _ (.int _)⟩
  | cel j =>
    cases r with
    | of r =>
      cases r with
      | cel h =>
        rename_i a
        have hl : j < s.length := by rw [← sr.len]; exact (List.getElem?_eq_some_iff.mp h).1
        obtain ⟨hf, hc⟩ := sr.at_ j a s[j] h (by simp [hl])
        have e : fIx (s.lstAt j) (.int i) = some d := e
        unfold Store.lstAt at e
        rw [show s[j]? = some s[j] by simp [hl]] at e
        cases hsj : s[j] with
        | lst ds =>
          rw [hsj] at hc e
          obtain ⟨vs, h1, rl⟩ := hc
          exact at_l h1 rl e
  | _ => exact nomatch e
theorem de_ix {ma mb : Env → M D} (ha : PVd X EX a ma) (hb : PEd X EX b mb) (hs : PlainIx b) : PEd X EX (.Subscript a b pos) (mIx ma mb) := by
  obtain ⟨ta, pa, qa⟩ := ha
  obtain ⟨tb, pb, qb⟩ := hb
  refine ⟨_, pe_ix ix_seq pa pb hs, fun B W Γ σ s Q sat sr p => ?_⟩
  refine qa B W Γ σ s _ sat sr (Post.bind p fun d1 s1 W1 _ g1 sr1 p1 x rx => ?_)
  refine qb B W1 Γ σ s1 _ (sat.grow g1) sr1 (Post.bind p1 fun d2 s2 W2 _ g2 sr2 p2 y ry => ?_)
  obtain ⟨d, e, w⟩ := p2.opt
  cases d2 with
  | int i =>
    cases ry
    exact ix_at (rx.grow g2) sr2 e fun v r => w W2 (Grow.refl W2) sr2 v r
  | _ => exact nomatch e
/-- a part of a slice -/
def PPd (X : Cx) (EX : XK) (e : Option Expr) (m : Env → M (Option Int)) : Prop := ∃ t, PO X e t ∧
  ∀ B W Γ σ s Q, Sat X.K B W Γ σ → SRep X.K W s → Post X.K EX W (m Γ s) (fun W' _ o => Q o W'.H) → t σ W.H Q
def mNoPart : Env → M (Option Int) := fun _ s => .ok none s
def toI : D → Store → R (Option Int)
  | .int i, s => .ok (some i) s
  | _, _ => .bad
def mPart (m : Env → M D) : Env → M (Option Int) := fun Γ s => (m Γ s).bind toI
theorem dp_none : PPd X EX none mNoPart := ⟨_, po_none, fun B W Γ σ s Q sat sr p => p W (Grow.refl W) sr⟩
theorem dp_some {m : Env → M D} (h : PEd X EX e m) : PPd X EX (some e) (mPart m) := by
  obtain ⟨t, p, q⟩ := h
  refine ⟨_, po_some p, fun B W Γ σ s Q sat sr pp => q B W Γ σ s _ sat sr (Post.bind pp fun d s1 W1 _ g sr1 p1 v r => ?_)⟩
  cases d with
  | int i =>
    cases r
    exact ⟨i, rfl, p1 W1 (Grow.refl W1) sr1⟩
  | _ => exact p1.elim
def cutD {α : Type} (xs : List α) (lo hi : Option Int) : List α := (xs.drop (HT.sIx xs.length 0 lo)).take (HT.sIx xs.length xs.length hi - HT.sIx xs.length 0 lo)
def fSl (d : D) (lo hi : Option Int) : Option D := match d with
  | .lst xs => some (.lst (cutD xs lo hi))
  | .tup xs => some (.tup (cutD xs lo hi))
  | .str z => if z.length ≤ 100000 then some (.str ⟨(cutD z.cps.toList lo hi).toArray⟩) else none
  | _ => none
def mSl (m : Env → M D) (ml mh : Env → M (Option Int)) : Env → M D := fun Γ s => (m Γ s).bind fun d s1 => (ml Γ s1).bind fun lo s2 => (mh Γ s2).bind fun hi s3 => R.opt (fSl d lo hi) s3
def rSlD (K : PySem.W.Frag) : V → Option Int → Option Int → Hp → VK → Prop := fun x lo hi H Q => rSlL K x lo hi H Q ∨ rSlF K x lo hi H Q ∨ rSlS x lo hi H Q
theorem sl_D : SlR X (rSlD X.K) := sl_list.or (sl_tupF.or sl_str)
theorem cut_rep {K : PySem.W.Frag} {W : Wd} {ds : List D} {vs : List V} (r : RepL K W ds vs) (lo hi : Option Int) : RepL K W (cutD ds lo hi) (cutV vs lo hi) := by
  unfold cutD cutV
  rw [r.len]
  exact (r.drop _).take _
theorem de_sl {p2 : Pos} {lo hi : Option Expr} {m : Env → M D} {ml mh : Env → M (Option Int)} (h : PVd X EX e m) (hl : PPd X EX lo ml) (hh : PPd X EX hi mh) : PEd X EX (.Subscript e (.Slice lo hi none p2) pos) (mSl m ml mh) := by
  obtain ⟨t, p, q⟩ := h
  obtain ⟨tl, pl, ql⟩ := hl
  obtain ⟨th, ph, qh⟩ := hh
  refine ⟨_, pe_slice sl_D p pl ph, fun B W Γ σ s Q sat sr pp => ?_⟩
  refine q B W Γ σ s _ sat sr (Post.bind pp fun d s1 W1 _ g1 sr1 p1 x rx => ?_)
  refine ql B W1 Γ σ s1 _ (sat.grow g1) sr1 (Post.bind p1 fun lo s2 W2 _ g2 sr2 p2 => ?_)
  refine qh B W2 Γ σ s2 _ ((sat.grow g1).grow g2) sr2 (Post.bind p2 fun hi s3 W3 _ g3 sr3 p3 => ?_)
  obtain ⟨d', e', w⟩ := p3.opt
  have rx := (rx.grow g2).grow g3
  cases d with
  | lst xs =>
    cases e'
    obtain ⟨a, vs, rfl, h, rl⟩ := rx.lst
    exact .inl ⟨a, vs, rfl, .inl (.inl h), fun p hp => w (W3.new p (.lst (cutV vs lo hi))) (Grow.new hp sr3) (sr3.new hp) _ (two_lst hp sr3 (cut_rep rl lo hi))⟩
  | tup xs =>
    cases e'
    obtain ⟨a, vs, e2, h, rl⟩ := rx.tup
    refine .inr (.inl ⟨a, vs, e2, h, fun z => ?_, fun _ p o to hp => w (W3.new p (.frz o (.tup (cutV vs lo hi)))) (Grow.new hp sr3) (sr3.new hp) _ (two_tup to hp sr3 (cut_rep rl lo hi))⟩)
    have e3 : cutD xs lo hi = xs := by
      unfold cutD
      rw [rl.len, z.1, z.2, List.drop_zero, Nat.sub_zero]
      exact List.take_of_length_le (by rw [rl.len]; exact Nat.le_refl _)
    rw [e3] at w
    cases rx with
    | of rx =>
      rw [← e2]
      exact w W3 (Grow.refl W3) sr3 _ rx
  | str z =>
    have e' : (if z.length ≤ 100000 then some (D.str ⟨(cutD z.cps.toList lo hi).toArray⟩) else none) = some d' := e'
    split at e'
    · rename_i hl
      cases e'
      refine .inr (.inr ⟨z, rx.str, Evl.sz_of hl, ?_⟩)
      have ez : cutS z lo hi = ⟨(cutD z.cps.toList lo hi).toArray⟩ := by
        unfold cutS cutD
        rw [show z.cps.toList.length = z.length from Array.length_toList]
      rw [ez]
      exact w W3 (Grow.refl W3) sr3 _ (.str _)
    · cases e'
  | _ => exact nomatch e'
end
end PD
set_option maxRecDepth 100000
set_option maxHeartbeats 4000000
namespace PD
open PySem PySem.Spec PyProof.Rows L2

/-! ## worlds: an own list put, frozen -/
def Wd.put (W : Wd) (p : Addr) (o : HO) (h : W.F p = none) : Wd where
  F := W.F
  H := upd W.H p o
  A := W.A
  sub := fun a u e => by
    have : a ≠ p := fun q => by subst q; rw [h] at e; cases e
    rw [upd_ne this]; exact W.sub a u e
def Wd.frz (W : Wd) (p : Addr) (o : HO) (h : W.H p = some o) : Wd where
  F := upd W.F p o
  H := W.H
  A := W.A
  sub := fun a u e => by
    by_cases q : a = p
    · subst q; rw [upd_same] at e; rw [← e]; exact h
    · rw [upd_ne q] at e; exact W.sub a u e
section
variable {K : PySem.W.Frag} {W W1 : Wd} {p : Addr} {o : HO} {s : Store}
theorem Grow.put (g : Grow W1 W) (h : W.F p = none) (hp : W1.H p = none) : Grow W1 (W.put p o h) where
  f := g.f
  h := fun a u n e => by
    have : a ≠ p := fun q => by subst q; rw [hp] at e; cases e
    show upd W.H p o a = _
    rw [upd_ne this]; exact g.h a u n e
  n := g.n
  t := fun a e => by
    show upd W.H p o a ≠ none
    by_cases q : a = p
    · subst q; rw [upd_same]; simp
    · rw [upd_ne q]; exact g.t a e
  p := g.p
  q := g.q
theorem Grow.frz (g : Grow W1 W) (h : W.H p = some o) (hp : W1.H p = none) (hf : W.F p = none) : Grow W1 (W.frz p o h) where
  f := fun a u e => by
    have : a ≠ p := fun q => by subst q; rw [Wd.fnone hp] at e; cases e
    show upd W.F p o a = _
    rw [upd_ne this]; exact g.f a u e
  h := g.h
  n := fun a e n => by
    have : a ≠ p := fun q => by subst q; exact n hp
    show upd W.F p o a = none
    rw [upd_ne this]; exact g.n a e n
  t := g.t
  p := g.p
  q := g.q
theorem Rep.put (h : W.F p = none) {d : D} {v : V} (r : Rep K W d v) : Rep K (W.put p o h) d v := Rep.of (W := W) (W' := W.put p o h) (fun _ _ e => e) (fun _ _ e => e) r
theorem RepL.put (h : W.F p = none) {d : List D} {v : List V} (r : RepL K W d v) : RepL K (W.put p o h) d v := RepL.of (W := W) (W' := W.put p o h) (fun _ _ e => e) (fun _ _ e => e) r
theorem frz_sub (h : W.H p = some o) (hf : W.F p = none) : ∀ a u, W.F a = some u → (W.frz p o h).F a = some u := fun a u e => by
  have : a ≠ p := fun q => by subst q; rw [hf] at e; cases e
  show upd W.F p o a = _
  rw [upd_ne this]; exact e
theorem RepL.frz (h : W.H p = some o) (hf : W.F p = none) {d : List D} {v : List V} (r : RepL K W d v) : RepL K (W.frz p o h) d v := r.of (frz_sub h hf) (fun _ _ e => e)
theorem SRep.put (sr : SRep K W s) (h : W.F p = none) (n : p ∉ W.A) : SRep K (W.put p o h) s := by
  refine ⟨sr.len, sr.nd, fun i a c h1 h2 => ?_⟩
  obtain ⟨h3, h4⟩ := sr.at_ i a c h1 h2
  have ne : a ≠ p := fun e => by subst e; exact n (List.mem_of_getElem? h1)
  exact ⟨h3, CellRep.grow (W := W) (W' := W.put p o h) (fun _ _ e => e) (fun _ _ e => e) (show upd W.H p o a = W.H a by rw [upd_ne ne]) h4⟩
theorem SRep.frz (sr : SRep K W s) (h : W.H p = some o) (hf : W.F p = none) (n : p ∉ W.A) : SRep K (W.frz p o h) s := by
  refine ⟨sr.len, sr.nd, fun i a c h1 h2 => ?_⟩
  obtain ⟨h3, h4⟩ := sr.at_ i a c h1 h2
  have ne : a ≠ p := fun e => by subst e; exact n (List.mem_of_getElem? h1)
  refine ⟨?_, h4.grow (W' := W.frz p o h) (frz_sub h hf) (fun _ _ e => e) rfl⟩
  show upd W.F p o a = none
  rw [upd_ne ne]; exact h3
theorem SRep.notA (sr : SRep K W s) (h : W.H p = none) : p ∉ W.A := fun m => sr.there m h
end

/-! ## targets -/
inductive Tg where
  | nm (i : Nat) | tp (ts : List Tg)
mutual
def bindT : Tg → D → Env → Option Env
  | .nm i, d, Γ => some (Γ.set i (.dat d))
  | .tp ts, .tup ds, Γ => bindTs ts ds Γ
  | .tp _, _, _ => none
def bindTs : List Tg → List D → Env → Option Env
  | [], [], Γ => some Γ
  | t :: ts, d :: ds, Γ => (bindT t d Γ).bind fun Γ1 => bindTs ts ds Γ1
  | _, _, _ => none
end
mutual
def Tg.slots : Tg → List Nat
  | .nm i => [i]
  | .tp ts => Tg.slotsL ts
def Tg.slotsL : List Tg → List Nat
  | [] => []
  | t :: ts => t.slots ++ Tg.slotsL ts
end
theorem wipe_get {σ : L2.St} {j : Nat} : ∀ {vs : List Nat}, (L2.wipe σ vs)[j]? = if j ∈ vs then (if j < σ.length then some none else none) else σ[j]?
  | [] => by simp [L2.wipe]
  | v :: vs => by
    unfold L2.wipe
    by_cases e : v = j
    · subst e
      by_cases hl : v < σ.length
      · rw [List.getElem?_set_self (by rw [wipe_length]; exact hl)]
        simp [hl]
      · rw [List.getElem?_eq_none (by rw [List.length_set, wipe_length]; omega)]
        simp [hl]
    · rw [List.getElem?_set_ne e, wipe_get]
      simp only [List.mem_cons]
      by_cases h : j ∈ vs
      · simp [h]
      · have : ¬ (j = v) := fun z => e z.symm
        simp [h, this]
theorem wipe_set {σ : L2.St} {i : Nat} {o : Option V} {vs : List Nat} (h : i ∈ vs) : L2.wipe (σ.set i o) vs = L2.wipe σ vs := by
  apply List.ext_getElem?
  intro j
  rw [wipe_get, wipe_get, List.length_set]
  by_cases hj : j ∈ vs
  · simp [hj]
  · have : i ≠ j := fun e => hj (e ▸ h)
    simp [hj, List.getElem?_set_ne this]
/-- a target binds as bindT -/
def PGd (X : Cx) (tg : Expr) (t : Tg) : Prop := ∃ g, PG X tg g ∧ ∀ (B : Hp) (W : Wd) (Γ Γ' : Env) (σ : L2.St) (d : D) (v : V) (Q : L2.St → Hp → Prop), Sat X.K B W Γ σ → Rep X.K W d v → bindT t d Γ = some Γ' →
  (∀ σ', Sat X.K B W Γ' σ' → (∀ vs : List Nat, (∀ i ∈ t.slots, i ∈ vs) → L2.wipe σ' vs = L2.wipe σ vs) → Q σ' W.H) → g v σ W.H Q
def PGsd (X : Cx) (tgs : List Expr) (ts : List Tg) : Prop := ∃ g, PGs X tgs g ∧ (assignEach tgs X.env).length = ts.length ∧ (assignEach tgs X.env).findIdx? (·.1) = none ∧ ∀ (B : Hp) (W : Wd) (Γ Γ' : Env) (σ : L2.St) (ds : List D) (us : List V) (Q : L2.St → Hp → Prop), Sat X.K B W Γ σ → RepL X.K W ds us → bindTs ts ds Γ = some Γ' →
  (∀ σ', Sat X.K B W Γ' σ' → (∀ vs : List Nat, (∀ i ∈ Tg.slotsL ts, i ∈ vs) → L2.wipe σ' vs = L2.wipe σ vs) → Q σ' W.H) → g us σ W.H Q
section
variable {X : Cx} {EX : XK} {a b c e : Expr} {pos : Pos} {rest es : List Expr}
theorem dg_nm {i : Nat} {x : Str} (hN : X.N.Nodup) (hi : X.N[i]? = some x) (hx : Loc X.env.scope x) (hf : X.fn x = true ∨ X.env.scope.names.lookup x = some .local) : PGd X (.Name x pos) (.nm i) := by
  refine ⟨_, pg_name hN hi hx hf, fun B W Γ Γ' σ d v Q sat r hb q => ?_⟩
  simp only [bindT, Option.some.injEq] at hb
  subst hb
  exact q _ (sat.set r) fun vs h => wipe_set (h i (by simp [Tg.slots]))
theorem dgs_nil : PGsd X [] [] := by
  refine ⟨_, pgs_nil, rfl, rfl, fun B W Γ Γ' σ ds us Q sat r hb q => ?_⟩
  cases r with
  | nil =>
    simp only [bindTs, Option.some.injEq] at hb
    subst hb
    exact ⟨rfl, q σ sat fun _ _ => rfl⟩
  | cons _ _ => simp [bindTs] at hb
theorem dgs_cons {t : Tg} {ts : List Tg} (h : PGd X e t) (hs : PGsd X es ts) (he : assignEach (e :: es) X.env = (false, assign e X.env) :: assignEach es X.env) : PGsd X (e :: es) (t :: ts) := by
  obtain ⟨g, p, q⟩ := h
  obtain ⟨g2, p2, l2, f2, q2⟩ := hs
  refine ⟨_, pgs_cons p p2 (by rw [he]; rfl), by rw [he, List.length_cons, l2, List.length_cons], by rw [he, List.findIdx?_cons, f2]; rfl, fun B W Γ Γ' σ ds us Q sat r hb w => ?_⟩
  cases r with
  | nil => simp [bindTs] at hb
  | cons r rr =>
    simp only [bindTs] at hb
    rename_i d v ds vs
    cases h1 : bindT t d Γ with
    | none => rw [h1] at hb; cases hb
    | some Γ1 =>
      rw [h1] at hb
      refine ⟨v, vs, rfl, q B W Γ Γ1 σ d v _ sat r h1 fun σ1 sat1 w1 => ?_⟩
      refine q2 B W Γ1 Γ' σ1 ds vs Q sat1 rr hb fun σ2 sat2 w2 => w σ2 sat2 fun vs hv => ?_
      rw [w2 vs fun i hi => hv i (by simp [Tg.slotsL, hi]), w1 vs fun i hi => hv i (by simp [Tg.slotsL, hi])]
theorem bindTs_len : ∀ {ts : List Tg} {ds : List D} {Γ Γ' : Env}, bindTs ts ds Γ = some Γ' → ds.length = ts.length
  | [], [], _, _, _ => rfl
  | [], _ :: _, _, _, h => by simp [bindTs] at h
  | _ :: _, [], _, _, h => by simp [bindTs] at h
  | t :: ts, d :: ds, Γ, Γ', h => by
    simp only [bindTs] at h
    cases h1 : bindT t d Γ with
    | none => rw [h1] at h; cases h
    | some Γ1 =>
      rw [h1] at h
      rw [List.length_cons, List.length_cons, bindTs_len (show bindTs ts ds Γ1 = some Γ' from h)]
theorem dg_tup {ts : List Tg} {k : Nat} (hc : X.calm = true) (h : PGsd X es ts) : PGd X (.Tuple es k pos) (.tp ts) := by
  obtain ⟨g, p, l, f, q⟩ := h
  refine ⟨_, pg_tup hc p l f, fun B W Γ Γ' σ d v Q sat r hb w => ?_⟩
  cases r with
  | tup hT rl =>
    rename_i a vs ds
    simp only [bindT] at hb
    have hl : ds.length = ts.length := bindTs_len hb
    exact ⟨a, vs, rfl, (hT.ex W.sub).t, by rw [← rl.len]; exact hl, q B W Γ Γ' σ ds vs Q sat rl hb w⟩
  | _ => simp [bindT] at hb
end
end PD
set_option maxRecDepth 100000
set_option maxHeartbeats 4000000
namespace PD
open PySem PySem.Spec PyProof.Rows L2

/-! ## what is walked -/
/-- from the world W1 on the iterator yields these data -/
def IterV (K : PySem.W.Frag) (W1 : Wd) (J : It) (ds : List D) : Prop := ∀ (i : Nat) (W : Wd), (∀ a o, W1.F a = some o → W.F a = some o) → (∀ (i : Nat) (a : Addr), W1.A[i]? = some a → W.A[i]? = some a) →
  (∀ d, ds[i]? = some d → J.go i W.H ∧ ∀ x H', J.yld i W.H x H' → ∀ s, SRep K W s → ∃ W', Grow W W' ∧ SRep K W' s ∧ W'.H = H' ∧ Rep K W' d x) ∧ (i = ds.length → J.stop i W.H)
def PId (X : Cx) (EX : XK) (tg iter : Expr) (m : Env → M (List D)) : Prop := ∃ wi, PI X tg iter wi ∧
  ∀ B W Γ σ s R, Sat X.K B W Γ σ → SRep X.K W s → Post X.K EX W (m Γ s) (fun W' _ ds => ∀ J, IterV X.K W' J ds → R J W'.H) → wi σ W.H R
def fItems : D → Option (List D)
  | .lst ds => some ds
  | .tup ds => some ds
  | _ => none
def mItems (m : Env → M D) : Env → M (List D) := fun Γ s => (m Γ s).bind fun d s1 => R.opt (fItems d) s1
theorem repL_inj {K : PySem.W.Frag} {W W' : Wd} {ds : List D} {vs : List V} (r : RepL K W ds vs) {i : Nat} {d : D} {x : V} (h : ds[i]? = some d) (hx : vs[i]? = some x) : Rep K W d x := by
  obtain ⟨v, e, q⟩ := r.get h
  rw [hx] at e
  cases e
  exact q
section
variable {X : Cx} {EX : XK} {a b c e tg : Expr} {pos p : Pos} {rest es : List Expr}
/-- a list or a tuple walked -/
def iSeq (K : PySem.W.Frag) (tl : TE) : TI := fun σ H R => tl σ H fun x H1 => ∃ a, x = .ref a ∧ (((∃ xs, SqL K H1 a xs) ∧ R (Itl K a) H1) ∨ ((∃ xs, SqT K H1 a xs) ∧ R (Itt K a) H1))
theorem pi_seq {l : Expr} {tl : TE} (hl : PE X l tl) : PI X tg l (iSeq X.K tl) := by
  refine ⟨fun pins s σ H R I h => ?_⟩
  refine thn (hl.run pins s σ H _ I h) fun v s1 ⟨x, H1, I1, r1, q1⟩ => ?_
  obtain ⟨a, e, q1⟩ := q1
  subst e
  cases r1
  rcases q1 with ⟨⟨xs, hq⟩, q⟩ | ⟨⟨xs, hq⟩, q⟩
  · obtain ⟨its, rv, p, hz⟩ := I1.list hq
    refine wpAny_pyIter_list p.isList ?_
    refine ⟨s1.heap.objs.size, [s1.heap.objs.size], _, _, H1, rfl, I1.kept (t' := s1.toks) fun b o e => Heap.get?_push_of_some _ e, turn_list a _, ⟨_, Heap.get?_push_size _ rfl, rfl, rfl⟩, fun b hb => ?_, q⟩
    have e : b = s1.heap.objs.size := by simpa using hb
    subst e
    exact I1.fpOk (Nat.le_refl _) (I1.hok.fresh (Nat.le_refl _))
  · obtain ⟨its, rv, p, hz⟩ := I1.tuple hq
    refine wpAny_pyIter_tuple (show s1.heap.IsTuple a its.toArray from p) ?_
    refine ⟨s1.heap.objs.size, [s1.heap.objs.size], _, _, H1, rfl, I1.kept (t' := s1.toks) fun b o e => Heap.get?_push_of_some _ e, turn_tuple a _, ⟨_, Heap.get?_push_size _ rfl, rfl, rfl⟩, fun b hb => ?_, q⟩
    have e : b = s1.heap.objs.size := by simpa using hb
    subst e
    exact I1.fpOk (Nat.le_refl _) (I1.hok.fresh (Nat.le_refl _))
theorem rep_at {K : PySem.W.Frag} {W1 W : Wd} (hF : ∀ a o, W1.F a = some o → W.F a = some o) (hA : ∀ (i : Nat) (a : Addr), W1.A[i]? = some a → W.A[i]? = some a) {ds : List D} {vs : List V} (r : RepL K W1 ds vs) {i : Nat} {d : D} {x : V} (h : ds[i]? = some d) (hx : vs[i]? = some x) : Rep K W d x :=
  (repL_inj (W' := W1) r h hx).of hF hA
theorem iv_list {K : PySem.W.Frag} {W1 : Wd} {a : Addr} {vs : List V} {ds : List D} (h : W1.F a = some (.lst vs)) (r : RepL K W1 ds vs) : IterV K W1 (Itl K a) ds := fun i W hF hA => by
  have hq : SqL K W.H a vs := .inl (.inl (W.sub _ _ (hF _ _ h)))
  refine ⟨fun d hd => ?_, fun e => ⟨vs, hq, by rw [e, r.len]; exact Nat.le_refl _⟩⟩
  obtain ⟨v, hv, _⟩ := r.get hd
  exact ⟨⟨vs, v, hq, hv⟩, fun x H' ⟨e, y⟩ s sr => ⟨W, Grow.refl W, sr, e.symm, rep_at hF hA r hd (y vs hq)⟩⟩
theorem iv_tup {K : PySem.W.Frag} {W1 : Wd} {a : Addr} {vs : List V} {ds : List D} (h : SqD K W1.F a vs) (r : RepL K W1 ds vs) : IterV K W1 (Itt K a) ds := fun i W hF hA => by
  have hq : SqT K W.H a vs := ((h.ex hF).ex W.sub).t
  refine ⟨fun d hd => ?_, fun e => ⟨vs, hq, by rw [e, r.len]; exact Nat.le_refl _⟩⟩
  obtain ⟨v, hv, _⟩ := r.get hd
  exact ⟨⟨vs, v, hq, hv⟩, fun x H' ⟨e, y⟩ s sr => ⟨W, Grow.refl W, sr, e.symm, rep_at hF hA r hd (y vs hq)⟩⟩
theorem di_seq {m : Env → M D} (h : PEd X EX e m) : PId X EX tg e (mItems m) := by
  obtain ⟨t, p, q⟩ := h
  refine ⟨_, pi_seq p, fun B W Γ σ s R sat sr pp => q B W Γ σ s _ sat sr (Post.bind pp fun d s1 W1 _ g sr1 p1 v r => ?_)⟩
  obtain ⟨ds, e, w⟩ := p1.opt
  have w := w W1 (Grow.refl W1) sr1
  cases r with
  | lst h rl =>
    cases e
    exact ⟨_, rfl, .inl ⟨⟨_, .inl (.inl (W1.sub _ _ h))⟩, w _ (iv_list h rl)⟩⟩
  | tup h rl =>
    cases e
    exact ⟨_, rfl, .inr ⟨⟨_, (h.ex W1.sub).t⟩, w _ (iv_tup h rl)⟩⟩
  | _ => cases e

/-! ### ranges -/
def rangeD (lo : Int) (n : Nat) : List D := (List.range n).map fun (i : Nat) => D.int (lo + i)
def fRng1 : List D → Option (List D)
  | [.int j] => if -100000 ≤ j ∧ j ≤ 100000 then some (rangeD 0 j.toNat) else none
  | _ => none
def fRng2 : List D → Option (List D)
  | [.int i, .int j] => if -100000 ≤ i ∧ i ≤ 100000 ∧ -100000 ≤ j ∧ j ≤ 100000 then some (rangeD i (j - i).toNat) else none
  | _ => none
def fRngD : List D → Option (List D)
  | [.int i, .int j, .int (-1)] => if -100000 ≤ i ∧ i ≤ 100000 ∧ -100000 ≤ j ∧ j ≤ 100000 then some ((List.range (i - j).toNat).map fun (k : Nat) => D.int (i - k)) else none
  | _ => none
def mRng (f : List D → Option (List D)) (ms : Env → M (List D)) : Env → M (List D) := fun Γ s => (ms Γ s).bind fun ds s1 => R.opt (f ds) s1
theorem iv_range {K : PySem.W.Frag} {W1 : Wd} {lo : Int} {n : Nat} : IterV K W1 (Itr lo n) (rangeD lo n) := fun i W hF hA => by
  unfold rangeD
  refine ⟨fun d hd => ?_, fun e => ?_⟩
  · have hi : i < n := by
      have := (List.getElem?_eq_some_iff.mp hd).1
      simpa using this
    rw [List.getElem?_map, List.getElem?_range hi] at hd
    cases hd
    exact ⟨hi, fun x H' ⟨e, y⟩ s sr => ⟨W, Grow.refl W, sr, e.symm, by rw [y]; exact .int _⟩⟩
  · show n ≤ i
    rw [e]; simp
theorem di_rng1 {ms : Env → M (List D)} (hg : Gl X "range") (hm : X.mg "range" = none) (ha : PAd X EX [a] ms) (hs : starEach [a] X.env = [(false, eval a X.env)]) : PId X EX tg (.Call (.Name "range" p) [a] [] pos) (mRng fRng1 ms) := by
  obtain ⟨t, pt, q⟩ := ha
  refine ⟨_, pi_range1 hg hm pt hs, fun B W Γ σ s R sat sr pp => q B W Γ σ s _ sat sr (Post.bind pp fun ds s1 W1 _ g sr1 p1 vs rl => ?_)⟩
  obtain ⟨is, e, w⟩ := p1.opt
  unfold fRng1 at e
  split at e
  · split at e
    · cases e
      cases rl with
      | cons r t => cases r; cases t; exact ⟨_, rfl, by omega, by omega, w W1 (Grow.refl W1) sr1 _ iv_range⟩
    · cases e
  · cases e
theorem di_rng2 {ms : Env → M (List D)} (hg : Gl X "range") (hm : X.mg "range" = none) (ha : PAd X EX [a, b] ms) (hs : starEach [a, b] X.env = [(false, eval a X.env), (false, eval b X.env)]) (hs2 : starEach [b] X.env = [(false, eval b X.env)]) : PId X EX tg (.Call (.Name "range" p) [a, b] [] pos) (mRng fRng2 ms) := by
  obtain ⟨t, pt, q⟩ := ha
  refine ⟨_, pi_range2 hg hm pt hs hs2, fun B W Γ σ s R sat sr pp => q B W Γ σ s _ sat sr (Post.bind pp fun ds s1 W1 _ g sr1 p1 vs rl => ?_)⟩
  obtain ⟨is, e, w⟩ := p1.opt
  unfold fRng2 at e
  split at e
  · split at e
    · cases e
      cases rl with
      | cons r t => cases t with
        | cons r2 t2 => cases r; cases r2; cases t2; exact ⟨_, _, rfl, by omega, w W1 (Grow.refl W1) sr1 _ iv_range⟩
    · cases e
  · cases e
theorem iv_rangeC {K : PySem.W.Frag} {W1 : Wd} {lo : Int} {n : Nat} : IterV K W1 (Itc lo (-1) n) ((List.range n).map fun (k : Nat) => D.int (lo - k)) := fun i W hF hA => by
  refine ⟨fun d hd => ?_, fun e => ?_⟩
  · have hi : i < n := by
      have := (List.getElem?_eq_some_iff.mp hd).1
      simpa using this
    rw [List.getElem?_map, List.getElem?_range hi] at hd
    cases hd
    exact ⟨hi, fun x H' ⟨e, y⟩ s sr => ⟨W, Grow.refl W, sr, e.symm, by rw [y, show lo + (i : Nat) * (-1 : Int) = lo - i by omega]; exact .int _⟩⟩
  · show n ≤ i
    rw [e]; simp
theorem di_rng3 {ms : Env → M (List D)} (hg : Gl X "range") (hm : X.mg "range" = none) (ha : PAd X EX [a, b, c] ms) (hs : starEach [a, b, c] X.env = (false, eval a X.env) :: starEach [b, c] X.env) (hpl : (backTo pos (starEach [b, c] X.env)).any (·.1) = false) : PId X EX tg (.Call (.Name "range" p) [a, b, c] [] pos) (mRng fRngD ms) := by
  obtain ⟨t, pt, q⟩ := ha
  refine ⟨_, pi_range3 hg hm pt hs hpl, fun B W Γ σ s R sat sr pp => q B W Γ σ s _ sat sr (Post.bind pp fun ds s1 W1 _ g sr1 p1 vs rl => ?_)⟩
  obtain ⟨is, e, w⟩ := p1.opt
  unfold fRngD at e
  split at e
  · split at e
    · cases e
      cases rl with
      | cons r t => cases t with
        | cons r2 t2 => cases t2 with
          | cons r3 t3 => cases r; cases r2; cases r3; cases t3; exact ⟨_, _, -1, _, rfl, RgC.neg (by omega) (by omega) (by omega) (by omega), w W1 (Grow.refl W1) sr1 _ iv_rangeC⟩
    · cases e
  · cases e

/-! ### zip, enumerate -/
theorem rep_seq {K : PySem.W.Frag} {W : Wd} {d : D} {v : V} {ds : List D} (r : Rep K W d v) (h : fItems d = some ds) : ∃ l a vs, v = .ref a ∧ (∀ W' : Wd, (∀ a o, W.F a = some o → W'.F a = some o) → SqB l K W'.H a vs) ∧ RepL K W ds vs := by
  cases r with
  | lst h' rl => cases h; exact ⟨true, _, _, rfl, fun W' hF => .inl (.inl (W'.sub _ _ (hF _ _ h'))), rl⟩
  | tup h' rl => cases h; exact ⟨false, _, _, rfl, fun W' hF => ((h'.ex hF).ex W'.sub).t, rl⟩
  | _ => cases h
def zipD : List D → List D → List D
  | x :: xs, y :: ys => .tup [x, y] :: zipD xs ys
  | _, _ => []
theorem zipD_get : ∀ {xs ys : List D} {i : Nat} {d : D}, (zipD xs ys)[i]? = some d → ∃ x y, xs[i]? = some x ∧ ys[i]? = some y ∧ d = .tup [x, y]
  | [], _, _, _, h => by simp [zipD] at h
  | _ :: _, [], _, _, h => by simp [zipD] at h
  | x :: xs, y :: ys, 0, d, h => by simp [zipD] at h; exact ⟨x, y, rfl, rfl, h.symm⟩
  | x :: xs, y :: ys, i + 1, d, h => zipD_get (xs := xs) (ys := ys) (i := i) (by simpa [zipD] using h)
theorem zipD_len : ∀ {xs ys : List D}, (zipD xs ys).length = min xs.length ys.length
  | [], ys => by simp [zipD]
  | _ :: _, [] => by simp [zipD]
  | x :: xs, y :: ys => by
    simp only [zipD, List.length_cons]
    rw [zipD_len]
    omega
def fZip : List D → Option (List D)
  | [x, y] => (fItems x).bind fun xs => (fItems y).bind fun ys => some (zipD xs ys)
  | _ => none
theorem iv_zip {K : PySem.W.Frag} {W1 : Wd} {l1 l2 : Bool} {a b : Addr} {vs us : List V} {xs ys : List D} (h1 : ∀ W' : Wd, (∀ a o, W1.F a = some o → W'.F a = some o) → SqB l1 K W'.H a vs) (h2 : ∀ W' : Wd, (∀ a o, W1.F a = some o → W'.F a = some o) → SqB l2 K W'.H b us)
    (r1 : RepL K W1 xs vs) (r2 : RepL K W1 ys us) : IterV K W1 (ItzB l1 l2 K a b) (zipD xs ys) := fun i W hF hA => by
  have q1 := h1 W hF
  have q2 := h2 W hF
  refine ⟨fun d hd => ?_, fun e => ?_⟩
  · obtain ⟨x, y, hx, hy, rfl⟩ := zipD_get hd
    obtain ⟨v, hv, _⟩ := r1.get hx
    obtain ⟨u, hu, _⟩ := r2.get hy
    refine ⟨⟨vs, us, v, u, q1, q2, hv, hu⟩, fun z H' ⟨T, v', u', ob, ez, hT, hob, eH, f1, f2⟩ s sr => ?_⟩
    subst ez eH
    refine ⟨W.new T (.frz ob (.tup [v', u'])), Grow.new hT sr, sr.new hT, rfl, two_tup hob hT sr ?_⟩
    exact .cons (rep_at hF hA r1 hx (f1 vs q1)) (.cons (rep_at hF hA r2 hy (f2 us q2)) .nil)
  · rw [zipD_len] at e
    exact ⟨vs, us, q1, q2, by rw [← r1.len]; omega, by rw [← r2.len]; omega, by rw [← r1.len, ← r2.len]; omega⟩
theorem di_zip {ts : List Expr} {kk : Nat} {tpos : Pos} {ms : Env → M (List D)} (hg : Gl X "zip") (hm : X.mg "zip" = none) (ha : PAd X EX [a, b] ms) (hs : starEach [a, b] X.env = (false, eval a X.env) :: starEach [b] X.env) (hpl : (backTo pos (starEach [b] X.env)).any (·.1) = false) :
    PId X EX (.Tuple ts kk tpos) (.Call (.Name "zip" p) [a, b] [] pos) (mRng fZip ms) := by
  obtain ⟨t, pt, q⟩ := ha
  refine ⟨_, pi_zipB hg hm pt hs hpl, fun B W Γ σ s R sat sr pp => q B W Γ σ s _ sat sr (Post.bind pp fun ds s1 W1 _ g sr1 p1 vs rl => ?_)⟩
  obtain ⟨is, e, w⟩ := p1.opt
  unfold fZip at e
  split at e
  · rename_i x y _
    cases ex : fItems x with
    | none => rw [ex] at e; cases e
    | some xs =>
      rw [ex] at e
      cases ey : fItems y with
      | none => rw [ey] at e; cases e
      | some ys =>
        rw [ey] at e
        cases e
        cases rl with
        | cons r t => cases t with
          | cons r2 t2 =>
            cases t2
            obtain ⟨l1, a1, vs1, rfl, s1', rl1⟩ := rep_seq r ex
            obtain ⟨l2, a2, vs2, rfl, s2', rl2⟩ := rep_seq r2 ey
            exact ⟨l1, l2, a1, a2, vs1, vs2, rfl, s1' W1 (fun _ _ h => h), s2' W1 (fun _ _ h => h), w W1 (Grow.refl W1) sr1 _ (iv_zip s1' s2' rl1 rl2)⟩
  · cases e
def enumD : Nat → List D → List D
  | _, [] => []
  | n, x :: xs => .tup [.int n, x] :: enumD (n + 1) xs
theorem enumD_get : ∀ {xs : List D} {n i : Nat} {d : D}, (enumD n xs)[i]? = some d → ∃ x, xs[i]? = some x ∧ d = .tup [.int ((n + i : Nat) : Int), x]
  | [], _, _, _, h => by simp [enumD] at h
  | x :: xs, n, 0, d, h => by simp [enumD] at h; exact ⟨x, rfl, h.symm⟩
  | x :: xs, n, i + 1, d, h => by
    obtain ⟨y, h1, h2⟩ := enumD_get (xs := xs) (n := n + 1) (i := i) (d := d) (by simpa [enumD] using h)
    exact ⟨y, by simpa using h1, by rw [h2, show n + 1 + i = n + (i + 1) by omega]⟩
theorem enumD_len : ∀ {xs : List D} {n : Nat}, (enumD n xs).length = xs.length
  | [], _ => rfl
  | x :: xs, n => by simp only [enumD, List.length_cons]; rw [enumD_len]
def fEnum : List D → Option (List D)
  | [x] => (fItems x).bind fun xs => some (enumD 0 xs)
  | _ => none
theorem iv_enum {K : PySem.W.Frag} {W1 : Wd} {l : Bool} {a : Addr} {vs : List V} {xs : List D} (h1 : ∀ W' : Wd, (∀ a o, W1.F a = some o → W'.F a = some o) → SqB l K W'.H a vs) (r1 : RepL K W1 xs vs) : IterV K W1 (IteB l K a) (enumD 0 xs) := fun i W hF hA => by
  have q1 := h1 W hF
  refine ⟨fun d hd => ?_, fun e => ?_⟩
  · obtain ⟨x, hx, rfl⟩ := enumD_get hd
    obtain ⟨v, hv, _⟩ := r1.get hx
    refine ⟨⟨vs, v, q1, hv⟩, fun z H' ⟨T, v', ob, ez, hT, hob, eH, f1⟩ s sr => ?_⟩
    subst ez eH
    refine ⟨W.new T (.frz ob (.tup [.int (i : Nat), v'])), Grow.new hT sr, sr.new hT, rfl, two_tup hob hT sr ?_⟩
    rw [Nat.zero_add]
    exact .cons (.int _) (.cons (rep_at hF hA r1 hx (f1 vs q1)) .nil)
  · rw [enumD_len] at e
    exact ⟨vs, q1, by rw [← r1.len]; exact e.symm⟩
theorem di_enum {ts : List Expr} {kk : Nat} {tpos : Pos} {ms : Env → M (List D)} (hg : Gl X "enumerate") (hm : X.mg "enumerate" = none) (ha : PAd X EX [a] ms) (hs : starEach [a] X.env = [(false, eval a X.env)]) :
    PId X EX (.Tuple ts kk tpos) (.Call (.Name "enumerate" p) [a] [] pos) (mRng fEnum ms) := by
  obtain ⟨t, pt, q⟩ := ha
  refine ⟨_, pi_enumB hg hm pt hs, fun B W Γ σ s R sat sr pp => q B W Γ σ s _ sat sr (Post.bind pp fun ds s1 W1 _ g sr1 p1 vs rl => ?_)⟩
  obtain ⟨is, e, w⟩ := p1.opt
  unfold fEnum at e
  split at e
  · rename_i x _
    cases ex : fItems x with
    | none => rw [ex] at e; cases e
    | some xs =>
      rw [ex] at e
      cases e
      cases rl with
      | cons r t =>
        cases t
        obtain ⟨l1, a1, vs1, rfl, s1', rl1⟩ := rep_seq r ex
        exact ⟨l1, a1, vs1, rfl, s1' W1 (fun _ _ h => h), w W1 (Grow.refl W1) sr1 _ (iv_enum s1' rl1)⟩
  · cases e

/-! ### list comprehensions -/
/-- nothing may be raised -/
def R.nox {α : Type} : R α → R α
  | .ok a s => .ok a s
  | _ => .bad
abbrev noEX : XK := fun _ _ _ => False
theorem Post.nox {α β : Type} {K : PySem.W.Frag} {W : Wd} {r : R α} {f : α → Store → R β} {T : Wd → Store → β → Prop} (h : Post K EX W (r.nox.bind f) T) {U : Wd → Store → α → Prop}
    (step : ∀ a s1 W1, r = .ok a s1 → Grow W W1 → SRep K W1 s1 → Post K EX W1 (f a s1) T → U W1 s1 a) : Post K noEX W r U := by
  cases r with
  | ok a s => exact fun W' g sr => step a s W' rfl g sr (Post.grow g h)
  | er e s => exact h.elim
  | bad => exact h.elim
def lcGo (tg : Tg) (mc : Env → M Bool) (me : Env → M D) (Γ : Env) : List D → Store → R (List D)
  | [], s => .ok [] s
  | d :: ds, s => match bindT tg d Γ with
    | none => .bad
    | some Γ1 => (mc Γ1 s).nox.bind fun b s1 => match b with
      | true => (me Γ1 s1).nox.bind fun y s2 => (lcGo tg mc me Γ ds s2).bind fun ys s3 => .ok (y :: ys) s3
      | false => lcGo tg mc me Γ ds s1
def mLcL (mi : Env → M (List D)) (tg : Tg) (mc : Env → M Bool) (me : Env → M D) (own : List Nat) : Env → M (List D) := fun Γ s => (mi Γ s).bind fun ds s1 =>
  if ds.length ≤ 100000 then lcGo tg mc me (wipeE Γ own) ds s1 else .bad
/-- a new list, as data -/
def mFrz (m : Env → M (List D)) : Env → M D := fun Γ s => (m Γ s).bind fun ds s1 => .ok (.lst ds) s1
def mYes : Env → M Bool := fun _ s => .ok true s
/-- what a list maker gives: a new list, not yet data -/
abbrev WantO (K : PySem.W.Frag) (W : Wd) (Q : VK) : Wd → Store → List D → Prop := fun W' _ ds => ∀ p vs, W.H p = none → W'.H p = some (.lst vs) → W'.F p = none → p ∉ W'.A → RepL K W' ds vs → Q (.ref p) W'.H
def POd (X : Cx) (EX : XK) (e : Expr) (m : Env → M (List D)) : Prop := ∃ t, PE X e t ∧
  ∀ B W Γ σ s Q, Sat X.K B W Γ σ → SRep X.K W s → Post X.K EX W (m Γ s) (WantO X.K W Q) → t σ W.H Q
theorem lc_turns {K : PySem.W.Frag} {J : It} {tg : Tg} {mc : Env → M Bool} {me : Env → M D} {own : List Nat} {g : TG} {tt : TT} {te : TE} {B : Hp} {W0 W1 : Wd} {Γ : Env} {σ : L2.St} {Q : VK} {items : List D} {s1 : Store} {p : Addr}
    (hg : ∀ (B : Hp) (W : Wd) (Γ Γ' : Env) (σ : L2.St) (d : D) (v : V) (Q : L2.St → Hp → Prop), Sat K B W Γ σ → Rep K W d v → bindT tg d Γ = some Γ' → (∀ σ', Sat K B W Γ' σ' → (∀ vs : List Nat, (∀ i ∈ tg.slots, i ∈ vs) → L2.wipe σ' vs = L2.wipe σ vs) → Q σ' W.H) → g v σ W.H Q)
    (hsl : ∀ i ∈ tg.slots, i ∈ own)
    (ht : ∀ B W Γ σ s Q, Sat K B W Γ σ → SRep K W s → Post K noEX W (mc Γ s) (WantB Q) → tt σ W.H Q) (he : ∀ B W Γ σ s Q, Sat K B W Γ σ → SRep K W s → Post K noEX W (me Γ s) (Want K Q) → te σ W.H Q)
    (iv : IterV K W1 J items) (sat : Sat K B W1 Γ σ) (g01 : Grow W0 W1) (sr1 : SRep K W1 s1) (hp : W1.H p = none) (hz : items.length ≤ 100000)
    (post : Post K EX W1 (lcGo tg mc me (wipeE Γ own) items s1) (WantO K W0 Q)) :
    ∃ Wn : Nat → Nat → Hp → Prop, (∃ m, Wn 0 m (upd W1.H p (.lst []))) ∧ ∀ i m H, Wn i m H →
      (J.stop i H ∧ Q (.ref p) H) ∨ (J.go i H ∧ ∃ Nx : Hp → Prop, (∀ H', Nx H' → ∃ m', m' < m ∧ Wn (i + 1) m' H') ∧ ∀ x H', J.yld i H x H' → g x (L2.wipe σ own) H' fun σ2 H2 => L2.wipe σ2 own = L2.wipe σ own ∧ tt σ2 H2 fun b H3 =>
        if b = true then te σ2 H3 fun y H4 => ∃ acc, H4 p = some (.lst acc) ∧ acc.length < sizeLine ∧ Nx (upd H4 p (.lst (acc ++ [y]))) else Nx H3) := by
  have pA1 := sr1.notA hp
  have pF1 := Wd.fnone hp
  have p0 : W0.H p = none := by
    cases h : W0.H p with
    | none => rfl
    | some o => exact absurd hp (g01.t p (by rw [h]; simp))
  let Inv' : Nat → Hp → Prop := fun i H => ∃ (W : Wd) (s : Store) (acc : List V) (ad : List D), W.H = H ∧ Grow W1 W ∧ SRep K W s ∧ H p = some (.lst acc) ∧ W.F p = none ∧ p ∉ W.A ∧ RepL K W ad acc ∧ ad.length ≤ i ∧
    Post K EX W1 ((lcGo tg mc me (wipeE Γ own) (items.drop i) s).bind fun ys s => .ok (ad ++ ys) s) (WantO K W0 Q)
  refine ⟨fun i m H => m = items.length - i ∧ i ≤ items.length ∧ Inv' i H, ⟨items.length, rfl, Nat.zero_le _, W1.put p (.lst []) pF1, s1, [], [], rfl, (Grow.refl W1).put pF1 hp, sr1.put pF1 pA1, upd_same, pF1, pA1, .nil, Nat.le_refl _, ?_⟩, ?_⟩
  · rw [List.drop_zero]
    revert post
    cases lcGo tg mc me (wipeE Γ own) items s1 with
    | ok a s => exact id
    | er e s => exact id
    | bad => exact id
  · rintro i m H ⟨rfl, hi, W, s, acc, ad, rfl, gW, srW, hacc, hFp, hAp, rl, hal, pst⟩
    obtain ⟨iv1, iv2⟩ := iv i W gW.f (fun i a h => gW.ix h)
    by_cases hlt : i < items.length
    · obtain ⟨go, yld⟩ := iv1 items[i] (by simp [hlt])
      refine .inr ⟨go, Inv' (i + 1), fun H' h' => ⟨items.length - (i + 1), by omega, rfl, hlt, h'⟩, fun x H' y => ?_⟩
      obtain ⟨W2, g2, sr2, rfl, rx⟩ := yld x H' y s srW
      rw [List.drop_eq_getElem_cons hlt] at pst
      unfold lcGo at pst
      cases hb : bindT tg items[i] (wipeE Γ own) with
      | none => rw [hb] at pst; exact pst.elim
      | some Γ1 =>
        rw [hb] at pst
        have sat2 : Sat K B W2 (wipeE Γ own) (L2.wipe σ own) := ((sat.grow gW).grow g2).wipe own
        refine hg B W2 _ Γ1 _ _ x _ sat2 rx hb fun σ2 sat3 wp => ⟨?_, ?_⟩
        · rw [wp own hsl]
          apply List.ext_getElem?
          intro j
          rw [wipe_get, wipe_get, wipe_length]
          by_cases hj : j ∈ own <;> simp [hj]
        · have gW2 : Grow W1 W2 := gW.trans g2
          have pst : Post K EX W1 (((mc Γ1 s).nox.bind fun b s1 => match b with
              | true => (me Γ1 s1).nox.bind fun y s2 => (lcGo tg mc me (wipeE Γ own) (items.drop (i + 1)) s2).bind fun ys s3 => .ok (y :: ys) s3
              | false => lcGo tg mc me (wipeE Γ own) (items.drop (i + 1)) s1).bind fun ys s => .ok (ad ++ ys) s) (WantO K W0 Q) := pst
          have hp2 : W2.H p = some (.lst acc) := g2.h p _ hAp hacc
          have hF2 : W2.F p = none := g2.n p hFp (by rw [hacc]; simp)
          have hA2 : p ∉ W2.A := g2.notA hAp (by rw [hacc]; simp)
          have rl2 := rl.grow g2
          refine ht B W2 Γ1 σ2 s _ sat3 sr2 ?_
          cases hmc : mc Γ1 s with
          | er e s' => rw [hmc] at pst; exact pst.elim
          | bad => rw [hmc] at pst; exact pst.elim
          | ok b s3 =>
            rw [hmc] at pst
            intro W3 g3 sr3
            have hp3 : W3.H p = some (.lst acc) := g3.h p _ hA2 hp2
            have hF3 : W3.F p = none := g3.n p hF2 (by rw [hp2]; simp)
            have hA3 : p ∉ W3.A := g3.notA hA2 (by rw [hp2]; simp)
            cases b with
            | false =>
              show Inv' (i + 1) W3.H
              exact ⟨W3, s3, acc, ad, rfl, gW2.trans g3, sr3, hp3, hF3, hA3, rl2.grow g3, by omega, pst⟩
            | true =>
              show te σ2 W3.H _
              refine he B W3 Γ1 σ2 s3 _ (sat3.grow g3) sr3 ?_
              have pst : Post K EX W1 (((me Γ1 s3).nox.bind fun y s2 => (lcGo tg mc me (wipeE Γ own) (items.drop (i + 1)) s2).bind fun ys s3 => .ok (y :: ys) s3).bind fun ys s => .ok (ad ++ ys) s) (WantO K W0 Q) := pst
              cases hme : me Γ1 s3 with
              | er e s' => rw [hme] at pst; exact pst.elim
              | bad => rw [hme] at pst; exact pst.elim
              | ok y s4 =>
                rw [hme] at pst
                intro W4 g4 sr4 v rv
                have hp4 : W4.H p = some (.lst acc) := g4.h p _ hA3 hp3
                have hF4 : W4.F p = none := g4.n p hF3 (by rw [hp3]; simp)
                have hA4 : p ∉ W4.A := g4.notA hA3 (by rw [hp3]; simp)
                have rl4 : RepL K W4 ad acc := (rl2.grow g3).grow g4
                have gW4 : Grow W1 W4 := (gW2.trans g3).trans g4
                refine ⟨acc, hp4, Nat.lt_of_lt_of_le (show acc.length < 100001 by rw [← rl4.len]; omega) (by decide), W4.put p (.lst (acc ++ [v])) hF4, s4, acc ++ [v], ad ++ [y], rfl, gW4.put hF4 hp, sr4.put hF4 hA4, upd_same, hF4, hA4, RepL.put hF4 (rl4.app (.cons rv .nil)), by rw [List.length_append]; simp; omega, ?_⟩
                have pst : Post K EX W1 (((lcGo tg mc me (wipeE Γ own) (items.drop (i + 1)) s4).bind fun ys s3 => .ok (y :: ys) s3).bind fun ys s => .ok (ad ++ ys) s) (WantO K W0 Q) := pst
                revert pst
                cases lcGo tg mc me (wipeE Γ own) (items.drop (i + 1)) s4 with
                | ok ys s5 =>
                  intro pst
                  show Post K EX W1 (.ok (ad ++ [y] ++ ys) s5) _
                  rw [List.append_assoc]
                  exact pst
                | er e s => exact id
                | bad => exact id
    · have e : i = items.length := by omega
      refine .inl ⟨iv2 e, ?_⟩
      rw [e, List.drop_length] at pst
      have pst : Post K EX W1 (.ok (ad ++ []) s) (WantO K W0 Q) := pst
      rw [List.append_nil] at pst
      exact pst W gW srW p acc p0 hacc hFp hAp rl
theorem do_lc {elt tg iter : Expr} {ifs : List Expr} {scope : Scope} {own : List (Str × Nat)} {mi : Env → M (List D)} {t : Tg} {mc : Env → M Bool} {me : Env → M D} (hc : X.calm = true) (hN : X.N.Nodup) (hi : PId X EX tg iter mi) (ok : BlkOk X.N X.env.scope scope own)
    (hg : ∃ g, (∀ (s : Shared) (H : Hp) (C : Addr) (cl : List (Str × Addr)) (fp : List Addr), PG (X.blk s H scope (compEnvC scope cl C X.env) fp) tg g) ∧ ∀ (B : Hp) (W : Wd) (Γ Γ' : Env) (σ : L2.St) (d : D) (v : V) (Q : L2.St → Hp → Prop), Sat X.K B W Γ σ → Rep X.K W d v → bindT t d Γ = some Γ' → (∀ σ', Sat X.K B W Γ' σ' → (∀ vs : List Nat, (∀ i ∈ t.slots, i ∈ vs) → L2.wipe σ' vs = L2.wipe σ vs) → Q σ' W.H) → g v σ W.H Q)
    (hsl : ∀ i ∈ t.slots, i ∈ own.map (·.2))
    (ht : ∃ tt, (∀ (s : Shared) (H : Hp) (C : Addr) (cl : List (Str × Addr)) (fp : List Addr), PTs (X.blk s H scope (compEnvC scope cl C X.env) fp) ifs tt) ∧ ∀ B W Γ σ s Q, Sat X.K B W Γ σ → SRep X.K W s → Post X.K noEX W (mc Γ s) (WantB Q) → tt σ W.H Q)
    (he : ∃ te, (∀ (s : Shared) (H : Hp) (C : Addr) (cl : List (Str × Addr)) (fp : List Addr), PE (X.blk s H scope (compEnvC scope cl C X.env) fp) elt te) ∧ ∀ B W Γ σ s Q, Sat X.K B W Γ σ → SRep X.K W s → Post X.K noEX W (me Γ s) (Want X.K Q) → te σ W.H Q)
    (hs : ∀ x, foldedSetIterable iter X.env x = pure x) : POd X EX (.ListComp elt [⟨tg, iter, ifs, 0⟩] scope pos) (mLcL mi t mc me (own.map (·.2))) := by
  obtain ⟨wi, pi, qi⟩ := hi
  obtain ⟨g, pg, qg⟩ := hg
  obtain ⟨tt, pt, qt⟩ := ht
  obtain ⟨te, pe, qe⟩ := he
  refine ⟨_, pe_lc hc hN pi ok pg pt pe hs, fun B W Γ σ s Q sat sr pp => ?_⟩
  refine qi B W Γ σ s _ sat sr (Post.bind pp fun ds s1 W1 _ g1 sr1 p1 J iv => fun D hD => ?_)
  split at p1
  · exact lc_turns qg hsl qt qe iv (sat.grow g1) g1 sr1 hD (by assumption) p1
  · exact p1.elim
/-- a new list, as data -/
theorem POd.d {m : Env → M (List D)} (h : POd X EX e m) : PEd X EX e (mFrz m) := by
  obtain ⟨t, p, q⟩ := h
  refine ⟨t, p, fun B W Γ σ s Q sat sr pp => q B W Γ σ s Q sat sr ?_⟩
  have pp : Post X.K EX W ((m Γ s).bind fun ds s1 => .ok (.lst ds) s1) (Want X.K Q) := pp
  revert pp
  cases m Γ s with
  | ok ds s1 =>
    intro pp W1 g1 sr1 p vs h0 h1 h2 h3 r
    exact pp (W1.frz p (.lst vs) h1) (g1.frz h1 h0 h2) (sr1.frz h1 h2 h3) _ (.lst (show upd W1.F p _ p = _ from upd_same) (RepL.frz h1 h2 r))
  | er e s1 => exact id
  | bad => exact id
end
end PD
set_option maxRecDepth 100000
set_option maxHeartbeats 4000000
namespace PD
open PySem PySem.Spec PyProof.Rows L2

/-! ## arguments that are looked at -/
inductive RepVL (K : PySem.W.Frag) (W : Wd) : List D → List V → Prop where
  | nil : RepVL K W [] []
  | cons {d : D} {v : V} {ds : List D} {vs : List V} (h : RepV K W d v) (t : RepVL K W ds vs) : RepVL K W (d :: ds) (v :: vs)
theorem RepVL.grow {K : PySem.W.Frag} {W W' : Wd} (g : Grow W W') : ∀ {ds : List D} {vs : List V}, RepVL K W ds vs → RepVL K W' ds vs
  | _, _, .nil => .nil
  | _, _, .cons h t => .cons (h.grow g) (t.grow g)
theorem RepL.v {K : PySem.W.Frag} {W : Wd} : ∀ {ds : List D} {vs : List V}, RepL K W ds vs → RepVL K W ds vs
  | _, _, .nil => .nil
  | _, _, .cons h t => .cons (.of h) (RepL.v t)
abbrev WantVL (K : PySem.W.Frag) (Q : List V → Hp → Prop) : Wd → Store → List D → Prop := fun W' _ ds => ∀ vs, RepVL K W' ds vs → Q vs W'.H
def PAv (X : Cx) (EX : XK) (es : List Expr) (m : Env → M (List D)) : Prop := ∃ t, PA X es t ∧
  ∀ B W Γ σ s Q, Sat X.K B W Γ σ → SRep X.K W s → Post X.K EX W (m Γ s) (WantVL X.K Q) → t σ W.H Q
section
variable {X : Cx} {EX : XK} {a b c e : Expr} {pos p : Pos} {rest es : List Expr}
theorem dav_nil : PAv X EX [] mNil := ⟨_, pa_nil, fun B W Γ σ s Q sat sr p => p W (Grow.refl W) sr [] .nil⟩
theorem dav_cons {m : Env → M D} {ms : Env → M (List D)} (h : PVd X EX e m) (hs : PAv X EX es ms) (hst : starEach (e :: es) X.env = (false, eval e X.env) :: starEach es X.env) : PAv X EX (e :: es) (mCons m ms) := by
  obtain ⟨t, p, q⟩ := h
  obtain ⟨t2, p2, q2⟩ := hs
  refine ⟨_, pa_cons p p2 hst, fun B W Γ σ s Q sat sr pp => q B W Γ σ s _ sat sr (Post.bind pp fun d s1 W1 _ g1 sr1 p1 v r => ?_)⟩
  exact q2 B W1 Γ σ s1 _ (sat.grow g1) sr1 (Post.bind p1 fun ds s2 W2 _ g2 sr2 pp2 vs rs => pp2 W2 (Grow.refl W2) sr2 _ (.cons (r.grow g2) rs))
/-- a call by values -/
def OpC (K : PySem.W.Frag) (r : List V → Hp → VK → Prop) (f : List D → Option D) : Prop := ∀ (W : Wd) (s : Store) (ds : List D) (d : D) (vs : List V) (Q : VK), RepVL K W ds vs → SRep K W s → f ds = some d →
  (∀ W' v, Grow W W' → SRep K W' s → Rep K W' d v → Q v W'.H) → r vs W.H Q
def mBlt (f : List D → Option D) (ms : Env → M (List D)) : Env → M D := fun Γ s => (ms Γ s).bind fun ds s1 => R.opt (f ds) s1
theorem de_blt {x : Str} {id : String} {r : List V → Hp → VK → Prop} {f : List D → Option D} {ms : Env → M (List D)} (hc : CallR X (.builtin id) r) (hr : OpC X.K r f) (hg : Gl X x) (hm : X.mg x = none) (hv : bootBuiltins x = some (.builtin id))
    (ha : PAv X EX (e :: es) ms) (hn : x ≠ "__name__") (hdb : (x == ("__debug__" : Str)) = false) (he : starEach (e :: es) X.env = (false, eval e X.env) :: starEach es X.env) (hpl : (backTo pos (starEach es X.env)).any (·.1) = false) :
    PEd X EX (.Call (.Name x p) (e :: es) [] pos) (mBlt f ms) := by
  obtain ⟨t, pt, q⟩ := ha
  refine ⟨_, pe_callB hc hg hm hv pt hn hdb he hpl, fun B W Γ σ s Q sat sr pp => q B W Γ σ s _ sat sr (Post.bind pp fun ds s1 W1 _ g1 sr1 p1 vs rs => ?_)⟩
  obtain ⟨d, e', w⟩ := p1.opt
  exact hr W1 s1 ds d vs Q rs sr1 e' fun W' v g s' r => w W' g s' v r
theorem de_bty {x : Str} {T : String} {r : List V → Hp → VK → Prop} {f : List D → Option D} {ms : Env → M (List D)} (hc : CallR X (.type T) r) (hr : OpC X.K r f) (hg : Gl X x) (hm : X.mg x = none) (hv : bootBuiltins x = some (.type T))
    (ha : PAv X EX (e :: es) ms) (hn : x ≠ "__name__") (hdb : (x == ("__debug__" : Str)) = false) (he : starEach (e :: es) X.env = (false, eval e X.env) :: starEach es X.env) (hpl : (backTo pos (starEach es X.env)).any (·.1) = false) :
    PEd X EX (.Call (.Name x p) (e :: es) [] pos) (mBlt f ms) := by
  obtain ⟨t, pt, q⟩ := ha
  refine ⟨_, pe_callTy hc hg hm hv pt hn hdb he hpl, fun B W Γ σ s Q sat sr pp => q B W Γ σ s _ sat sr (Post.bind pp fun ds s1 W1 _ g1 sr1 p1 vs rs => ?_)⟩
  obtain ⟨d, e', w⟩ := p1.opt
  exact hr W1 s1 ds d vs Q rs sr1 e' fun W' v g s' r => w W' g s' v r

/-! ### the built-ins -/
def fLen : List D → Option D
  | [.lst xs] => some (.int xs.length)
  | [.tup xs] => some (.int xs.length)
  | [.scr ns] => some (.int ns.length)
  | [.str z] => if z.length ≤ 100000 then some (.int z.length) else none
  | _ => none
theorem oc_len (K : PySem.W.Frag) : OpC K (fun xs H Q => ∃ x n, xs = [x] ∧ LenV K x H n ∧ Q (.int n) H) fLen := fun W s ds d vs Q r sr e q => by
  unfold fLen at e
  split at e
  · cases e
    cases r with
    | cons r t =>
      cases t
      obtain ⟨a, us, rfl, h, rl⟩ := r.lst
      exact ⟨_, us.length, rfl, .inl ⟨us, .inl (.inl h), rfl⟩, by rw [← rl.len]; exact q W _ (Grow.refl W) sr (.int _)⟩
  · cases e
    cases r with
    | cons r t =>
      cases t
      obtain ⟨a, us, rfl, h, rl⟩ := r.tup
      exact ⟨_, us.length, rfl, .inr ⟨us, h, rfl⟩, by rw [← rl.len]; exact q W _ (Grow.refl W) sr (.int _)⟩
  · cases e
    cases r with
    | cons r t =>
      cases t
      cases r with
      | of r =>
        cases r with
        | scr h => exact ⟨_, _, rfl, .inl ⟨_, Evl.ex_l W.sub h, by rw [List.length_map]⟩, q W _ (Grow.refl W) sr (.int _)⟩
  · split at e
    · rename_i hl
      cases e
      cases r with
      | cons r t =>
        cases t
        have := r.str
        subst this
        exact ⟨_, _, rfl, ⟨Evl.sz_of hl, rfl⟩, q W _ (Grow.refl W) sr (.int _)⟩
    · cases e
  · cases e
def fAbs : List D → Option D
  | [.int i] => some (.int (if i < 0 then -i else i))
  | _ => none
theorem oc_abs (K : PySem.W.Frag) : OpC K (fun xs H Q => ∃ i, xs = [.int i] ∧ Q (.int (if i < 0 then -i else i)) H) fAbs := fun W s ds d vs Q r sr e q => by
  unfold fAbs at e
  split at e
  · cases e
    cases r with
    | cons r t => cases t; rw [r.int]; exact ⟨_, rfl, q W _ (Grow.refl W) sr (.int _)⟩
  · cases e
def fMax : List D → Option D
  | [.int i, .int j] => some (.int (if j > i then j else i))
  | _ => none
def fMin : List D → Option D
  | [.int i, .int j] => some (.int (if j < i then j else i))
  | _ => none
theorem oc_max (K : PySem.W.Frag) : OpC K (fun xs H Q => ∃ i j, xs = [.int i, .int j] ∧ Q (.int (if j > i then j else i)) H) fMax := fun W s ds d vs Q r sr e q => by
  unfold fMax at e
  split at e
  · cases e
    cases r with
    | cons r t => cases t with | cons r2 t2 => cases t2; rw [r.int, r2.int]; exact ⟨_, _, rfl, q W _ (Grow.refl W) sr (.int _)⟩
  · cases e
theorem oc_min (K : PySem.W.Frag) : OpC K (fun xs H Q => ∃ i j, xs = [.int i, .int j] ∧ Q (.int (if j < i then j else i)) H) fMin := fun W s ds d vs Q r sr e q => by
  unfold fMin at e
  split at e
  · cases e
    cases r with
    | cons r t => cases t with | cons r2 t2 => cases t2; rw [r.int, r2.int]; exact ⟨_, _, rfl, q W _ (Grow.refl W) sr (.int _)⟩
  · cases e
def fInt : List D → Option D
  | [.int i] => some (.int i)
  | [.bl b] => some (.int (if b then 1 else 0))
  | _ => none
theorem oc_int (K : PySem.W.Frag) : OpC K (fun xs H Q => (∃ i, xs = [.int i] ∧ Q (.int i) H) ∨ ∃ k, xs = [.bl k] ∧ Q (.int (if k then 1 else 0)) H) fInt := fun W s ds d vs Q r sr e q => by
  unfold fInt at e
  split at e
  · cases e
    cases r with
    | cons r t => cases t; rw [r.int]; exact .inl ⟨_, rfl, q W _ (Grow.refl W) sr (.int _)⟩
  · cases e
    cases r with
    | cons r t => cases t; rw [r.bl]; exact .inr ⟨_, rfl, q W _ (Grow.refl W) sr (.int _)⟩
  · cases e
def fBool : List D → Option D
  | [.int i] => some (.bl (i != 0))
  | [.bl b] => some (.bl b)
  | _ => none
theorem oc_bool (K : PySem.W.Frag) : OpC K (fun xs H Q => (∃ i, xs = [.int i] ∧ Q (.bl (i != 0)) H) ∨ ∃ k, xs = [.bl k] ∧ Q (.bl k) H) fBool := fun W s ds d vs Q r sr e q => by
  unfold fBool at e
  split at e
  · cases e
    cases r with
    | cons r t => cases t; rw [r.int]; exact .inl ⟨_, rfl, q W _ (Grow.refl W) sr (.bl _)⟩
  · cases e
    cases r with
    | cons r t => cases t; rw [r.bl]; exact .inr ⟨_, rfl, q W _ (Grow.refl W) sr (.bl _)⟩
  · cases e
def fStr : List D → Option D
  | [.int i] => if i.natAbs.log2 < 1920 then some (.str (toString i)) else none
  | _ => none
theorem oc_str (K : PySem.W.Frag) : OpC K (fun xs H Q => ∃ i, xs = [.int i] ∧ i.natAbs.log2 < 1920 ∧ Q (.str (toString i)) H) fStr := fun W s ds d vs Q r sr e q => by
  unfold fStr at e
  split at e
  · split at e
    · cases e
      cases r with
      | cons r t => cases t; rw [r.int]; exact ⟨_, rfl, by assumption, q W _ (Grow.refl W) sr (.str _)⟩
    · cases e
  · cases e
/-- all are ints, all are truth values, all are texts -/
def intsOf : List D → Option (List Int)
  | [] => some []
  | .int i :: ds => (intsOf ds).map (i :: ·)
  | _ => none
def blsOf : List D → Option (List Bool)
  | [] => some []
  | .bl i :: ds => (blsOf ds).map (i :: ·)
  | _ => none
def strsOf : List D → Option (List Str)
  | [] => some []
  | .str i :: ds => (strsOf ds).map (i :: ·)
  | _ => none
theorem rep_ints {K : PySem.W.Frag} {W : Wd} : ∀ {ds : List D} {vs : List V} {ns : List Int}, RepL K W ds vs → intsOf ds = some ns → vs = ns.map V.int
  | _, _, _, .nil, e => by cases e; rfl
  | _, _, ns, .cons (d := .int i) (ds := ds) (.int _) t, e => by
    have e' : (intsOf ds).map (i :: ·) = some ns := e
    cases h : intsOf ds with
    | none => rw [h] at e'; cases e'
    | some ms => rw [h] at e'; cases e'; rw [List.map_cons, rep_ints t h]
  | _, _, _, .cons .non _, e => by cases e
  | _, _, _, .cons (.bl _) _, e => by cases e
  | _, _, _, .cons (.str _) _, e => by cases e
  | _, _, _, .cons (.lst _ _) _, e => by cases e
  | _, _, _, .cons (.tup _ _) _, e => by cases e
  | _, _, _, .cons (.cel _) _, e => by cases e
  | _, _, _, .cons (.scr _) _, e => by cases e
  | _, _, _, .cons (.dki _ _ _) _, e => by cases e
  | _, _, _, .cons (.dkt _ _ _ _ _) _, e => by cases e
  | _, _, _, .cons (.ins _ _ _) _, e => by cases e
theorem rep_bls {K : PySem.W.Frag} {W : Wd} : ∀ {ds : List D} {vs : List V} {ns : List Bool}, RepL K W ds vs → blsOf ds = some ns → vs = ns.map V.bl
  | _, _, _, .nil, e => by cases e; rfl
  | _, _, ns, .cons (d := .bl i) (ds := ds) (.bl _) t, e => by
    have e' : (blsOf ds).map (i :: ·) = some ns := e
    cases h : blsOf ds with
    | none => rw [h] at e'; cases e'
    | some ms => rw [h] at e'; cases e'; rw [List.map_cons, rep_bls t h]
  | _, _, _, .cons .non _, e => by cases e
  | _, _, _, .cons (.int _) _, e => by cases e
  | _, _, _, .cons (.str _) _, e => by cases e
  | _, _, _, .cons (.lst _ _) _, e => by cases e
  | _, _, _, .cons (.tup _ _) _, e => by cases e
  | _, _, _, .cons (.cel _) _, e => by cases e
  | _, _, _, .cons (.scr _) _, e => by cases e
  | _, _, _, .cons (.dki _ _ _) _, e => by cases e
  | _, _, _, .cons (.dkt _ _ _ _ _) _, e => by cases e
  | _, _, _, .cons (.ins _ _ _) _, e => by cases e
theorem rep_strs {K : PySem.W.Frag} {W : Wd} : ∀ {ds : List D} {vs : List V} {ns : List Str}, RepL K W ds vs → strsOf ds = some ns → vs = ns.map V.str
  | _, _, _, .nil, e => by cases e; rfl
  | _, _, ns, .cons (d := .str i) (ds := ds) (.str _) t, e => by
    have e' : (strsOf ds).map (i :: ·) = some ns := e
    cases h : strsOf ds with
    | none => rw [h] at e'; cases e'
    | some ms => rw [h] at e'; cases e'; rw [List.map_cons, rep_strs t h]
  | _, _, _, .cons .non _, e => by cases e
  | _, _, _, .cons (.int _) _, e => by cases e
  | _, _, _, .cons (.bl _) _, e => by cases e
  | _, _, _, .cons (.lst _ _) _, e => by cases e
  | _, _, _, .cons (.tup _ _) _, e => by cases e
  | _, _, _, .cons (.cel _) _, e => by cases e
  | _, _, _, .cons (.scr _) _, e => by cases e
  | _, _, _, .cons (.dki _ _ _) _, e => by cases e
  | _, _, _, .cons (.dkt _ _ _ _ _) _, e => by cases e
  | _, _, _, .cons (.ins _ _ _) _, e => by cases e
/-- sum of a tuple of ints -/
def rSumT (K : PySem.W.Frag) : List V → Hp → VK → Prop := fun vs H Q => ∃ (a : Addr) (ns : List Int), vs = [V.ref a] ∧ SqT K H a (ns.map V.int) ∧ Q (.int ns.sum) H
theorem cr_sumT (hc : X.calm = true) : CallR X (.builtin "sum") (rSumT X.K) := by
  intro pins s σ H vs us Q I r h
  obtain ⟨a, ns, rfl, hs, q⟩ := h
  obtain ⟨its, rv, hl, _⟩ := I.tuple hs
  rw [Vals.ref1 r]
  have hi := rv.ints
  obtain ⟨xs, e⟩ := hi.allInts.items
  have hn : numsOf (intItems xs).toList = ns := by rw [← e]; exact hi.numsOf
  rw [nums_intItems] at hn
  have hl' : s.heap.IsTuple a (intItems xs) := by rw [← e]; exact hl
  refine PySem.W.ktm_sumG (I.ok.hd hc) hl' fun h' tk t' hk => ?_
  rw [preSum_eq, List.take_of_length_le (by simp), hn]
  exact ⟨.int _, H, I.kept hk, ⟨_, rfl⟩, q⟩
theorem CallR.or {f : Value} {r r' : List V → Hp → VK → Prop} (h : CallR X f r) (h' : CallR X f r') : CallR X f (fun vs H Q => r vs H Q ∨ r' vs H Q) := by
  intro pins s σ H vs us Q I rr q
  rcases q with q | q
  · exact h pins s σ H vs us Q I rr q
  · exact h' pins s σ H vs us Q I rr q
def fSum : List D → Option D
  | [.lst xs] => (intsOf xs).map fun ns => .int ns.sum
  | [.tup xs] => (intsOf xs).map fun ns => .int ns.sum
  | _ => none
theorem oc_sum (K : PySem.W.Frag) : OpC K (fun vs H Q => rSum K vs H Q ∨ rSumT K vs H Q) fSum := fun W s ds d vs Q r sr e q => by
  unfold fSum at e
  split at e
  · rename_i xs
    cases h : intsOf xs with
    | none => rw [h] at e; cases e
    | some ns =>
      rw [h] at e; cases e
      cases r with
      | cons r t =>
        cases t
        obtain ⟨a, us, rfl, h', rl⟩ := r.lst
        rw [rep_ints rl h] at h'
        exact .inl ⟨a, ns, rfl, .inl (.inl h'), q W _ (Grow.refl W) sr (.int _)⟩
  · rename_i xs
    cases h : intsOf xs with
    | none => rw [h] at e; cases e
    | some ns =>
      rw [h] at e; cases e
      cases r with
      | cons r t =>
        cases t
        obtain ⟨a, us, rfl, h', rl⟩ := r.tup
        rw [rep_ints rl h] at h'
        exact .inr ⟨a, ns, rfl, h', q W _ (Grow.refl W) sr (.int _)⟩
  · cases e
def fAll : List D → Option D
  | [.lst xs] => (blsOf xs).map fun ns => .bl (ns.all id)
  | _ => none
def fAny : List D → Option D
  | [.lst xs] => (blsOf xs).map fun ns => .bl (ns.any id)
  | _ => none
theorem oc_all (K : PySem.W.Frag) : OpC K (rAll K) fAll := fun W s ds d vs Q r sr e q => by
  unfold fAll at e
  split at e
  · rename_i xs
    cases h : blsOf xs with
    | none => rw [h] at e; cases e
    | some ns =>
      rw [h] at e; cases e
      cases r with
      | cons r t =>
        cases t
        obtain ⟨a, us, rfl, h', rl⟩ := r.lst
        rw [rep_bls rl h] at h'
        exact ⟨a, ns, rfl, .inl (.inl h'), q W _ (Grow.refl W) sr (.bl _)⟩
  · cases e
theorem oc_any (K : PySem.W.Frag) : OpC K (rAny K) fAny := fun W s ds d vs Q r sr e q => by
  unfold fAny at e
  split at e
  · rename_i xs
    cases h : blsOf xs with
    | none => rw [h] at e; cases e
    | some ns =>
      rw [h] at e; cases e
      cases r with
      | cons r t =>
        cases t
        obtain ⟨a, us, rfl, h', rl⟩ := r.lst
        rw [rep_bls rl h] at h'
        exact ⟨a, ns, rfl, .inl (.inl h'), q W _ (Grow.refl W) sr (.bl _)⟩
  · cases e
def fTuple : List D → Option D
  | [.lst xs] => some (.tup xs)
  | [.tup xs] => some (.tup xs)
  | _ => none
theorem oc_tuple (K : PySem.W.Frag) : OpC K (fun xs H Q => rTupF K xs H Q) fTuple := fun W s ds d vs Q r sr e q => by
  unfold fTuple at e
  split at e
  · cases e
    cases r with
    | cons r t =>
      cases t
      obtain ⟨a, us, rfl, h, rl⟩ := r.lst
      exact ⟨a, us, rfl, .inl ⟨.inl (.inl h), fun l o to hl => q (W.new l (.frz o (.tup us))) _ (Grow.new hl sr) (sr.new hl) (two_tup to hl sr rl)⟩⟩
  · cases e
    cases r with
    | cons r t =>
      cases t
      obtain ⟨a, us, e', h, rl⟩ := r.tup
      subst e'
      cases r with
      | of r => exact ⟨a, us, rfl, .inr ⟨h, q W _ (Grow.refl W) sr r⟩⟩
  · cases e
def fList : List D → Option D
  | [.lst xs] => some (.lst xs)
  | [.tup xs] => some (.lst xs)
  | _ => none
theorem oc_list (K : PySem.W.Frag) : OpC K (fun xs H Q => ∃ p ys, xs = [.ref p] ∧ (SqL K H p ys ∨ SqT K H p ys) ∧ ∀ l, H l = none → Q (.ref l) (upd H l (.lst ys))) fList := fun W s ds d vs Q r sr e q => by
  unfold fList at e
  split at e
  · cases e
    cases r with
    | cons r t =>
      cases t
      obtain ⟨a, us, rfl, h, rl⟩ := r.lst
      exact ⟨a, us, rfl, .inl (.inl (.inl h)), fun l hl => q (W.new l (.lst us)) _ (Grow.new hl sr) (sr.new hl) (two_lst hl sr rl)⟩
  · cases e
    cases r with
    | cons r t =>
      cases t
      obtain ⟨a, us, rfl, h, rl⟩ := r.tup
      exact ⟨a, us, rfl, .inr h, fun l hl => q (W.new l (.lst us)) _ (Grow.new hl sr) (sr.new hl) (two_lst hl sr rl)⟩
  · cases e

/-! ### in, is -/
def rInT (K : PySem.W.Frag) : R2 := fun x y H Q => ∃ d ds, Dp K H x d ∧ Dp K H y (.tuple ds) ∧ SeqAt.shaped d = true ∧ SeqAt.shaped (.tuple ds) = true ∧ Q (.bl (ds.any fun z => PyData.eqv z d)) H
def rNotInT (K : PySem.W.Frag) : R2 := fun x y H Q => ∃ d ds, Dp K H x d ∧ Dp K H y (.tuple ds) ∧ SeqAt.shaped d = true ∧ SeqAt.shaped (.tuple ds) = true ∧ Q (.bl (!ds.any fun z => PyData.eqv z d)) H
theorem op_inT (hu : X.A.units + 65 < cLine) : OpR X (compareOp .In) (rInT X.K) := by
  intro pins s σ H x y v u Q I rx ry h
  obtain ⟨d, ds, hd, he, sd, se, q⟩ := h
  obtain ⟨as, r1⟩ := Dp.reads I d x v hd rx
  obtain ⟨bs, r2⟩ := Dp.reads I (.tuple ds) y u he ry
  exact SeqAt.in_tuple_reads r2 r1 (SeqAt.canLay_of_shaped se) (SeqAt.canLay_of_shaped sd) (room_in_shaped sd hu) ⟨.bl _, H, I, rfl, q⟩
theorem op_notInT (hu : X.A.units + 65 < cLine) : OpR X (compareOp .NotIn) (rNotInT X.K) := by
  intro pins s σ H x y v u Q I rx ry h
  obtain ⟨d, ds, hd, he, sd, se, q⟩ := h
  obtain ⟨as, r1⟩ := Dp.reads I d x v hd rx
  obtain ⟨bs, r2⟩ := Dp.reads I (.tuple ds) y u he ry
  exact SeqAt.notIn_tuple_reads r2 r1 (SeqAt.canLay_of_shaped se) (SeqAt.canLay_of_shaped sd) (room_in_shaped sd hu) ⟨.bl _, H, I, rfl, q⟩
def D.anyEq (d : D) : List D → Bool
  | [] => false
  | x :: xs => D.eqv x d || D.anyEq d xs
theorem anyEq_py (d : D) (n m : Nat) (hd : D.fine n d = true) : ∀ xs : List D, D.fineL m xs = true → ((D.pyL xs).any fun z => PyData.eqv z d.py) = D.anyEq d xs
  | [], _ => by simp [D.pyL, D.anyEq]
  | x :: xs, h => by
    simp only [D.fineL, Bool.and_eq_true] at h
    simp only [D.pyL, List.any_cons, D.anyEq]
    rw [D.eqv_py x d m n h.1 hd, anyEq_py d n m hd xs h.2]
def fIn (a b : D) : Option D := if D.fine 60 a && D.fine 60 b then (match b with
  | .lst xs => some (.bl (D.anyEq a xs))
  | .tup xs => some (.bl (D.anyEq a xs))
  | _ => none) else none
def fNotIn (a b : D) : Option D := if D.fine 60 a && D.fine 60 b then (match b with
  | .lst xs => some (.bl (!D.anyEq a xs))
  | .tup xs => some (.bl (!D.anyEq a xs))
  | _ => none) else none
theorem od_in (K : PySem.W.Frag) : OpD K (fun x y H Q => rInD K x y H Q ∨ rInT K x y H Q) fIn := fun W s d1 d2 d x y Q r1 r2 sr e q => by
  unfold fIn at e
  split at e
  · rename_i h
    rw [Bool.and_eq_true] at h
    split at e
    · rename_i xs
      cases e
      have hb := h.2
      simp only [D.fine, Bool.and_eq_true] at hb
      refine .inl ⟨_, D.pyL xs, r1.dp h.1, by have := r2.dp h.2; simpa only [D.py] using this, D.fine_shaped h.1, by have := D.fine_shaped h.2; simpa only [D.py] using this, ?_⟩
      rw [anyEq_py d1 60 _ h.1 xs hb.2]
      exact q W _ (Grow.refl W) sr (.bl _)
    · rename_i xs
      cases e
      have hb := h.2
      simp only [D.fine, Bool.and_eq_true] at hb
      refine .inr ⟨_, D.pyL xs, r1.dp h.1, by have := r2.dp h.2; simpa only [D.py] using this, D.fine_shaped h.1, by have := D.fine_shaped h.2; simpa only [D.py] using this, ?_⟩
      rw [anyEq_py d1 60 _ h.1 xs hb.2]
      exact q W _ (Grow.refl W) sr (.bl _)
    · cases e
  · cases e
theorem od_notIn (K : PySem.W.Frag) : OpD K (fun x y H Q => rNotInD K x y H Q ∨ rNotInT K x y H Q) fNotIn := fun W s d1 d2 d x y Q r1 r2 sr e q => by
  unfold fNotIn at e
  split at e
  · rename_i h
    rw [Bool.and_eq_true] at h
    split at e
    · rename_i xs
      cases e
      have hb := h.2
      simp only [D.fine, Bool.and_eq_true] at hb
      refine .inl ⟨_, D.pyL xs, r1.dp h.1, by have := r2.dp h.2; simpa only [D.py] using this, D.fine_shaped h.1, by have := D.fine_shaped h.2; simpa only [D.py] using this, ?_⟩
      rw [anyEq_py d1 60 _ h.1 xs hb.2]
      exact q W _ (Grow.refl W) sr (.bl _)
    · rename_i xs
      cases e
      have hb := h.2
      simp only [D.fine, Bool.and_eq_true] at hb
      refine .inr ⟨_, D.pyL xs, r1.dp h.1, by have := r2.dp h.2; simpa only [D.py] using this, D.fine_shaped h.1, by have := D.fine_shaped h.2; simpa only [D.py] using this, ?_⟩
      rw [anyEq_py d1 60 _ h.1 xs hb.2]
      exact q W _ (Grow.refl W) sr (.bl _)
    · cases e
  · cases e
/-- is True, is False: of truth values, of None -/
theorem op_isNB : OpR X (compareOp .Is) (fun x y H Q => ∃ b, x = .non ∧ y = .bl b ∧ Q (.bl false) H) := by
  intro pins s σ H x y v u Q I rx ry h
  obtain ⟨b, rfl, rfl, q⟩ := h
  cases (show v = Value.none from rx)
  cases (show u = Value.bool b from ry)
  exact wpAny_is_other rfl (fun z => by cases z) ⟨.bl false, H, I, rfl, q⟩
theorem op_notNB : OpR X (compareOp .IsNot) (fun x y H Q => ∃ b, x = .non ∧ y = .bl b ∧ Q (.bl true) H) := by
  intro pins s σ H x y v u Q I rx ry h
  obtain ⟨b, rfl, rfl, q⟩ := h
  cases (show v = Value.none from rx)
  cases (show u = Value.bool b from ry)
  exact wpAny_isNot_other rfl (fun z => by cases z) ⟨.bl true, H, I, rfl, q⟩
def rIsD : R2 := fun x y H Q => rIsB x y H Q ∨ (y = .non ∧ Q (.bl (decide (x = .non))) H) ∨ ∃ b, x = .non ∧ y = .bl b ∧ Q (.bl false) H
def rNotIsD : R2 := fun x y H Q => rNotB x y H Q ∨ (y = .non ∧ Q (.bl (!decide (x = .non))) H) ∨ ∃ b, x = .non ∧ y = .bl b ∧ Q (.bl true) H
theorem op_isD : OpR X (compareOp .Is) rIsD := op_isBl.or (op_isN.or op_isNB)
theorem op_notIsD : OpR X (compareOp .IsNot) rNotIsD := op_notBl.or (op_notN.or op_notNB)
def fIs (a b : D) : Option D := match b with
  | .non => some (.bl a.isN)
  | .bl k => (match a with
    | .bl j => some (.bl (decide (j = k)))
    | .non => some (.bl false)
    | _ => none)
  | _ => none
def fNotIs (a b : D) : Option D := match b with
  | .non => some (.bl (!a.isN))
  | .bl k => (match a with
    | .bl j => some (.bl (!decide (j = k)))
    | .non => some (.bl true)
    | _ => none)
  | _ => none
theorem od_is (K : PySem.W.Frag) : OpD K rIsD fIs := fun W s d1 d2 d x y Q r1 r2 sr e q => by
  unfold fIs at e
  split at e
  · exact .inr (.inl (od_isN K W s d1 _ d x y Q r1 r2 sr e q))
  · split at e
    · cases e
      exact .inl ⟨_, _, r1.bl, r2.bl, q W _ (Grow.refl W) sr (.bl _)⟩
    · cases e
      exact .inr (.inr ⟨_, r1.non, r2.bl, q W _ (Grow.refl W) sr (.bl _)⟩)
    · cases e
  · cases e
theorem od_notIs (K : PySem.W.Frag) : OpD K rNotIsD fNotIs := fun W s d1 d2 d x y Q r1 r2 sr e q => by
  unfold fNotIs at e
  split at e
  · exact .inr (.inl (od_notN K W s d1 _ d x y Q r1 r2 sr e q))
  · split at e
    · cases e
      exact .inl ⟨_, _, r1.bl, r2.bl, q W _ (Grow.refl W) sr (.bl _)⟩
    · cases e
      exact .inr (.inr ⟨_, r1.non, r2.bl, q W _ (Grow.refl W) sr (.bl _)⟩)
    · cases e
  · cases e
end
end PD
set_option maxRecDepth 100000
set_option maxHeartbeats 4000000
namespace PD
open PySem PySem.Spec PyProof.Rows L2
section
variable {X : Cx} {EX : XK} {a b c e : Expr} {pos p p2 : Pos} {rest es : List Expr}

/-! ### isinstance of a built-in class -/
def D.tyName : D → Option String
  | .non => some "NoneType"
  | .bl _ => some "bool"
  | .int _ => some "int"
  | .str _ => some "str"
  | .lst _ => some "list"
  | .tup _ => some "tuple"
  | _ => none
def isiB : String → String → Option Bool
  | "NoneType", _ => some false
  | "bool", "bool" => some true
  | "bool", "int" => some true
  | "int", "int" => some true
  | "str", "str" => some true
  | "list", "list" => some true
  | "tuple", "tuple" => some true
  | _, _ => some false
/-- the classes that are asked for -/
def isiT : List String := ["int", "bool", "str", "tuple", "list"]
theorem isi_ok {a b : String} {r : Bool} (ha : a = "NoneType" ∨ a = "bool" ∨ a = "int" ∨ a = "str" ∨ a = "list" ∨ a = "tuple") (hb : b ∈ isiT) (h : isiB a b = some r) : kitB a b = some r := by
  have hb : b = "int" ∨ b = "bool" ∨ b = "str" ∨ b = "tuple" ∨ b = "list" := by simpa [isiT] using hb
  rw [← h]
  rcases ha with rfl | rfl | rfl | rfl | rfl | rfl <;> rcases hb with rfl | rfl | rfl | rfl | rfl <;> decide +kernel
def fIsi (T : String) (d : D) : Option D := (d.tyName.bind fun t => isiB t T).map .bl
theorem rep_ty {K : PySem.W.Frag} {W : Wd} {d : D} {v : V} {t : String} (r : RepV K W d v) (h : d.tyName = some t) : TyX K W.H v (.type t) ∧ (t = "NoneType" ∨ t = "bool" ∨ t = "int" ∨ t = "str" ∨ t = "list" ∨ t = "tuple") := by
  cases r with
  | of r =>
    cases r with
    | non => cases h; exact ⟨.base .non, by simp⟩
    | bl b => cases h; exact ⟨.base (.bl b), by simp⟩
    | int i => cases h; exact ⟨.base (.int i), by simp⟩
    | str x => cases h; exact ⟨.base (.str x), by simp⟩
    | lst h' _ => cases h; exact ⟨.base (.lst (W.sub _ _ h')), by simp⟩
    | tup h' _ =>
      cases h
      refine ⟨?_, by simp⟩
      rcases h' with ⟨o, _, h'⟩ | ⟨o, its, n, h1, h2, _⟩
      · exact .fTuple (W.sub _ _ h')
      · exact .kTuple h2 h1.cls
    | cel _ => cases h
    | scr _ => cases h
    | dki _ _ _ => cases h
    | dkt _ _ _ _ _ => cases h
    | ins _ _ _ => cases h
  | own n h' _ => cases h; exact ⟨.base (.lst h'), by simp⟩
theorem de_isi {T : Str} {t : String} {m : Env → M D} (hg : Gl X "isinstance") (hm : X.mg "isinstance" = none) (hgT : Gl X T) (hmT : X.mg T = none) (hvT : bootBuiltins T = some (.type t)) (hT : t ∈ isiT) (hnT : T ≠ "__name__") (hdT : (T == ("__debug__" : Str)) = false)
    (ha : PVd X EX a m) (he : starEach [a, .Name T p2] X.env = (false, eval a X.env) :: starEach [.Name T p2] X.env) (he2 : starEach [.Name T p2] X.env = [(false, eval (.Name T p2) X.env)]) (hpl : (backTo pos (starEach [.Name T p2] X.env)).any (·.1) = false) :
    PEd X EX (.Call (.Name "isinstance" p) [a, .Name T p2] [] pos) (mOp1 (fIsi t) m) := by
  obtain ⟨ta, pa, qa⟩ := ha
  refine ⟨_, pe_callB call_isi hg hm boot_isinstance (pa_cons pa (pa_cons (pe_bltn (v := .ty t) hgT hmT hvT rfl hnT hdT) pa_nil he2) he) (by decide) (by decide) he hpl, fun B W Γ σ s Q sat sr pp => ?_⟩
  refine qa B W Γ σ s _ sat sr (Post.bind pp fun d1 s1 W1 _ g sr1 p1 x r => ?_)
  obtain ⟨d, e, w⟩ := p1.opt
  unfold fIsi at e
  cases ht : d1.tyName with
  | none => rw [ht] at e; cases e
  | some u =>
    rw [ht] at e
    cases hb : isiB u t with
    | none =>
      have e : (isiB u t).map D.bl = some d := e
      rw [hb] at e; cases e
    | some k =>
      have e : (isiB u t).map D.bl = some d := e
      rw [hb] at e; cases e
      obtain ⟨ty, hu⟩ := rep_ty r ht
      exact ⟨x, .ty t, .type u, .type t, k, rfl, .ty t, ty, kit_ty (isi_ok hu hT hb), w W1 (Grow.refl W1) sr1 _ (.bl _)⟩

/-! ### calls of defs -/
def Spec (K : PySem.W.Frag) (n : Nat) (m : List D → Store → R D) : Sp := fun vs H Q E => ∃ (W : Wd) (ds : List D) (s : Store), W.H = H ∧ SRep K W s ∧ RepL K W ds vs ∧ ds.length = n ∧ Post K E W (m ds s) (Want K Q)
def mCall (n : Nat) (m : List D → Store → R D) (ms : Env → M (List D)) : Env → M D := fun Γ s => (ms Γ s).bind fun ds s1 => if ds.length = n then m ds s1 else .bad
theorem de_call {CX : CXT} {k n : Nat} {f : Addr} {fd : FuncData} {ps : List Str} {x : Str} {m : List D → Store → R D} {ms : Env → M (List D)} (F : FnOk X.prog X.w X.K X.mg X.base CX k f fd ps (Spec X.K n m)) (hr : Room k X.A) (hg : Gl X x) (hm : X.mg x = some (.ref f)) (hk : PySem.W.keepIn X.K (.ref f) = true)
    (hb : Binds X.K fd ps []) (hx : Passes CX X EX) (ha : PAd X EX (e :: es) ms) (hdb : (x == ("__debug__" : Str)) = false) (he : starEach (e :: es) X.env = (false, eval e X.env) :: starEach es X.env) (hpl : (backTo pos (starEach es X.env)).any (·.1) = false) :
    PEd X EX (.Call (.Name x p) (e :: es) [] pos) (mCall n m ms) := by
  obtain ⟨t, pt, q⟩ := ha
  refine ⟨_, pe_call F hr hg hm hk hb .nil hx pt hdb he hpl, fun B W Γ σ s Q sat sr pp => q B W Γ σ s _ sat sr (Post.bind pp fun ds s1 W1 _ g1 sr1 p1 vs rs => ?_)⟩
  split at p1
  · rw [List.append_nil]
    exact ⟨W1, ds, s1, rfl, sr1, rs, by assumption, p1⟩
  · exact p1.elim
theorem de_call0 {CX : CXT} {k n : Nat} {f : Addr} {fd : FuncData} {ps : List Str} {x : Str} {m : List D → Store → R D} (F : FnOk X.prog X.w X.K X.mg X.base CX k f fd ps (Spec X.K n m)) (hr : Room k X.A) (hg : Gl X x) (hm : X.mg x = some (.ref f)) (hk : PySem.W.keepIn X.K (.ref f) = true)
    (hb : Binds X.K fd ps []) (hx : Passes CX X EX) (hdb : (x == ("__debug__" : Str)) = false) : PEd X EX (.Call (.Name x p) [] [] pos) (mCall n m mNil) := by
  refine ⟨_, pe_call0 F hr hg hm hk hb .nil hx hdb, fun B W Γ σ s Q sat sr pp => ?_⟩
  have pp : Post X.K EX W (if ([] : List D).length = n then m [] s else .bad) (Want X.K Q) := pp
  split at pp
  · exact ⟨W, [], s, rfl, sr, .nil, by assumption, pp⟩
  · exact pp.elim

/-! ### methods of texts -/
theorem strs_map : ∀ ys : List Str, strsOf (ys.map D.str) = some ys
  | [] => rfl
  | y :: ys => by
    show (strsOf (ys.map D.str)).map (y :: ·) = _
    rw [strs_map ys]; rfl
theorem repL_strs {K : PySem.W.Frag} {W : Wd} : ∀ ys : List Str, RepL K W (ys.map D.str) (ys.map V.str)
  | [] => .nil
  | y :: ys => .cons (.str y) (repL_strs ys)
def mStr2 (f : Str → D → Option D) (ma mb : Env → M D) : Env → M D := fun Γ s => (ma Γ s).bind fun d1 s1 => match d1 with
  | .str z => (mb Γ s1).bind fun d2 s2 => R.opt (f z d2) s2
  | _ => .bad
def fSplit (a : Str) : D → Option D
  | .str b => if (b.length == 0) = false ∧ a.length ≤ 100000 then some (.lst ((Txt.split a b).map D.str)) else none
  | _ => none
def fJoin (a : Str) : D → Option D
  | .lst ds => (strsOf ds).bind fun ys => if (ys.map (·.length)).sum + ys.length * a.length ≤ 100000 then some (.str (Txt.join a ys)) else none
  | _ => none
theorem de_str2 {f : Str → D → Option D} {r : V → List V → Hp → VK → Prop} {ce : Expr} {ta tb : TE} {ma mb : Env → M D} (hpe : PE X ce (tM1 r ta tb))
    (qa : ∀ B W Γ σ s Q, Sat X.K B W Γ σ → SRep X.K W s → Post X.K EX W (ma Γ s) (WantV X.K Q) → ta σ W.H Q) (qb : ∀ B W Γ σ s Q, Sat X.K B W Γ σ → SRep X.K W s → Post X.K EX W (mb Γ s) (WantV X.K Q) → tb σ W.H Q)
    (hr : ∀ (W : Wd) (s : Store) (z : Str) (d2 d : D) (y : V) (Q : VK), RepV X.K W d2 y → SRep X.K W s → f z d2 = some d → (∀ W' v, Grow W W' → SRep X.K W' s → Rep X.K W' d v → Q v W'.H) → r (.str z) [y] W.H Q) :
    PEd X EX ce (mStr2 f ma mb) := by
  refine ⟨_, hpe, fun B W Γ σ s Q sat sr pp => ?_⟩
  refine qa B W Γ σ s _ sat sr (Post.bind pp fun d1 s1 W1 h1 g1 sr1 p1 x rx => ?_)
  split at p1
  · rename_i z
    have := rx.str
    subst this
    refine ⟨⟨_, rfl⟩, qb B W1 Γ σ s1 _ (sat.grow g1) sr1 (Post.bind p1 fun d2 s2 W2 _ g2 sr2 p2 y ry => ?_)⟩
    obtain ⟨d, e', w⟩ := p2.opt
    exact hr W2 s2 z d2 d y Q ry sr2 e' fun W' v g s' r => w W' g s' v r
  · exact p1.elim
theorem de_split {apos : Pos} {ma mb : Env → M D} (ha : PVd X EX a ma) (hb : PVd X EX b mb) (hs : starEach [b] X.env = [(false, eval b X.env)]) (hbase : attributeBase a "split" X.env (eval a X.env) = eval a X.env) (hline : (apos.endLine == pos.line) = true) :
    PEd X EX (.Call (.Attribute a "split" apos) [b] [] pos) (mStr2 fSplit ma mb) := by
  obtain ⟨ta, pa, qa⟩ := ha
  obtain ⟨tb, pb, qb⟩ := hb
  refine de_str2 (pe_split pa pb hs hbase hline) qa qb fun W s z d2 d y Q ry sr e w => ?_
  unfold fSplit at e
  split at e
  · rename_i u
    have := ry.str
    subst this
    split at e
    · rename_i h
      cases e
      exact ⟨_, _, rfl, rfl, h.1, Nat.le_trans (Nat.add_le_add_right h.2 2) (by decide), fun p hp => w (W.new p (.lst ((Txt.split z u).map V.str))) _ (Grow.new hp sr) (sr.new hp) (two_lst hp sr (repL_strs _))⟩
    · cases e
  · cases e
theorem de_join {apos : Pos} {ma mb : Env → M D} (ha : PVd X EX a ma) (hb : PVd X EX b mb) (hs : starEach [b] X.env = [(false, eval b X.env)]) (hbase : attributeBase a "join" X.env (eval a X.env) = eval a X.env) (hline : (apos.endLine == pos.line) = true) :
    PEd X EX (.Call (.Attribute a "join" apos) [b] [] pos) (mStr2 fJoin ma mb) := by
  obtain ⟨ta, pa, qa⟩ := ha
  obtain ⟨tb, pb, qb⟩ := hb
  refine de_str2 (pe_join pa pb hs hbase hline) qa qb fun W s z d2 d y Q ry sr e w => ?_
  unfold fJoin at e
  split at e
  · rename_i ds
    cases hd : strsOf ds with
    | none => rw [hd] at e; cases e
    | some ys =>
      rw [hd] at e
      have e : (if (ys.map (·.length)).sum + ys.length * z.length ≤ 100000 then some (D.str (Txt.join z ys)) else none) = some d := e
      split at e
      · rename_i hz
        cases e
        obtain ⟨p, vs, rfl, hp, rl⟩ := ry.lst
        have := rep_strs rl hd
        subst this
        exact ⟨z, p, ys, rfl, rfl, .inl (SqL.of hp), Nat.le_trans hz (by decide), w W _ (Grow.refl W) sr (.str _)⟩
      · cases e
  · cases e

/-! ### constants of the module -/
theorem de_glob {x : Str} {d : D} {v : V} {u : Value} (hg : Gl X x) (hm : X.mg x = some u) (r : RelV v u) (hd : (x == ("__debug__" : Str)) = false) (rep : ∀ W, Rep X.K W d v) : PEd X EX (.Name x pos) (mCon d) := de_con (pe_glob hg hm r hd) rep
def idxOf (p : D → Bool) : List D → Option Nat
  | [] => none
  | d :: ds => if p d then some 0 else (idxOf p ds).map (· + 1)
theorem idxOf_some {p : D → Bool} : ∀ {ds : List D} {j : Nat}, idxOf p ds = some j → ∃ z, ds[j]? = some z ∧ p z = true ∧ ∀ m z', m < j → ds[m]? = some z' → p z' = false
  | [], j, h => by cases h
  | d :: ds, j, h => by
    unfold idxOf at h
    split at h
    · cases h
      exact ⟨d, rfl, by assumption, fun m z' hm => by omega⟩
    · rename_i hp
      cases hi : idxOf p ds with
      | none => rw [hi] at h; cases h
      | some k =>
        rw [hi] at h
        cases h
        obtain ⟨z, h1, h2, h3⟩ := idxOf_some hi
        refine ⟨z, by simpa using h1, h2, fun m z' hm e => ?_⟩
        cases m with
        | zero =>
          simp at e
          subst e
          simpa using hp
        | succ m => exact h3 m z' (by simp only [] at hm; omega) (by simpa using e)
/-- t.index(x): t a constant of texts -/
def fGIdx (ys : List Str) : D → Option D
  | .str z => (idxOf (fun d => match d with | .str y => y == z | _ => false) (ys.map D.str)).map fun j => .int (j : Nat)
  | _ => none
theorem de_gindex {x : Str} {p2 : Pos} {ys : List Str} {g : Addr} {ma : Env → M D} {apos : Pos} {o : Obj} (hg : Gl X x) (hm : X.mg x = some (.ref g)) (hdb : (x == ("__debug__" : Str)) = false) (hl : X.K.lookup g = some o) (hcl : o.cls = .type "tuple") (hdi : o.dict = none) (hq : ∀ H, SqT X.K H g (ys.map V.str)) (ha : PVd X EX a ma)
    (hs : starEach [a] X.env = [(false, eval a X.env)]) (hbase : attributeBase (.Name x p2) "index" X.env (eval (.Name x p2) X.env) = eval (.Name x p2) X.env) (hline : (apos.endLine == pos.line) = true)
    (hfew : ((backTo pos (starEach [a] X.env)).all (fun x => !x.1) && (backToKw pos (keywordEach [] X.env)).all (fun x => x.1.isSome)
      && decide ([a].length + ([] : List Keyword).length + (if ([] : List Keyword).isEmpty then 0 else 1) < 30)) = true) :
    PEd X EX (.Call (.Attribute (.Name x p2) "index" apos) [a] [] pos) (mOp1 (fGIdx ys) ma) := by
  obtain ⟨ta, pa, qa⟩ := ha
  refine ⟨_, pe_bm PySem.F.plainAttrs_tuple PySem.F.slot_tuple_index PySem.F.type_tuple_index mt_tup_index (pe_glob (v := .ref g) hg hm rfl hdb) (pa_cons pa pa_nil hs) hbase hfew hline hs (by rfl), fun B W Γ σ s Q sat sr pp => ?_⟩
  refine ⟨.inr (.inl ⟨rfl, o, hl, hcl, hdi⟩), qa B W Γ σ s _ sat sr (Post.bind pp fun d1 s1 W1 _ g1 sr1 p1 x r => ?_)⟩
  obtain ⟨d, e, w⟩ := p1.opt
  unfold fGIdx at e
  clear p1
  rename_i hh
  clear hh
  split at e
  · rename_i z
    have := r.str
    subst this
    cases hi : idxOf (fun d => match d with | .str y => y == z | _ => false) (ys.map D.str) with
    | none => rw [hi] at e; cases e
    | some j =>
      rw [hi] at e
      cases e
      obtain ⟨u, h1, h2, h3⟩ := idxOf_some hi
      rw [List.getElem?_map] at h1
      cases hy : ys[j]? with
      | none => rw [hy] at h1; cases h1
      | some y =>
        rw [hy] at h1
        cases h1
        have hyz : y = z := eq_of_beq h2
        subst hyz
        refine ⟨g, ys, y, j, rfl, rfl, hq _, hy, fun m hm e => ?_, w W1 (Grow.refl _) sr1 _ (.int _)⟩
        have := h3 m (.str y) hm (by rw [List.getElem?_map, e]; rfl)
        simp at this
  · cases e
/-- xs.index(x) of a list -/
def fLIdx (a b : D) : Option D := match a with
  | .lst ds => if D.fine 60 (.lst ds) && D.fine 60 b then (idxOf (fun z => D.eqv z b) ds).map fun j => .int (j : Nat) else none
  | _ => none
def mLIdx (ma mb : Env → M D) : Env → M D := fun Γ s => (ma Γ s).bind fun d1 s1 => match d1 with
  | .lst _ => (mb Γ s1).bind fun d2 s2 => R.opt (fLIdx d1 d2) s2
  | _ => .bad
theorem pyL_get : ∀ {ds : List D} {j : Nat}, (D.pyL ds)[j]? = ds[j]?.map D.py
  | [], j => by simp [D.pyL]
  | d :: ds, 0 => by simp [D.pyL]
  | d :: ds, j + 1 => by simp only [D.pyL, List.getElem?_cons_succ]; exact pyL_get
theorem fineL_get {n : Nat} : ∀ {ds : List D} {j : Nat} {d : D}, D.fineL n ds = true → ds[j]? = some d → D.fine n d = true
  | [], _, _, _, h => by simp at h
  | e :: ds, 0, d, h, h' => by
    simp only [D.fineL, Bool.and_eq_true] at h
    simp at h'; subst h'; exact h.1
  | e :: ds, j + 1, d, h, h' => by
    simp only [D.fineL, Bool.and_eq_true] at h
    exact fineL_get h.2 (by simpa using h')
theorem de_lindex {apos : Pos} {ma mb : Env → M D} (hu : X.A.units + 65 < cLine) (ha : PVd X EX a ma) (hb : PVd X EX b mb) (hs : starEach [b] X.env = [(false, eval b X.env)]) (hbase : attributeBase a "index" X.env (eval a X.env) = eval a X.env) (hline : (apos.endLine == pos.line) = true)
    (hfew : ((backTo pos (starEach [b] X.env)).all (fun x => !x.1) && (backToKw pos (keywordEach [] X.env)).all (fun x => x.1.isSome)
      && decide ([b].length + ([] : List Keyword).length + (if ([] : List Keyword).isEmpty then 0 else 1) < 30)) = true) :
    PEd X EX (.Call (.Attribute a "index" apos) [b] [] pos) (mLIdx ma mb) := by
  obtain ⟨ta, pa, qa⟩ := ha
  obtain ⟨tb, pb, qb⟩ := hb
  refine ⟨_, pe_bm PySem.F.plainAttrs_list PySem.F.slot_list_index PySem.F.type_list_index (mt_indexD hu) pa (pa_cons pb pa_nil hs) hbase hfew hline hs (by rfl), fun B W Γ σ s Q sat sr pp => ?_⟩
  refine qa B W Γ σ s _ sat sr (Post.bind pp fun d1 s1 W1 hh g1 sr1 p1 x rx => ?_)
  clear hh
  split at p1
  · rename_i ds
    obtain ⟨q, vs, rfl, hq, rl⟩ := rx.lst
    refine ⟨.inl ⟨rfl, vs, SqL.of hq⟩, qb B W1 Γ σ s1 _ (sat.grow g1) sr1 (Post.bind p1 fun d2 s2 W2 _ g2 sr2 p2 y ry => ?_)⟩
    obtain ⟨d, e, w⟩ := p2.opt
    have e : (if (D.fine 60 (.lst ds) && D.fine 60 d2) = true then (idxOf (fun z => D.eqv z d2) ds).map fun j => D.int (j : Nat) else none) = some d := e
    · split at e
      · rename_i hf
        simp only [Bool.and_eq_true] at hf
        cases hi : idxOf (fun z => D.eqv z d2) ds with
        | none => rw [hi] at e; cases e
        | some j =>
          rw [hi] at e
          cases e
          obtain ⟨z, h1, h2, h3⟩ := idxOf_some hi
          have fl : D.fineL 59 ds = true := by
            have := hf.1
            simp only [D.fine, Bool.and_eq_true] at this
            exact this.2
          refine ⟨q, y, d2.py, D.pyL ds, j, z.py, rfl, rfl, ?_, ry.dp hf.2, D.fine_shaped (d := .lst ds) hf.1, D.fine_shaped hf.2, by rw [pyL_get, h1]; rfl, ?_, fun m z' hm hz => ?_, w W2 (Grow.refl _) sr2 _ (.int _)⟩
          · exact (rx.grow g2).dp (d := .lst ds) hf.1
          · rw [D.eqv_py z d2 _ _ (fineL_get fl h1) hf.2]; exact h2
          · rw [pyL_get] at hz
            cases hz' : ds[m]? with
            | none => rw [hz'] at hz; cases hz
            | some u =>
              rw [hz'] at hz
              cases hz
              rw [D.eqv_py u d2 _ _ (fineL_get fl hz') hf.2]
              exact h3 m u hm hz'
      · cases e
  · exact p1.elim

/-! ### defs that hand out a new list -/
def SpecO (K : PySem.W.Frag) (n : Nat) (m : List D → Store → R (List D)) : Sp := fun vs H Q E => ∃ (W : Wd) (ds : List D) (s : Store), W.H = H ∧ SRep K W s ∧ RepL K W ds vs ∧ ds.length = n ∧ Post K E W (m ds s) (WantO K W Q)
def mCallO (n : Nat) (m : List D → Store → R (List D)) (ms : Env → M (List D)) : Env → M (List D) := fun Γ s => (ms Γ s).bind fun ds s1 => if ds.length = n then m ds s1 else .bad
theorem do_call {CX : CXT} {k n : Nat} {f : Addr} {fd : FuncData} {ps : List Str} {x : Str} {m : List D → Store → R (List D)} {ms : Env → M (List D)} (F : FnOk X.prog X.w X.K X.mg X.base CX k f fd ps (SpecO X.K n m)) (hr : Room k X.A) (hg : Gl X x) (hm : X.mg x = some (.ref f)) (hk : PySem.W.keepIn X.K (.ref f) = true)
    (hb : Binds X.K fd ps []) (hx : Passes CX X EX) (ha : PAd X EX (e :: es) ms) (hdb : (x == ("__debug__" : Str)) = false) (he : starEach (e :: es) X.env = (false, eval e X.env) :: starEach es X.env) (hpl : (backTo pos (starEach es X.env)).any (·.1) = false) :
    POd X EX (.Call (.Name x p) (e :: es) [] pos) (mCallO n m ms) := by
  obtain ⟨t, pt, q⟩ := ha
  refine ⟨_, pe_call F hr hg hm hk hb .nil hx pt hdb he hpl, fun B W Γ σ s Q sat sr pp => q B W Γ σ s _ sat sr (Post.bind pp fun ds s1 W1 _ g1 sr1 p1 vs rs => ?_)⟩
  split at p1
  · rw [List.append_nil]
    refine ⟨W1, ds, s1, rfl, sr1, rs, by assumption, p1.mono fun W2 s2 es _ g2 _ w p us h0 h1 h2 h3 r => w p us ?_ h1 h2 h3 r⟩
    cases h : W.H p with
    | none => rfl
    | some o => exact absurd h0 (g1.t p (by rw [h]; simp))
  · exact p1.elim
/-! ### displays, list(..), + as new lists -/
def mLstO (ms : Env → M (List D)) : Env → M (List D) := fun Γ s => (ms Γ s).bind fun ds s1 => if ds.length ≤ 100000 then .ok ds s1 else .bad
theorem do_lst {ms : Env → M (List D)} (h : PAd X EX es ms) : POd X EX (.List es pos) (mLstO ms) := by
  obtain ⟨t, p, q⟩ := h
  refine ⟨_, pe_lst p, fun B W Γ σ s Q sat sr pp => q B W Γ σ s _ sat sr (Post.bind pp fun ds s1 W1 _ g1 sr1 p1 vs rs => ?_)⟩
  split at p1
  · rename_i hl
    refine ⟨Nat.le_trans (by rw [← rs.len]; exact hl) (show 100000 ≤ sizeLine by decide), fun p hp => ?_⟩
    have hF := Wd.fnone hp
    refine p1 (W1.put p (.lst vs) hF) ((Grow.refl W1).put hF hp) (sr1.put hF (sr1.notA hp)) p vs ?_ upd_same hF (sr1.notA hp) (rs.put hF)
    cases h : W.H p with
    | none => rfl
    | some o => exact absurd hp (g1.t p (by rw [h]; simp))
  · exact p1.elim
end
end PD
set_option maxRecDepth 100000
set_option maxHeartbeats 4000000
namespace PD
open PySem PySem.Spec PyProof.Rows L2
section
variable {X : Cx} {EX : XK} {a b c e : Expr} {pos p p2 : Pos} {rest es : List Expr}
/-! ### xs.count(x) of a list -/
def rCountD (K : PySem.W.Frag) : V → List V → Hp → VK → Prop := fun x xs H Q => ∃ (a : Addr) (y : V) (d : PyData) (ds : List PyData), x = V.ref a ∧ xs = [y] ∧ Dp K H (V.ref a) (.list ds) ∧ Dp K H y d ∧
  SeqAt.shaped (.list ds) = true ∧ SeqAt.shaped d = true ∧ Q (.int ((ds.countP fun z => PyData.eqv z d : Nat) : Int)) H
theorem mt_countD (hu : X.A.units + 65 < cLine) : MtR X "list.count" (rCountD X.K) := by
  intro pins s σ H x xs v us Q I rx rxs h
  obtain ⟨a, y, d, ds, rfl, rfl, hl, hy, sl, sd, q⟩ := h
  cases rx
  cases rxs with
  | cons ry rt =>
    rename_i uy ut
    cases rt
    obtain ⟨bs, r1⟩ := Dp.reads I d y uy hy ry
    have hxs : PyData.canLayAll0 ds = true := SeqAt.canLay_of_shaped sl
    have hroom : X.A.units + 1 + min (PyData.depthAll ds) d.depth < cLine := room_in_shaped sd hu
    cases hl with
    | lst hs ha =>
      obtain ⟨its, rv, ⟨⟨cls, dd, data, sls⟩, n, ho, hc, hdn, hdt⟩, hlen⟩ := I.list hs
      simp only at hc hdt
      subst hc hdt
      obtain ⟨as, h4⟩ := Dp.readsAll I ds _ its ha rv
      have hmap : its.map (SeqAt.readOf s.heap) = ds := SeqAt.readsAll_map ds its as hxs h4
      refine call_meets PySem.F.slot_list_count ⟨_, ho, rfl⟩ PySem.F.entry_list_count (PySem.F.args_list_count_2 _ _)
        (SeqAt.list_countAt a its.toArray n dd sls uy (fun u => PyData.eqv (SeqAt.readOf s.heap u) d)) ⟨ho, SeqAt.items_eqAt (vs := its.toArray) (show ReadsAll s.heap its.toArray.toList ds as from h4) r1 hxs (SeqAt.canLay_of_shaped sd) hroom, ?_⟩
      have ec : its.toArray.toList.countP (fun u => PyData.eqv (SeqAt.readOf s.heap u) d) = ds.countP fun z => PyData.eqv z d := by
        rw [← hmap, List.countP_map]
        rfl
      refine ⟨.int ((ds.countP fun z => PyData.eqv z d : Nat) : Int), H, I.tok _, ⟨s.toks, ?_⟩, q⟩
      show Value.int ((its.toArray.toList.countP (fun u => PyData.eqv (SeqAt.readOf s.heap u) d) : Nat) : Int) s.toks = _
      rw [ec]
def D.countEq (d : D) : List D → Nat
  | [] => 0
  | x :: xs => (if D.eqv x d then 1 else 0) + D.countEq d xs
theorem countEq_py (d : D) (n m : Nat) (hd : D.fine n d = true) : ∀ xs : List D, D.fineL m xs = true → ((D.pyL xs).countP fun z => PyData.eqv z d.py) = D.countEq d xs
  | [], _ => by simp [D.pyL, D.countEq]
  | x :: xs, h => by
    simp only [D.fineL, Bool.and_eq_true] at h
    simp only [D.pyL, List.countP_cons, D.countEq]
    rw [D.eqv_py x d m n h.1 hd, countEq_py d n m hd xs h.2, Nat.add_comm]
def fLCnt (a b : D) : Option D := match a with
  | .lst ds => if D.fine 60 (.lst ds) && D.fine 60 b then some (.int (D.countEq b ds : Nat)) else none
  | _ => none
def mLCnt (ma mb : Env → M D) : Env → M D := fun Γ s => (ma Γ s).bind fun d1 s1 => match d1 with
  | .lst _ => (mb Γ s1).bind fun d2 s2 => R.opt (fLCnt d1 d2) s2
  | _ => .bad
theorem de_lcount {apos : Pos} {ma mb : Env → M D} (hu : X.A.units + 65 < cLine) (ha : PVd X EX a ma) (hb : PVd X EX b mb) (hs : starEach [b] X.env = [(false, eval b X.env)]) (hbase : attributeBase a "count" X.env (eval a X.env) = eval a X.env) (hline : (apos.endLine == pos.line) = true)
    (hfew : ((backTo pos (starEach [b] X.env)).all (fun x => !x.1) && (backToKw pos (keywordEach [] X.env)).all (fun x => x.1.isSome)
      && decide ([b].length + ([] : List Keyword).length + (if ([] : List Keyword).isEmpty then 0 else 1) < 30)) = true) :
    PEd X EX (.Call (.Attribute a "count" apos) [b] [] pos) (mLCnt ma mb) := by
  obtain ⟨ta, pa, qa⟩ := ha
  obtain ⟨tb, pb, qb⟩ := hb
  refine ⟨_, pe_bm PySem.F.plainAttrs_list PySem.F.slot_list_count PySem.F.type_list_count (mt_countD hu) pa (pa_cons pb pa_nil hs) hbase hfew hline hs (by rfl), fun B W Γ σ s Q sat sr pp => ?_⟩
  refine qa B W Γ σ s _ sat sr (Post.bind pp fun d1 s1 W1 hh g1 sr1 p1 x rx => ?_)
  clear hh
  split at p1
  · rename_i ds
    obtain ⟨q, vs, rfl, hq, rl⟩ := rx.lst
    refine ⟨.inl ⟨rfl, vs, SqL.of hq⟩, qb B W1 Γ σ s1 _ (sat.grow g1) sr1 (Post.bind p1 fun d2 s2 W2 _ g2 sr2 p2 y ry => ?_)⟩
    obtain ⟨d, e, w⟩ := p2.opt
    have e : (if (D.fine 60 (.lst ds) && D.fine 60 d2) = true then some (D.int (D.countEq d2 ds : Nat)) else none) = some d := e
    split at e
    · rename_i hf
      simp only [Bool.and_eq_true] at hf
      cases e
      have fl : D.fineL 59 ds = true := by
        have := hf.1
        simp only [D.fine, Bool.and_eq_true] at this
        exact this.2
      refine ⟨q, y, d2.py, D.pyL ds, rfl, rfl, (rx.grow g2).dp (d := .lst ds) hf.1, ry.dp hf.2, D.fine_shaped (d := .lst ds) hf.1, D.fine_shaped hf.2, ?_⟩
      rw [countEq_py d2 60 59 hf.2 ds fl]
      exact w W2 (Grow.refl _) sr2 _ (.int _)
    · cases e
  · exact p1.elim
/-! ### t.index(x), t a tuple made in the run -/
theorem PE.or {t1 t2 : TE} (h1 : PE X e t1) (h2 : PE X e t2) : PE X e (fun σ H Q => t1 σ H Q ∨ t2 σ H Q) := ⟨fun pins s σ H Q I q => q.elim (h1.run pins s σ H Q I) (h2.run pins s σ H Q I)⟩
def rIndexT (K : PySem.W.Frag) : V → List V → Hp → VK → Prop := fun x xs H Q => ∃ (p : Addr) (y : V) (d : PyData) (ds : List PyData) (j : Nat) (z : PyData), x = V.ref p ∧ xs = [y] ∧ Dp K H (V.ref p) (.tuple ds) ∧ Dp K H y d ∧
  SeqAt.shaped (.tuple ds) = true ∧ SeqAt.shaped d = true ∧ ds[j]? = some z ∧ PyData.eqv z d = true ∧ (∀ (k : Nat) (u : PyData), k < j → ds[k]? = some u → PyData.eqv u d = false) ∧ Q (.int (j : Nat)) H
theorem mt_indexT (hu : X.A.units + 65 < cLine) : MtR X "tuple.index" (rIndexT X.K) := by
  intro pins s σ H x xs v us Q I rx rxs h
  obtain ⟨p, y, d, ds, j, z, rfl, rfl, hl, hy, sl, sd, hz, hzj, hno, q⟩ := h
  cases rx
  obtain ⟨uy, rfl, ry⟩ := vals1 rxs
  obtain ⟨bs, r1⟩ := Dp.reads I d y uy hy ry
  have ok : PyData.canLayAll0 ds = true := SeqAt.canLay_of_shaped sl
  have room : X.A.units + 1 + min (PyData.depthAll ds) d.depth < cLine := room_in_shaped sd hu
  cases hl with
  | tup hs ha =>
    obtain ⟨its, rv, ⟨⟨cls, dd, data, sls⟩, ho, hc, n, hdt⟩, hlen⟩ := I.tuple hs
    simp only at hc hdt
    subst hc hdt
    obtain ⟨as, h4⟩ := Dp.readsAll I ds _ its ha rv
    have hm : its.map (SeqAt.readOf s.heap) = ds := SeqAt.readsAll_map ds its as ok h4
    have place : ∀ (k : Nat) (hk : k < its.toArray.size), ds[k]? = some (SeqAt.readOf s.heap its.toArray[k]) := fun k hk => by
      have hk' : k < its.length := by simpa using hk
      rw [← hm, List.getElem?_map, List.getElem?_eq_getElem hk']
      simp
    have hj : j < its.toArray.size := by
      have := (List.getElem?_eq_some_iff.mp hz).1
      rw [← hm, List.length_map] at this
      simpa using this
    refine call_meets PySem.F.slot_tuple_index ⟨_, ho, rfl⟩ PySem.F.entry_tuple_index (PySem.F.args_tuple_index_2 _ _)
      (TI.tuple_indexAt p its.toArray n dd sls uy (fun u => PyData.eqv (SeqAt.readOf s.heap u) d) j hj ?_ ?_)
      ⟨ho, SeqAt.items_eqAt (vs := its.toArray) (show ReadsAll s.heap its.toArray.toList ds as from h4) r1 ok (SeqAt.canLay_of_shaped sd) room, ⟨.int (j : Nat), H, I.tok _, ⟨_, rfl⟩, q⟩⟩
    · have e := place j hj
      rw [hz] at e
      cases e
      exact hzj
    · exact fun k hk hkj => hno k _ hkj (place k hk)
/-- the call of a method of a tuple made in the run -/
def tBMT (K : PySem.W.Frag) (r : V → List V → Hp → VK → Prop) (to : TE) (t : TA) : TE := fun σ H Q => to σ H fun x H1 => (∃ p ys, x = .ref p ∧ SqD K H1 p ys) ∧ t σ H1 fun xs H2 => r x xs H2 Q
theorem pe_bmT {o : Expr} {to : TE} {t : TA} {name : Str} {apos cpos : Pos} {id : String} {r : V → List V → Hp → VK → Prop} (pa : PlainAttrs "tuple") (slot : Slot "tuple" name id) (hty : typeOf (.builtin id) = pure (.type "method_descriptor")) (hm : MtR X id r) (ho : PE X o to) (ha : PA X [e] t)
    (hbase : attributeBase o name X.env (eval o X.env) = eval o X.env)
    (hfew : ((backTo cpos (starEach [e] X.env)).all (fun x => !x.1) && (backToKw cpos (keywordEach [] X.env)).all (fun x => x.1.isSome)
      && decide ([e].length + ([] : List Keyword).length + (if ([] : List Keyword).isEmpty then 0 else 1) < 30)) = true)
    (hline : (apos.endLine == cpos.line) = true) (hs : starEach [e] X.env = [(false, eval e X.env)]) :
    PE X (.Call (.Attribute o name apos) [e] [] cpos) (tBMT X.K r to t) := by
  refine ⟨fun pins s σ H Q I h => ?_⟩
  refine wpAny_Call_method_late hbase hfew hline rfl (thn (ho.run pins s σ H _ I h) fun v s1 ⟨x, H1, I1, r1, ty, q1⟩ => ?_)
  obtain ⟨p, ys, rfl, sq⟩ := ty
  cases r1
  have known : ∃ ob, s1.heap.get? p = some ob ∧ TOb ob := by
    rcases sq with ⟨ob, tob, h⟩ | ⟨ob, its, n, tob, h, _⟩
    · exact ⟨ob, (I1.hok p _ h).1, tob⟩
    · exact ⟨ob, I1.kIn p ob h, tob⟩
  obtain ⟨ob, hob, tob⟩ := known
  refine ⟨"tuple", id, pa, slot, hty, ⟨ob, hob, tob.cls⟩, fun a e => ?_, ?_⟩
  · cases e
    exact ⟨ob, hob, tob.dict⟩
  · have hA := ha.run cpos pins s1 σ H1 _ I1 q1
    rw [hs] at hA ⊢
    refine Calls.callWith_builtin (by rfl) (Calls.evalArgs_plain ?_)
    exact thn hA fun us s2 ⟨vs, H2, I2, r2, q2⟩ => hm pins s2 σ H2 (.ref p) vs _ us Q I2 rfl r2 q2
def fXIdx (a b : D) : Option D := match a with
  | .lst ds => if D.fine 60 (.lst ds) && D.fine 60 b then (idxOf (fun z => D.eqv z b) ds).map fun j => .int (j : Nat) else none
  | .tup ds => if D.fine 60 (.tup ds) && D.fine 60 b then (idxOf (fun z => D.eqv z b) ds).map fun j => .int (j : Nat) else none
  | _ => none
/-- xs.index(x), a list's or a tuple's -/
def mXIdx (ma mb : Env → M D) : Env → M D := fun Γ s => (ma Γ s).bind fun d1 s1 => match d1 with
  | .lst ds => (mb Γ s1).bind fun d2 s2 => R.opt (fXIdx (.lst ds) d2) s2
  | .tup ds => (mb Γ s1).bind fun d2 s2 => R.opt (fXIdx (.tup ds) d2) s2
  | _ => .bad
theorem de_xindex {apos : Pos} {ma mb : Env → M D} (hu : X.A.units + 65 < cLine) (ha : PVd X EX a ma) (hb : PVd X EX b mb) (hs : starEach [b] X.env = [(false, eval b X.env)]) (hbase : attributeBase a "index" X.env (eval a X.env) = eval a X.env) (hline : (apos.endLine == pos.line) = true)
    (hfew : ((backTo pos (starEach [b] X.env)).all (fun x => !x.1) && (backToKw pos (keywordEach [] X.env)).all (fun x => x.1.isSome)
      && decide ([b].length + ([] : List Keyword).length + (if ([] : List Keyword).isEmpty then 0 else 1) < 30)) = true) :
    PEd X EX (.Call (.Attribute a "index" apos) [b] [] pos) (mXIdx ma mb) := by
  obtain ⟨t1, p1, q1⟩ := de_lindex (EX := EX) (pos := pos) (apos := apos) hu ha hb hs hbase hline hfew
  obtain ⟨ta, pa, qa⟩ := ha
  obtain ⟨tb, pb, qb⟩ := hb
  refine ⟨_, PE.or p1 (pe_bmT PySem.F.plainAttrs_tuple PySem.F.slot_tuple_index PySem.F.type_tuple_index (mt_indexT hu) pa (pa_cons pb pa_nil hs) hbase hfew hline hs), fun B W Γ σ s Q sat sr pp => ?_⟩
  cases hma : ma Γ s with
  | bad =>
    unfold mXIdx at pp
    rw [hma] at pp
    exact pp.elim
  | er e s1 =>
    refine .inl (q1 B W Γ σ s Q sat sr ?_)
    unfold mXIdx at pp
    unfold mLIdx
    rw [hma] at pp ⊢
    exact pp
  | ok d1 s1 =>
    have pp0 := pp
    unfold mXIdx at pp0
    rw [hma] at pp0
    cases d1 with
    | lst ds =>
      refine .inl (q1 B W Γ σ s Q sat sr ?_)
      unfold mLIdx
      rw [hma]
      exact pp0
    | tup ds =>
      refine .inr (qa B W Γ σ s _ sat sr ?_)
      rw [hma]
      refine fun W1 g1 sr1 x rx => ?_
      have p1 : Post X.K EX W1 ((mb Γ s1).bind fun d2 s2 => R.opt (fXIdx (.tup ds) d2) s2) (Want X.K Q) := Post.grow g1 pp0
      have hx := rx
      cases rx with
      | of rx =>
        cases rx with
        | tup sq rl =>
          rename_i p ys
          refine ⟨⟨p, ys, rfl, sq.ex W1.sub⟩, qb B W1 Γ σ s1 _ (sat.grow g1) sr1 (Post.bind p1 fun d2 s2 W2 _ g2 sr2 p2 y ry => ?_)⟩
          obtain ⟨d, e, w⟩ := p2.opt
          have e : (if (D.fine 60 (.tup ds) && D.fine 60 d2) = true then (idxOf (fun z => D.eqv z d2) ds).map fun j => D.int (j : Nat) else none) = some d := e
          split at e
          · rename_i hf
            simp only [Bool.and_eq_true] at hf
            cases hi : idxOf (fun z => D.eqv z d2) ds with
            | none => rw [hi] at e; cases e
            | some j =>
              rw [hi] at e
              cases e
              obtain ⟨z, h1, h2, h3⟩ := idxOf_some hi
              have fl : D.fineL 59 ds = true := by
                have := hf.1
                simp only [D.fine, Bool.and_eq_true] at this
                exact this.2
              refine ⟨p, y, d2.py, D.pyL ds, j, z.py, rfl, rfl, (hx.grow g2).dp (d := .tup ds) hf.1, ry.dp hf.2, D.fine_shaped (d := .tup ds) hf.1, D.fine_shaped hf.2, by rw [pyL_get, h1]; rfl, ?_, fun m z' hm hz => ?_, w W2 (Grow.refl _) sr2 _ (.int _)⟩
              · rw [D.eqv_py z d2 _ _ (fineL_get fl h1) hf.2]; exact h2
              · rw [pyL_get] at hz
                cases hz' : ds[m]? with
                | none => rw [hz'] at hz; cases hz
                | some u =>
                  rw [hz'] at hz
                  cases hz
                  rw [D.eqv_py u d2 _ _ (fineL_get fl hz') hf.2]
                  exact h3 m u hm hz'
          · cases e
    | _ => exact pp0.elim
/-! ### a + b of lists, a new list -/
def mCatO (ma mb : Env → M D) : Env → M (List D) := fun Γ s => (ma Γ s).bind fun d1 s1 => (mb Γ s1).bind fun d2 s2 => match d1, d2 with
  | .lst xs, .lst ys => if xs.length + ys.length ≤ 100000 then .ok (xs ++ ys) s2 else .bad
  | _, _ => .bad
theorem do_cat {ma mb : Env → M D} (ha : PVd X EX a ma) (hb : PVd X EX b mb) : POd X EX (.BinOp a .Add b pos) (mCatO ma mb) := by
  obtain ⟨ta, pa, qa⟩ := ha
  obtain ⟨tb, pb, qb⟩ := hb
  refine ⟨_, pe_op op_addD pa pb, fun B W Γ σ s Q sat sr pp => ?_⟩
  refine qa B W Γ σ s _ sat sr (Post.bind pp fun d1 s1 W1 hh1 g1 sr1 p1 x rx => ?_)
  refine qb B W1 Γ σ s1 _ (sat.grow g1) sr1 (Post.bind p1 fun d2 s2 W2 hh2 g2 sr2 p2 y ry => ?_)
  clear hh1 hh2
  split at p2
  · rename_i xs ys
    split at p2
    · rename_i hl
      obtain ⟨a1, v1, e1, h1, l1⟩ := (rx.grow g2).lst
      obtain ⟨a2, v2, e2, h2, l2⟩ := ry.lst
      have := l1.len
      have := l2.len
      refine .inr (.inr (.inr (.inl ⟨a1, a2, v1, v2, e1, e2, h1, h2, Evl.sz_of (by omega), fun p hp => ?_⟩)))
      have hF := Wd.fnone hp
      refine p2 (W2.put p (.lst (v1 ++ v2)) hF) ((Grow.refl W2).put hF hp) (sr2.put hF (sr2.notA hp)) p (v1 ++ v2) ?_ upd_same hF (sr2.notA hp) ((l1.app l2).put hF)
      cases h : W.H p with
      | none => rfl
      | some o => exact absurd hp ((g1.trans g2).t p (by rw [h]; simp))
    · exact p2.elim
  · exact p2.elim
/-! ### a * n of a list, a new list -/
def mRepO (ma mb : Env → M D) : Env → M (List D) := fun Γ s => (ma Γ s).bind fun d1 s1 => (mb Γ s1).bind fun d2 s2 => match d1, d2 with
  | .lst xs, .int k => if -1000 ≤ k ∧ k ≤ 1000 ∧ xs.length ≤ 100 then .ok (List.replicate k.toNat xs).flatten s2 else .bad
  | _, _ => .bad
theorem do_rep {ma mb : Env → M D} (ha : PVd X EX a ma) (hb : PVd X EX b mb) : POd X EX (.BinOp a .Mult b pos) (mRepO ma mb) := by
  obtain ⟨ta, pa, qa⟩ := ha
  obtain ⟨tb, pb, qb⟩ := hb
  refine ⟨_, pe_op op_mulD pa pb, fun B W Γ σ s Q sat sr pp => ?_⟩
  refine qa B W Γ σ s _ sat sr (Post.bind pp fun d1 s1 W1 hh1 g1 sr1 p1 x rx => ?_)
  refine qb B W1 Γ σ s1 _ (sat.grow g1) sr1 (Post.bind p1 fun d2 s2 W2 hh2 g2 sr2 p2 y ry => ?_)
  clear hh1 hh2
  split at p2
  · rename_i xs k
    split at p2
    · rename_i h
      obtain ⟨a1, v1, e1, h1, l1⟩ := (rx.grow g2).lst
      have ll := l1.len
      refine .inr (.inl ⟨a1, k, v1, e1, ry.int, h1, by omega, by omega, Evl.sz_of ?_, fun p hp => ?_⟩)
      · rw [← ll]
        exact Nat.le_trans (Nat.mul_le_mul h.2.2 (show k.toNat ≤ 1000 by omega)) (by decide)
      have hF := Wd.fnone hp
      refine p2 (W2.put p (.lst (List.replicate k.toNat v1).flatten) hF) ((Grow.refl W2).put hF hp) (sr2.put hF (sr2.notA hp)) p (List.replicate k.toNat v1).flatten ?_ upd_same hF (sr2.notA hp) ((l1.rep _).put hF)
      cases h : W.H p with
      | none => rfl
      | some o => exact absurd hp ((g1.trans g2).t p (by rw [h]; simp))
    · exact p2.elim
  · exact p2.elim
end
end PD
set_option maxRecDepth 100000
set_option maxHeartbeats 4000000
namespace PD
open PySem PySem.Spec PyProof.Rows L2
/-! ### sorted of tuples of ints of any lengths, the first of which is empty -/
def lexL : List Int → List Int → Bool
  | [], [] => false
  | [], _ :: _ => true
  | _ :: _, [] => false
  | x :: xs, y :: ys => if x = y then lexL xs ys else decide (x < y)
theorem lexL_irr : ∀ xs, lexL xs xs = false
  | [] => rfl
  | x :: xs => by rw [lexL, if_pos rfl]; exact lexL_irr xs
theorem lexL_asym : ∀ xs ys, lexL xs ys = true → lexL ys xs = false
  | [], [], h => nomatch h
  | [], _ :: _, _ => rfl
  | _ :: _, [], h => nomatch h
  | x :: xs, y :: ys, h => by
    rw [lexL] at h ⊢
    by_cases e : x = y
    · rw [if_pos e] at h
      rw [if_pos e.symm]; exact lexL_asym xs ys h
    · rw [if_neg e] at h
      rw [if_neg (Ne.symm e)]
      simp at h ⊢; omega
theorem lexL_tr : ∀ xs ys zs, lexL ys xs = false → lexL zs ys = false → lexL zs xs = false
  | [], [], zs, _, h2 => h2
  | [], _ :: _, [], _, h2 => rfl
  | [], y :: ys, z :: zs, _, _ => rfl
  | x :: xs, [], _, h1, _ => nomatch h1
  | x :: xs, y :: ys, [], _, h2 => nomatch h2
  | x :: xs, y :: ys, z :: zs, h1, h2 => by
    rw [lexL] at h1 h2 ⊢
    by_cases e1 : y = x
    · rw [if_pos e1] at h1
      subst e1
      by_cases e2 : z = y
      · rw [if_pos e2] at h2 ⊢
        exact lexL_tr xs ys zs h1 h2
      · rw [if_neg e2] at h2 ⊢; exact h2
    · rw [if_neg e1] at h1
      simp at h1
      by_cases e2 : z = y
      · subst e2
        rw [if_neg e1]; simpa using h1
      · rw [if_neg e2] at h2
        simp at h2
        have : ¬z = x := by omega
        rw [if_neg this]
        simp; omega
theorem lexL_anti : ∀ xs ys, lexL xs ys = false → lexL ys xs = false → xs = ys
  | [], [], _, _ => rfl
  | [], _ :: _, h, _ => nomatch h
  | _ :: _, [], _, h => nomatch h
  | x :: xs, y :: ys, h1, h2 => by
    rw [lexL] at h1 h2
    by_cases e : x = y
    · rw [if_pos e] at h1
      rw [if_pos e.symm] at h2
      rw [e, lexL_anti xs ys h1 h2]
    · rw [if_neg e] at h1
      rw [if_neg (Ne.symm e)] at h2
      simp at h1 h2
      exact absurd (by omega) e
theorem lexAt_lex (ns ms : List Int) : ∀ k i, i + k = min ns.length ms.length → Ob.lexAt (fun j => decide (ns.getD j 0 = ms.getD j 0)) (fun j => decide (ns.getD j 0 < ms.getD j 0)) (decide (ns.length < ms.length)) i k = lexL (ns.drop i) (ms.drop i)
  | 0, i, h => by
    rw [Ob.lexAt_zero]
    by_cases e : ns.length < ms.length
    · rw [decide_eq_true e, List.drop_of_length_le (by omega)]
      have : 0 < (ms.drop i).length := by rw [List.length_drop]; omega
      cases hm : ms.drop i with
      | nil => rw [hm] at this; simp at this
      | cons _ _ => rfl
    · rw [decide_eq_false e]
      have : (ms.drop i) = [] := List.drop_of_length_le (by omega)
      rw [this]
      cases ns.drop i <;> rfl
  | k + 1, i, h => by
    have h1 : i < ns.length := by omega
    have h2 : i < ms.length := by omega
    rw [Ob.lexAt_succ, List.drop_eq_getElem_cons h1, List.drop_eq_getElem_cons h2, lexL]
    have g1 : ns.getD i 0 = ns[i] := by rw [List.getD_eq_getElem?_getD, List.getElem?_eq_getElem h1]; rfl
    have g2 : ms.getD i 0 = ms[i] := by rw [List.getD_eq_getElem?_getD, List.getElem?_eq_getElem h2]; rfl
    rw [g1, g2]
    by_cases e : ns[i] = ms[i]
    · rw [if_pos (decide_eq_true e), if_pos e]
      exact lexAt_lex ns ms k (i + 1) (by omega)
    · rw [if_neg (by simpa using e), if_neg e]
theorem swo_lexL {α : Type} (k : α → List Int) : SrtO.Swo fun x y => lexL (k x) (k y) := ⟨fun x y h => lexL_asym _ _ h, fun x y z h1 h2 => lexL_tr _ _ _ h1 h2⟩
def insL (x : List Int) : List (List Int) → List (List Int)
  | [] => [x]
  | y :: ys => if lexL y x = true then y :: insL x ys else x :: y :: ys
def sortL : List (List Int) → List (List Int)
  | [] => []
  | x :: xs => insL x (sortL xs)
theorem insL_perm (x : List Int) : ∀ ys, (insL x ys).Perm (x :: ys)
  | [] => .refl _
  | y :: ys => by
    unfold insL
    split
    · exact ((insL_perm x ys).cons y).trans (.swap x y ys)
    · exact .refl _
theorem sortL_perm : ∀ xs, (sortL xs).Perm xs
  | [] => .refl _
  | x :: xs => (insL_perm x _).trans ((sortL_perm xs).cons x)
theorem insL_srt (x : List Int) : ∀ ys, SrtO.Srtd lexL ys → SrtO.Srtd lexL (insL x ys)
  | [], _ => List.pairwise_singleton _ _
  | y :: ys, h => by
    have ⟨h1, h2⟩ := List.pairwise_cons.mp h
    unfold insL
    cases e : lexL y x with
    | true =>
      rw [if_pos rfl]
      refine List.pairwise_cons.mpr ⟨fun z hz => ?_, insL_srt x ys h2⟩
      rcases List.mem_cons.mp ((insL_perm x ys).mem_iff.mp hz) with rfl | hz
      · exact lexL_asym _ _ e
      · exact h1 z hz
    | false =>
      rw [if_neg (by decide)]
      refine List.pairwise_cons.mpr ⟨fun z hz => ?_, h⟩
      rcases List.mem_cons.mp hz with rfl | hz
      · exact e
      · exact lexL_tr _ _ _ e (h1 z hz)
theorem sortL_srt : ∀ xs, SrtO.Srtd lexL (sortL xs)
  | [] => .nil
  | x :: xs => insL_srt x _ (sortL_srt xs)
theorem srt_uniq : ∀ {xs ys : List (List Int)}, SrtO.Srtd lexL xs → SrtO.Srtd lexL ys → xs.Perm ys → xs = ys
  | [], ys, _, _, p => (List.Perm.nil_eq p)
  | x :: xs, [], _, _, p => absurd p.length_eq (by simp)
  | x :: xs, y :: ys, h1, h2, p => by
    have ⟨a1, a2⟩ := List.pairwise_cons.mp h1
    have ⟨b1, b2⟩ := List.pairwise_cons.mp h2
    have e : x = y := by
      have hx : x ∈ y :: ys := p.mem_iff.mp List.mem_cons_self
      have hy : y ∈ x :: xs := p.mem_iff.mpr List.mem_cons_self
      rcases List.mem_cons.mp hx with h | hx
      · exact h
      · rcases List.mem_cons.mp hy with h | hy
        · exact h.symm
        · exact lexL_anti _ _ (b1 x hx) (a1 y hy)
    subst e
    rw [srt_uniq a2 b2 (List.perm_cons x |>.mp p)]
/-! ### over the model -/
section
variable {prog : Program} {w : World} {A : Around} {E : Value → Shared → Prop} {s : Shared}
/-- a tuple of ints -/
def IsTI (h : Heap) (v : Value) (ns : List Int) : Prop := ∃ (a : Addr) (its : List Value) (o : Obj) (n : Nat), v = .ref a ∧ h.get? a = some o ∧ o.cls = .type "tuple" ∧ o.data = .seq its.toArray n ∧ IntsAre its ns
theorem IsTI.keeps {h h' : Heap} {v : Value} {ns : List Int} (p : IsTI h v ns) (k : ∀ b o, h.get? b = some o → o.cls = .type "tuple" → h'.get? b = some o) : IsTI h' v ns := by
  obtain ⟨a, its, o, n, e, ho, hc, hd, hi⟩ := p
  exact ⟨a, its, o, n, e, k _ _ ho hc, hc, hd, hi⟩
theorem ti_lt {x y : Value} {ns ms : List Int} {Q : Bool → Shared → Prop} (hu : A.units < cLine) (hx : IsTI s.heap x ns) (hy : IsTI s.heap y ms) (h : Q (lexL ns ms) s) : wpAny (model prog w) A (keyLt' oneType' x y) Q E s := by
  obtain ⟨a, its, ⟨cls, dd, data, sl⟩, n, rfl, ho, hc, hd, i1⟩ := hx
  obtain ⟨b, its2, ⟨cls2, dd2, data2, sl2⟩, n2, rfl, ho2, hc2, hd2, i2⟩ := hy
  simp only at hc hd hc2 hd2
  subst hc hd hc2 hd2
  have e1 : its.toArray.size = ns.length := by rw [List.size_toArray]; exact i1.length
  have e2 : its2.toArray.size = ms.length := by rw [List.size_toArray]; exact i2.length
  have at1 : ∀ j (h1 : j < its.toArray.size), ∃ t, its.toArray[j] = .int (ns.getD j 0) t := fun j h1 => PyProof.Rows.IntsAre.int_at i1 _ _ (by simp at h1; simp [h1])
  have at2 : ∀ j (h1 : j < its2.toArray.size), ∃ t, its2.toArray[j] = .int (ms.getD j 0) t := fun j h1 => PyProof.Rows.IntsAre.int_at i2 _ _ (by simp at h1; simp [h1])
  rw [keyLt'_oneType, oneLt'_eq]
  simp only [if_true]
  refine wpAny_bind (wpAny_cRoomFor hu ?_)
  refine wpAny_bind (wpAny_callSpecialIfBound?_slot (T := "tuple") ⟨_, ho, rfl⟩ F.slot_tuple_lt (call_meets F.slot_tuple_lt ⟨_, ho, rfl⟩ F.entry_tuple_lt (F.args_tuple_lt_2 _ _)
    (Ob.tuple_ltAt a b its.toArray its2.toArray n n2 dd dd2 sl sl2 (fun j => decide (ns.getD j 0 = ms.getD j 0)) (fun j => decide (ns.getD j 0 < ms.getD j 0))) ⟨ho, ho2, fun j h1 h2 => ?_, fun j h1 h2 _ => ?_, ?_⟩))
  · obtain ⟨t, et⟩ := at1 j h1
    obtain ⟨t', et'⟩ := at2 j h2
    rw [et, et']
    have z : (ns.getD j 0 == ms.getD j 0) = decide (ns.getD j 0 = ms.getD j 0) := rfl
    rw [← z]
    exact SeqAt.EqAt.int_int _ _ _ _
  · obtain ⟨t, et⟩ := at1 j h1
    obtain ⟨t', et'⟩ := at2 j h2
    rw [et, et']
    exact Ob.RcOp.lt_int _ _ _ _
  · rw [e1, e2, lexAt_lex ns ms (min ns.length ms.length) 0 (by omega)]
    show _
    exact wpAny_truthy_bool h
theorem mapM_each {M : Model} {α β : Type} {f : α → Sem β} (g : α → β) : ∀ (l : List α) {Q : List β → Shared → Prop}, (∀ v ∈ l, ∀ (Q' : β → Shared → Prop), Q' (g v) s → wpAny M A (f v) Q' E s) → Q (l.map g) s → wpAny M A (l.mapM f) Q E s
  | [], _, _, h => by rw [List.mapM_nil]; exact wpAny_pure h
  | x :: l, Q, hf, h => by
    rw [List.mapM_cons]
    exact wpAny_bind (hf x (.head _) _ (wpAny_bind (mapM_each g l (Q := fun bs s' => wpAny M A (pure (g x :: bs)) Q E s') (fun v hv => hf v (.tail _ hv)) (wpAny_pure h))))
open Classical in
noncomputable def fstOf (h : Heap) (v : Value) : Option Value := if q : ∃ its ns, ∃ (a : Addr) (o : Obj) (n : Nat), v = .ref a ∧ h.get? a = some o ∧ o.cls = .type "tuple" ∧ o.data = .seq (its : List Value).toArray n ∧ IntsAre its ns then (choose q).toArray[0]? else none
theorem ti_first {M : Model} {v : Value} {ns : List Int} (hx : IsTI s.heap v ns) {Q : Option Value → Shared → Prop} (h : Q (fstOf s.heap v) s) : wpAny M A (firstOfTuple' v) Q E s := by
  obtain ⟨a, its, o, n, rfl, ho, hc, hd, hi⟩ := hx
  have q : ∃ its ns, ∃ (a' : Addr) (o : Obj) (n : Nat), Value.ref a = .ref a' ∧ s.heap.get? a' = some o ∧ o.cls = .type "tuple" ∧ o.data = .seq (its : List Value).toArray n ∧ IntsAre its ns := ⟨its, ns, a, o, n, rfl, ho, hc, hd, hi⟩
  have e : fstOf s.heap (.ref a) = its.toArray[0]? := by
    unfold fstOf
    rw [dif_pos q]
    obtain ⟨ns', a', o', n', ea, ho', _, hd', _⟩ := Classical.choose_spec q
    cases ea
    rw [ho] at ho'
    cases ho'
    rw [hd] at hd'
    cases hd'
    rfl
  rw [PySem.W.kas_first_eq]
  refine wpAny_bind (PySem.W.Looks.here (show PySem.W.Looks M s.heap (typeOf (.ref a)) o.cls from (PySem.W.Looks.ld ho).andThen .now) ?_)
  rw [hc, if_neg (by first | decide | simp)]
  refine wpAny_bind (listItems_at ho hd (wpAny_pure ?_))
  rw [← e]; exact h
theorem fst_nil {v : Value} {h : Heap} (hx : IsTI h v []) : fstOf h v = none := by
  obtain ⟨a, its, o, n, rfl, ho, hc, hd, hi⟩ := hx
  unfold fstOf
  split
  · rename_i q
    obtain ⟨ns', a', o', n', ea, ho', _, hd', _⟩ := Classical.choose_spec q
    cases ea
    rw [ho] at ho'
    cases ho'
    rw [hd] at hd'
    injection hd' with e1
    rw [← e1]
    cases hi
    rfl
  · rfl
theorem ti_kind {M : Model} {v1 : Value} {vs : List Value} {k : Value → List Int} {Q : SortKind → Shared → Prop} (hp : ∀ v ∈ v1 :: vs, IsTI s.heap v (k v)) (h0 : k v1 = []) (h : Q oneType' s) : wpAny M A (keyKind' (v1 :: vs).toArray) Q E s := by
  rw [keyKind'_eq, List.mapM_toArray, map_eq_pure_bind]
  refine wpAny_bind (wpAny_bind (mapM_each (fstOf s.heap) _ (fun v hv Q' hq => ti_first (hp v hv) hq) (wpAny_pure ?_)))
  have f0 : fstOf s.heap v1 = none := by
    have := hp v1 List.mem_cons_self
    rw [h0] at this
    exact fst_nil this
  rw [List.map_cons, f0, if_neg (by simp), if_neg (by simp)]
  rw [oneTypeOnly'_eq, List.mapM_toArray, map_eq_pure_bind]
  refine wpAny_bind (wpAny_bind (wpAny_bind (mapM_each (fun _ => Value.type "tuple") _ (fun v hv Q' hq => ?_) (wpAny_pure ?_))))
  · obtain ⟨a, its, o, n, rfl, ho, hc, hd, hi⟩ := hp v hv
    rw [← hc] at hq
    exact PySem.W.Looks.here (show PySem.W.Looks M s.heap (typeOf (.ref a)) o.cls from (PySem.W.Looks.ld ho).andThen .now) hq
  have tt : (Value.type "tuple" == Value.type "tuple") = true := by rfl
  have hall : ((List.map (fun _ => Value.type "tuple") (v1 :: vs)).toArray.all fun x => x == Value.type "tuple") = true := by
    simp only [List.all_toArray, List.all_map, List.all_eq_true]
    intro _ _
    exact tt
  have e0 : (List.map (fun _ => Value.type "tuple") (v1 :: vs)).toArray[0]? = some (Value.type "tuple") := by simp
  rw [e0]
  simp only [hall, if_true]
  exact wpAny_pure (wpAny_pure h)
theorem ti_sortable {a : Addr} {v1 : Value} {vs : List Value} {k : Value → List Int} (hu : A.units < cLine) (hp : ∀ v ∈ v1 :: vs, IsTI s.heap v (k v)) (h0 : k v1 = []) (ha : ∀ o, s.heap.get? a = some o → o.cls ≠ .type "tuple") : SrtO.SortableO prog w A s a (v1 :: vs) fun v u => lexL (k v) (k u) := by
  intro h' keep
  have hp' : ∀ v ∈ v1 :: vs, IsTI h' v (k v) := fun v hm => (hp v hm).keeps fun b o e c => keep b o (fun z => by subst z; exact ha o e c) e
  refine ⟨oneType', fun Q E hq => ti_kind (s := { s with heap := h' }) hp' h0 hq, fun p q hp1 hq1 => ?_⟩
  exact ti_lt (s := { s with heap := h' }) hu (hp' _ hp1) (hp' _ hq1) ⟨rfl, rfl⟩
theorem sorted_ti {l : Addr} {v1 : Value} {vs : List Value} {k : Value → List Int} {Q : Value → Shared → Prop} (hu : A.units + 2 < cLine) (hl : s.heap.IsList l (v1 :: vs).toArray) (hz : (v1 :: vs).length ≤ sizeLine) (hp : ∀ v ∈ v1 :: vs, IsTI s.heap v (k v)) (h0 : k v1 = [])
    (h : ∀ (h' : Heap) (d : Addr) (out : List Value), SrtO.Srtd (fun v u => lexL (k v) (k u)) out → out.Perm (v1 :: vs) → (∀ b o, s.heap.get? b = some o → h'.get? b = some o) → s.heap.objs.size ≤ d → (∃ n, h'.get? d = some (seqObj "list" out.toArray n)) → Q (.ref d) { s with heap := h' }) :
    wpAny (model prog w) A (call (.builtin "sorted") [.ref l]) Q E s := by
  refine SrtO.sorted_ord (swo_lexL k) hl hz (fun h2 h₁ a ha kk => ?_) fun out hs hb => ?_
  · refine ti_sortable (s := { s with heap := h₁ }) (by show A.units + 1 + 1 < cLine; omega) (fun v hm => (hp v hm).keeps fun b o e _ => (kk b o e).2) h0 fun o e => ?_
    have e' : some o = some (seqObj "list" (v1 :: vs).toArray 0) := e.symm.trans ha
    cases e'
    intro c
    exact absurd (Value.type.inj c) (by decide)
  · exact h _ _ out hs hb.perm (fun b o e => sortedAll_old e) (Nat.le_succ _) (sortedAll_at s.heap (v1 :: vs) out.toArray)
end
/-! ### as a rule, on data -/
theorem ints_uniq : ∀ {vs : List Value} {ns ms : List Int}, IntsAre vs ns → IntsAre vs ms → ns = ms
  | _, _, _, .nil, h => by cases h; rfl
  | _, _, _, .cons n t h, h' => by
    cases h' with
    | cons m t' h' => rw [ints_uniq h h']
theorem ti_uniq {h : Heap} {v : Value} {ns ms : List Int} (h1 : IsTI h v ns) (h2 : IsTI h v ms) : ns = ms := by
  obtain ⟨a, its, o, n, rfl, ho, hc, hd, hi⟩ := h1
  obtain ⟨a', its', o', n', ea, ho', hc', hd', hi'⟩ := h2
  cases ea
  rw [ho] at ho'
  cases ho'
  rw [hd] at hd'
  injection hd' with e1
  have e2 : its = its' := by simpa using congrArg Array.toList e1
  subst e2
  exact ints_uniq hi hi'
open Classical in
noncomputable def tiK (h : Heap) (v : Value) : List Int := if q : ∃ ns, IsTI h v ns then choose q else []
theorem tiK_eq {h : Heap} {v : Value} {ns : List Int} (p : IsTI h v ns) : tiK h v = ns := by
  have q : ∃ ns, IsTI h v ns := ⟨ns, p⟩
  unfold tiK
  rw [dif_pos q]
  exact ti_uniq (Classical.choose_spec q) p
/-- the items beside their ints -/
def AreTI (K : PySem.W.Frag) (H : Hp) (xs : List V) (nss : List (List Int)) : Prop := xs.length = nss.length ∧ ∀ (i : Nat) (x : V), xs[i]? = some x → ∃ t ns, nss[i]? = some ns ∧ x = V.ref t ∧ SqT K H t (ns.map V.int)
def rSortV (K : PySem.W.Frag) : List V → Hp → VK → Prop := fun vs H Q => ∃ (a : Addr) (xs : List V) (nss : List (List Int)), vs = [V.ref a] ∧ SqL K H a xs ∧ AreTI K H xs ([] :: nss) ∧
  ∀ (ys : List V) (yss : List (List Int)) (p : Addr), SrtO.Srtd lexL yss → yss.Perm ([] :: nss) → ys.length = yss.length → (∀ (i : Nat) (y : V) (ns : List Int), ys[i]? = some y → yss[i]? = some ns → ∃ j : Nat, xs[j]? = some y ∧ ([] :: nss)[j]? = some ns) → H p = none → Q (.ref p) (upd H p (.lst ys))
theorem cr_sortV {X : Cx} (hu : X.A.units + 2 < cLine) : CallR X (.builtin "sorted") (rSortV X.K) := by
  intro pins s σ H vs us Q I r h
  obtain ⟨a, xs, nss, rfl, hs, ⟨hl0, hx⟩, q⟩ := h
  obtain ⟨its, rv, hl, hz⟩ := I.list hs
  obtain ⟨u, rfl, ru⟩ := vals1 r
  obtain rfl : u = Value.ref a := ru
  obtain ⟨e1, e2⟩ := refs_back rv fun x m => by
    obtain ⟨i, hi, rfl⟩ := List.mem_iff_getElem.mp m
    obtain ⟨t, ns, _, e, _⟩ := hx i _ (List.getElem?_eq_getElem hi)
    exact ⟨t, e⟩
  have at_ : ∀ (i : Nat) (v : Value), its[i]? = some v → ∃ ns, ([] :: nss)[i]? = some ns ∧ IsTI s.heap v ns := fun i v hv => by
    obtain ⟨t, rfl⟩ := e2 v (List.mem_of_getElem? hv)
    have hm : xs[i]? = some (V.ref t) := by rw [e1, List.getElem?_map, hv]; rfl
    obtain ⟨t', ns, hn, e, ht⟩ := hx i _ hm
    cases e
    obtain ⟨its2, r2, hT, _⟩ := I.tuple ht
    obtain ⟨o, ho, hc, n, hd⟩ := hT
    exact ⟨ns, hn, t, its2, o, n, rfl, ho, hc, hd, Vals.ints r2⟩
  have hlen : its.length = ([] :: nss).length := by rw [← hl0, e1, List.length_map]
  have keys : its.map (tiK s.heap) = [] :: nss := by
    refine List.ext_getElem? fun i => ?_
    rw [List.getElem?_map]
    cases hv : its[i]? with
    | none =>
      have := List.getElem?_eq_none_iff.mp hv
      rw [List.getElem?_eq_none (by omega)]; rfl
    | some v =>
      obtain ⟨ns, hn, p⟩ := at_ i v hv
      rw [hn]
      show some (tiK s.heap v) = _
      rw [tiK_eq p]
  cases its with
  | nil => simp at hlen
  | cons i1 its =>
    have k0 : tiK s.heap i1 = [] := (List.cons.inj keys).1
    refine sorted_ti (k := tiK s.heap) hu hl.isList (by rw [← rv.length]; exact hz) (fun v hv => ?_) k0 fun h' d out h1 h2 kp hd hn => ?_
    · obtain ⟨i, hi, rfl⟩ := List.mem_iff_getElem.mp hv
      obtain ⟨ns, _, p⟩ := at_ i _ (List.getElem?_eq_getElem hi)
      rw [tiK_eq p]; exact p
    · have h3 : ∀ u ∈ out, ∃ a, u = Value.ref a := fun u hu => e2 u (h2.mem_iff.mp hu)
      obtain ⟨n, hn⟩ := hn
      have hb : (out.map backV).Perm xs := by
        rw [e1]
        exact h2.map backV
      refine ⟨.ref d, upd H d (.lst (out.map backV)), I.laid (t' := s.toks) kp hd ⟨?_, out, n, vals_back h3, hn⟩, rfl, q _ (out.map (tiK s.heap)) d (SrtO.srtd_map (lt := lexL) h1) (by rw [← keys]; exact h2.map _) (by simp) (fun i y ns hy hns => ?_) (I.hok.fresh hd)⟩
      · rw [hb.length_eq]
        exact hz
      · rw [List.getElem?_map] at hy hns
        cases ho : out[i]? with
        | none => rw [ho] at hy; cases hy
        | some u =>
          rw [ho] at hy hns
          cases hy
          cases hns
          obtain ⟨j, hj, e⟩ := List.mem_iff_getElem.mp (h2.mem_iff.mp (List.mem_of_getElem? ho))
          refine ⟨j, ?_, ?_⟩
          · rw [e1, List.getElem?_map, List.getElem?_eq_getElem hj, e]; rfl
          · rw [← keys, List.getElem?_map, List.getElem?_eq_getElem hj, e]; rfl
def tisOf : List D → Option (List (List Int))
  | [] => some []
  | .tup ds :: r => (intsOf ds).bind fun ns => (tisOf r).map (ns :: ·)
  | _ => none
def tiD (ns : List Int) : D := .tup (ns.map .int)
def fSorted : List D → Option D
  | [.lst xs] => (match tisOf xs with
    | some ([] :: r) => some (.lst ((sortL ([] :: r)).map tiD))
    | _ => none)
  | _ => none
theorem tis_rep {K : PySem.W.Frag} {W : Wd} : ∀ {ds : List D} {vs : List V} {nss : List (List Int)}, RepL K W ds vs → tisOf ds = some nss → vs.length = nss.length ∧ ∀ (i : Nat) (x : V), vs[i]? = some x → ∃ t ns, nss[i]? = some ns ∧ x = V.ref t ∧ SqD K W.F t (ns.map V.int)
  | _, _, _, .nil, h => by cases h; exact ⟨rfl, fun i x h => by simp at h⟩
  | _, _, nss, .cons (d := d) (ds := ds) h t, e => by
    cases d with
    | tup es =>
      rw [tisOf] at e
      cases hi : intsOf es with
      | none => rw [hi] at e; cases e
      | some ns =>
        rw [hi] at e
        cases ht : tisOf ds with
        | none => rw [ht] at e; cases e
        | some r =>
          rw [ht] at e
          cases e
          obtain ⟨l, f⟩ := tis_rep t ht
          refine ⟨by simp [l], fun i x hx => ?_⟩
          cases i with
          | zero =>
            simp at hx; subst hx
            cases h with
            | tup hs hr =>
              have := rep_ints hr hi
              subst this
              exact ⟨_, ns, rfl, rfl, hs⟩
          | succ i => exact f i x (by simpa using hx)
    | _ => cases e
theorem repL_int {K : PySem.W.Frag} {W : Wd} : ∀ ns : List Int, RepL K W (ns.map D.int) (ns.map V.int)
  | [] => .nil
  | n :: ns => .cons (.int n) (repL_int ns)
theorem repL_of {K : PySem.W.Frag} {W : Wd} : ∀ {yss : List (List Int)} {ys : List V}, ys.length = yss.length → (∀ (i : Nat) (y : V) (ns : List Int), ys[i]? = some y → yss[i]? = some ns → ∃ t, y = V.ref t ∧ SqD K W.F t (ns.map V.int)) → RepL K W (yss.map tiD) ys
  | [], [], _, _ => .nil
  | [], _ :: _, h, _ => by simp at h
  | _ :: _, [], h, _ => by simp at h
  | ns :: yss, y :: ys, h, f => by
    obtain ⟨t, rfl, q⟩ := f 0 y ns rfl rfl
    exact .cons (.tup q (repL_int ns)) (repL_of (by simpa using h) fun i y ns h1 h2 => f (i + 1) y ns (by simpa using h1) (by simpa using h2))
theorem oc_sorted (K : PySem.W.Frag) : OpC K (rSortV K) fSorted := fun W s ds d vs Q r sr e q => by
  unfold fSorted at e
  split at e
  · rename_i xs
    split at e
    · rename_i rs hr
      cases e
      cases r with
      | cons r t =>
        cases t
        obtain ⟨a, us, rfl, h', rl⟩ := r.lst
        obtain ⟨l0, f0⟩ := tis_rep rl hr
        refine ⟨a, us, rs, rfl, .inl (.inl h'), ⟨l0, fun i x hx => ?_⟩, fun ys yss p h1 h2 h3 h4 hp => ?_⟩
        · obtain ⟨t, ns, g1, g2, g3⟩ := f0 i x hx
          exact ⟨t, ns, g1, g2, (g3.ex W.sub).t⟩
        · have eq : yss = sortL ([] :: rs) := srt_uniq h1 (sortL_srt _) (h2.trans (sortL_perm _).symm)
          rw [← eq] at q
          refine q (W.new p (.lst ys)) _ (Grow.new hp sr) (sr.new hp) (.lst (show upd W.F p _ p = _ from upd_same) ((repL_of h3 fun i y ns g1 g2 => ?_).grow (Grow.new hp sr)))
          obtain ⟨j, g3, g4⟩ := h4 i y ns g1 g2
          obtain ⟨t, ns', g5, g6, g7⟩ := f0 j y g3
          rw [g4] at g5
          cases g5
          exact ⟨t, g6, g7⟩
    · cases e
  · cases e
end PD
set_option maxRecDepth 100000
set_option maxHeartbeats 4000000
namespace PD
open PySem PySem.Spec PyProof.Rows L2

/-! ## statements -/
inductive Out where
  | nx (Γ : Env) | rt (d : D) | ro (ds : List D) | bk (Γ : Env) | ct (Γ : Env)
structure Ext (W W' : Wd) : Prop where
  f : ∀ a o, W.F a = some o → W'.F a = some o
  p : ∃ B, W'.A = W.A ++ B
theorem Ext.refl (W : Wd) : Ext W W := ⟨fun _ _ h => h, [], by simp⟩
theorem Ext.trans {W W1 W2 : Wd} (a : Ext W W1) (b : Ext W1 W2) : Ext W W2 := ⟨fun x o h => b.f x o (a.f x o h), by
  obtain ⟨B, e⟩ := a.p
  obtain ⟨C, e'⟩ := b.p
  exact ⟨B ++ C, by rw [e', e, List.append_assoc]⟩⟩
theorem Grow.ext {W W' : Wd} (g : Grow W W') : Ext W W' := ⟨g.f, g.p⟩
theorem Ext.ix {W W' : Wd} (g : Ext W W') {i : Nat} {a : Addr} (h : W.A[i]? = some a) : W'.A[i]? = some a := by
  obtain ⟨B, e⟩ := g.p
  rw [e, List.getElem?_append_left (List.getElem?_eq_some_iff.mp h).1]
  exact h
theorem Rep.ext {K : PySem.W.Frag} {W W' : Wd} (g : Ext W W') {d : D} {v : V} (h : Rep K W d v) : Rep K W' d v := Rep.of g.f (fun _ _ => g.ix) h
theorem RepL.ext {K : PySem.W.Frag} {W W' : Wd} (g : Ext W W') {d : List D} {v : List V} (h : RepL K W d v) : RepL K W' d v := RepL.of g.f (fun _ _ => g.ix) h
def PostS {α : Type} (K : PySem.W.Frag) (EX : XK) (W0 W : Wd) (r : R α) (T : Wd → Store → α → Prop) : Prop := match r with
  | .ok a s => ∀ W', Grow W0 W' → Ext W W' → SRep K W' s → T W' s a
  | .er e s => ∀ W' c d, Grow W0 W' → SRep K W' s → ErRep K W' e c d → EX c d W'.H
  | .bad => False
section
variable {α β : Type} {K : PySem.W.Frag} {EX : XK} {W0 W W1 : Wd} {r : R α} {T : Wd → Store → α → Prop}
theorem PostS.ext (g : Ext W W1) (h : PostS K EX W0 W r T) : PostS K EX W0 W1 r T := by
  cases r with
  | ok a s => exact fun W' g0 g' sr => h W' g0 (g.trans g') sr
  | er e s => exact h
  | bad => exact h
/-- an expression runs first -/
theorem PostS.bindE {f : α → Store → R β} {U : Wd → Store → β → Prop} (g0 : Grow W0 W) (h : PostS K EX W0 W (r.bind f) U) (step : ∀ a s1 W1, r = .ok a s1 → Grow W W1 → SRep K W1 s1 → PostS K EX W0 W1 (f a s1) U → T W1 s1 a) : Post K EX W r T := by
  cases r with
  | ok a s => exact fun W' g sr => step a s W' rfl g sr (PostS.ext g.ext h)
  | er e s => exact fun W' c d g sr q => h W' c d (g0.trans g) sr q
  | bad => exact h
/-- .. a statement -/
theorem PostS.bindS {f : α → Store → R β} {U : Wd → Store → β → Prop} (h : PostS K EX W0 W (r.bind f) U) (step : ∀ a s1 W1, r = .ok a s1 → Grow W0 W1 → Ext W W1 → SRep K W1 s1 → PostS K EX W0 W1 (f a s1) U → T W1 s1 a) : PostS K EX W0 W r T := by
  cases r with
  | ok a s => exact fun W' g0 g sr => step a s W' rfl g0 g sr (PostS.ext g h)
  | er e s => exact h
  | bad => exact h
theorem PostS.opt {o : Option α} {s : Store} {U : Wd → Store → α → Prop} (h : PostS K EX W0 W (R.opt o s) U) : ∃ a, o = some a ∧ ∀ W', Grow W0 W' → Ext W W' → SRep K W' s → U W' s a := by
  cases o with
  | none => exact h.elim
  | some a => exact ⟨a, rfl, h⟩
theorem PostS.post (g0 : Grow W0 W) (h : PostS K EX W0 W r T) : Post K EX W r T := by
  cases r with
  | ok a s => exact fun W' g sr => h W' (g0.trans g) g.ext sr
  | er e s => exact fun W' c d g sr q => h W' c d (g0.trans g) sr q
  | bad => exact h
end
abbrev MS := Env → Store → R Out
/-- what is wanted behind a statement -/
def WantS (K : PySem.W.Frag) (W0 : Wd) (B : Hp) (D : Ends) : Wd → Store → Out → Prop := fun W' _ o => match o with
  | .nx Γ => ∀ σ, Sat K B W' Γ σ → D.nx σ W'.H
  | .rt d => ∀ v, Rep K W' d v → D.rt v W'.H
  | .ro ds => ∀ p vs, W0.H p = none → W'.H p = some (.lst vs) → W'.F p = none → p ∉ W'.A → RepL K W' ds vs → D.rt (.ref p) W'.H
  | .bk Γ => ∀ σ, Sat K B W' Γ σ → D.bk σ W'.H
  | .ct Γ => ∀ σ, Sat K B W' Γ σ → D.ct σ W'.H
def Run (K : PySem.W.Frag) (EX : XK) (t : TS) (m : MS) : Prop := ∀ W0 W Γ σ s D, Grow W0 W → Sat K W0.H W Γ σ → SRep K W s → PostS K EX W0 W (m Γ s) (WantS K W0 W0.H D) → t D σ W.H
def PSd (X : Cx) (EX : XK) (st : Stmt) (m : MS) : Prop := ∃ t, PS X st t ∧ Run X.K EX t m
def PSsd (X : Cx) (EX : XK) (st : List Stmt) (m : MS) : Prop := ∃ t, PSs X st t ∧ Run X.K EX t m
section
variable {X : Cx} {EX : XK} {a b c e : Expr} {pos : Pos} {st : Stmt} {rest : List Stmt}
def mNext : MS := fun Γ s => .ok (.nx Γ) s
def mSeq (m n : MS) : MS := fun Γ s => (m Γ s).bind fun o s1 => match o with
  | .nx Γ1 => n Γ1 s1
  | o => .ok o s1
theorem dss_nil : PSsd X EX [] mNext := ⟨_, pss_nil, fun W0 W Γ σ s D g sat sr p => p W g (Ext.refl W) sr σ sat⟩
theorem dss_cons {m n : MS} (h : PSd X EX st m) (hs : PSsd X EX rest n) : PSsd X EX (st :: rest) (mSeq m n) := by
  obtain ⟨t, p, q⟩ := h
  obtain ⟨u, p2, q2⟩ := hs
  refine ⟨_, pss_cons p p2, fun W0 W Γ σ s D g sat sr pp => q W0 W Γ σ s _ g sat sr (pp.bindS fun o s1 W1 _ g0 gx sr1 p1 => ?_)⟩
  cases o with
  | nx Γ1 => exact fun σ1 sat1 => q2 W0 W1 Γ1 σ1 s1 D g0 sat1 sr1 p1
  | rt d => exact p1 W1 g0 (Ext.refl _) sr1
  | ro d => exact p1 W1 g0 (Ext.refl _) sr1
  | bk d => exact p1 W1 g0 (Ext.refl _) sr1
  | ct d => exact p1 W1 g0 (Ext.refl _) sr1
theorem dss_one {m : MS} (h : PSd X EX st m) : PSsd X EX [st] m := by
  obtain ⟨t, p, q⟩ := h
  exact ⟨t, pss_one p, q⟩
theorem ds_pass : PSd X EX (.Pass pos) mNext := ⟨_, ps_pass, fun W0 W Γ σ s D g sat sr p => p W g (Ext.refl W) sr σ sat⟩
def mBreak : MS := fun Γ s => .ok (.bk Γ) s
def mCont : MS := fun Γ s => .ok (.ct Γ) s
theorem ds_break : PSd X EX (.Break pos) mBreak := ⟨_, ps_break, fun W0 W Γ σ s D g sat sr p => p W g (Ext.refl W) sr σ sat⟩
theorem ds_cont : PSd X EX (.Continue pos) mCont := ⟨_, ps_continue, fun W0 W Γ σ s D g sat sr p => p W g (Ext.refl W) sr σ sat⟩
def mDrop (m : Env → M D) : MS := fun Γ s => (m Γ s).bind fun _ s1 => .ok (.nx Γ) s1
theorem ds_expr {m : Env → M D} (h : PEd X EX e m) (hs : swapsWith e none pos.line X.env = pure false) : PSd X EX (.Expr e pos) (mDrop m) := by
  obtain ⟨t, p, q⟩ := h
  exact ⟨_, ps_expr p hs, fun W0 W Γ σ s D g sat sr pp => q _ W Γ σ s _ sat sr (pp.bindE g fun d s1 W1 _ g1 sr1 p1 v _ => p1 W1 (g.trans g1) (Ext.refl _) sr1 σ (sat.grow g1))⟩
def mRet (m : Env → M D) : MS := fun Γ s => (m Γ s).bind fun d s1 => .ok (.rt d) s1
theorem ds_ret {m : Env → M D} (h : PEd X EX e m) : PSd X EX (.Return (some e) pos) (mRet m) := by
  obtain ⟨t, p, q⟩ := h
  exact ⟨_, ps_ret p, fun W0 W Γ σ s D g sat sr pp => q _ W Γ σ s _ sat sr (pp.bindE g fun d s1 W1 _ g1 sr1 p1 v r => p1 W1 (g.trans g1) (Ext.refl _) sr1 v r)⟩
def mRetN : MS := fun Γ s => .ok (.rt .non) s
theorem ds_retN : PSd X EX (.Return none pos) mRetN := ⟨_, ps_retN, fun W0 W Γ σ s D g sat sr p => p W g (Ext.refl W) sr _ .non⟩
/-- a new list is handed out, still to be written -/
def mRetO (m : Env → M (List D)) : MS := fun Γ s => (m Γ s).bind fun d s1 => .ok (.ro d) s1
theorem ds_retO {m : Env → M (List D)} (h : POd X EX e m) : PSd X EX (.Return (some e) pos) (mRetO m) := by
  obtain ⟨t, p, q⟩ := h
  refine ⟨_, ps_ret p, fun W0 W Γ σ s D g sat sr pp => q _ W Γ σ s _ sat sr (pp.bindE g fun d s1 W1 _ g1 sr1 p1 p vs h0 h1 h2 h3 r => p1 W1 (g.trans g1) (Ext.refl _) sr1 p vs ?_ h1 h2 h3 r)⟩
  cases h : W0.H p with
  | none => rfl
  | some o => exact absurd h0 (g.t p (by rw [h]; simp))
/-- a name is handed out: an own list is data from now on -/
def mRetV (i : Nat) : MS := fun Γ s => match Γ[i]? with
  | some (.dat d) => .ok (.rt d) s
  | some (.own ds) => .ok (.rt (.lst ds)) s
  | _ => .bad
def mRetVO (i : Nat) : MS := fun Γ s => match Γ[i]? with
  | some (.own ds) => .ok (.ro ds) s
  | _ => .bad
theorem ds_retV {i : Nat} {x : Str} {p2 : Pos} (hN : X.N[i]? = some x) (hv : Vis X.env.scope x) (hd : (x == ("__debug__" : Str)) = false) (hcd : (x == ("__classdict__" : Str)) = false) : PSd X EX (.Return (some (.Name x p2)) pos) (mRetV i) := by
  refine ⟨_, ps_ret (pe_var hN hv hd hcd), fun W0 W Γ σ s D g sat sr p => ?_⟩
  unfold mRetV at p
  split at p
  · rename_i d e
    obtain ⟨v, h1, r⟩ := sat.dat e
    exact ⟨v, h1, p W g (Ext.refl W) sr v r⟩
  · rename_i ds e
    obtain ⟨o, h1, q, vs, h2, h3, h4, h5, h6, r⟩ := sat.slot e
    refine ⟨.ref q, by rw [h1, h2], ?_⟩
    exact p (W.frz q _ h3) (g.frz h3 h6 h4) ⟨frz_sub h3 h4, [], by simp [Wd.frz]⟩ (sr.frz h3 h4 h5) _ (.lst (show upd W.F q _ q = _ from upd_same) (r.frz h3 h4))
  · exact p.elim
theorem ds_retVO {i : Nat} {x : Str} {p2 : Pos} (hN : X.N[i]? = some x) (hv : Vis X.env.scope x) (hd : (x == ("__debug__" : Str)) = false) (hcd : (x == ("__classdict__" : Str)) = false) : PSd X EX (.Return (some (.Name x p2)) pos) (mRetVO i) := by
  refine ⟨_, ps_ret (pe_var hN hv hd hcd), fun W0 W Γ σ s D g sat sr p => ?_⟩
  unfold mRetVO at p
  split at p
  · rename_i ds e
    obtain ⟨o, h1, q, vs, h2, h3, h4, h5, h6, r⟩ := sat.slot e
    exact ⟨.ref q, by rw [h1, h2], p W g (Ext.refl W) sr q vs h6 h3 h4 h5 r⟩
  · exact p.elim
def mIf (c : Env → M Bool) (m n : MS) : MS := fun Γ s => (c Γ s).bind fun b s1 => match b with
  | true => m Γ s1
  | false => n Γ s1
theorem ds_if {sa sb : List Stmt} {mc : Env → M Bool} {m n : MS} (hc : PTd X EX c mc) (ha : PSsd X EX sa m) (hb : PSsd X EX sb n) : PSd X EX (.If c sa sb pos) (mIf mc m n) := by
  obtain ⟨tc, pc, qc⟩ := hc
  obtain ⟨ta, pa, qa⟩ := ha
  obtain ⟨tb, pb, qb⟩ := hb
  refine ⟨_, ps_if pc pa pb, fun W0 W Γ σ s D g sat sr pp => qc _ W Γ σ s _ sat sr (pp.bindE g fun b s1 W1 _ g1 sr1 p1 => ?_)⟩
  cases b with
  | true => exact qa W0 W1 Γ σ s1 D (g.trans g1) (sat.grow g1) sr1 p1
  | false => exact qb W0 W1 Γ σ s1 D (g.trans g1) (sat.grow g1) sr1 p1

/-! ### while -/
def mWhile (c : Env → M Bool) (b : MS) (n : Nat) : MS := Nat.rec (motive := fun _ => MS) (fun _ _ => .bad)
  (fun _ ih Γ s => (c Γ s).bind fun k s1 => match k with
    | false => .ok (.nx Γ) s1
    | true => (b Γ s1).bind fun o s2 => match o with
      | .nx Γ1 => ih Γ1 s2
      | .ct Γ1 => ih Γ1 s2
      | .bk Γ1 => .ok (.nx Γ1) s2
      | o => .ok o s2) n
theorem mWhile_zero {mc : Env → M Bool} {m : MS} (Γ : Env) (s : Store) : mWhile mc m 0 Γ s = .bad := rfl
theorem mWhile_succ {mc : Env → M Bool} {m : MS} {n : Nat} (Γ : Env) (s : Store) : mWhile mc m (n + 1) Γ s = (mc Γ s).bind fun k s1 => match k with
    | false => .ok (.nx Γ) s1
    | true => (m Γ s1).bind fun o s2 => match o with
      | .nx Γ1 => mWhile mc m n Γ1 s2
      | .ct Γ1 => mWhile mc m n Γ1 s2
      | .bk Γ1 => .ok (.nx Γ1) s2
      | o => .ok o s2 := rfl
theorem ds_while {body : List Stmt} {mc : Env → M Bool} {m : MS} (n : Nat) (hp : PassesOwn (model X.prog X.w) X.A X.env X.xe) (hc : PTd X EX c mc) (hb : PSsd X EX body m) : PSd X EX (.While c body [] pos) (mWhile mc m n) := by
  obtain ⟨tc, pc, qc⟩ := hc
  obtain ⟨tb, pb, qb⟩ := hb
  refine ⟨_, ps_while hp pc pb, fun W0 W Γ σ s D g sat sr pp => ?_⟩
  let Inv' : Nat → L2.St → Hp → Prop := fun k σ H => ∃ W Γ s, W.H = H ∧ Grow W0 W ∧ Sat X.K W0.H W Γ σ ∧ SRep X.K W s ∧ PostS X.K EX W0 W (mWhile mc m k Γ s) (WantS X.K W0 W0.H D)
  refine ⟨Inv', ⟨n, W, Γ, s, rfl, g, sat, sr, pp⟩, ?_⟩
  rintro k σ H ⟨W, Γ, s, rfl, g, sat, sr, pp⟩
  cases k with
  | zero => exact pp.elim
  | succ k =>
    rw [mWhile_succ] at pp
    refine qc _ W Γ σ s _ sat sr (pp.bindE g fun b s1 W1 _ g1 sr1 p1 => ?_)
    cases b with
    | false => exact p1 W1 (g.trans g1) (Ext.refl _) sr1 σ (sat.grow g1)
    | true =>
      refine ⟨Inv' k, fun σ' H' h => ⟨k, by omega, h⟩, ?_⟩
      refine qb W0 W1 Γ σ s1 _ (g.trans g1) (sat.grow g1) sr1 (p1.bindS fun o s2 W2 _ g2 gx sr2 p2 => ?_)
      cases o with
      | nx Γ1 => exact fun σ' sat' => ⟨W2, Γ1, s2, rfl, g2, sat', sr2, p2⟩
      | ct Γ1 => exact fun σ' sat' => ⟨W2, Γ1, s2, rfl, g2, sat', sr2, p2⟩
      | bk Γ1 => exact fun σ' sat' => p2 W2 g2 (Ext.refl _) sr2 σ' sat'
      | rt d => exact fun v r => p2 W2 g2 (Ext.refl _) sr2 v r
      | ro d => exact fun p vs h0 h1 h2 h3 r => p2 W2 g2 (Ext.refl _) sr2 p vs h0 h1 h2 h3 r
end
end PD
set_option maxRecDepth 100000
set_option maxHeartbeats 4000000
namespace PD
open PySem PySem.Spec PyProof.Rows L2

/-! ### for -/
def forGo (tg : Tg) (b : MS) : List D → MS
  | [] => fun Γ s => .ok (.nx Γ) s
  | d :: ds => fun Γ s => match bindT tg d Γ with
    | none => .bad
    | some Γ1 => (b Γ1 s).bind fun o s2 => match o with
      | .nx Γ2 => forGo tg b ds Γ2 s2
      | .ct Γ2 => forGo tg b ds Γ2 s2
      | .bk Γ2 => .ok (.nx Γ2) s2
      | o => .ok o s2
def mFor (mi : Env → M (List D)) (tg : Tg) (b : MS) : MS := fun Γ s => (mi Γ s).bind fun ds s1 => forGo tg b ds Γ s1
section
variable {X : Cx} {EX : XK} {a b c e tg : Expr} {pos : Pos} {st : Stmt} {rest es : List Stmt}
theorem ds_for {iter : Expr} {body : List Stmt} {mi : Env → M (List D)} {t : Tg} {m : MS} (hp : PassesOwn (model X.prog X.w) X.A X.env X.xe) (hc : X.calm = true) (hi : PId X EX tg iter mi) (hg : PGd X tg t) (hb : PSsd X EX body m)
    (hs : ∀ x, foldedSetIterable iter X.env x = pure x) : PSd X EX (.For tg iter body [] pos) (mFor mi t m) := by
  obtain ⟨wi, pi, qi⟩ := hi
  obtain ⟨g, pg, qg⟩ := hg
  obtain ⟨tb, pb, qb⟩ := hb
  refine ⟨_, ps_for hp hc pi pg pb hs, fun W0 W Γ σ s D g0 sat sr pp => ?_⟩
  refine qi _ W Γ σ s _ sat sr (pp.bindE g0 fun items s1 W1 _ g1 sr1 p1 J iv => ?_)
  let Inv' : Nat → L2.St → Hp → Prop := fun i σ H => ∃ W Γ s, W.H = H ∧ Grow W0 W ∧ Ext W1 W ∧ Sat X.K W0.H W Γ σ ∧ SRep X.K W s ∧ PostS X.K EX W0 W (forGo t m (items.drop i) Γ s) (WantS X.K W0 W0.H D)
  refine ⟨fun i m σ H => m = items.length - i ∧ i ≤ items.length ∧ Inv' i σ H, ⟨items.length, rfl, Nat.zero_le _, W1, Γ, s1, rfl, g0.trans g1, Ext.refl _, sat.grow g1, sr1, by rw [List.drop_zero]; exact p1⟩, ?_⟩
  rintro i k σ H ⟨rfl, hi, W, Γ, s, rfl, gW, gx, sat, srW, pst⟩
  obtain ⟨iv1, iv2⟩ := iv i W gx.f (fun i a h => gx.ix h)
  by_cases hlt : i < items.length
  · obtain ⟨go, yld⟩ := iv1 items[i] (by simp [hlt])
    refine .inr ⟨go, Inv' (i + 1), fun σ' H' h' => ⟨items.length - (i + 1), by omega, rfl, hlt, h'⟩, fun x H' y => ?_⟩
    obtain ⟨W2, g2, sr2, rfl, rx⟩ := yld x H' y s srW
    rw [List.drop_eq_getElem_cons hlt] at pst
    unfold forGo at pst
    cases hb : bindT t items[i] Γ with
    | none => rw [hb] at pst; exact pst.elim
    | some Γ1 =>
      rw [hb] at pst
      refine qg _ W2 _ Γ1 _ _ x _ (sat.grow g2) rx hb fun σ2 sat3 _ => ?_
      have gW2 := gW.trans g2
      refine qb W0 W2 Γ1 σ2 s _ gW2 sat3 sr2 (PostS.bindS (PostS.ext g2.ext pst) fun o s3 W3 _ g3 gx3 sr3 p3 => ?_)
      have gx' : Ext W1 W3 := (gx.trans g2.ext).trans gx3
      cases o with
      | nx Γ1 => exact fun σ' sat' => ⟨W3, Γ1, s3, rfl, g3, gx', sat', sr3, p3⟩
      | ct Γ1 => exact fun σ' sat' => ⟨W3, Γ1, s3, rfl, g3, gx', sat', sr3, p3⟩
      | bk Γ1 => exact fun σ' sat' => p3 W3 g3 (Ext.refl _) sr3 σ' sat'
      | rt d => exact fun v r => p3 W3 g3 (Ext.refl _) sr3 v r
      | ro d => exact fun p vs h0 h1 h2 h3 r => p3 W3 g3 (Ext.refl _) sr3 p vs h0 h1 h2 h3 r
  · have e : i = items.length := by omega
    refine .inl ⟨iv2 e, ?_⟩
    rw [e, List.drop_length] at pst
    exact pst W gW (Ext.refl _) srW σ sat

/-! ### what is stored -/
theorem SlotOk.own' {K : PySem.W.Frag} {B B' : Hp} {W : Wd} {x : SV} {o : Option V} (h : SlotOk K B W x o) (hB : ∀ a, B a = none → B' a = none) : SlotOk K B' W x o := by
  cases x with
  | nul => trivial
  | dat d => exact h
  | own ds =>
    obtain ⟨p, vs, e, h1, h2, h3, h4, r⟩ := h
    exact ⟨p, vs, e, h1, h2, h3, hB p h4, r⟩
theorem Sat.setO {K : PySem.W.Frag} {B : Hp} {W : Wd} {Γ : Env} {σ : L2.St} (h : Sat K B W Γ σ) {i : Nat} {x : SV} {v : V} (r : SlotOk K B W x (some v)) (fr : isOwn x = true → ∀ (j : Nat) (y : SV), Γ[j]? = some y → isOwn y = true → σ[j]? ≠ some (some v)) : Sat K B W (Γ.set i x) (σ.set i (some v)) := by
  refine ⟨by simp [h.len], fun j y o e1 e2 => ?_, fun j k y z o e1 e2 oy oz e3 e4 => ?_⟩
  · by_cases hj : i = j
    · subst hj
      have hl : i < Γ.length := by simpa using (List.getElem?_eq_some_iff.mp e1).1
      have hl2 : i < σ.length := by rw [h.len]; exact hl
      rw [List.getElem?_set_self hl] at e1
      rw [List.getElem?_set_self hl2] at e2
      cases e1; cases e2
      exact r
    · rw [List.getElem?_set_ne hj] at e1 e2
      exact h.at_ j y o e1 e2
  · by_cases hj : i = j
    · subst hj
      by_cases hk : i = k
      · exact hk
      · have hl : i < Γ.length := by simpa using (List.getElem?_eq_some_iff.mp e1).1
        have hl2 : i < σ.length := by rw [h.len]; exact hl
        rw [List.getElem?_set_self hl] at e1
        rw [List.getElem?_set_self hl2] at e3
        rw [List.getElem?_set_ne hk] at e2 e4
        cases e1; cases e3
        exact absurd e4 (fr oy k z e2 oz)
    · by_cases hk : i = k
      · subst hk
        have hl : i < Γ.length := by simpa using (List.getElem?_eq_some_iff.mp e2).1
        have hl2 : i < σ.length := by rw [h.len]; exact hl
        rw [List.getElem?_set_self hl] at e2
        rw [List.getElem?_set_self hl2] at e4
        rw [List.getElem?_set_ne hj] at e1 e3
        cases e2; cases e4
        exact absurd e3 (fr oz j y e1 oy)
      · rw [List.getElem?_set_ne hj] at e1 e3
        rw [List.getElem?_set_ne hk] at e2 e4
        exact h.sep j k y z o e1 e2 oy oz e3 e4
/-- a source of what is stored: from the world W to W' -/
abbrev WantV1 (K : PySem.W.Frag) (W : Wd) (Q : VK) : Wd → Store → SV → Prop := fun W' _ x => ∀ v, SlotOk K W.H W' x (some v) → Q v W'.H
def PRd (X : Cx) (EX : XK) (e : Expr) (m : Env → M SV) : Prop := ∃ t, PE X e t ∧
  ∀ B W Γ σ s Q, Sat X.K B W Γ σ → SRep X.K W s → Post X.K EX W (m Γ s) (WantV1 X.K W Q) → t σ W.H Q
def mSd (m : Env → M D) : Env → M SV := fun Γ s => (m Γ s).bind fun d s1 => .ok (.dat d) s1
def mSo (m : Env → M (List D)) : Env → M SV := fun Γ s => (m Γ s).bind fun d s1 => .ok (.own d) s1
theorem PEd.r {m : Env → M D} (h : PEd X EX e m) : PRd X EX e (mSd m) := by
  obtain ⟨t, p, q⟩ := h
  exact ⟨t, p, fun B W Γ σ s Q sat sr pp => q B W Γ σ s _ sat sr (pp.bind fun d s1 W1 _ g1 sr1 p1 v r => p1 W1 (Grow.refl _) sr1 v ⟨v, rfl, r⟩)⟩
theorem POd.r {m : Env → M (List D)} (h : POd X EX e m) : PRd X EX e (mSo m) := by
  obtain ⟨t, p, q⟩ := h
  exact ⟨t, p, fun B W Γ σ s Q sat sr pp => q B W Γ σ s _ sat sr (pp.bind fun d s1 W1 _ g1 sr1 p1 p vs h0 h1 h2 h3 r => p1 W1 (Grow.refl _) sr1 (.ref p) ⟨p, vs, rfl, h1, h2, h3, h0, r⟩)⟩
/-- new own lists stand apart from those in the slots -/
theorem own_fresh {K : PySem.W.Frag} {B : Hp} {W W1 : Wd} {Γ : Env} {σ : L2.St} (sat : Sat K B W Γ σ) {x : SV} {v : V} (h : SlotOk K W.H W1 x (some v)) (hx : isOwn x = true) : ∀ (j : Nat) (y : SV), Γ[j]? = some y → isOwn y = true → σ[j]? ≠ some (some v) := fun j y e oy e2 => by
  cases x with
  | own ds =>
    cases y with
    | own es =>
      obtain ⟨p, vs, e1, h1, h2, h3, h4, r⟩ := h
      obtain ⟨p', vs', e1', h1', h2', h3', h4', r'⟩ := sat.at_ j _ _ e e2
      cases e1; cases e1'
      rw [h4] at h1'; cases h1'
    | _ => cases oy
  | _ => cases hx
def mAsg (i : Nat) (m : Env → M SV) : MS := fun Γ s => (m Γ s).bind fun x s1 => .ok (.nx (Γ.set i x)) s1
theorem run_asg {i : Nat} {te : TE} {m : Env → M SV} (q : ∀ B W Γ σ s Q, Sat X.K B W Γ σ → SRep X.K W s → Post X.K EX W (m Γ s) (WantV1 X.K W Q) → te σ W.H Q) : Run X.K EX (tAsg te (gName i)) (mAsg i m) := fun W0 W Γ σ s D g sat sr pp =>
  q _ W Γ σ s _ sat sr (pp.bindE g fun x s1 W1 _ g1 sr1 p1 v h => p1 W1 (g.trans g1) (Ext.refl _) sr1 _ ((sat.grow g1).setO (h.own' fun a e => by
    cases h' : W0.H a with
    | none => rfl
    | some o => exact absurd e (g.t a (by rw [h']; simp))) (own_fresh sat h)))
theorem ds_asg {i : Nat} {x : Str} {p : Pos} {m : Env → M SV} (hN : X.N.Nodup) (hi : X.N[i]? = some x) (hx : Loc X.env.scope x) (hf : X.fn x = true ∨ X.env.scope.names.lookup x = some .local) (h : PRd X EX e m)
    (hs : swapsWith e (some (.Name x p)) pos.line X.env = pure false) : PSd X EX (.Assign [.Name x p] e pos) (mAsg i m) := by
  obtain ⟨t, p, q⟩ := h
  exact ⟨_, ps_set hN hi hx p hs hf, run_asg q⟩
/-- one target that takes data apart -/
def mUnp (t : Tg) (m : Env → M D) : MS := fun Γ s => (m Γ s).bind fun d s1 => match bindT t d Γ with
  | none => .bad
  | some Γ1 => .ok (.nx Γ1) s1
theorem ds_unp {t : Tg} {m : Env → M D} {es : List Expr} {k : Nat} {p2 : Pos} (h : PEd X EX e m) (hg : PGd X (.Tuple es k p2) t) (hs : swapsWithSole [.Tuple es k p2] e pos.line X.env = pure false) (hw : swappedStores [.Tuple es k p2] e X.env = pure none) : PSd X EX (.Assign [.Tuple es k p2] e pos) (mUnp t m) := by
  obtain ⟨te, p, q⟩ := h
  obtain ⟨g, pg, qg⟩ := hg
  refine ⟨_, ps_asg p pg hs hw, fun W0 W Γ σ s D g0 sat sr pp => q _ W Γ σ s _ sat sr (pp.bindE g0 fun d s1 W1 _ g1 sr1 p1 v r => ?_)⟩
  cases hb : bindT t d Γ with
  | none => rw [hb] at p1; exact p1.elim
  | some Γ1 =>
    rw [hb] at p1
    exact qg _ W1 Γ Γ1 σ d v _ (sat.grow g1) r hb fun σ' sat' _ => p1 W1 (g0.trans g1) (Ext.refl _) sr1 σ' sat'

/-! ### several at once -/
structure SvOk (K : PySem.W.Frag) (B : Hp) (W : Wd) (xs : List SV) (vs : List V) : Prop where
  len : xs.length = vs.length
  at_ : ∀ (i : Nat) (x : SV) (v : V), xs[i]? = some x → vs[i]? = some v → SlotOk K B W x (some v)
  sep : ∀ (i j : Nat) (x y : SV) (v : V), xs[i]? = some x → xs[j]? = some y → isOwn x = true → isOwn y = true → vs[i]? = some v → vs[j]? = some v → i = j
abbrev WantSV (K : PySem.W.Frag) (W : Wd) (Q : List V → Hp → Prop) : Wd → Store → List SV → Prop := fun W' _ xs => ∀ vs, SvOk K W.H W' xs vs → Q vs W'.H
def PRsd (X : Cx) (EX : XK) (es : List Expr) (m : Env → M (List SV)) : Prop := ∃ t, PA X es t ∧
  ∀ B W Γ σ s Q, Sat X.K B W Γ σ → SRep X.K W s → Post X.K EX W (m Γ s) (WantSV X.K W Q) → t σ W.H Q
def mRnil : Env → M (List SV) := fun _ s => .ok [] s
def mRcons (m : Env → M SV) (ms : Env → M (List SV)) : Env → M (List SV) := fun Γ s => (m Γ s).bind fun d s1 => (ms Γ s1).bind fun ds s2 => .ok (d :: ds) s2
theorem dr_nil : PRsd X EX [] mRnil := ⟨_, pa_nil, fun B W Γ σ s Q sat sr p => p W (Grow.refl W) sr [] ⟨rfl, fun i x v e _ => by simp at e, fun i j x y v e _ => by simp at e⟩⟩
theorem SvOk.cons {K : PySem.W.Frag} {W W1 W2 : Wd} {x : SV} {v : V} {xs : List SV} {vs : List V} (g1 : Grow W W1) (g2 : Grow W1 W2) (h : SlotOk K W.H W1 x (some v)) (hs : SvOk K W1.H W2 xs vs) : SvOk K W.H W2 (x :: xs) (v :: vs) := by
  have back : ∀ a, W1.H a = none → W.H a = none := fun a e => by
    cases h' : W.H a with
    | none => rfl
    | some o => exact absurd e (g1.t a (by rw [h']; simp))
  have apart : ∀ (j : Nat) (y : SV), xs[j]? = some y → isOwn y = true → isOwn x = true → vs[j]? ≠ some v := fun j y e oy ox e2 => by
    have hy := hs.at_ j y v e e2
    cases x with
    | own ds =>
      cases y with
      | own es =>
        obtain ⟨p, us, e1, h1, _⟩ := h
        obtain ⟨p', us', e1', h1', h2', h3', h4', r'⟩ := hy
        cases e1; cases e1'
        rw [h1] at h4'; cases h4'
      | _ => cases oy
    | _ => cases ox
  refine ⟨by simp [hs.len], fun i y u e1 e2 => ?_, fun i j y z u e1 e2 oy oz e3 e4 => ?_⟩
  · cases i with
    | zero =>
      rw [List.getElem?_cons_zero] at e1 e2
      cases e1; cases e2
      exact h.grow g2
    | succ i =>
      rw [List.getElem?_cons_succ] at e1 e2
      exact (hs.at_ i y u e1 e2).own' back
  · cases i with
    | zero =>
      cases j with
      | zero => rfl
      | succ j =>
        rw [List.getElem?_cons_zero] at e1 e3
        rw [List.getElem?_cons_succ] at e2 e4
        cases e1; cases e3
        exact absurd e4 (apart j z e2 oz oy)
    | succ i =>
      cases j with
      | zero =>
        rw [List.getElem?_cons_zero] at e2 e4
        rw [List.getElem?_cons_succ] at e1 e3
        cases e2; cases e4
        exact absurd e3 (apart i y e1 oy oz)
      | succ j =>
        rw [List.getElem?_cons_succ] at e1 e2 e3 e4
        rw [hs.sep i j y z u e1 e2 oy oz e3 e4]
theorem dr_cons {es : List Expr} {m : Env → M SV} {ms : Env → M (List SV)} (h : PRd X EX e m) (hs : PRsd X EX es ms) (hst : starEach (e :: es) X.env = (false, eval e X.env) :: starEach es X.env) : PRsd X EX (e :: es) (mRcons m ms) := by
  obtain ⟨t, p, q⟩ := h
  obtain ⟨t2, p2, q2⟩ := hs
  refine ⟨_, pa_cons p p2 hst, fun B W Γ σ s Q sat sr pp => q B W Γ σ s _ sat sr (Post.bind pp fun d s1 W1 _ g1 sr1 p1 v r => ?_)⟩
  exact q2 B W1 Γ σ s1 _ (sat.grow g1) sr1 (Post.bind p1 fun ds s2 W2 _ g2 sr2 pp2 vs rs => pp2 W2 (Grow.refl W2) sr2 _ (.cons g1 g2 r rs))
/-- slots stored, one after another -/
def setAllE : List Nat → List SV → Env → Env
  | i :: is, x :: xs, Γ => setAllE is xs (Γ.set i x)
  | _, _, Γ => Γ
def setAllS : List Nat → List V → L2.St → L2.St
  | i :: is, x :: xs, Γ => setAllS is xs (Γ.set i (some x))
  | _, _, Γ => Γ
theorem Sat.setAll {K : PySem.W.Frag} {B : Hp} {W : Wd} : ∀ {is : List Nat} {xs : List SV} {vs : List V} {Γ : Env} {σ : L2.St}, Sat K B W Γ σ → SvOk K B W xs vs →
    (∀ (k : Nat) (x : SV) (v : V), xs[k]? = some x → vs[k]? = some v → isOwn x = true → ∀ (j : Nat) (y : SV), Γ[j]? = some y → isOwn y = true → σ[j]? ≠ some (some v)) → Sat K B W (setAllE is xs Γ) (setAllS is vs σ)
  | [], xs, vs, Γ, σ, h, ok, fr => by
    cases xs <;> cases vs <;> exact h
  | i :: is, [], vs, Γ, σ, h, ok, fr => by
    cases vs with
    | nil => exact h
    | cons _ _ => exact nomatch ok.len
  | i :: is, x :: xs, [], Γ, σ, h, ok, fr => nomatch ok.len
  | i :: is, x :: xs, v :: vs, Γ, σ, h, ok, fr => by
    refine Sat.setAll (is := is) (xs := xs) (vs := vs) (h.setO (ok.at_ 0 x v rfl rfl) (fr 0 x v rfl rfl)) ⟨by simpa using ok.len, fun k y u e1 e2 => ok.at_ (k + 1) y u (by simpa using e1) (by simpa using e2), fun k l y z u e1 e2 oy oz e3 e4 => by
      have := ok.sep (k + 1) (l + 1) y z u (by simpa using e1) (by simpa using e2) oy oz (by simpa using e3) (by simpa using e4)
      omega⟩ fun k y u e1 e2 oy j z e3 oz e4 => ?_
    by_cases hj : i = j
    · subst hj
      have hl : i < Γ.length := by simpa using (List.getElem?_eq_some_iff.mp e3).1
      have hl2 : i < σ.length := by rw [h.len]; exact hl
      rw [List.getElem?_set_self hl] at e3
      rw [List.getElem?_set_self hl2] at e4
      cases e3; cases e4
      have := ok.sep 0 (k + 1) x y v rfl (by simpa using e1) oz oy rfl (by simpa using e2)
      omega
    · rw [List.getElem?_set_ne hj] at e3 e4
      exact fr (k + 1) y u (by simpa using e1) (by simpa using e2) oy j z e3 oz e4
def mPar (is : List Nat) (ms : Env → M (List SV)) : MS := fun Γ s => (ms Γ s).bind fun xs s1 => if xs.length = is.length then .ok (.nx (setAllE is xs Γ)) s1 else .bad
/-- the reading that any rule for it implies -/
def tParN (is : List Nat) (t : TA) : TS := fun D σ H => t σ H fun vs H1 => vs.length = is.length ∧ D.nx (setAllS is vs σ) H1
def tParT (is : List Nat) (t : TA) : TS := fun D σ H => t σ H fun vs H1 => vs.length = is.length ∧ vs.length ≤ sizeLine ∧ ∀ p, H1 p = none → D.nx (setAllS is vs σ) (upd H1 p (.tup vs))
theorem par_run {is : List Nat} {t : TA} {ms : Env → M (List SV)} (q : ∀ B W Γ σ s Q, Sat X.K B W Γ σ → SRep X.K W s → Post X.K EX W (ms Γ s) (WantSV X.K W Q) → t σ W.H Q) {W0 W : Wd} {Γ : Env} {σ : L2.St} {s : Store} {D : Ends} {R : List V → Hp → Prop}
    (g : Grow W0 W) (sat : Sat X.K W0.H W Γ σ) (sr : SRep X.K W s) (pp : PostS X.K EX W0 W (mPar is ms Γ s) (WantS X.K W0 W0.H D))
    (w : ∀ vs W1 s1 Γ1, vs.length = is.length → Grow W W1 → SRep X.K W1 s1 → Sat X.K W0.H W1 Γ1 (setAllS is vs σ) → PostS X.K EX W0 W1 (.ok (.nx Γ1) s1) (WantS X.K W0 W0.H D) → R vs W1.H) : t σ W.H R :=
  q _ W Γ σ s _ sat sr (pp.bindE g fun xs s1 W1 _ g1 sr1 p1 vs ok => by
    have back : ∀ a, W.H a = none → W0.H a = none := fun a e => by
      cases h' : W0.H a with
      | none => rfl
      | some o => exact absurd e (g.t a (by rw [h']; simp))
    split at p1
    · rename_i hl
      refine w vs W1 s1 _ (by rw [← ok.len]; exact hl) g1 sr1 (Sat.setAll (sat.grow g1) ⟨ok.len, fun i x v e1 e2 => (ok.at_ i x v e1 e2).own' back, ok.sep⟩ fun k x v e1 e2 ox j y e3 oy e4 => ?_) p1
      exact own_fresh sat (ok.at_ k x v e1 e2) ox j y e3 oy e4
    · exact p1.elim)
theorem ds_par2 {i j : Nat} {x y : Str} {px py pt : Pos} {kt k2 pt2} {ms : Env → M (List SV)} (hc : X.calm = true) (hN : X.N.Nodup) (hi : X.N[i]? = some x) (hj : X.N[j]? = some y) (hij : i ≠ j)
    (hx : X.env.scope.names.lookup x = some .local) (hy : X.env.scope.names.lookup y = some .local) (ha : PRsd X EX [a, b] ms)
    (hw : swappedStores [.Tuple [.Name x px, .Name y py] kt pt] (.Tuple [a, b] k2 pt2) X.env = pure (some [x, y]))
    (hs : swapsWithSole [.Tuple [.Name x px, .Name y py] kt pt] (.Tuple [a, b] k2 pt2) pos.line X.env = pure false) : PSd X EX (.Assign [.Tuple [.Name x px, .Name y py] kt pt] (.Tuple [a, b] k2 pt2) pos) (mPar [i, j] ms) := by
  obtain ⟨t, p, q⟩ := ha
  refine ⟨tPar i j t, ps_par hc hN hi hj hij hx hy p hw hs, fun W0 W Γ σ s D g sat sr pp => par_run q g sat sr pp fun vs W1 s1 Γ1 hl g1 sr1 sat1 p1 => ?_⟩
  match vs, hl with
  | [v, w], _ => exact ⟨v, w, rfl, p1 W1 (g.trans g1) (Ext.refl _) sr1 _ sat1⟩
theorem ds_par3 {i j l : Nat} {x y z : Str} {px py pz pt : Pos} {kt k2 pt2} {ms : Env → M (List SV)} (hc : X.calm = true) (hN : X.N.Nodup) (hi : X.N[i]? = some x) (hj : X.N[j]? = some y) (hl : X.N[l]? = some z) (hij : i ≠ j) (hil : i ≠ l) (hjl : j ≠ l)
    (hx : X.env.scope.names.lookup x = some .local) (hy : X.env.scope.names.lookup y = some .local) (hz : X.env.scope.names.lookup z = some .local) (ha : PRsd X EX [a, b, c] ms)
    (hw : swappedStores [.Tuple [.Name x px, .Name y py, .Name z pz] kt pt] (.Tuple [a, b, c] k2 pt2) X.env = pure (some [x, y, z]))
    (hs : swapsWithSole [.Tuple [.Name x px, .Name y py, .Name z pz] kt pt] (.Tuple [a, b, c] k2 pt2) pos.line X.env = pure false) : PSd X EX (.Assign [.Tuple [.Name x px, .Name y py, .Name z pz] kt pt] (.Tuple [a, b, c] k2 pt2) pos) (mPar [i, j, l] ms) := by
  obtain ⟨t, p, q⟩ := ha
  refine ⟨tPar3 i j l t, ps_par3 hc hN hi hj hl hij hil hjl hx hy hz p hw hs, fun W0 W Γ σ s D g sat sr pp => par_run q g sat sr pp fun vs W1 s1 Γ1 hl g1 sr1 sat1 p1 => ?_⟩
  match vs, hl with
  | [u, v, w], _ => exact ⟨u, v, w, rfl, p1 W1 (g.trans g1) (Ext.refl _) sr1 _ sat1⟩
/-- names, one after another -/
inductive NmOk (X : Cx) : List Expr → List Nat → Prop where
  | nil : NmOk X [] []
  | cons {x : Str} {i : Nat} {p : Pos} {es : List Expr} {is : List Nat} (hi : X.N[i]? = some x) (hx : Loc X.env.scope x) (hf : X.fn x = true ∨ X.env.scope.names.lookup x = some .local) (t : NmOk X es is) : NmOk X (.Name x p :: es) (i :: is)
def gNms : List Nat → TGs
  | [] => gNil
  | i :: is => gCons (gName i) (gNms is)
theorem nm_pgs (hN : X.N.Nodup) : ∀ {es : List Expr} {is : List Nat}, NmOk X es is → PGs X es (gNms is) ∧ (assignEach es X.env).length = is.length ∧ (assignEach es X.env).findIdx? (·.1) = none
  | _, _, .nil => ⟨pgs_nil, rfl, rfl⟩
  | _, _, .cons hi hx hf t => by
    obtain ⟨h1, h2, h3⟩ := nm_pgs hN t
    refine ⟨pgs_cons (pg_name hN hi hx hf) h1, ?_, ?_⟩
    · show (_ :: assignEach _ X.env).length = _
      rw [List.length_cons, h2, List.length_cons]
    · show List.findIdx? _ (_ :: assignEach _ X.env) = none
      rw [List.findIdx?_cons, h3]; rfl
theorem gNms_run {Q : L2.St → Hp → Prop} {H : Hp} : ∀ {is : List Nat} {vs : List V} {σ : L2.St}, vs.length = is.length → Q (setAllS is vs σ) H → gNms is vs σ H Q
  | [], [], σ, _, h => ⟨rfl, h⟩
  | i :: is, v :: vs, σ, hl, h => ⟨v, vs, rfl, gNms_run (is := is) (vs := vs) (by simpa using hl) h⟩
  | [], _ :: _, _, hl, _ => nomatch hl
  | _ :: _, [], _, hl, _ => nomatch hl
theorem ds_parN {ts es : List Expr} {is : List Nat} {pt : Pos} {kt k2 pt2} {ms : Env → M (List SV)} (hc : X.calm = true) (hN : X.N.Nodup) (hn : NmOk X ts is) (hz : is.length ≤ 1000) (ha : PRsd X EX es ms)
    (hw : swappedStores [.Tuple ts kt pt] (.Tuple es k2 pt2) X.env = pure none)
    (hs : swapsWithSole [.Tuple ts kt pt] (.Tuple es k2 pt2) pos.line X.env = pure false) : PSd X EX (.Assign [.Tuple ts kt pt] (.Tuple es k2 pt2) pos) (mPar is ms) := by
  obtain ⟨t, p, q⟩ := ha
  obtain ⟨g1, g2, g3⟩ := nm_pgs hN hn
  refine ⟨_, ps_asg (pe_tup p) (pg_tup hc g1 g2 g3) hs hw, fun W0 W Γ σ s D g sat sr pp => par_run q g sat sr pp fun vs W1 s1 Γ1 hl g1 sr1 sat1 p1 => ⟨?_, fun p hp => ?_⟩⟩
  · exact Nat.le_trans (by omega) (show 1000 ≤ sizeLine by decide)
  · refine ⟨p, vs, rfl, .inl (.inl upd_same), hl, gNms_run hl ?_⟩
    have gn := Grow.new (o := .tup vs) hp sr1
    exact p1 (W1.new p (.tup vs)) ((g.trans g1).trans gn) gn.ext (sr1.new hp) _ (sat1.grow gn)
end
end PD
set_option maxRecDepth 100000
set_option maxHeartbeats 4000000
namespace PD
open PySem PySem.Spec PyProof.Rows L2

/-! ## writes -/
/-- ghost: an own list is data from now on -/
def frzE (i : Nat) (Γ : Env) : Env := match Γ[i]? with
  | some (.own ds) => Γ.set i (.dat (.lst ds))
  | _ => Γ
def mGhost (i : Nat) (m : MS) : MS := fun Γ s => m (frzE i Γ) s
theorem List.set_same {α : Type} {l : List α} {i : Nat} {x : α} (h : l[i]? = some x) : l.set i x = l := by
  apply List.ext_getElem?
  intro j
  by_cases e : i = j
  · subst e
    rw [List.getElem?_set_self (List.getElem?_eq_some_iff.mp h).1, h]
  · rw [List.getElem?_set_ne e]
/-- what an own slot says under a frozen neighbour -/
theorem Sat.frz {K : PySem.W.Frag} {B : Hp} {W : Wd} {Γ : Env} {σ : L2.St} {i : Nat} {ds : List D} {q : Addr} {vs : List V} (sat : Sat K B W Γ σ) (e : Γ[i]? = some (.own ds)) (h1 : σ[i]? = some (some (.ref q))) (h3 : W.H q = some (.lst vs)) (h4 : W.F q = none) (r : RepL K W ds vs) :
    Sat K B (W.frz q _ h3) (Γ.set i (.dat (.lst ds))) σ := by
  have sb := frz_sub h3 h4
  refine ⟨by simp [sat.len], fun j x o e1 e2 => ?_, fun j k x y o e1 e2 ox oy e3 e4 => ?_⟩
  · by_cases hj : i = j
    · subst hj
      rw [List.getElem?_set_self (List.getElem?_eq_some_iff.mp e).1] at e1
      cases e1
      rw [h1] at e2; cases e2
      exact ⟨_, rfl, .lst (show upd W.F q _ q = _ from upd_same) (r.frz h3 h4)⟩
    · rw [List.getElem?_set_ne hj] at e1
      have h := sat.at_ j x o e1 e2
      cases x with
      | nul => trivial
      | dat d => obtain ⟨v, e', r'⟩ := h; exact ⟨v, e', r'.of sb (fun _ _ z => z)⟩
      | own es =>
        obtain ⟨p', us, e', k1, k2, k3, k4, r'⟩ := h
        have ne : p' ≠ q := fun z => by
          subst z
          exact hj (sat.sep i j _ _ _ e e1 rfl rfl h1 (by rw [e2, e']))
        refine ⟨p', us, e', k1, ?_, k3, k4, r'.of sb (fun _ _ z => z)⟩
        show upd W.F q _ p' = none
        rw [upd_ne ne]; exact k2
  · have nj : i ≠ j := fun z => by
      subst z
      rw [List.getElem?_set_self (List.getElem?_eq_some_iff.mp e).1] at e1
      cases e1; cases ox
    have nk : i ≠ k := fun z => by
      subst z
      rw [List.getElem?_set_self (List.getElem?_eq_some_iff.mp e).1] at e2
      cases e2; cases oy
    rw [List.getElem?_set_ne nj] at e1
    rw [List.getElem?_set_ne nk] at e2
    exact sat.sep j k x y o e1 e2 ox oy e3 e4
theorem Run.ghost {K : PySem.W.Frag} {EX : XK} {t : TS} {m : MS} (i : Nat) (h : Run K EX t m) : Run K EX t (mGhost i m) := fun W0 W Γ σ s D g sat sr pp => by
  unfold mGhost frzE at pp
  split at pp
  · rename_i ds e
    obtain ⟨o, h1, q, vs, h2, h3, h4, h5, h6, r⟩ := sat.slot e
    subst h2
    have gx : Ext W (W.frz q _ h3) := ⟨frz_sub h3 h4, [], by simp [Wd.frz]⟩
    exact h W0 (W.frz q _ h3) _ σ s D (g.frz h3 h6 h4) (sat.frz e h1 h3 h4 r) (sr.frz h3 h4 h5) (PostS.ext gx pp)
  · exact h W0 W Γ σ s D g sat sr pp
section
variable {X : Cx} {EX : XK} {a b c e tg : Expr} {pos : Pos} {st : Stmt} {rest : List Stmt}
theorem ds_ghost {m : MS} (i : Nat) (h : PSd X EX st m) : PSd X EX st (mGhost i m) := by
  obtain ⟨t, p, q⟩ := h
  exact ⟨t, p, q.ghost i⟩
/-- the own list of slot i is written -/
theorem Sat.wr {K : PySem.W.Frag} {B : Hp} {W : Wd} {Γ : Env} {σ : L2.St} {i : Nat} {ds es : List D} {q : Addr} {vs us : List V} (sat : Sat K B W Γ σ) (e : Γ[i]? = some (.own ds)) (h1 : σ[i]? = some (some (.ref q))) (h3 : W.H q = some (.lst vs)) (h4 : W.F q = none) (h5 : q ∉ W.A) (h6 : B q = none) (r : RepL K W es us) :
    Sat K B (W.put q (.lst us) h4) (Γ.set i (.own es)) σ := by
  refine ⟨by simp [sat.len], fun j x o e1 e2 => ?_, fun j k x y o e1 e2 ox oy e3 e4 => ?_⟩
  · by_cases hj : i = j
    · subst hj
      rw [List.getElem?_set_self (List.getElem?_eq_some_iff.mp e).1] at e1
      cases e1
      rw [h1] at e2; cases e2
      exact ⟨q, us, rfl, upd_same, h4, h5, h6, r.put h4⟩
    · rw [List.getElem?_set_ne hj] at e1
      have h := sat.at_ j x o e1 e2
      cases x with
      | nul => trivial
      | dat d => obtain ⟨v, e', r'⟩ := h; exact ⟨v, e', r'.put h4⟩
      | own es' =>
        obtain ⟨p', us', e', k1, k2, k3, k4, r'⟩ := h
        have ne : p' ≠ q := fun z => by
          subst z
          exact hj (sat.sep i j _ _ _ e e1 rfl rfl h1 (by rw [e2, e']))
        refine ⟨p', us', e', ?_, k2, k3, k4, r'.put h4⟩
        show upd W.H q _ p' = _
        rw [upd_ne ne]; exact k1
  · have key : ∀ (j : Nat) (x : SV), (Γ.set i (.own es))[j]? = some x → isOwn x = true → ∃ x', Γ[j]? = some x' ∧ isOwn x' = true := fun j x h ox => by
      by_cases hj : i = j
      · subst hj; exact ⟨_, e, rfl⟩
      · rw [List.getElem?_set_ne hj] at h; exact ⟨x, h, ox⟩
    obtain ⟨x', f1, ox'⟩ := key j x e1 ox
    obtain ⟨y', f2, oy'⟩ := key k y e2 oy
    exact sat.sep j k x' y' o f1 f2 ox' oy' e3 e4
theorem put_ext {W : Wd} {p : Addr} {o : HO} (h : W.F p = none) : Ext W (W.put p o h) := ⟨fun _ _ z => z, [], by simp [Wd.put]⟩
/-- x.append(e) on an own list -/
def mApp (i : Nat) (m : Env → M D) : MS := fun Γ s => match Γ[i]? with
  | some (.own ds) => (m Γ s).bind fun d s1 => if ds.length < 100000 then .ok (.nx (Γ.set i (.own (ds ++ [d])))) s1 else .bad
  | _ => .bad
theorem ds_app {i : Nat} {x : Str} {p : Pos} {apos cpos : Pos} {m : Env → M D} (hi : X.N[i]? = some x) (hv : Vis X.env.scope x) (hd : (x == ("__debug__" : Str)) = false) (hcd : (x == ("__classdict__" : Str)) = false) (h : PEd X EX e m) 
    (hbase : attributeBase (.Name x p) "append" X.env (eval (.Name x p) X.env) = eval (.Name x p) X.env)
    (hfew : ((backTo cpos (starEach [e] X.env)).all (fun x => !x.1) && (backToKw cpos (keywordEach [] X.env)).all (fun x => x.1.isSome)
      && decide ([e].length + ([] : List Keyword).length + (if ([] : List Keyword).isEmpty then 0 else 1) < 30)) = true)
    (hline : (apos.endLine == cpos.line) = true) (hs : starEach [e] X.env = [(false, eval e X.env)]) (hsw : swapsWith (.Call (.Attribute (.Name x p) "append" apos) [e] [] cpos) none pos.line X.env = pure false) :
    PSd X EX (.Expr (.Call (.Attribute (.Name x p) "append" apos) [e] [] cpos) pos) (mApp i m) := by
  obtain ⟨t, pt, q⟩ := h
  refine ⟨_, ps_expr (pe_bm PySem.F.plainAttrs_list PySem.F.slot_list_append PySem.F.type_list_append mt_append (pe_var hi hv hd hcd) (pa_cons pt pa_nil hs) hbase hfew hline hs (by rfl)) hsw, fun W0 W Γ σ s D g sat sr pp => ?_⟩
  unfold mApp at pp
  split at pp
  · rename_i ds hmm
    obtain ⟨o, h1, q0, vs, h2, h3, h4, h5, h6, r⟩ := sat.slot hmm
    subst h2
    refine ⟨_, h1, .inl ⟨rfl, vs, SqL.of h3⟩, q _ W Γ σ s _ sat sr (pp.bindE g fun d s1 W1 _ g1 sr1 p1 v rv => ?_)⟩
    split at p1
    · rename_i hl
      have k3 : W1.H q0 = some (.lst vs) := g1.h q0 _ h5 h3
      have ne : W.H q0 ≠ none := by rw [h3]; simp
      have k4 : W1.F q0 = none := g1.n q0 h4 ne
      have k5 : q0 ∉ W1.A := g1.notA h5 ne
      have r1 := r.grow g1
      have gW := g.trans g1
      refine ⟨q0, vs, v, rfl, rfl, k3, Nat.lt_of_lt_of_le (show vs.length < 100000 by rw [← r.len]; exact hl) (by decide), ?_⟩
      exact p1 (W1.put q0 (.lst (vs ++ [v])) k4) (gW.put k4 h6) (put_ext k4) (sr1.put k4 k5) σ ((sat.grow g1).wr hmm h1 k3 k4 k5 h6 (r1.app (.cons rv .nil)))
    · exact p1.elim
  · exact pp.elim
/-! ### x[i] = e -/
def mSetO (i : Nat) (mi mv : Env → M D) : MS := fun Γ s => (mv Γ s).bind fun d s1 => match Γ[i]? with
  | some (.own ds) => (mi Γ s1).bind fun k s2 => match k with
    | .int k => (match ixN ds.length k with
      | some j => .ok (.nx (Γ.set i (.own (ds.set j d)))) s2
      | none => .bad)
    | _ => .bad
  | _ => .bad
theorem ds_setO {i : Nat} {x : Str} {p p2 : Pos} {mi mv : Env → M D} (hi : X.N[i]? = some x) (hv : Vis X.env.scope x) (hd : (x == ("__debug__" : Str)) = false) (hcd : (x == ("__classdict__" : Str)) = false) (he : PEd X EX e mv) (hk : PEd X EX a mi)
    (ha : ∀ v, assign (.Subscript (.Name x p) a p2) X.env v = (do
      let ov ← holding [v] (eval (.Name x p) X.env)
      let iv ← holding [v, ov] (eval a X.env)
      standAt p2
      holding [v, ov, iv] (setItem ov iv v)
      release [v, ov, iv] [])) (hs : swapsWithSole [.Subscript (.Name x p) a p2] e pos.line X.env = pure false) (hw : swappedStores [.Subscript (.Name x p) a p2] e X.env = pure none) :
    PSd X EX (.Assign [.Subscript (.Name x p) a p2] e pos) (mSetO i mi mv) := by
  obtain ⟨te, pe, qe⟩ := he
  obtain ⟨tk, pk, qk⟩ := hk
  refine ⟨_, ps_asg pe (pg_sub (pe_var hi hv hd hcd) pk set_list ha) hs hw (by rfl), fun W0 W Γ σ s D g sat sr pp => ?_⟩
  refine qe _ W Γ σ s _ sat sr (pp.bindE g fun d s1 W1 _ g1 sr1 p1 v rv => ?_)
  split at p1
  · rename_i ds hmm
    obtain ⟨o, h1, q0, vs, h2, h3, h4, h5, h6, r⟩ := (sat.grow g1).slot hmm
    subst h2
    refine ⟨_, h1, qk _ W1 Γ σ s1 _ (sat.grow g1) sr1 (p1.bindE (g.trans g1) fun k s2 W2 _ g2 sr2 p2 u ru => ?_)⟩
    cases k with
    | int k =>
      cases ru
      have p2 : PostS X.K EX W0 W2 (match ixN ds.length k with
        | some j => .ok (.nx (Γ.set i (.own (ds.set j d)))) s2
        | none => .bad) (WantS X.K W0 W0.H D) := p2
      cases hj : ixN ds.length k with
      | none => rw [hj] at p2; exact p2.elim
      | some j =>
        rw [hj] at p2
        have k3 : W2.H q0 = some (.lst vs) := g2.h q0 _ h5 h3
        have ne : W1.H q0 ≠ none := by rw [h3]; simp
        have k4 : W2.F q0 = none := g2.n q0 h4 ne
        have k5 : q0 ∉ W2.A := g2.notA h5 ne
        have gW := (g.trans g1).trans g2
        refine ⟨q0, vs, k, j, rfl, rfl, k3, by rw [← r.len]; exact hj, ?_⟩
        exact p2 (W2.put q0 (.lst (vs.set j v)) k4) (gW.put k4 h6) (put_ext k4) (sr2.put k4 k5) σ (((sat.grow g1).grow g2).wr hmm h1 k3 k4 k5 h6 (RepL.set (rv.grow g2) j (r.grow g2)))
    | _ => exact p2.elim
  · exact p1.elim

/-! ### cells of the store -/
def Wd.mkc (W : Wd) (p : Addr) : Wd := { W with A := W.A ++ [p] }
theorem mkc_ext {W : Wd} {p : Addr} : Ext W (W.mkc p) := ⟨fun _ _ z => z, [p], rfl⟩
theorem Grow.mkc {W W1 : Wd} {p : Addr} (g : Grow W1 W) (hp : W1.H p = none) : Grow W1 (W.mkc p) where
  f := g.f
  h := g.h
  n := g.n
  t := g.t
  p := by
    obtain ⟨B, e⟩ := g.p
    exact ⟨B ++ [p], by show W.A ++ [p] = _; rw [e, List.append_assoc]⟩
  q := fun a h => by
    have h : a ∈ W.A ++ [p] := h
    rcases List.mem_append.mp h with h | h
    · exact g.q a h
    · right; rw [List.mem_singleton.mp h]; exact hp
theorem SRep.mkc {K : PySem.W.Frag} {W : Wd} {s : Store} {p : Addr} {ds : List D} {vs : List V} (sr : SRep K W s) (h1 : W.H p = some (.lst vs)) (h2 : W.F p = none) (h3 : p ∉ W.A) (r : RepL K W ds vs) : SRep K (W.mkc p) (s ++ [.lst ds]) := by
  refine ⟨by show (W.A ++ [p]).length = _; simp [sr.len], ?_, fun i a c e1 e2 => ?_⟩
  · show (W.A ++ [p]).Nodup
    rw [List.nodup_append]
    exact ⟨sr.nd, by simp, fun a ha b hb => by rw [List.mem_singleton.mp hb]; exact fun z => h3 (z ▸ ha)⟩
  · have e1 : (W.A ++ [p])[i]? = some a := e1
    by_cases hi : i < W.A.length
    · rw [List.getElem?_append_left hi] at e1
      rw [List.getElem?_append_left (by rw [← sr.len]; exact hi)] at e2
      obtain ⟨k1, k2⟩ := sr.at_ i a c e1 e2
      exact ⟨k1, CellRep.grow (W := W) (W' := W.mkc p) (fun _ _ z => z) (fun _ _ z => mkc_ext.ix (W := W) z) rfl k2⟩
    · have hi' : W.A.length ≤ i := by omega
      rw [List.getElem?_append_right hi'] at e1
      rw [List.getElem?_append_right (by rw [← sr.len]; exact hi')] at e2
      rw [← sr.len] at e2
      cases hn : i - W.A.length with
      | zero =>
        rw [hn] at e1 e2
        cases e1; cases e2
        exact ⟨h2, vs, h1, r.ext mkc_ext⟩
      | succ n => rw [hn] at e1; simp at e1
theorem Sat.mkc {K : PySem.W.Frag} {B : Hp} {W : Wd} {Γ : Env} {σ : L2.St} {p : Addr} (sat : Sat K B W Γ σ) (h : ∀ (j : Nat) (y : SV), Γ[j]? = some y → isOwn y = true → σ[j]? ≠ some (some (.ref p))) : Sat K B (W.mkc p) Γ σ := by
  refine ⟨sat.len, fun j x o e1 e2 => ?_, sat.sep⟩
  have h' := sat.at_ j x o e1 e2
  cases x with
  | nul => trivial
  | dat d => obtain ⟨v, e', r'⟩ := h'; exact ⟨v, e', r'.ext mkc_ext⟩
  | own es =>
    obtain ⟨p', us, e', k1, k2, k3, k4, r'⟩ := h'
    refine ⟨p', us, e', k1, k2, fun z => ?_, k4, r'.ext mkc_ext⟩
    have z : p' ∈ W.A ++ [p] := z
    rcases List.mem_append.mp z with z | z
    · exact k3 z
    · rw [List.mem_singleton.mp z] at e'
      exact h j _ e1 rfl (by rw [e2, e'])
/-- a new list is kept in the store -/
def mCell (i : Nat) (m : Env → M (List D)) : MS := fun Γ s => (m Γ s).bind fun ds s1 => .ok (.nx (Γ.set i (.dat (.cel s1.length)))) (s1 ++ [.lst ds])
theorem ds_cell {i : Nat} {x : Str} {p : Pos} {m : Env → M (List D)} (hN : X.N.Nodup) (hi : X.N[i]? = some x) (hx : Loc X.env.scope x) (hf : X.fn x = true ∨ X.env.scope.names.lookup x = some .local) (h : POd X EX e m)
    (hs : swapsWith e (some (.Name x p)) pos.line X.env = pure false) : PSd X EX (.Assign [.Name x p] e pos) (mCell i m) := by
  obtain ⟨t, pt, q⟩ := h
  refine ⟨_, ps_set hN hi hx pt hs hf, fun W0 W Γ σ s D g sat sr pp => q _ W Γ σ s _ sat sr (pp.bindE g fun ds s1 W1 _ g1 sr1 p1 p vs h0 h1 h2 h3 r => ?_)⟩
  have hp0 : W0.H p = none := by
    cases h : W0.H p with
    | none => rfl
    | some o => exact absurd h0 (g.t p (by rw [h]; simp))
  refine p1 (W1.mkc p) ((g.trans g1).mkc hp0) mkc_ext (sr1.mkc h1 h2 h3 r) _ (Sat.set (((sat.grow g1).mkc fun j y e oy e2 => ?_)) (.cel ?_))
  · exact own_fresh (W1 := W1) (x := .own ds) (v := .ref p) sat ⟨p, vs, rfl, h1, h2, h3, h0, r⟩ rfl j y e oy e2
  · show (W1.A ++ [p])[s1.length]? = some p
    rw [← sr1.len, List.getElem?_append_right (Nat.le_refl _)]
    simp
/-- the list of a cell is written -/
def Wd.putc (W : Wd) (p : Addr) (o : HO) (h : W.F p = none) : Wd := W.put p o h
theorem Grow.putc {W W1 : Wd} {p : Addr} {o : HO} (g : Grow W1 W) (h : W.F p = none) (hp : p ∈ W.A) : Grow W1 (W.put p o h) where
  f := g.f
  h := fun a u n e => by
    have : a ≠ p := fun z => by
      subst z
      rcases g.q a hp with z | z
      · exact n z
      · rw [z] at e; cases e
    show upd W.H p o a = _
    rw [upd_ne this]; exact g.h a u n e
  n := g.n
  t := fun a e => by
    show upd W.H p o a ≠ none
    by_cases q : a = p
    · subst q; rw [upd_same]; simp
    · rw [upd_ne q]; exact g.t a e
  p := g.p
  q := g.q
theorem SRep.putc {K : PySem.W.Frag} {W : Wd} {s : Store} {i : Nat} {p : Addr} {ds : List D} {vs : List V} (sr : SRep K W s) (hi : W.A[i]? = some p) (h : W.F p = none) (r : RepL K W ds vs) : SRep K (W.put p (.lst vs) h) (s.set i (.lst ds)) := by
  refine ⟨by show W.A.length = _; rw [sr.len, List.length_set], sr.nd, fun j a c e1 e2 => ?_⟩
  have e1 : W.A[j]? = some a := e1
  by_cases hj : i = j
  · subst hj
    rw [hi] at e1; cases e1
    rw [List.getElem?_set_self (by rw [← sr.len]; exact (List.getElem?_eq_some_iff.mp hi).1)] at e2
    cases e2
    exact ⟨h, vs, upd_same, r.put h⟩
  · rw [List.getElem?_set_ne hj] at e2
    obtain ⟨k1, k2⟩ := sr.at_ j a c e1 e2
    refine ⟨k1, CellRep.grow (W := W) (W' := W.put p (.lst vs) h) (fun _ _ z => z) (fun _ _ z => z) ?_ k2⟩
    have ne : a ≠ p := fun z => by
      subst z
      exact hj ((List.getElem?_inj (List.getElem?_eq_some_iff.mp hi).1 sr.nd).mp (hi.trans (show W.A[j]? = some a from e1).symm))
    show upd W.H p _ a = _
    rw [upd_ne ne]
theorem Sat.putc {K : PySem.W.Frag} {B : Hp} {W : Wd} {Γ : Env} {σ : L2.St} {p : Addr} {o : HO} (sat : Sat K B W Γ σ) (h : W.F p = none) (hp : p ∈ W.A) : Sat K B (W.put p o h) Γ σ := by
  refine ⟨sat.len, fun j x o e1 e2 => ?_, sat.sep⟩
  have h' := sat.at_ j x o e1 e2
  cases x with
  | nul => trivial
  | dat d => obtain ⟨v, e', r'⟩ := h'; exact ⟨v, e', r'.put h⟩
  | own es =>
    obtain ⟨p', us, e', k1, k2, k3, k4, r'⟩ := h'
    refine ⟨p', us, e', ?_, k2, k3, k4, r'.put h⟩
    show upd W.H p _ p' = _
    rw [upd_ne (show p' ≠ p from fun z => k3 (by rw [z]; exact hp))]; exact k1
def mSetC (mo mi mv : Env → M D) : MS := fun Γ s => (mv Γ s).bind fun d s1 => (mo Γ s1).bind fun o s2 => (mi Γ s2).bind fun k s3 => match o, k with
  | .cel i, .int k => (match s3[i]? with
    | some (.lst ds) => (match ixN ds.length k with
      | some j => .ok (.nx Γ) (s3.set i (.lst (ds.set j d)))
      | none => .bad)
    | _ => .bad)
  | _, _ => .bad
theorem ds_setC {p2 : Pos} {mo mi mv : Env → M D} (he : PEd X EX e mv) (ho : PEd X EX b mo) (hk : PEd X EX a mi)
    (ha : ∀ v, assign (.Subscript b a p2) X.env v = (do
      let ov ← holding [v] (eval b X.env)
      let iv ← holding [v, ov] (eval a X.env)
      standAt p2
      holding [v, ov, iv] (setItem ov iv v)
      release [v, ov, iv] [])) (hs : swapsWithSole [.Subscript b a p2] e pos.line X.env = pure false) (hw : swappedStores [.Subscript b a p2] e X.env = pure none) :
    PSd X EX (.Assign [.Subscript b a p2] e pos) (mSetC mo mi mv) := by
  obtain ⟨te, pe, qe⟩ := he
  obtain ⟨to, po, qo⟩ := ho
  obtain ⟨tk, pk, qk⟩ := hk
  refine ⟨_, ps_asg pe (pg_sub po pk set_list ha) hs hw (by rfl), fun W0 W Γ σ s D g sat sr pp => ?_⟩
  refine qe _ W Γ σ s _ sat sr (pp.bindE g fun d s1 W1 _ g1 sr1 p1 v rv => ?_)
  have gW1 := g.trans g1
  refine qo _ W1 Γ σ s1 _ (sat.grow g1) sr1 (p1.bindE gW1 fun o s2 W2 z1 g2 sr2 p2 x rx => ?_)
  have gW2 := gW1.trans g2
  refine qk _ W2 Γ σ s2 _ ((sat.grow g1).grow g2) sr2 (p2.bindE gW2 fun k s3 W3 z2 g3 sr3 p3 u ru => ?_)
  clear z1 z2
  have gW3 := gW2.trans g3
  split at p3
  · rename_i i k
    have ru' := ru
    cases ru'
    have rx' := rx.grow g3
    cases rx' with
    | cel hA =>
      rename_i q0
      split at p3
      · rename_i ds hs3
        obtain ⟨k1, vs, k2, r⟩ := sr3.at_ i q0 _ hA hs3
        have hmem : q0 ∈ W3.A := List.mem_of_getElem? hA
        split at p3
        · rename_i j hj
          refine ⟨q0, vs, k, j, rfl, rfl, k2, by rw [← r.len]; exact hj, ?_⟩
          exact p3 (W3.put q0 (.lst (vs.set j v)) k1) (gW3.putc k1 hmem) (put_ext k1) (sr3.putc hA k1 (RepL.set ((rv.grow g2).grow g3) j r)) σ ((((sat.grow g1).grow g2).grow g3).putc k1 hmem)
        · exact p3.elim
      · exact p3.elim
  · exact p3.elim
end
end PD
set_option maxRecDepth 100000
set_option maxHeartbeats 4000000
namespace PD
open PySem PySem.Spec PyProof.Rows L2
section
variable {X : Cx} {EX : XK} {a b c e f : Expr} {pos p p2 apos : Pos} {rest es : List Expr}

/-! ### dict([(k, v), ..]) with ints as keys, d.get(k, x) -/
def pairsOf : List D → Option (List Int × List D)
  | [] => some ([], [])
  | .tup [.int k, d] :: ds => (pairsOf ds).map fun q => (k :: q.1, d :: q.2)
  | _ => none
def fDict : List D → Option D
  | [.lst ds] => (pairsOf ds).bind fun q => if q.1.Nodup ∧ q.1.length ≤ 100000 then some (.dki q.1 q.2) else none
  | _ => none
abbrev zipK (ks : List Int) (vs : List V) : List (Key × V) := List.zipWith (fun k v => (Sum.inl k, v)) ks vs
theorem pairs_rep {K : PySem.W.Frag} {W : Wd} : ∀ {ds : List D} {vs : List V} {ks : List Int} {es : List D}, RepL K W ds vs → pairsOf ds = some (ks, es) → ∃ (ps : List Addr) (us : List V), vs = ps.map V.ref ∧ RepL K W es us ∧ ks.length = us.length ∧ Paired (fun p (kv : Key × V) => SqT K W.H p [kV kv.1, kv.2]) ps (zipK ks us)
  | [], _, ks, es, .nil, h => by
    simp only [pairsOf, Option.some.injEq, Prod.mk.injEq] at h
    obtain ⟨rfl, rfl⟩ := h
    exact ⟨[], [], rfl, .nil, rfl, .nil⟩
  | d :: ds, _, ks, es, .cons r rr, h => by
    unfold pairsOf at h
    split at h
    · rename_i h'; cases h'
    · rename_i k d' ds' h'
      cases h'
      cases hq : pairsOf ds with
      | none => rw [hq] at h; cases h
      | some q =>
        rw [hq] at h
        obtain ⟨ks', es'⟩ := q
        simp only [Option.map_some, Option.some.injEq, Prod.mk.injEq] at h
        obtain ⟨rfl, rfl⟩ := h
        obtain ⟨ps, us, e1, r1, hl, pp⟩ := pairs_rep rr hq
        cases r with
        | tup hT rl =>
          rename_i a vs
          cases rl with
          | cons r1' t =>
            cases t with
            | cons r2' t' =>
              cases t'
              cases r1'
              exact ⟨a :: ps, _ :: us, by rw [e1]; rfl, .cons r2' r1, by simp [hl], .cons (hT.ex W.sub).t pp⟩
    · cases h
theorem put_new {kvs : List (Key × V)} {k : Key} {v : V} (h : ∀ q ∈ kvs, q.1 ≠ k) : putK kvs k v = kvs ++ [(k, v)] := by
  unfold putK
  rw [if_neg]
  simp only [List.any_eq_true, decide_eq_true_eq, not_exists, not_and]
  exact h
theorem merge_new : ∀ (more kvs : List (Key × V)), ((kvs ++ more).map (·.1)).Nodup → mergeK kvs more = kvs ++ more
  | [], kvs, _ => by simp [mergeK]
  | q :: more, kvs, h => by
    show mergeK (putK kvs q.1 q.2) more = _
    rw [put_new]
    · rw [merge_new more (kvs ++ [(q.1, q.2)])]
      · simp
      · simpa using h
    · intro z hz e
      rw [List.map_append, List.nodup_append] at h
      exact h.2.2 z.1 (List.mem_map_of_mem hz) q.1 (by simp) e
theorem zipK_fst : ∀ {ks : List Int} {us : List V}, ks.length = us.length → (zipK ks us).map (·.1) = ks.map Sum.inl
  | [], [], _ => rfl
  | k :: ks, u :: us, h => by
    show Sum.inl k :: (zipK ks us).map (·.1) = _
    rw [zipK_fst (by simpa using h)]; rfl
  | [], _ :: _, h => nomatch h
  | _ :: _, [], h => nomatch h
theorem oc_dict (K : PySem.W.Frag) : OpC K (fun xs H Q => ∃ (a : Addr) (ps : List Addr) (kvs : List (Key × V)), xs = [.ref a] ∧ SqL K H a (ps.map V.ref) ∧ Paired (fun p kv => SqT K H p [kV kv.1, kv.2]) ps kvs ∧
    ∀ p, H p = none → Q (.ref p) (upd H p (.dK (mergeK [] kvs)))) fDict := fun W s ds d vs Q r sr e q => by
  unfold fDict at e
  split at e
  · rename_i xs
    cases hp : pairsOf xs with
    | none => rw [hp] at e; cases e
    | some kd =>
      rw [hp] at e
      obtain ⟨ks, es⟩ := kd
      have e : (if ks.Nodup ∧ ks.length ≤ 100000 then some (D.dki ks es) else none) = some d := e
      split at e
      · rename_i hz
        cases e
        cases r with
        | cons r t =>
          cases t
          obtain ⟨a, vs, rfl, hH, rl⟩ := r.lst
          obtain ⟨ps, us, rfl, r1, hl, pp⟩ := pairs_rep rl hp
          refine ⟨a, ps, zipK ks us, rfl, SqL.of hH, pp, fun p hp => ?_⟩
          rw [merge_new _ [] (by
            rw [List.nil_append, zipK_fst hl]
            exact List.Pairwise.map _ (fun a b h z => h (Sum.inl.inj z)) hz.1)]
          exact q (W.new p (.dK ([] ++ zipK ks us))) _ (Grow.new hp sr) (sr.new hp) (.dki (show upd W.F p _ p = _ from upd_same) (by rw [r1.len, hl]) (r1.grow (Grow.new hp sr)))
      · cases e
  · cases e
def lookD : List Int → List D → Int → Option D
  | k :: ks, d :: ds, i => if k = i then some d else lookD ks ds i
  | _, _, _ => none
def mDGet (mo me mf : Env → M D) : Env → M D := fun Γ s => (mo Γ s).bind fun d s1 => match d with
  | .dki ks ds => (me Γ s1).bind fun k s2 => (mf Γ s2).bind fun z s3 => match k with
    | .int i => .ok ((lookD ks ds i).getD z) s3
    | _ => .bad
  | _ => .bad
theorem look_val {K : PySem.W.Frag} {W : Wd} {i : Int} {z : D} {y : V} (rz : Rep K W z y) : ∀ {ks : List Int} {ds : List D} {vs : List V}, RepL K W ds vs → ks.length = vs.length → Rep K W ((lookD ks ds i).getD z) ((valV (zipK ks vs) (Sum.inl i)).getD y)
  | [], [], _, .nil, _ => rz
  | k :: ks, d :: ds, _, .cons r rr, h => by
    unfold lookD
    by_cases e : k = i
    · subst e
      rw [if_pos rfl]
      show Rep K W d ((valV ((Sum.inl k, _) :: zipK ks _) (Sum.inl k)).getD y)
      rw [valV_pos rfl]
      exact r
    · rw [if_neg e]
      show Rep K W _ ((valV ((Sum.inl k, _) :: zipK ks _) (Sum.inl i)).getD y)
      rw [valV_neg (fun z => e (Sum.inl.inj z))]
      exact look_val rz rr (by simpa using h)
  | [], _ :: _, _, .cons _ _, h => nomatch h
  | _ :: _, [], _, .nil, h => nomatch h
theorem de_dget {mo me mf : Env → M D} (hu : X.A.units + 1 < cLine) (ho : PEd X EX a mo) (he : PEd X EX b me) (hf : PEd X EX c mf) (m : M2 X a "get" apos b c pos) : PEd X EX (.Call (.Attribute a "get" apos) [b, c] [] pos) (mDGet mo me mf) := by
  obtain ⟨to, po, qo⟩ := ho
  obtain ⟨te, pe, qe⟩ := he
  obtain ⟨tf, pf, qf⟩ := hf
  refine ⟨_, pe_dget2 hu po pe pf m, fun B W Γ σ s Q sat sr pp => ?_⟩
  refine qo B W Γ σ s _ sat sr (Post.bind pp fun d s1 W1 hh g1 sr1 p1 x rx => ?_)
  clear hh
  split at p1
  · rename_i ks ds
    cases rx with
    | dki hF hl rl =>
      rename_i a vs
      refine ⟨a, rfl, .inl ⟨_, .inl (W1.sub _ _ hF)⟩, qe B W1 Γ σ s1 _ (sat.grow g1) sr1 (Post.bind p1 fun k s2 W2 hh g2 sr2 p2 y ry => ?_)⟩
      clear hh
      refine qf B W2 Γ σ s2 _ ((sat.grow g1).grow g2) sr2 (Post.bind p2 fun z s3 W3 hh g3 sr3 p3 u ru => ?_)
      clear hh
      split at p3
      · rename_i i
        cases ry
        refine ⟨_, .inl ⟨zipK ks vs, Sum.inl i, .inl (W3.sub _ _ (g3.f _ _ (g2.f _ _ hF))), rfl, rfl⟩, p3 W3 (Grow.refl _) sr3 _ (look_val ru ((rl.grow g2).grow g3) (by rw [hl, rl.len]))⟩
      · exact p3.elim
  · exact p1.elim

/-! ### list(range(..)), tuple(range(..)) -/
def fLR : List D → Option (List D)
  | [.int n] => if -100000 ≤ n ∧ n ≤ 100000 then some (rangeD 0 n.toNat) else none
  | [.int lo, .int hi] => if -100000 ≤ lo ∧ lo ≤ 100000 ∧ hi ≤ 100000 ∧ -100000 ≤ hi then some (rangeD lo (hi - lo).toNat) else none
  | _ => none
def mLR (ms : Env → M (List D)) : Env → M (List D) := fun Γ s => (ms Γ s).bind fun ds s1 => R.opt (fLR ds) s1
def mTR (ms : Env → M (List D)) : Env → M D := fun Γ s => (ms Γ s).bind fun ds s1 => R.opt ((fLR ds).map .tup) s1
theorem repL_range {K : PySem.W.Frag} {W : Wd} (a b : Int) : RepL K W (rangeD a (b - a).toNat) (rgV a b) := by
  unfold rangeD rgV
  generalize List.range (b - a).toNat = l
  induction l with
  | nil => exact .nil
  | cons x l ih => exact .cons (.int _) ih
theorem prg2 {m n : Env → M D} (hg : Gl X "range") (hm : X.mg "range" = none) (ha : PEd X EX a m) (hb : PEd X EX b n) (hs : starEach [a, b] X.env = (false, eval a X.env) :: starEach [b] X.env) (hs2 : starEach [b] X.env = (false, eval b X.env) :: starEach [] X.env) (hp : (backTo pos (starEach [b] X.env)).any (·.1) = false) :
    ∃ t, PRg X (.Call (.Name "range" p) [a, b] [] pos) t ∧ ∀ B W Γ σ s (Q : Int → Int → Hp → Prop), Sat X.K B W Γ σ → SRep X.K W s → Post X.K EX W (mCons m (mCons n mNil) Γ s) (fun W' s' ds => ∃ i j, ds = [.int i, .int j] ∧ Q i j W'.H) → t σ W.H Q := by
  obtain ⟨t, pt, q⟩ := ha
  obtain ⟨t2, pt2, q2⟩ := hb
  refine ⟨_, prg_2 hg hm pt pt2 hs hs2 hp, fun B W Γ σ s Q sat sr pp => q B W Γ σ s _ sat sr (Post.bind (f := fun d s1 => (mCons n mNil Γ s1).bind fun ds s2 => .ok (d :: ds) s2) pp fun d s1 W1 _ g1 sr1 p1 v r => ?_)⟩
  have p1 : Post X.K EX W1 (((n Γ s1).bind fun d s2 => (mNil Γ s2).bind fun ds s3 => .ok (d :: ds) s3).bind fun ds s2 => .ok (d :: ds) s2) (fun W' s' ds => ∃ i j, ds = [.int i, .int j] ∧ Q i j W'.H) := p1
  refine q2 B W1 Γ σ s1 _ (sat.grow g1) sr1 ?_
  revert p1
  cases n Γ s1 with
  | ok d2 s2 =>
    intro p1 W2 g2 sr2 u ru
    obtain ⟨i, j, e, w⟩ := p1 W2 g2 sr2
    cases e
    cases r
    cases ru
    exact ⟨i, j, rfl, rfl, w⟩
  | er e s2 => exact id
  | bad => exact id
def PRgD (X : Cx) (EX : XK) (e : Expr) (ms : Env → M (List D)) : Prop := ∃ t, PRg X e t ∧ ∀ B W Γ σ s (Q : Int → Int → Hp → Prop), Sat X.K B W Γ σ → SRep X.K W s → Post X.K EX W (ms Γ s) (fun W' _ ds => ∃ i j, (ds = [.int i, .int j] ∨ (ds = [.int j] ∧ i = 0)) ∧ Q i j W'.H) → t σ W.H Q
theorem dr1 {m : Env → M D} (hg : Gl X "range") (hm : X.mg "range" = none) (ha : PEd X EX a m) (hs : starEach [a] X.env = (false, eval a X.env) :: starEach [] X.env) : PRgD X EX (.Call (.Name "range" p) [a] [] pos) (mCons m mNil) := by
  obtain ⟨t, pt, q⟩ := ha
  refine ⟨_, prg_1 hg hm pt hs, fun B W Γ σ s Q sat sr pp => q B W Γ σ s _ sat sr (Post.bind (f := fun d s1 => (mNil Γ s1).bind fun ds s2 => .ok (d :: ds) s2) pp fun d s1 W1 _ g1 sr1 p1 v r => ?_)⟩
  obtain ⟨i, j, e, w⟩ := p1 W1 (Grow.refl _) sr1
  rcases e with e | ⟨e, rfl⟩
  · cases e
  · cases e
    cases r
    exact ⟨j, rfl, w⟩
theorem dr2 {m n : Env → M D} (hg : Gl X "range") (hm : X.mg "range" = none) (ha : PEd X EX a m) (hb : PEd X EX b n) (hs : starEach [a, b] X.env = (false, eval a X.env) :: starEach [b] X.env) (hs2 : starEach [b] X.env = (false, eval b X.env) :: starEach [] X.env) (hp : (backTo pos (starEach [b] X.env)).any (·.1) = false) :
    PRgD X EX (.Call (.Name "range" p) [a, b] [] pos) (mCons m (mCons n mNil)) := by
  obtain ⟨t, pt, q⟩ := prg2 (p := p) (pos := pos) hg hm ha hb hs hs2 hp
  refine ⟨t, pt, fun B W Γ σ s Q sat sr pp => q B W Γ σ s Q sat sr (pp.mono fun W1 s1 ds hok _ _ ⟨i, j, e, w⟩ => ?_)⟩
  rcases e with e | ⟨e, rfl⟩
  · exact ⟨i, j, e, w⟩
  · exfalso
    have hok : (m Γ s).bind (fun d s1 => (mCons n mNil Γ s1).bind fun ds s2 => .ok (d :: ds) s2) = .ok ds s1 := hok
    rw [e] at hok
    cases h1 : m Γ s with
    | ok d t1 =>
      rw [h1] at hok
      have hok : ((n Γ t1).bind fun d2 t2 => (mNil Γ t2).bind fun ds t3 => .ok (d2 :: ds) t3).bind (fun ds s2 => .ok (d :: ds) s2) = .ok [.int j] s1 := hok
      cases h2 : n Γ t1 with
      | ok d2 t2 =>
        rw [h2] at hok
        have hok : (R.ok [d, d2] t2 : R (List D)) = .ok [.int j] s1 := hok
        cases hok
      | er _ _ => rw [h2] at hok; cases hok
      | bad => rw [h2] at hok; cases hok
    | er _ _ => rw [h1] at hok; cases hok
    | bad => rw [h1] at hok; cases hok
theorem fLR_ok {ds xs : List D} (h : fLR ds = some xs) : ∃ i j, (ds = [.int i, .int j] ∨ (ds = [.int j] ∧ i = 0)) ∧ xs = rangeD i (j - i).toNat ∧ RgOk i j ∧ xs.length ≤ 200000 := by
  unfold fLR at h
  split at h
  · split at h
    · rename_i n hz
      cases h
      refine ⟨0, n, .inr ⟨rfl, rfl⟩, by simp, ⟨by decide, by decide, by omega, by omega, by omega⟩, by unfold rangeD; simp; omega⟩
    · cases h
  · split at h
    · rename_i lo hi hz
      cases h
      refine ⟨lo, hi, .inl rfl, rfl, ⟨by omega, by omega, by omega, by omega, by omega⟩, by unfold rangeD; simp; omega⟩
    · cases h
  · cases h
theorem rg_det {i j i' j' : Int} {ds : List D} (h : ds = [.int i, .int j] ∨ (ds = [.int j] ∧ i = 0)) (h' : ds = [.int i', .int j'] ∨ (ds = [.int j'] ∧ i' = 0)) : i = i' ∧ j = j' := by
  rcases h with rfl | ⟨rfl, rfl⟩ <;> rcases h' with h' | ⟨h', e'⟩ <;> cases h'
  · exact ⟨rfl, rfl⟩
  · exact ⟨e'.symm, rfl⟩
theorem do_lr {ms : Env → M (List D)} (hc : X.calm = true) (hg : Gl X "list") (hm : X.mg "list" = none) (h : PRgD X EX e ms) (na : starEach [e] X.env = (false, eval e X.env) :: starEach [] X.env) : POd X EX (.Call (.Name "list" p) [e] [] pos) (mLR ms) := by
  obtain ⟨t, pt, q⟩ := h
  refine ⟨_, pe_listRg hc hg hm pt na, fun B W Γ σ s Q sat sr pp => q B W Γ σ s _ sat sr (Post.bind pp fun ds s1 W1 _ g1 sr1 p1 => ?_)⟩
  obtain ⟨xs, e, w⟩ := p1.opt
  obtain ⟨i, j, h1, rfl, h2, h3⟩ := fLR_ok e
  refine ⟨i, j, h1, h2, fun l hp => ?_⟩
  have hF := Wd.fnone hp
  refine w (W1.put l (.lst (rgV i j)) hF) ((Grow.refl W1).put hF hp) (sr1.put hF (sr1.notA hp)) l _ ?_ upd_same hF (sr1.notA hp) (repL_range i j)
  cases h : W.H l with
  | none => rfl
  | some o => exact absurd hp (g1.t l (by rw [h]; simp))
theorem de_tr {ms : Env → M (List D)} (hc : X.calm = true) (hg : Gl X "tuple") (hm : X.mg "tuple" = none) (h : PRgD X EX e ms) (na : starEach [e] X.env = (false, eval e X.env) :: starEach [] X.env) : PEd X EX (.Call (.Name "tuple" p) [e] [] pos) (mTR ms) := by
  obtain ⟨t, pt, q⟩ := h
  refine ⟨_, pe_trF hc hg hm pt na, fun B W Γ σ s Q sat sr pp => q B W Γ σ s _ sat sr (Post.bind pp fun ds s1 W1 _ g1 sr1 p1 => ?_)⟩
  obtain ⟨d, e, w⟩ := p1.opt
  cases hx : fLR ds with
  | none => rw [hx] at e; cases e
  | some xs =>
    rw [hx] at e
    cases e
    obtain ⟨i, j, h1, rfl, h2, h3⟩ := fLR_ok hx
    exact ⟨i, j, h1, h2, fun l o to hp => w (W1.new l (.frz o (.tup (rgV i j)))) (Grow.new hp sr1) (sr1.new hp) _ (two_tup to hp sr1 (repL_range i j))⟩
/-- never reached -/
def mBad : MS := fun _ _ => .bad
theorem ds_never {st : Stmt} : PSd X EX st mBad := ⟨_, ps_never, fun _ _ _ _ _ _ _ _ _ p => p⟩
end
end PD
set_option maxRecDepth 100000
set_option maxHeartbeats 4000000
namespace PD
open PySem PySem.Spec PyProof.Rows L2

/-! ## one reading for all contexts -/
theorem PE.mono {X : Cx} {e : Expr} {t t' : TE} (h : PE X e t) (f : ∀ σ H Q, t' σ H Q → t σ H Q) : PE X e t' := ⟨fun pins s σ H Q I q => h.run pins s σ H Q I (f σ H Q q)⟩
theorem PT.mono {X : Cx} {e : Expr} {t t' : TT} (h : PT X e t) (f : ∀ σ H Q, t' σ H Q → t σ H Q) : PT X e t' := ⟨fun pins s σ H Q I q => h.run pins s σ H Q I (f σ H Q q)⟩
theorem PG.mono {X : Cx} {e : Expr} {t t' : TG} (h : PG X e t) (f : ∀ v σ H Q, t' v σ H Q → t v σ H Q) : PG X e t' := ⟨fun pins s σ H v u Q I r q => h.run pins s σ H v u Q I r (f v σ H Q q)⟩
def cE (K : PySem.W.Frag) (EX : XK) (m : Env → M D) : TE := fun σ H Q => ∃ B W Γ s, W.H = H ∧ Sat K B W Γ σ ∧ SRep K W s ∧ Post K EX W (m Γ s) (Want K Q)
def cT (K : PySem.W.Frag) (EX : XK) (m : Env → M Bool) : TT := fun σ H Q => ∃ B W Γ s, W.H = H ∧ Sat K B W Γ σ ∧ SRep K W s ∧ Post K EX W (m Γ s) (WantB Q)
def cG (K : PySem.W.Frag) (t : Tg) : TG := fun v σ H Q => ∃ B W Γ Γ' d, W.H = H ∧ Sat K B W Γ σ ∧ Rep K W d v ∧ bindT t d Γ = some Γ' ∧ ∀ σ', Sat K B W Γ' σ' → (∀ vs : List Nat, (∀ i ∈ t.slots, i ∈ vs) → L2.wipe σ' vs = L2.wipe σ vs) → Q σ' W.H
section
variable {X : Cx} {EX : XK} {a b c e tg : Expr} {pos : Pos} {st : Stmt} {rest : List Stmt}
theorem PEd.can {m : Env → M D} (h : PEd X EX e m) : PE X e (cE X.K EX m) := by
  obtain ⟨t, p, q⟩ := h
  exact PE.mono p fun σ H Q ⟨B, W, Γ, s, e, sat, sr, pp⟩ => e ▸ q B W Γ σ s Q sat sr pp
theorem PTd.can {m : Env → M Bool} (h : PTd X EX e m) : PT X e (cT X.K EX m) := by
  obtain ⟨t, p, q⟩ := h
  exact PT.mono p fun σ H Q ⟨B, W, Γ, s, e, sat, sr, pp⟩ => e ▸ q B W Γ σ s Q sat sr pp
theorem PGd.can {t : Tg} (h : PGd X e t) : PG X e (cG X.K t) := by
  obtain ⟨g, p, q⟩ := h
  exact PG.mono p fun v σ H Q ⟨B, W, Γ, Γ', d, e, sat, r, hb, w⟩ => e ▸ q B W Γ Γ' σ d v Q sat r hb w

/-! ### a comprehension, and its store into a name -/
/-- a list maker that may also be stored by the rule for comprehensions -/
def PLd (X : Cx) (EX : XK) (e : Expr) (m : Env → M (List D)) : Prop := ∃ t, PE X e t ∧
  (∀ (i : Nat) (y : Str) (py spos : Pos), X.N[i]? = some y → X.env.scope.names.lookup y = some .local → swapsWith e (some (.Name y py)) spos.line X.env = pure true → PS X (.Assign [.Name y py] e spos) (tAsg t (gName i))) ∧
  ∀ B W Γ σ s Q, Sat X.K B W Γ σ → SRep X.K W s → Post X.K EX W (m Γ s) (WantO X.K W Q) → t σ W.H Q
theorem PLd.o {m : Env → M (List D)} (h : PLd X EX e m) : POd X EX e m := by
  obtain ⟨t, p, _, q⟩ := h
  exact ⟨t, p, q⟩
/-- the ifs of a comprehension -/
def PIfs (X : Cx) (EX : XK) (ifs : List Expr) (mc : Env → M Bool) : Prop := (ifs = [] ∧ mc = mYes) ∨ ∃ c, ifs = [c] ∧ PTd X EX c mc
def cTs (K : PySem.W.Frag) (EX : XK) (ifs : List Expr) (mc : Env → M Bool) : TT := match ifs with
  | [] => tYes
  | _ => cT K EX mc
theorem PIfs.can {ifs : List Expr} {mc : Env → M Bool} (h : PIfs X EX ifs mc) : PTs X ifs (cTs X.K EX ifs mc) := by
  rcases h with ⟨rfl, rfl⟩ | ⟨c, rfl, h⟩
  · exact pts_nil
  · exact pts_one h.can
theorem PIfs.run {K : PySem.W.Frag} {ifs : List Expr} {mc : Env → M Bool} (h : ifs = [] ∧ mc = mYes ∨ ifs ≠ []) : ∀ B W Γ σ s Q, Sat K B W Γ σ → SRep K W s → Post K EX W (mc Γ s) (WantB Q) → cTs K EX ifs mc σ W.H Q := fun B W Γ σ s Q sat sr pp => by
  rcases h with ⟨rfl, rfl⟩ | h
  · exact pp W (Grow.refl W) sr
  · cases ifs with
    | nil => exact (h rfl).elim
    | cons _ _ => exact ⟨B, W, Γ, s, rfl, sat, sr, pp⟩
theorem dl_lc {elt tg iter : Expr} {ifs : List Expr} {scope : Scope} {own : List (Str × Nat)} {mi : Env → M (List D)} {t : Tg} {mc : Env → M Bool} {me : Env → M D} (hc : X.calm = true) (hN : X.N.Nodup) (hi : PId X EX tg iter mi) (ok : BlkOk X.N X.env.scope scope own)
    (hsl : ∀ i ∈ t.slots, i ∈ own.map (·.2)) (hifs : ifs = [] ∧ mc = mYes ∨ ifs ≠ [])
    (hg : ∀ (s : Shared) (H : Hp) (C : Addr) (cl : List (Str × Addr)) (fp : List Addr), PGd (X.blk s H scope (compEnvC scope cl C X.env) fp) tg t)
    (ht : ∀ (s : Shared) (H : Hp) (C : Addr) (cl : List (Str × Addr)) (fp : List Addr), PIfs (X.blk s H scope (compEnvC scope cl C X.env) fp) noEX ifs mc)
    (he : ∀ (s : Shared) (H : Hp) (C : Addr) (cl : List (Str × Addr)) (fp : List Addr), PEd (X.blk s H scope (compEnvC scope cl C X.env) fp) noEX elt me)
    (hs : ∀ x, foldedSetIterable iter X.env x = pure x) : PLd X EX (.ListComp elt [⟨tg, iter, ifs, 0⟩] scope pos) (mLcL mi t mc me (own.map (·.2))) := by
  obtain ⟨wi, pi, qi⟩ := hi
  have pg : ∀ (s : Shared) (H : Hp) (C : Addr) (cl : List (Str × Addr)) (fp : List Addr), PG (X.blk s H scope (compEnvC scope cl C X.env) fp) tg (cG X.K t) := fun s H C cl fp => (hg s H C cl fp).can
  have pt : ∀ (s : Shared) (H : Hp) (C : Addr) (cl : List (Str × Addr)) (fp : List Addr), PTs (X.blk s H scope (compEnvC scope cl C X.env) fp) ifs (cTs X.K noEX ifs mc) := fun s H C cl fp => (ht s H C cl fp).can
  have pe : ∀ (s : Shared) (H : Hp) (C : Addr) (cl : List (Str × Addr)) (fp : List Addr), PE (X.blk s H scope (compEnvC scope cl C X.env) fp) elt (cE X.K noEX me) := fun s H C cl fp => (he s H C cl fp).can
  refine ⟨_, pe_lc hc hN pi ok pg pt pe hs, fun i y py spos hy hyl hsw => ps_setLc hc hN hy hyl hsw pi ok pg pt pe hs, fun B W Γ σ s Q sat sr pp => ?_⟩
  refine qi B W Γ σ s _ sat sr (Post.bind pp fun ds s1 W1 _ g1 sr1 p1 J iv => fun D hD => ?_)
  split at p1
  · exact lc_turns (fun B W Γ Γ' σ d v Q sat r hb w => ⟨B, W, Γ, Γ', d, rfl, sat, r, hb, w⟩) hsl (PIfs.run hifs) (fun B W Γ σ s Q sat sr pp => ⟨B, W, Γ, s, rfl, sat, sr, pp⟩) iv (sat.grow g1) g1 sr1 hD (by assumption) p1
  · exact p1.elim
/-- .. stored -/
theorem ds_asgLc {i : Nat} {x : Str} {p : Pos} {m : Env → M (List D)} {m' : Env → M SV} (hi : X.N[i]? = some x) (hx : X.env.scope.names.lookup x = some .local) (h : PLd X EX e m)
    (hm : ∀ t : TE, (∀ B W Γ σ s Q, Sat X.K B W Γ σ → SRep X.K W s → Post X.K EX W (m Γ s) (WantO X.K W Q) → t σ W.H Q) → ∀ B W Γ σ s Q, Sat X.K B W Γ σ → SRep X.K W s → Post X.K EX W (m' Γ s) (WantV1 X.K W Q) → t σ W.H Q)
    (hs : swapsWith e (some (.Name x p)) pos.line X.env = pure true) : PSd X EX (.Assign [.Name x p] e pos) (mAsg i m') := by
  obtain ⟨t, pt, ps, q⟩ := h
  exact ⟨_, ps i x p pos hi hx hs, run_asg (hm t q)⟩
theorem lc_own {m : Env → M (List D)} {t : TE} (q : ∀ B W Γ σ s Q, Sat X.K B W Γ σ → SRep X.K W s → Post X.K EX W (m Γ s) (WantO X.K W Q) → t σ W.H Q) : ∀ B W Γ σ s Q, Sat X.K B W Γ σ → SRep X.K W s → Post X.K EX W (mSo m Γ s) (WantV1 X.K W Q) → t σ W.H Q := fun B W Γ σ s Q sat sr pp =>
  q B W Γ σ s _ sat sr (pp.bind fun d s1 W1 _ g1 sr1 p1 p vs h0 h1 h2 h3 r => p1 W1 (Grow.refl _) sr1 (.ref p) ⟨p, vs, rfl, h1, h2, h3, h0, r⟩)
theorem lc_dat {m : Env → M (List D)} {t : TE} (q : ∀ B W Γ σ s Q, Sat X.K B W Γ σ → SRep X.K W s → Post X.K EX W (m Γ s) (WantO X.K W Q) → t σ W.H Q) : ∀ B W Γ σ s Q, Sat X.K B W Γ σ → SRep X.K W s → Post X.K EX W (mSd (mFrz m) Γ s) (WantV1 X.K W Q) → t σ W.H Q := fun B W Γ σ s Q sat sr pp =>
  q B W Γ σ s Q sat sr (by
    have pp : Post X.K EX W (((m Γ s).bind fun ds s1 => .ok (.lst ds) s1).bind fun d s1 => .ok (.dat d) s1) (WantV1 X.K W Q) := pp
    revert pp
    cases m Γ s with
    | ok ds s1 =>
      intro pp W1 g1 sr1 p vs h0 h1 h2 h3 r
      exact pp (W1.frz p (.lst vs) h1) (g1.frz h1 h0 h2) (sr1.frz h1 h2 h3) _ ⟨_, rfl, .lst (show upd W1.F p _ p = _ from upd_same) (RepL.frz h1 h2 r)⟩
    | er e s1 => exact id
    | bad => exact id)

/-! ### looks at the text -/
def noStar : Expr → Bool
  | .Starred .. => false
  | _ => true
theorem star_cons {es : List Expr} {env : PySem.Env} (h : noStar e = true) : starEach (e :: es) env = (false, eval e env) :: starEach es env := by
  cases e <;> first | rfl | cases h
theorem star_plain {env : PySem.Env} : ∀ {es : List Expr}, es.all noStar = true → (backTo pos (starEach es env)).any (·.1) = false
  | [], _ => rfl
  | e :: es, h => by
    rw [List.all_cons, Bool.and_eq_true] at h
    rw [star_cons h.1]
    show (false || (backTo pos (starEach es env)).any (·.1)) = false
    rw [star_plain h.2]; rfl
theorem star_one {env : PySem.Env} (h : noStar e = true) : starEach [e] env = [(false, eval e env)] := star_cons h
theorem few_one {env : PySem.Env} (h : noStar e = true) : ((backTo pos (starEach [e] env)).all (fun x => !x.1) && (backToKw pos (keywordEach [] env)).all (fun x => x.1.isSome)
      && decide ([e].length + ([] : List Keyword).length + (if ([] : List Keyword).isEmpty then 0 else 1) < 30)) = true := by
  rw [star_one h]; rfl
def noCall0 : Expr → Bool
  | .Call (.Name _ _) [] [] _ => false
  | _ => true
theorem base_ok {env : PySem.Env} {x : Str} (h : noCall0 e = true) : attributeBase e x env (eval e env) = eval e env := by
  cases e with
  | Call f as ks p =>
    cases f with
    | Name id p2 =>
      cases as with
      | nil =>
        cases ks with
        | nil => cases h
        | cons _ _ => rfl
      | cons _ _ => rfl
    | _ => rfl
  | _ => rfl
def noComp : Expr → Bool
  | .ListComp .. => false
  | .SetComp .. => false
  | .DictComp .. => false
  | _ => true
theorem swaps_no {env : PySem.Env} {o : Option Expr} {n : Nat} (h : noComp e = true) : swapsWith e o n env = pure false := by
  cases e <;> first | rfl | cases h
def noSet : Expr → Bool
  | .Set .. => false
  | _ => true
theorem fold_ok {env : PySem.Env} (h : noSet e = true) : ∀ x, foldedSetIterable e env x = pure x := fun x => by
  cases e <;> first | rfl | cases h
def noSlice : Expr → Bool
  | .Slice .. => false
  | _ => true
theorem plain_ix (h : noSlice e = true) : PlainIx e := fun o i => by
  cases e <;> first | rfl | cases h
/-- a test of a plain value -/
def plainTest : Expr → Bool
  | .Name .. => true
  | .Call .. => true
  | .Subscript .. => true
  | .Constant .. => true
  | .Attribute .. => true
  | _ => false
end
end PD
set_option maxRecDepth 100000
set_option maxHeartbeats 4000000
namespace PD
open PySem PySem.Spec PyProof.Rows L2

/-! ## the translator's context -/
inductive Ent where
  | fn (x : Str) (n : Nat) (m : List D → Store → R D)
  | fo (x : Str) (n : Nat) (m : List D → Store → R (List D))
  | con (x : Str) (d : D)
  | tups (x : Str) (ys : List Str)
  | fld (c f : Str)
  | prop (c f x : Str)
  | cmt (x m : Str) (n : Nat) (f : List D → Store → R D)
  | sto (c f : Str) (m : List D → Store → R D)
  | exc (c f : Str)
/-- an exception's __init__ that sets one field -/
def SpI (C : Addr) (fld : Str) : Sp := fun vs H Q _ => ∃ a v, vs = [.ref a, v] ∧ H a = some (exo a C none) ∧ ∀ d, H d = none → d ≠ a → Q .non (upd (upd H d (exd d [(fld, v)])) a (exo a C (some d)))
/-- str(o) by the class's own __str__ -/
structure StrOf (K : PySem.W.Frag) (C f : Addr) : Prop where
  at_ : PySem.W.findIn K (.ref C) "__str__" = some (some (.ref f))
  fn : PySem.W.isFn K (.ref f) = true
/-- a def that takes the class first -/
def SpecC (K : PySem.W.Frag) (C : Addr) (n : Nat) (m : List D → Store → R D) : Sp := fun vs H Q E => ∃ (W : Wd) (ds : List D) (us : List V) (s : Store), vs = .ref C :: us ∧ W.H = H ∧ SRep K W s ∧ RepL K W ds us ∧ ds.length = n ∧ Post K E W (m ds s) (Want K Q)
abbrev CN : CXT := fun _ _ _ _ _ _ => False
structure Sc where
  N : List Str
  sc : Scope
  fnb : Str → Bool
  T : List Ent
  B : List Str
  k : Nat
def EntOk (P : Program) (w : World) (K : PySem.W.Frag) (mg : Str → Option Value) (base : Heap) (k : Nat) : Ent → Prop
  | .fn x n m => ∃ f fd ps, mg x = some (.ref f) ∧ PySem.W.keepIn K (.ref f) = true ∧ FnOk P w K mg base (L2.CX P w) k f fd ps (Spec K n m) ∧ Binds K fd ps []
  | .fo x n m => ∃ f fd ps, mg x = some (.ref f) ∧ PySem.W.keepIn K (.ref f) = true ∧ FnOk P w K mg base (L2.CX P w) k f fd ps (SpecO K n m) ∧ Binds K fd ps []
  | .con x d => ∃ v u, mg x = some u ∧ RelV v u ∧ ∀ W, Rep K W d v
  | .exc c f => mg c = some (.ref (He.ga K c)) ∧ OexC K (He.ga K c) ∧ ∃ j fI fd y, j + 1 ≤ k ∧ PySem.W.findIn K (.ref (He.ga K c)) "__init__" = some (some (.ref fI)) ∧ PySem.W.typeIn K (.ref fI) = some (.type "function") ∧
      FnOk P w K mg base (fun _ _ _ _ _ _ => False) j fI fd ["self", y] (SpI (He.ga K c) f) ∧ Binds K fd ["self", y] []
  | .fld c f => Cls K (He.ga K c) ∧ NoAttr K (He.ga K c) f
  | .prop c f x => Cls K (He.ga K c) ∧ ∃ j p g fd ps, j + 1 ≤ k ∧ PropOf K (He.ga K c) x p g ∧ FnOk P w K mg base CN j g fd ps (getSp (He.ga K c) f) ∧ Binds K fd ps []
  | .cmt x m n f => mg x = some (.ref (He.ga K x)) ∧ ∃ mc p g, ClX.CRead K (He.ga K x) mc ∧ ClX.CMet K (He.ga K x) mc m p g ∧ FnR P w K mg base (L2.CX P w) k g (SpecC K (He.ga K x) n f)
  | .sto c f m => ∃ j g, j + 2 ≤ k ∧ StrOf K (He.ga K c) g ∧ FnR P w K mg base (L2.CX P w) j g (Spec K 1 m)
  | .tups x ys => ∃ g o, mg x = some (.ref g) ∧ K.lookup g = some o ∧ o.cls = .type "tuple" ∧ o.dict = none ∧ ∀ H, SqT K H g (ys.map V.str)
structure XOk (X : Cx) (EX : XK) (c : Sc) : Prop where
  calm : X.calm = true
  n : X.N = c.N
  nd : c.N.Nodup
  sc : X.env.scope = c.sc
  kf : c.sc.kind = .function
  room : Room c.k X.A
  pass : Passes (L2.CX X.prog X.w) X EX
  fn : ∀ x, c.fnb x = true → X.fn x = true
  ents : ∀ e ∈ c.T, EntOk X.prog X.w X.K X.mg X.base c.k e
  free : ∀ x ∈ c.B, X.mg x = none
def glb (c : Sc) (x : Str) : Bool := c.sc.names.lookup x == some .globalImplicit && !(x == ("__debug__" : Str)) && !(x == ("__name__" : Str))
def visb (c : Sc) (x : Str) : Bool := (match c.sc.names.lookup x with | some .local => true | some .cell => true | some .free => true | _ => false) && !(x == ("__debug__" : Str)) && !(x == ("__classdict__" : Str))
def storb (c : Sc) (x : Str) : Bool := (match c.sc.names.lookup x with | some .local => true | some .cell => c.fnb x | _ => false)
def ixOf (x : Str) : List Str → Option Nat
  | [] => none
  | y :: ys => if y == x then some 0 else (ixOf x ys).map (· + 1)
theorem ixOf_ok {x : Str} : ∀ {ys : List Str} {i : Nat}, ixOf x ys = some i → ys[i]? = some x
  | [], i, h => by cases h
  | y :: ys, i, h => by
    unfold ixOf at h
    split at h
    · rename_i e
      cases h
      rw [eq_of_beq e]; rfl
    · cases e : ixOf x ys with
      | none => rw [e] at h; cases h
      | some j =>
        rw [e] at h; cases h
        simpa using ixOf_ok e
section
variable {X : Cx} {EX : XK} {c : Sc} {x : Str}
theorem gl_ok (h : XOk X EX c) (g : glb c x = true) : Gl X x ∧ (x == ("__debug__" : Str)) = false ∧ x ≠ ("__name__" : Str) := by
  unfold glb at g
  simp only [Bool.and_eq_true, Bool.not_eq_true'] at g
  refine ⟨?_, g.1.2, fun e => ?_⟩
  · unfold Gl Env.kindOf
    rw [h.sc]
    exact eq_of_beq g.1.1
  · rw [e] at g
    have := g.2
    simp at this
theorem vis_ok (h : XOk X EX c) (g : visb c x = true) : Vis X.env.scope x ∧ (x == ("__debug__" : Str)) = false ∧ (x == ("__classdict__" : Str)) = false := by
  unfold visb at g
  simp only [Bool.and_eq_true, Bool.not_eq_true'] at g
  refine ⟨?_, g.1.2, g.2⟩
  unfold Vis
  rw [h.sc]
  have g := g.1.1
  split at g
  · exact .inl (by assumption)
  · exact .inr (.inl (by assumption))
  · exact .inr (.inr (by assumption))
  · cases g
theorem stor_ok (h : XOk X EX c) (g : storb c x = true) : L2.Loc X.env.scope x ∧ (X.fn x = true ∨ X.env.scope.names.lookup x = some .local) := by
  unfold storb at g
  unfold L2.Loc
  rw [h.sc]
  split at g
  · exact ⟨.inl (by assumption), .inr (by assumption)⟩
  · exact ⟨.inr (by assumption), .inl (h.fn x g)⟩
  · cases g
theorem XOk.hu (h : XOk X EX c) : X.A.units + 65 < cLine := by have := h.room.un; omega
theorem XOk.hu64 (h : XOk X EX c) : X.A.units + 64 < cLine := by have := h.room.un; omega
end
abbrev OE (c : Sc) (e : Expr) := Option {m : Env → M D // ∀ X EX, XOk X EX c → PEd X EX e m}
abbrev OV (c : Sc) (e : Expr) := Option {m : Env → M D // ∀ X EX, XOk X EX c → PVd X EX e m}
abbrev OT (c : Sc) (e : Expr) := Option {m : Env → M Bool // ∀ X EX, XOk X EX c → PTd X EX e m}
abbrev OW (c : Sc) (e : Expr) := Option {m : Env → M Bool // ∀ X EX, XOk X EX c → PWd X EX e m}
abbrev OA (c : Sc) (es : List Expr) := Option {m : Env → M (List D) // ∀ X EX, XOk X EX c → PAd X EX es m}
abbrev OAv (c : Sc) (es : List Expr) := Option {m : Env → M (List D) // ∀ X EX, XOk X EX c → PAv X EX es m}
abbrev OI (c : Sc) (tg e : Expr) := Option {m : Env → M (List D) // ∀ X EX, XOk X EX c → PId X EX tg e m}
abbrev OO (c : Sc) (e : Expr) := Option {m : Env → M (List D) // ∀ X EX, XOk X EX c → POd X EX e m}
abbrev OL (c : Sc) (e : Expr) := Option {m : Env → M (List D) // ∀ X EX, XOk X EX c → PLd X EX e m}
abbrev OG (c : Sc) (e : Expr) := Option {t : Tg // ∀ X EX, XOk X EX c → PGd X e t}
abbrev OGs (c : Sc) (es : List Expr) := Option {t : List Tg // ∀ X EX, XOk X EX c → PGsd X es t}
abbrev OP (c : Sc) (e : Option Expr) := Option {m : Env → M (Option Int) // ∀ X EX, XOk X EX c → PPd X EX e m}
abbrev OR (c : Sc) (e : Expr) := Option {m : Env → M SV // ∀ X EX, XOk X EX c → PRd X EX e m}
abbrev ORs (c : Sc) (es : List Expr) := Option {m : Env → M (List SV) // ∀ X EX, XOk X EX c → PRsd X EX es m}
structure Tr where
  E : ∀ (c : Sc) (e : Expr), OE c e
  V : ∀ (c : Sc) (e : Expr), OV c e
  T : ∀ (c : Sc) (e : Expr), OT c e
  W : ∀ (c : Sc) (e : Expr), OW c e
  A : ∀ (c : Sc) (es : List Expr), OA c es
  Av : ∀ (c : Sc) (es : List Expr), OAv c es
  I : ∀ (c : Sc) (tg e : Expr), OI c tg e
  O : ∀ (c : Sc) (e : Expr), OO c e
  L : ∀ (c : Sc) (e : Expr), OL c e
  G : ∀ (c : Sc) (e : Expr), OG c e
  Gs : ∀ (c : Sc) (es : List Expr), OGs c es
  P : ∀ (c : Sc) (e : Option Expr), OP c e

/-! ### operators -/
def opB : (op : Operator) → Option {f : D → D → Option D // ∀ X EX c, XOk X EX c → ∃ r, OpR X (binaryOp op) r ∧ OpD X.K r f}
  | .Add => some ⟨fAdd, fun X _ _ _ => ⟨_, op_addD, od_add X.K⟩⟩
  | .Sub => some ⟨fSub, fun X _ _ _ => ⟨_, op_sub, od_sub X.K⟩⟩
  | .Mult => some ⟨fMul, fun X _ _ _ => ⟨_, op_mulD, od_mul X.K⟩⟩
  | .FloorDiv => some ⟨fDiv, fun X _ _ _ => ⟨_, op_divD, od_div X.K⟩⟩
  | .Mod => some ⟨fMod, fun X _ _ _ => ⟨_, op_modD, od_mod X.K⟩⟩
  | .Pow => some ⟨fPow, fun X _ _ _ => ⟨_, op_pow, od_pow X.K⟩⟩
  | _ => none
def cmB : (op : CmpOp) → Option {f : D → D → Option D // ∀ X EX c, XOk X EX c → ∃ r, OpR X (compareOp op) r ∧ OpD X.K r f}
  | .Eq => some ⟨fEq, fun X _ _ h => ⟨_, op_eqD h.hu64, od_eq X.K⟩⟩
  | .NotEq => some ⟨fNe, fun X _ _ h => ⟨_, op_neD h.hu64, od_ne X.K⟩⟩
  | .Lt => some ⟨fLt, fun X _ _ _ => ⟨_, op_lt, od_lt X.K⟩⟩
  | .LtE => some ⟨fLe, fun X _ _ _ => ⟨_, op_le, od_le X.K⟩⟩
  | .Gt => some ⟨fGt, fun X _ _ _ => ⟨_, op_gt, od_gt X.K⟩⟩
  | .GtE => some ⟨fGe, fun X _ _ _ => ⟨_, op_ge, od_ge X.K⟩⟩
  | .Is => some ⟨fIs, fun X _ _ _ => ⟨_, op_isD, od_is X.K⟩⟩
  | .IsNot => some ⟨fNotIs, fun X _ _ _ => ⟨_, op_notIsD, od_notIs X.K⟩⟩
  | .In => some ⟨fIn, fun X _ _ h => ⟨_, (op_inD h.hu).or (op_inT h.hu), od_in X.K⟩⟩
  | .NotIn => some ⟨fNotIn, fun X _ _ h => ⟨_, (op_notInD h.hu).or (op_notInT h.hu), od_notIn X.K⟩⟩

/-! ### builtins -/
abbrev BltP (x : Str) (f : List D → Option D) : Prop := ∀ X EX c e es ms p pos, XOk X EX c → Gl X x → X.mg x = none → PAv X EX (e :: es) ms → starEach (e :: es) X.env = (false, eval e X.env) :: starEach es X.env → (backTo pos (starEach es X.env)).any (·.1) = false → PEd X EX (.Call (.Name x p) (e :: es) [] pos) (mBlt f ms)
structure Blt where
  x : Str
  f : List D → Option D
  ok : BltP x f
def bLen : Blt := ⟨"len", fLen, fun X EX c e es ms p pos h g m a s q => de_blt call_len (oc_len X.K) g m boot_len a (by decide) (by decide) s q⟩
def bAbs : Blt := ⟨"abs", fAbs, fun X EX c e es ms p pos h g m a s q => de_blt call_abs (oc_abs X.K) g m (by rfl) a (by decide) (by decide) s q⟩
def bMax : Blt := ⟨"max", fMax, fun X EX c e es ms p pos h g m a s q => de_blt (call_max2 h.calm) (oc_max X.K) g m (by rfl) a (by decide) (by decide) s q⟩
def bMin : Blt := ⟨"min", fMin, fun X EX c e es ms p pos h g m a s q => de_blt (call_min2 h.calm) (oc_min X.K) g m (by rfl) a (by decide) (by decide) s q⟩
def bInt : Blt := ⟨"int", fInt, fun X EX c e es ms p pos h g m a s q => de_bty call_int1 (oc_int X.K) g m (by rfl) a (by decide) (by decide) s q⟩
def bBool : Blt := ⟨"bool", fBool, fun X EX c e es ms p pos h g m a s q => de_bty call_bool1 (oc_bool X.K) g m (by rfl) a (by decide) (by decide) s q⟩
def bStr : Blt := ⟨"str", fStr, fun X EX c e es ms p pos h g m a s q => de_bty call_str_int (oc_str X.K) g m (by rfl) a (by decide) (by decide) s q⟩
def bSum : Blt := ⟨"sum", fSum, fun X EX c e es ms p pos h g m a s q => de_blt (CallR.or (cr_sum h.calm) (cr_sumT h.calm)) (oc_sum X.K) g m (by rfl) a (by decide) (by decide) s q⟩
def bAll : Blt := ⟨"all", fAll, fun X EX c e es ms p pos h g m a s q => de_blt (cr_all h.calm) (oc_all X.K) g m (by rfl) a (by decide) (by decide) s q⟩
def bAny : Blt := ⟨"any", fAny, fun X EX c e es ms p pos h g m a s q => de_blt (cr_any h.calm) (oc_any X.K) g m (by rfl) a (by decide) (by decide) s q⟩
def bTuple : Blt := ⟨"tuple", fTuple, fun X EX c e es ms p pos h g m a s q => de_bty call_tupF (oc_tuple X.K) g m (by rfl) a (by decide) (by decide) s q⟩
def bList : Blt := ⟨"list", fList, fun X EX c e es ms p pos h g m a s q => de_bty call_list_of (oc_list X.K) g m (by rfl) a (by decide) (by decide) s q⟩
def bDict : Blt := ⟨"dict", fDict, fun X EX c e es ms p pos h g m a s q => de_bty (call_dictP h.calm) (oc_dict X.K) g m (by rfl) a (by decide) (by decide) s q⟩
def bSorted : Blt := ⟨"sorted", fSorted, fun X EX c e es ms p pos h g m a s q => de_blt (cr_sortV (by have := h.hu64; omega)) (oc_sorted X.K) g m (by rfl) a (by decide) (by decide) s q⟩
def blts : List Blt := [bSorted, bLen, bInt, bTuple, bStr, bSum, bAbs, bMax, bMin, bAll, bAny, bList, bBool, bDict]
def findBlt (x : Str) : List Blt → Option {b : Blt // b.x = x}
  | [] => none
  | b :: bs => if h : b.x = x then some ⟨b, h⟩ else findBlt x bs
end PD
set_option maxRecDepth 100000
set_option maxHeartbeats 4000000
namespace PD
open PySem PySem.Spec PyProof.Rows L2

/-! ## the translator: expressions -/
def stepV (t : Tr) (c : Sc) : (e : Expr) → OV c e
  | .Name x p => if hv : visb c x = true then (match h : ixOf x c.N with
      | some i => some ⟨mPeek i, fun X EX k => let q := vis_ok k hv; dv_peek (by rw [k.n]; exact ixOf_ok h) q.1 q.2.1 q.2.2⟩
      | none => none) else (t.E c (.Name x p)).map fun m => ⟨m.1, fun X EX k => (m.2 X EX k).v⟩
  | .IfExp q a b p => (t.T c q).bind fun mq => (t.V c a).bind fun ma => (t.V c b).bind fun mb => some ⟨mIte mq.1 ma.1 mb.1, fun X EX k => dv_ite (mq.2 X EX k) (ma.2 X EX k) (mb.2 X EX k)⟩
  | e => (t.E c e).map fun m => ⟨m.1, fun X EX k => (m.2 X EX k).v⟩
def stepA (t : Tr) (c : Sc) : (es : List Expr) → OA c es
  | [] => some ⟨mNil, fun X EX k => da_nil⟩
  | e :: es => if hs : noStar e = true then (t.E c e).bind fun m => (t.A c es).bind fun ms => some ⟨mCons m.1 ms.1, fun X EX k => da_cons (m.2 X EX k) (ms.2 X EX k) (star_cons hs)⟩ else none
def stepAv (t : Tr) (c : Sc) : (es : List Expr) → OAv c es
  | [] => some ⟨mNil, fun X EX k => dav_nil⟩
  | e :: es => if hs : noStar e = true then (t.V c e).bind fun m => (t.Av c es).bind fun ms => some ⟨mCons m.1 ms.1, fun X EX k => dav_cons (m.2 X EX k) (ms.2 X EX k) (star_cons hs)⟩ else none
def stepP (t : Tr) (c : Sc) : (e : Option Expr) → OP c e
  | none => some ⟨mNoPart, fun X EX k => dp_none⟩
  | some e => (t.E c e).map fun m => ⟨mPart m.1, fun X EX k => dp_some (m.2 X EX k)⟩
def stepG (t : Tr) (c : Sc) : (e : Expr) → OG c e
  | .Name x p => if hs : storb c x = true then (match h : ixOf x c.N with
      | some i => some ⟨.nm i, fun X EX k => let q := stor_ok k hs; dg_nm (by rw [k.n]; exact k.nd) (by rw [k.n]; exact ixOf_ok h) q.1 q.2⟩
      | none => none) else none
  | .Tuple es kk p => (t.Gs c es).map fun m => ⟨.tp m.1, fun X EX k => dg_tup k.calm (m.2 X EX k)⟩
  | _ => none
theorem asg_cons {e : Expr} {es : List Expr} {env : PySem.Env} (h : noStar e = true) : assignEach (e :: es) env = (false, assign e env) :: assignEach es env := by
  cases e <;> first | rfl | cases h
def stepGs (t : Tr) (c : Sc) : (es : List Expr) → OGs c es
  | [] => some ⟨[], fun X EX k => dgs_nil⟩
  | e :: es => if hs : noStar e = true then (t.G c e).bind fun m => (t.Gs c es).bind fun ms => some ⟨m.1 :: ms.1, fun X EX k => dgs_cons (m.2 X EX k) (ms.2 X EX k) (asg_cons hs)⟩ else none
def stepW (t : Tr) (c : Sc) : (e : Expr) → OW c e
  | .BoolOp .And [a] p => (t.T c a).map fun m => ⟨m.1, fun X EX k => dw_and1 (m.2 X EX k)⟩
  | .BoolOp .Or [a] p => (t.T c a).map fun m => ⟨m.1, fun X EX k => dw_or1 (m.2 X EX k)⟩
  | .BoolOp .And (a :: b :: r) p => (t.T c a).bind fun m => (t.W c (.BoolOp .And (b :: r) p)).bind fun n => some ⟨mAndT m.1 n.1, fun X EX k => dw_and (m.2 X EX k) (n.2 X EX k)⟩
  | .BoolOp .Or (a :: b :: r) p => (t.T c a).bind fun m => (t.W c (.BoolOp .Or (b :: r) p)).bind fun n => some ⟨mOrT m.1 n.1, fun X EX k => dw_or (m.2 X EX k) (n.2 X EX k)⟩
  | _ => none
def valT (t : Tr) (c : Sc) (e : Expr) (h : ∀ env whole, isTrue e env whole = (do let v ← whole; standAt e.pos; holding [v] (truthy v))) : OT c e := (t.E c e).map fun m => ⟨mTest m.1, fun X EX k => dt_val (m.2 X EX k) (h _)⟩
def stepT (t : Tr) (c : Sc) : (e : Expr) → OT c e
  | .UnaryOp .Not a p => (t.T c a).map fun m => ⟨mNotT m.1, fun X EX k => dt_not (m.2 X EX k)⟩
  | .BoolOp op es p => (t.W c (.BoolOp op es p)).map fun m => ⟨m.1, fun X EX k => (m.2 X EX k).t⟩
  | .Compare a [op] [b] p => if hm : behindInMarks op b = false then (cmB op).bind fun f => (t.V c a).bind fun ma => (t.V c b).bind fun mb => some ⟨mTest (mOp f.1 ma.1 mb.1), fun X EX k => by
      obtain ⟨r, h1, h2⟩ := f.2 X EX c k
      exact dt_cmp h1 h2 hm (ma.2 X EX k) (mb.2 X EX k)⟩ else none
  | .Compare a [op, op'] [b, b'] p => if hm : lastMarks [op, op'] [b, b'] = false then (cmB op).bind fun f => (cmB op').bind fun f' => (t.V c a).bind fun ma => (t.V c b).bind fun mb => (t.V c b').bind fun mc => some ⟨mTest (mChain f.1 f'.1 ma.1 mb.1 mc.1), fun X EX k => by
      obtain ⟨r, h1, h2⟩ := f.2 X EX c k
      obtain ⟨r', h1', h2'⟩ := f'.2 X EX c k
      exact dt_chain h1 h1' h2 h2' (ma.2 X EX k) (mb.2 X EX k) (mc.2 X EX k) hm⟩ else none
  | .Name x p => valT t c _ fun _ _ => rfl
  | .Call f as ks p => valT t c _ fun _ _ => rfl
  | .Subscript a b p => valT t c _ fun _ _ => rfl
  | .Attribute a b p => valT t c _ fun _ _ => rfl
  | .Constant a b p => valT t c _ fun _ _ => rfl
  | _ => none

/-! ### calls -/
def getFn (x : Str) : (T : List Ent) → Option {p : Nat × (List D → Store → R D) // Ent.fn x p.1 p.2 ∈ T}
  | [] => none
  | .fn y n m :: T => if h : y = x then some ⟨(n, m), by subst h; exact List.mem_cons_self⟩ else (getFn x T).map fun q => ⟨q.1, List.mem_cons_of_mem _ q.2⟩
  | _ :: T => (getFn x T).map fun q => ⟨q.1, List.mem_cons_of_mem _ q.2⟩
def getFo (x : Str) : (T : List Ent) → Option {p : Nat × (List D → Store → R (List D)) // Ent.fo x p.1 p.2 ∈ T}
  | [] => none
  | .fo y n m :: T => if h : y = x then some ⟨(n, m), by subst h; exact List.mem_cons_self⟩ else (getFo x T).map fun q => ⟨q.1, List.mem_cons_of_mem _ q.2⟩
  | _ :: T => (getFo x T).map fun q => ⟨q.1, List.mem_cons_of_mem _ q.2⟩
def getCon (x : Str) : (T : List Ent) → Option {d : D // Ent.con x d ∈ T}
  | [] => none
  | .con y d :: T => if h : y = x then some ⟨d, by subst h; exact List.mem_cons_self⟩ else (getCon x T).map fun q => ⟨q.1, List.mem_cons_of_mem _ q.2⟩
  | _ :: T => (getCon x T).map fun q => ⟨q.1, List.mem_cons_of_mem _ q.2⟩
def getTups (x : Str) : (T : List Ent) → Option {d : List Str // Ent.tups x d ∈ T}
  | [] => none
  | .tups y d :: T => if h : y = x then some ⟨d, by subst h; exact List.mem_cons_self⟩ else (getTups x T).map fun q => ⟨q.1, List.mem_cons_of_mem _ q.2⟩
  | _ :: T => (getTups x T).map fun q => ⟨q.1, List.mem_cons_of_mem _ q.2⟩
def memStr (x : Str) : (B : List Str) → Option (PLift (x ∈ B))
  | [] => none
  | y :: B => if h : y = x then some ⟨by subst h; exact List.mem_cons_self⟩ else (memStr x B).map fun q => ⟨List.mem_cons_of_mem _ q.1⟩
def callFn (t : Tr) (c : Sc) (x : Str) (p pos : Pos) (hg : glb c x = true) : (es : List Expr) → OE c (.Call (.Name x p) es [] pos)
  | [] => (getFn x c.T).bind fun f => some ⟨mCall f.1.1 f.1.2 mNil, fun X EX k => by
      obtain ⟨a, fd, ps, h1, h2, h3, h4⟩ := k.ents _ f.2
      have g := gl_ok k hg
      exact de_call0 h3 k.room g.1 h1 h2 h4 k.pass g.2.1⟩
  | e :: es => if hs : noStar e = true ∧ es.all noStar = true then (getFn x c.T).bind fun f => (t.A c (e :: es)).bind fun ms => some ⟨mCall f.1.1 f.1.2 ms.1, fun X EX k => by
      obtain ⟨a, fd, ps, h1, h2, h3, h4⟩ := k.ents _ f.2
      have g := gl_ok k hg
      exact de_call h3 k.room g.1 h1 h2 h4 k.pass (ms.2 X EX k) g.2.1 (star_cons hs.1) (star_plain hs.2)⟩ else none
def callFo (t : Tr) (c : Sc) (x : Str) (p pos : Pos) (hg : glb c x = true) : (es : List Expr) → OO c (.Call (.Name x p) es [] pos)
  | [] => none
  | e :: es => if hs : noStar e = true ∧ es.all noStar = true then (getFo x c.T).bind fun f => (t.A c (e :: es)).bind fun ms => some ⟨mCallO f.1.1 f.1.2 ms.1, fun X EX k => by
      obtain ⟨a, fd, ps, h1, h2, h3, h4⟩ := k.ents _ f.2
      have g := gl_ok k hg
      exact do_call h3 k.room g.1 h1 h2 h4 k.pass (ms.2 X EX k) g.2.1 (star_cons hs.1) (star_plain hs.2)⟩ else none
def callBlt (t : Tr) (c : Sc) (x : Str) (p pos : Pos) (hg : glb c x = true) : (es : List Expr) → OE c (.Call (.Name x p) es [] pos)
  | [] => none
  | e :: es => if hs : noStar e = true ∧ es.all noStar = true then (memStr x c.B).bind fun hB => (findBlt x blts).bind fun b => (t.Av c (e :: es)).bind fun ms => some ⟨mBlt b.1.f ms.1, fun X EX k => by
      have g := gl_ok k hg
      have hb := b.1.ok
      rw [b.2] at hb
      exact hb X EX c e es ms.1 p pos k g.1 (k.free x hB.1) (ms.2 X EX k) (star_cons hs.1) (star_plain hs.2)⟩ else none
def isiTy : (x : Str) → Option {T : String // bootBuiltins x = some (.type T) ∧ T ∈ isiT ∧ x ≠ ("__name__" : Str) ∧ (x == ("__debug__" : Str)) = false} := fun x =>
  if h : x = "int" then some ⟨"int", by subst h; exact ⟨by rfl, by decide, by decide, by decide⟩⟩
  else if h : x = "tuple" then some ⟨"tuple", by subst h; exact ⟨by rfl, by decide, by decide, by decide⟩⟩
  else if h : x = "bool" then some ⟨"bool", by subst h; exact ⟨by rfl, by decide, by decide, by decide⟩⟩
  else if h : x = "str" then some ⟨"str", by subst h; exact ⟨by rfl, by decide, by decide, by decide⟩⟩
  else if h : x = "list" then some ⟨"list", by subst h; exact ⟨by rfl, by decide, by decide, by decide⟩⟩
  else none
def callIsi (t : Tr) (c : Sc) (x : Str) (p pos : Pos) (hx : x = "isinstance") (hg : glb c x = true) : (es : List Expr) → OE c (.Call (.Name x p) es [] pos)
  | [a, .Name T p2] => if hs : noStar a = true ∧ glb c T = true then (memStr x c.B).bind fun hB => (memStr T c.B).bind fun hT => (isiTy T).bind fun ty => (t.V c a).bind fun m => some ⟨mOp1 (fIsi ty.1) m.1, fun X EX k => by
      subst hx
      exact de_isi (gl_ok k hg).1 (k.free _ hB.1) (gl_ok k hs.2).1 (k.free _ hT.1) ty.2.1 ty.2.2.1 ty.2.2.2.1 ty.2.2.2.2 (m.2 X EX k) (star_cons hs.1) (star_one rfl) (star_plain rfl)⟩ else none
  | _ => none
def callName (t : Tr) (c : Sc) (x : Str) (p pos : Pos) (es : List Expr) : OE c (.Call (.Name x p) es [] pos) :=
  if hg : glb c x = true then (callFn t c x p pos hg es).or ((if hx : x = "isinstance" then callIsi t c x p pos hx hg es else callBlt t c x p pos hg es).or ((callFo t c x p pos hg es).map fun m => ⟨mFrz m.1, fun X EX k => (m.2 X EX k).d⟩)) else none
def callAttr (t : Tr) (c : Sc) (o : Expr) (x : Str) (ap pos : Pos) : (es : List Expr) → OE c (.Call (.Attribute o x ap) es [] pos)
  | [b] => if hs : noStar b = true ∧ noCall0 o = true ∧ (ap.endLine == pos.line) = true then
      (if hx : x = "split" then (t.V c o).bind fun ma => (t.V c b).bind fun mb => some ⟨mStr2 fSplit ma.1 mb.1, fun X EX k => by subst hx; exact de_split (ma.2 X EX k) (mb.2 X EX k) (star_one hs.1) (base_ok hs.2.1) hs.2.2⟩
      else if hx : x = "join" then (t.V c o).bind fun ma => (t.V c b).bind fun mb => some ⟨mStr2 fJoin ma.1 mb.1, fun X EX k => by subst hx; exact de_join (ma.2 X EX k) (mb.2 X EX k) (star_one hs.1) (base_ok hs.2.1) hs.2.2⟩
      else if hx : x = "index" then (match o, hs.2.1 with
        | .Name g p2, hb0 => if hg : glb c g = true then (getTups g c.T).bind fun ys => (t.V c b).bind fun mb => some ⟨mOp1 (fGIdx ys.1) mb.1, fun X EX k => by
            subst hx
            obtain ⟨a, o, h1, h2, h3, h4, h5⟩ := k.ents _ ys.2
            have gg := gl_ok k hg
            exact de_gindex gg.1 h1 gg.2.1 h2 h3 h4 h5 (mb.2 X EX k) (star_one hs.1) (base_ok hb0) hs.2.2 (few_one hs.1)⟩
          else (t.V c (.Name g p2)).bind fun ma => (t.V c b).bind fun mb => some ⟨mXIdx ma.1 mb.1, fun X EX k => by subst hx; exact de_xindex k.hu (ma.2 X EX k) (mb.2 X EX k) (star_one hs.1) (base_ok hb0) hs.2.2 (few_one hs.1)⟩
        | o, hb0 => (t.V c o).bind fun ma => (t.V c b).bind fun mb => some ⟨mXIdx ma.1 mb.1, fun X EX k => by subst hx; exact de_xindex k.hu (ma.2 X EX k) (mb.2 X EX k) (star_one hs.1) (base_ok hb0) hs.2.2 (few_one hs.1)⟩)
      else if hx : x = "count" then (t.V c o).bind fun ma => (t.V c b).bind fun mb => some ⟨mLCnt ma.1 mb.1, fun X EX k => by subst hx; exact de_lcount k.hu (ma.2 X EX k) (mb.2 X EX k) (star_one hs.1) (base_ok hs.2.1) hs.2.2 (few_one hs.1)⟩
      else none) else none
  | [b, d] => if hs : noStar b = true ∧ noStar d = true ∧ noCall0 o = true ∧ (ap.endLine == pos.line) = true then
      (if hx : x = "get" then (t.E c o).bind fun mo => (t.E c b).bind fun mb => (t.E c d).bind fun md => some ⟨mDGet mo.1 mb.1 md.1, fun X EX k => by
          subst hx
          exact de_dget (by have := k.hu64; omega) (mo.2 X EX k) (mb.2 X EX k) (md.2 X EX k) ⟨base_ok hs.2.2.1, by rw [star_cons hs.1, star_one hs.2.1]; rfl, hs.2.2.2, by rw [star_cons hs.1, star_one hs.2.1]; rfl⟩⟩
      else none) else none
  | _ => none
def trCall (t : Tr) (c : Sc) (pos : Pos) : (f : Expr) → (es : List Expr) → (ks : List Keyword) → OE c (.Call f es ks pos)
  | .Name x p, es, [] => callName t c x p pos es
  | .Attribute o x ap, es, [] => callAttr t c o x ap pos es
  | _, _, _ => none
end PD
set_option maxRecDepth 100000
set_option maxHeartbeats 4000000
namespace PD
open PySem PySem.Spec PyProof.Rows L2

/-! ## the translator: the rest of expressions -/
def blkSc (c : Sc) (scope : Scope) : Sc := { c with sc := relS scope c.sc, fnb := fun x => scope.names.lookup x == some .cell }
theorem blk_ok {X : Cx} {EX : XK} {c : Sc} (k : XOk X EX c) {scope : Scope} (hk : scope.kind = .function) (s : Shared) (H : Hp) (C : Addr) (cl : List (Str × Addr)) (fp : List Addr) : XOk (X.blk s H scope (compEnvC scope cl C X.env) fp) noEX (blkSc c scope) where
  calm := k.calm
  n := k.n
  nd := k.nd
  sc := by
    show relS scope X.env.scope = relS scope c.sc
    rw [k.sc]
  kf := hk
  room := k.room
  pass := passL
  fn := fun x h => h
  ents := k.ents
  free := k.free
def ownOf (N : List Str) (scope : Scope) : List (Str × Nat) := scope.names.filterMap fun y => match y.2 with
  | .local => (ixOf y.1 N).map fun i => (y.1, i)
  | .cell => (ixOf y.1 N).map fun i => (y.1, i)
  | _ => none
def isFun (sc : Scope) : Bool := match sc.kind with
  | .function => true
  | _ => false
theorem isFun_ok {sc : Scope} (h : isFun sc = true) : sc.kind = .function := by
  unfold isFun at h
  split at h
  · assumption
  · cases h
def lcIfs (t : Tr) (c : Sc) : (ifs : List Expr) → Option {m : Env → M Bool // (ifs = [] ∧ m = mYes ∨ ifs ≠ []) ∧ ∀ X EX, XOk X EX c → PIfs X EX ifs m}
  | [] => some ⟨mYes, .inl ⟨rfl, rfl⟩, fun X EX k => .inl ⟨rfl, rfl⟩⟩
  | [e] => (t.T c e).map fun m => ⟨m.1, .inr (by simp), fun X EX k => .inr ⟨e, rfl, m.2 X EX k⟩⟩
  | _ => none
def stepL (t : Tr) (c : Sc) : (e : Expr) → OL c e
  | .ListComp elt [⟨tg, iter, ifs, 0⟩] scope pos => let own := ownOf c.N scope
    if hb : blkC c.N c.sc scope own = true ∧ isFun scope = true ∧ noSet iter = true then
      (t.I c tg iter).bind fun mi => (t.G (blkSc c scope) tg).bind fun g => (lcIfs t (blkSc c scope) ifs).bind fun mc => (t.E (blkSc c scope) elt).bind fun me =>
        if hs : g.1.slots.all (fun i => decide (i ∈ own.map (·.2))) = true then some ⟨mLcL mi.1 g.1 mc.1 me.1 (own.map (·.2)), fun X EX k => by
          have hk := isFun_ok hb.2.1
          refine dl_lc k.calm (by rw [k.n]; exact k.nd) (mi.2 X EX k) (by rw [k.n, k.sc]; exact blkOk_by hb.1) (fun i hi => ?_) mc.2.1 (fun s H C cl fp => g.2 _ _ (blk_ok k hk s H C cl fp)) (fun s H C cl fp => mc.2.2 _ _ (blk_ok k hk s H C cl fp)) (fun s H C cl fp => me.2 _ _ (blk_ok k hk s H C cl fp)) (fold_ok hb.2.2)
          exact of_decide_eq_true (List.all_eq_true.mp hs i hi)⟩ else none
    else none
  | _ => none
abbrev OGr (c : Sc) (e : Expr) := Option {m : Env → M (List D) // ∀ X EX, XOk X EX c → PRgD X EX e m}
def rgOf (t : Tr) (c : Sc) : (e : Expr) → OGr c e
  | .Call (.Name x p) [a] [] pos => if hs : x = "range" ∧ glb c x = true ∧ noStar a = true then (memStr x c.B).bind fun hB => (t.E c a).bind fun m => some ⟨mCons m.1 mNil, fun X EX k => by
      have g := (gl_ok k hs.2.1).1
      have f := k.free x hB.1
      rw [hs.1] at g f ⊢
      exact dr1 g f (m.2 X EX k) (star_cons hs.2.2)⟩ else none
  | .Call (.Name x p) [a, b] [] pos => if hs : x = "range" ∧ glb c x = true ∧ noStar a = true ∧ noStar b = true then (memStr x c.B).bind fun hB => (t.E c a).bind fun m => (t.E c b).bind fun n => some ⟨mCons m.1 (mCons n.1 mNil), fun X EX k => by
      have g := (gl_ok k hs.2.1).1
      have f := k.free x hB.1
      rw [hs.1] at g f ⊢
      exact dr2 g f (m.2 X EX k) (n.2 X EX k) (star_cons hs.2.2.1) (star_cons hs.2.2.2) (star_plain (by simp [hs.2.2.2]))⟩ else none
  | _ => none
theorem rg_star {t : Tr} {c : Sc} {e : Expr} {q} (h : rgOf t c e = some q) : noStar e = true := by
  cases e <;> first | rfl | cases h
def listRg (t : Tr) (c : Sc) (x : Str) (p pos : Pos) (e : Expr) : OO c (.Call (.Name x p) [e] [] pos) :=
  if hs : x = "list" ∧ glb c x = true then (memStr x c.B).bind fun hB => (match hr : rgOf t c e with
    | some m => some ⟨mLR m.1, fun X EX k => by
      have g := (gl_ok k hs.2).1
      have f := k.free x hB.1
      rw [hs.1] at g f ⊢
      exact do_lr k.calm g f (m.2 X EX k) (star_cons (rg_star hr))⟩
    | none => none) else none
def tupRg (t : Tr) (c : Sc) (x : Str) (p pos : Pos) (e : Expr) : OE c (.Call (.Name x p) [e] [] pos) :=
  if hs : x = "tuple" ∧ glb c x = true then (memStr x c.B).bind fun hB => (match hr : rgOf t c e with
    | some m => some ⟨mTR m.1, fun X EX k => by
      have g := (gl_ok k hs.2).1
      have f := k.free x hB.1
      rw [hs.1] at g f ⊢
      exact de_tr k.calm g f (m.2 X EX k) (star_cons (rg_star hr))⟩
    | none => none) else none
def stepO (t : Tr) (c : Sc) : (e : Expr) → OO c e
  | .List es pos => (t.A c es).map fun ms => ⟨mLstO ms.1, fun X EX k => do_lst (ms.2 X EX k)⟩
  | .BinOp a .Add b pos => (t.V c a).bind fun ma => (t.V c b).bind fun mb => some ⟨mCatO ma.1 mb.1, fun X EX k => do_cat (ma.2 X EX k) (mb.2 X EX k)⟩
  | .BinOp a .Mult b pos => (t.V c a).bind fun ma => (t.V c b).bind fun mb => some ⟨mRepO ma.1 mb.1, fun X EX k => do_rep (ma.2 X EX k) (mb.2 X EX k)⟩
  | .Call (.Name x p) [e] [] pos => (listRg t c x p pos e).or (if hg : glb c x = true then callFo t c x p pos hg [e] else none)
  | .Call (.Name x p) es [] pos => if hg : glb c x = true then callFo t c x p pos hg es else none
  | e => (t.L c e).map fun m => ⟨m.1, fun X EX k => (m.2 X EX k).o⟩
/-- walked: range, zip, enumerate, else a list or a tuple -/
def iterCall (t : Tr) (c : Sc) (p pos : Pos) : (tg : Expr) → (x : Str) → (es : List Expr) → OI c tg (.Call (.Name x p) es [] pos)
  | tg, x, [a] => if hs : noStar a = true ∧ glb c x = true then
      (if hx : x = "range" then (memStr x c.B).bind fun hB => (t.A c [a]).bind fun ms => some ⟨mRng fRng1 ms.1, fun X EX k => by subst hx; exact di_rng1 (gl_ok k hs.2).1 (k.free _ hB.1) (ms.2 X EX k) (star_one hs.1)⟩
      else if hx : x = "enumerate" then (match tg with
        | .Tuple ts kk tp => (memStr x c.B).bind fun hB => (t.A c [a]).bind fun ms => some ⟨mRng fEnum ms.1, fun X EX k => by subst hx; exact di_enum (gl_ok k hs.2).1 (k.free _ hB.1) (ms.2 X EX k) (star_one hs.1)⟩
        | _ => none)
      else none) else none
  | tg, x, [a, b] => if hs : noStar a = true ∧ noStar b = true ∧ glb c x = true then
      (if hx : x = "range" then (memStr x c.B).bind fun hB => (t.A c [a, b]).bind fun ms => some ⟨mRng fRng2 ms.1, fun X EX k => by subst hx; exact di_rng2 (gl_ok k hs.2.2).1 (k.free _ hB.1) (ms.2 X EX k) (by rw [star_cons hs.1, star_one hs.2.1]) (star_one hs.2.1)⟩
      else if hx : x = "zip" then (match tg with
        | .Tuple ts kk tp => (memStr x c.B).bind fun hB => (t.A c [a, b]).bind fun ms => some ⟨mRng fZip ms.1, fun X EX k => by subst hx; exact di_zip (gl_ok k hs.2.2).1 (k.free _ hB.1) (ms.2 X EX k) (star_cons hs.1) (star_plain (by simp [hs.2.1]))⟩
        | _ => none)
      else none) else none
  | tg, x, [a, b, d] => if hs : noStar a = true ∧ noStar b = true ∧ noStar d = true ∧ glb c x = true then
      (if hx : x = "range" then (memStr x c.B).bind fun hB => (t.A c [a, b, d]).bind fun ms => some ⟨mRng fRngD ms.1, fun X EX k => by subst hx; exact di_rng3 (gl_ok k hs.2.2.2).1 (k.free _ hB.1) (ms.2 X EX k) (star_cons hs.1) (star_plain (by simp [hs.2.1, hs.2.2.1]))⟩
      else none) else none
  | _, _, _ => none
def seqI (t : Tr) (c : Sc) (tg e : Expr) : OI c tg e := (t.E c e).map fun m => ⟨mItems m.1, fun X EX k => di_seq (m.2 X EX k)⟩
def stepI (t : Tr) (c : Sc) (tg : Expr) : (e : Expr) → OI c tg e
  | .Call (.Name x p) es [] pos => if x = "range" ∨ x = "zip" ∨ x = "enumerate" then iterCall t c p pos tg x es else seqI t c tg _
  | e => seqI t c tg e
def stepE (t : Tr) (c : Sc) : (e : Expr) → OE c e
  | .Name x p => if hv : visb c x = true then (match h : ixOf x c.N with
      | some i => some ⟨mVar i, fun X EX k => let q := vis_ok k hv; de_var (by rw [k.n]; exact ixOf_ok h) q.1 q.2.1 q.2.2⟩
      | none => none)
      else if hg : glb c x = true then (getCon x c.T).map fun d => ⟨mCon d.1, fun X EX k => by
        obtain ⟨v, u, h1, h2, h3⟩ := k.ents _ d.2
        have g := gl_ok k hg
        exact de_glob g.1 h1 h2 g.2.1 h3⟩
      else none
  | .Constant (.int i) j p => some ⟨mCon (.int i), fun X EX k => de_int⟩
  | .Constant (.bool i) j p => some ⟨mCon (.bl i), fun X EX k => de_bl⟩
  | .Constant (.str i) j p => some ⟨mCon (.str i), fun X EX k => de_str⟩
  | .Constant .none j p => some ⟨mCon .non, fun X EX k => de_non⟩
  | .BinOp a op b p => (opB op).bind fun f => (t.V c a).bind fun ma => (t.V c b).bind fun mb => some ⟨mOp f.1 ma.1 mb.1, fun X EX k => by
      obtain ⟨r, h1, h2⟩ := f.2 X EX c k
      exact de_bin h1 h2 (ma.2 X EX k) (mb.2 X EX k)⟩
  | .UnaryOp .USub a p => (t.V c a).map fun ma => ⟨mOp1 fNeg ma.1, fun X EX k => de_un un_neg (od_neg X.K) (ma.2 X EX k)⟩
  | .UnaryOp .Not a p => (t.E c a).map fun ma => ⟨mNotV ma.1, fun X EX k => de_not (ma.2 X EX k)⟩
  | .Compare a [op] [b] p => if hm : behindInMarks op b = false then (cmB op).bind fun f => (t.V c a).bind fun ma => (t.V c b).bind fun mb => some ⟨mOp f.1 ma.1 mb.1, fun X EX k => by
      obtain ⟨r, h1, h2⟩ := f.2 X EX c k
      exact de_cmp h1 h2 hm (ma.2 X EX k) (mb.2 X EX k)⟩ else none
  | .Compare a [op, op'] [b, b'] p => if hm : lastMarks [op, op'] [b, b'] = false then (cmB op).bind fun f => (cmB op').bind fun f' => (t.V c a).bind fun ma => (t.V c b).bind fun mb => (t.V c b').bind fun mc => some ⟨mChain f.1 f'.1 ma.1 mb.1 mc.1, fun X EX k => by
      obtain ⟨r, h1, h2⟩ := f.2 X EX c k
      obtain ⟨r', h1', h2'⟩ := f'.2 X EX c k
      exact de_chain h1 h1' h2 h2' (ma.2 X EX k) (mb.2 X EX k) (mc.2 X EX k) hm⟩ else none
  | .BoolOp op [a] p => (t.E c a).map fun m => ⟨m.1, fun X EX k => de_one (m.2 X EX k)⟩
  | .BoolOp .And (a :: b :: r) p => (t.E c a).bind fun m => (t.E c (.BoolOp .And (b :: r) p)).bind fun n => some ⟨mAndV m.1 n.1, fun X EX k => de_and (m.2 X EX k) (n.2 X EX k)⟩
  | .BoolOp .Or (a :: b :: r) p => (t.E c a).bind fun m => (t.E c (.BoolOp .Or (b :: r) p)).bind fun n => some ⟨mOrV m.1 n.1, fun X EX k => de_or (m.2 X EX k) (n.2 X EX k)⟩
  | .IfExp q a b p => (t.T c q).bind fun mq => (t.E c a).bind fun ma => (t.E c b).bind fun mb => some ⟨mIte mq.1 ma.1 mb.1, fun X EX k => de_ite (mq.2 X EX k) (ma.2 X EX k) (mb.2 X EX k)⟩
  | .Tuple es kk p => (t.A c es).map fun ms => ⟨mTup ms.1, fun X EX k => de_tup (ms.2 X EX k)⟩
  | .List es p => (t.A c es).map fun ms => ⟨mLst ms.1, fun X EX k => de_lst (ms.2 X EX k)⟩
  | .Subscript a (.Slice lo hi none p2) p => (t.V c a).bind fun m => (t.P c lo).bind fun ml => (t.P c hi).bind fun mh => some ⟨mSl m.1 ml.1 mh.1, fun X EX k => de_sl (m.2 X EX k) (ml.2 X EX k) (mh.2 X EX k)⟩
  | .Subscript a b p => if hs : noSlice b = true then (t.V c a).bind fun ma => (t.E c b).bind fun mb => some ⟨mIx ma.1 mb.1, fun X EX k => de_ix (ma.2 X EX k) (mb.2 X EX k) (plain_ix hs)⟩ else none
  | .Call (.Name x p2) [e] [] p => (tupRg t c x p2 p e).or (((listRg t c x p2 p e).map fun m => ⟨mFrz m.1, fun X EX k => (m.2 X EX k).d⟩).or (callName t c x p2 p [e]))
  | .Call f es ks p => trCall t c p f es ks
  | .ListComp a b sc p => (t.L c (.ListComp a b sc p)).map fun m => ⟨mFrz m.1, fun X EX k => (m.2 X EX k).o.d⟩
  | _ => none
def trStep (t : Tr) : Tr where
  E := stepE t
  V := stepV t
  T := stepT t
  W := stepW t
  A := stepA t
  Av := stepAv t
  I := stepI t
  O := stepO t
  L := stepL t
  G := stepG t
  Gs := stepGs t
  P := stepP t
def trZero : Tr := ⟨fun _ _ => none, fun _ _ => none, fun _ _ => none, fun _ _ => none, fun _ _ => none, fun _ _ => none, fun _ _ _ => none, fun _ _ => none, fun _ _ => none, fun _ _ => none, fun _ _ => none, fun _ _ => none⟩
def tr (n : Nat) : Tr := Nat.rec (motive := fun _ => Tr) trZero (fun _ t => trStep t) n
end PD
set_option maxRecDepth 100000
set_option maxHeartbeats 4000000
namespace PD
open PySem PySem.Spec PyProof.Rows L2

/-! ## the translator: statements -/
structure Hn where
  own : List (Nat × Str) := []
  cells : List Str := []
  frz : List (Nat × Str) := []
  ro : Bool := false
structure SOk (X : Cx) (EX : XK) (c : Sc) : Prop extends XOk X EX c where
  hp : PassesOwn (model X.prog X.w) X.A X.env X.xe
  tk : Takes X (fun c d _ H => EX c d H)
theorem takes_no {X : Cx} : Takes X (fun c d _ H => noEX c d H) := fun _ _ ⟨_, _, _, _, _, _, _, _, _, _, _, _, _, _, _, _, z⟩ => z.elim
abbrev OS (c : Sc) (st : Stmt) := Option {m : MS // ∀ X EX, SOk X EX c → PSd X EX st m}
abbrev OSs (c : Sc) (st : List Stmt) := Option {m : MS // ∀ X EX, SOk X EX c → PSsd X EX st m}
structure TrS where
  S : ∀ (c : Sc) (h : Hn) (st : Stmt), OS c st
  Ss : ∀ (c : Sc) (h : Hn) (st : List Stmt), OSs c st
def wfuel : Nat := 10 ^ 100
def Hn.ownAt (h : Hn) (n : Nat) (x : Str) : Bool := h.own.any fun p => (p.1 == 0 || p.1 == n) && p.2 == x
def Hn.cell (h : Hn) (x : Str) : Bool := h.cells.any fun y => y == x
/-- a source -/
def srcR (t : Tr) (c : Sc) (own : Bool) (e : Expr) : OR c e := match own with
  | true => (t.O c e).map fun m => ⟨mSo m.1, fun X EX k => (m.2 X EX k).r⟩
  | false => (t.E c e).map fun m => ⟨mSd m.1, fun X EX k => (m.2 X EX k).r⟩
def swb (c : Sc) (x : Str) (p ep : Pos) (sc : Scope) : Bool := c.sc.names.lookup x == some .local && p.line == ep.line && !(sc.names.any fun (n, k) => n == x && (k == .local || k == .cell))
theorem bk_ok {X : Cx} {EX : XK} {c : Sc} (k : XOk X EX c) : X.env.blockKind = .function := by
  unfold Env.blockKind
  rw [k.sc, k.kf]
  rfl
theorem sw_lc {X : Cx} {EX : XK} {c : Sc} (k : XOk X EX c) {a : Expr} {b : List Comprehension} {sc : Scope} {ep p : Pos} {x : Str} {n : Nat} {r : Bool} (h : swb c x p ep sc = r) : swapsWith (.ListComp a b sc ep) (some (.Name x p)) n X.env = pure r := by
  show pure (X.env.blockKind == .function && X.env.kindOf x == some .local && p.line == ep.line && !(sc.names.any fun (n, k) => n == x && (k == .local || k == .cell))) = pure r
  rw [bk_ok k, ← h]
  unfold Env.kindOf swb
  rw [k.sc]
  simp
theorem storb_local {X : Cx} {EX : XK} {c : Sc} (k : XOk X EX c) {x : Str} {p ep : Pos} {sc : Scope} (h : swb c x p ep sc = true) : X.env.scope.names.lookup x = some .local := by
  unfold swb at h
  simp only [Bool.and_eq_true] at h
  rw [k.sc]
  exact eq_of_beq h.1.1
def asgName (t : Tr) (c : Sc) (h : Hn) (x : Str) (p pos : Pos) (e : Expr) : OS c (.Assign [.Name x p] e pos) :=
  if hs : storb c x = true then (match hi : ixOf x c.N with
    | none => none
    | some i =>
      if h.cell x = true then (if hn : noComp e = true then (t.O c e).map fun m => ⟨mCell i m.1, fun X EX k => by
          have q := stor_ok k.toXOk hs
          exact ds_cell (by rw [k.n]; exact k.nd) (by rw [k.n]; exact ixOf_ok hi) q.1 q.2 (m.2 X EX k.toXOk) (swaps_no hn)⟩ else none)
      else if hn : noComp e = true then (srcR t c (h.ownAt pos.line x) e).map fun m => ⟨mAsg i m.1, fun X EX k => by
          have q := stor_ok k.toXOk hs
          exact ds_asg (by rw [k.n]; exact k.nd) (by rw [k.n]; exact ixOf_ok hi) q.1 q.2 (m.2 X EX k.toXOk) (swaps_no hn)⟩
      else match e with
        | .ListComp a b sc ep => if hw : swb c x p ep sc = true then (t.L c (.ListComp a b sc ep)).map fun m => (match h.ownAt pos.line x with
            | true => ⟨mAsg i (mSo m.1), fun X EX k => ds_asgLc (by rw [k.n]; exact ixOf_ok hi) (storb_local k.toXOk hw) (m.2 X EX k.toXOk) (fun t q => lc_own q) (sw_lc k.toXOk hw)⟩
            | false => ⟨mAsg i (mSd (mFrz m.1)), fun X EX k => ds_asgLc (by rw [k.n]; exact ixOf_ok hi) (storb_local k.toXOk hw) (m.2 X EX k.toXOk) (fun t q => lc_dat q) (sw_lc k.toXOk hw)⟩)
          else (srcR t c (h.ownAt pos.line x) (.ListComp a b sc ep)).map fun m => ⟨mAsg i m.1, fun X EX k => by
            have q := stor_ok k.toXOk hs
            exact ds_asg (by rw [k.n]; exact k.nd) (by rw [k.n]; exact ixOf_ok hi) q.1 q.2 (m.2 X EX k.toXOk) (sw_lc k.toXOk (by simpa using hw))⟩
        | _ => none)
  else none
/-- names of a parallel assignment -/
def parNms (c : Sc) : (ts : List Expr) → Option {is : List Nat // ∀ X EX, XOk X EX c → NmOk X ts is}
  | [] => some ⟨[], fun X EX k => .nil⟩
  | .Name x p :: ts => if hs : storb c x = true then (match hi : ixOf x c.N with
      | none => none
      | some i => (parNms c ts).map fun is => ⟨i :: is.1, fun X EX k => by
          have q := stor_ok k hs
          exact .cons (by rw [k.n]; exact ixOf_ok hi) q.1 q.2 (is.2 X EX k)⟩)
      else none
  | _ => none
def parSrc (t : Tr) (c : Sc) (h : Hn) (n : Nat) : (ts es : List Expr) → ORs c es
  | _, [] => some ⟨mRnil, fun X EX k => dr_nil⟩
  | .Name x p :: ts, e :: es => if hs : noStar e = true then (srcR t c (h.ownAt n x) e).bind fun m => (parSrc t c h n ts es).map fun ms => ⟨mRcons m.1 ms.1, fun X EX k => dr_cons (m.2 X EX k) (ms.2 X EX k) (star_cons hs)⟩ else none
  | _, _ => none
/-- what swappedStores says -/
def swp (sc : Scope) (ts vs : List Expr) : Option (Option (List Str)) :=
  if (!(ts.length == 2 || ts.length == 3) || vs.length != ts.length) = true then some none
  else if (vs.any fun | .Starred .. => true | _ => false) = true then some none
  else
    let line := (ts.head?.map (·.pos.line)).getD 0
    let names := ts.filterMap fun
      | .Name id pos => if sc.names.lookup id == some .local && pos.line == line then some id else none
      | _ => none
    if (names.length != ts.length || names.eraseDups.length != names.length) = true then some none
    else if vs.all (foldedForSure 8) = true then some none
    else if vs.all (constantsAlone 8) = true then none
    else some (some names)
theorem swp_ok {X : Cx} {EX : XK} {c : Sc} (k : XOk X EX c) {ts vs : List Expr} {r : Option (List Str)} {k1 k2 : Nat} {p1 p2 : Pos} (h : swp c.sc ts vs = some r) : swappedStores [.Tuple ts k1 p1] (.Tuple vs k2 p2) X.env = pure r := by
  have e : swappedStores [.Tuple ts k1 p1] (.Tuple vs k2 p2) X.env = (do
    if !(ts.length == 2 || ts.length == 3) || vs.length != ts.length || X.env.blockKind != .function then return none
    if vs.any fun | .Starred .. => true | _ => false then return none
    let line := (ts.head?.map (·.pos.line)).getD 0
    let names := ts.filterMap fun
      | .Name id pos => if X.env.kindOf id == some .local && pos.line == line then some id else none
      | _ => none
    if names.length != ts.length || names.eraseDups.length != names.length then return none
    if vs.all (foldedForSure 8) then return none
    if vs.all (constantsAlone 8) then unsupported "assign.tuple-of-constant-expressions:order-of-the-stores"
    return some names) := rfl
  rw [e, bk_ok k]
  unfold Env.kindOf
  rw [k.sc]
  unfold swp at h
  simp only [bne_self_eq_false, Bool.or_false] at *
  split at h
  · rename_i h1
    rw [if_pos h1]
    cases h; rfl
  · rename_i h1
    rw [if_neg h1]
    split at h
    · rename_i h2
      cases h
      rw [if_pos h2]
    · rename_i h2
      rw [if_neg h2]
      split at h
      · rename_i h3
        cases h
        rw [if_pos h3]
      · rename_i h3
        rw [if_neg h3]
        split at h
        · rename_i h4
          cases h
          rw [if_pos h4]
        · rename_i h4
          rw [if_neg h4]
          split at h
          · cases h
          · rename_i h5
            cases h
            rw [if_neg h5]
theorem sole_tup {X : Cx} {es : List Expr} {k : Nat} {p : Pos} {e : Expr} {n : Nat} : swapsWithSole [.Tuple es k p] e n X.env = pure false := by cases e <;> rfl
theorem sole_sub {X : Cx} {a b : Expr} {p : Pos} {e : Expr} {n : Nat} : swapsWithSole [.Subscript a b p] e n X.env = pure false := by cases e <;> rfl
theorem stores_sub {X : Cx} {a b : Expr} {p : Pos} {e : Expr} : swappedStores [.Subscript a b p] e X.env = pure none := by cases e <;> rfl
def noTup : Expr → Bool
  | .Tuple .. => false
  | _ => true
theorem stores_no {X : Cx} {es : List Expr} {k : Nat} {p : Pos} {e : Expr} (h : noTup e = true) : swappedStores [.Tuple es k p] e X.env = pure none := by cases e <;> first | rfl | cases h
theorem sub_ok {env : PySem.Env} {a i : Expr} {p2 : Pos} (h : noSlice i = true) : ∀ v, assign (.Subscript a i p2) env v = (do
      let ov ← holding [v] (eval a env)
      let iv ← holding [v, ov] (eval i env)
      standAt p2
      holding [v, ov, iv] (setItem ov iv v)
      release [v, ov, iv] []) := fun v => by
  cases i <;> first | rfl | cases h
/-- two or three names, by the swapped order or through the tuple -/
def asgPar (t : Tr) (c : Sc) (h : Hn) (pos : Pos) (k1 k2 : Nat) (p1 p2 : Pos) (ts es : List Expr) : OS c (.Assign [.Tuple ts k1 p1] (.Tuple es k2 p2) pos) :=
  (parSrc t c h pos.line ts es).bind fun ms => match hw : swp c.sc ts es with
    | none => none
    | some none => (parNms c ts).bind fun is => if hz : is.1.length ≤ 1000 then some ⟨mPar is.1 ms.1, fun X EX k => ds_parN k.calm (by rw [k.n]; exact k.nd) (is.2 X EX k.toXOk) hz (ms.2 X EX k.toXOk) (swp_ok k.toXOk hw) sole_tup⟩ else none
    | some (some ns) => match ts, es, ns, ms, hw with
      | [.Name x px, .Name y py], [a, b], [x', y'], ms, hw => if hx : x' = x ∧ y' = y then
          (match hi : ixOf x c.N, hj : ixOf y c.N with
          | some i, some j => if hq : i ≠ j ∧ c.sc.names.lookup x = some .local ∧ c.sc.names.lookup y = some .local then some ⟨mPar [i, j] ms.1, fun X EX k => ds_par2 k.calm (by rw [k.n]; exact k.nd) (by rw [k.n]; exact ixOf_ok hi) (by rw [k.n]; exact ixOf_ok hj) hq.1 (by rw [k.sc]; exact hq.2.1) (by rw [k.sc]; exact hq.2.2) (ms.2 X EX k.toXOk) (by rw [← hx.1, ← hx.2]; rw [hx.1, hx.2] at hw ⊢; exact swp_ok k.toXOk hw) sole_tup⟩ else none
          | _, _ => none)
        else none
      | [.Name x px, .Name y py, .Name z pz], [a, b, d], [x', y', z'], ms, hw => if hx : x' = x ∧ y' = y ∧ z' = z then
          (match hi : ixOf x c.N, hj : ixOf y c.N, hl : ixOf z c.N with
          | some i, some j, some l => if hq : (i ≠ j ∧ i ≠ l ∧ j ≠ l) ∧ c.sc.names.lookup x = some .local ∧ c.sc.names.lookup y = some .local ∧ c.sc.names.lookup z = some .local then some ⟨mPar [i, j, l] ms.1, fun X EX k => ds_par3 k.calm (by rw [k.n]; exact k.nd) (by rw [k.n]; exact ixOf_ok hi) (by rw [k.n]; exact ixOf_ok hj) (by rw [k.n]; exact ixOf_ok hl) hq.1.1 hq.1.2.1 hq.1.2.2 (by rw [k.sc]; exact hq.2.1) (by rw [k.sc]; exact hq.2.2.1) (by rw [k.sc]; exact hq.2.2.2) (ms.2 X EX k.toXOk) (by rw [hx.1, hx.2.1, hx.2.2] at hw; exact swp_ok k.toXOk hw) sole_tup⟩ else none
          | _, _, _ => none)
        else none
      | _, _, _, _, _ => none
def asgSub (t : Tr) (c : Sc) (h : Hn) (o i e : Expr) (p2 pos : Pos) : OS c (.Assign [.Subscript o i p2] e pos) :=
  if hs : noSlice i = true then (t.E c e).bind fun mv => (t.E c i).bind fun mi => (match o with
    | .Name x p => if h.cell x = true then (t.E c (.Name x p)).bind fun mo => some ⟨mSetC mo.1 mi.1 mv.1, fun X EX k => ds_setC (mv.2 X EX k.toXOk) (mo.2 X EX k.toXOk) (mi.2 X EX k.toXOk) (sub_ok hs) sole_sub stores_sub⟩
        else if hv : visb c x = true then (match hi : ixOf x c.N with
          | some j => some ⟨mSetO j mi.1 mv.1, fun X EX k => let q := vis_ok k.toXOk hv; ds_setO (by rw [k.n]; exact ixOf_ok hi) q.1 q.2.1 q.2.2 (mv.2 X EX k.toXOk) (mi.2 X EX k.toXOk) (sub_ok hs) sole_sub stores_sub⟩
          | none => none) else none
    | o => (t.E c o).bind fun mo => some ⟨mSetC mo.1 mi.1 mv.1, fun X EX k => ds_setC (mv.2 X EX k.toXOk) (mo.2 X EX k.toXOk) (mi.2 X EX k.toXOk) (sub_ok hs) sole_sub stores_sub⟩)
  else none
def trAsg (t : Tr) (c : Sc) (h : Hn) (pos : Pos) : (tg e : Expr) → OS c (.Assign [tg] e pos)
  | .Name x p, e => asgName t c h x p pos e
  | .Tuple ts k1 p1, .Tuple es k2 p2 => asgPar t c h pos k1 k2 p1 p2 ts es
  | .Tuple ts k1 p1, e => if hn : noTup e = true then (t.E c e).bind fun m => (t.G c (.Tuple ts k1 p1)).map fun g => ⟨mUnp g.1 m.1, fun X EX k => ds_unp (m.2 X EX k.toXOk) (g.2 X EX k.toXOk) sole_tup (stores_no hn)⟩ else none
  | .Subscript o i p2, e => asgSub t c h o i e p2 pos
  | _, _ => none
def trExprS (t : Tr) (c : Sc) (h : Hn) (pos : Pos) : (e : Expr) → OS c (.Expr e pos)
  | .Call (.Attribute (.Name x p) m ap) [e] [] cp => if hm : m = "append" ∧ (ap.endLine == cp.line) = true ∧ noStar e = true then (if hv : visb c x = true then (match hi : ixOf x c.N with
      | some i => (t.E c e).map fun me => ⟨mApp i me.1, fun X EX k => by
          have q := vis_ok k.toXOk hv
          rw [hm.1]
          exact ds_app (by rw [k.n]; exact ixOf_ok hi) q.1 q.2.1 q.2.2 (me.2 X EX k.toXOk) (base_ok rfl) (few_one hm.2.2) hm.2.1 (star_one hm.2.2) (swaps_no rfl)⟩
      | none => none) else none)
    else (t.E c (.Call (.Attribute (.Name x p) m ap) [e] [] cp)).map fun m => ⟨mDrop m.1, fun X EX k => ds_expr (m.2 X EX k.toXOk) (swaps_no rfl)⟩
  | e => if hn : noComp e = true then (t.E c e).map fun m => ⟨mDrop m.1, fun X EX k => ds_expr (m.2 X EX k.toXOk) (swaps_no hn)⟩ else none
def trRet (t : Tr) (c : Sc) (h : Hn) (pos : Pos) : (e : Option Expr) → OS c (.Return e pos)
  | none => some ⟨mRetN, fun X EX k => ds_retN⟩
  | some (.Name x p) => if hv : visb c x = true then (match hi : ixOf x c.N with
      | some i => (match h.ro with
        | true => some ⟨mRetVO i, fun X EX k => let q := vis_ok k.toXOk hv; ds_retVO (by rw [k.n]; exact ixOf_ok hi) q.1 q.2.1 q.2.2⟩
        | false => some ⟨mRetV i, fun X EX k => let q := vis_ok k.toXOk hv; ds_retV (by rw [k.n]; exact ixOf_ok hi) q.1 q.2.1 q.2.2⟩)
      | none => none) else (t.E c (.Name x p)).map fun m => ⟨mRet m.1, fun X EX k => ds_ret (m.2 X EX k.toXOk)⟩
  | some e => match h.ro with
    | true => (t.O c e).map fun m => ⟨mRetO m.1, fun X EX k => ds_retO (m.2 X EX k.toXOk)⟩
    | false => (t.E c e).map fun m => ⟨mRet m.1, fun X EX k => ds_ret (m.2 X EX k.toXOk)⟩
/-! ### raise of an exception with one field -/
def mRaise (cls fld : Str) (ms : Env → M (List D)) : MS := fun Γ s => (ms Γ s).bind fun ds s1 => match ds with
  | [d] => .er ⟨cls, some (fld, d)⟩ s1
  | _ => .bad
theorem ds_raise {X : Cx} {EX : XK} {cls fld y : Str} {j : Nat} {fI : Addr} {fd : FuncData} {e : Expr} {es : List Expr} {p pos pos' : Pos} {ms : Env → M (List D)} (tk : Takes X (fun c d _ H => EX c d H)) (hc : X.calm = true) (T : OexC X.K (He.ga X.K cls))
    (iC : PySem.W.findIn X.K (.ref (He.ga X.K cls)) "__init__" = some (some (.ref fI))) (tI : PySem.W.typeIn X.K (.ref fI) = some (.type "function")) (F : FnOk X.prog X.w X.K X.mg X.base (fun _ _ _ _ _ _ => False) j fI fd ["self", y] (SpI (He.ga X.K cls) fld)) (hr : Room (j + 1) X.A) (hb : Binds X.K fd ["self", y] [])
    (hg : Gl X cls) (hm : X.mg cls = some (.ref (He.ga X.K cls))) (hdb : (cls == ("__debug__" : Str)) = false) (ha : PAd X EX (e :: es) ms) (he : starEach (e :: es) X.env = (false, eval e X.env) :: starEach es X.env) (hpl : (backTo pos (starEach es X.env)).any (·.1) = false) :
    PSd X EX (.Raise (some (.Call (.Name cls p) (e :: es) [] pos)) none pos') (mRaise cls fld ms) := by
  obtain ⟨t, pt, q⟩ := ha
  refine ⟨_, ps_raise hc tk (pmk_oex T iC tI F hr hb .nil (fun _ _ _ _ _ _ _ z => z.elim) hg hm pt hdb he hpl), fun W0 W Γ σ s D g sat sr pp => ?_⟩
  refine q _ W Γ σ s _ sat sr (pp.bindE g fun ds s1 W1 _ g1 sr1 p1 vs rs => ?_)
  split at p1
  · rename_i d
    cases rs with
    | cons r rr =>
      cases rr
      rename_i v
      refine ⟨by simp, fun a ha => ⟨a, v, rfl, upd_same, fun dd hd ne => ⟨rfl, dd, [(fld, v)], upd_same, ?_, ?_, ?_⟩⟩⟩
      · rw [upd_ne ne, upd_same]
      · rw [upd_ne ne] at hd; exact hd
      · rw [upd_ne ne] at hd
        have hF := Wd.fnone hd
        have g2 : Grow W0 (W1.put dd (.xd [(fld, v)]) hF) := (g.trans g1).put hF (by
          cases h : W0.H dd with
          | none => rfl
          | some o => exact absurd hd ((g.trans g1).t dd (by rw [h]; simp)))
        have z := p1 (W1.put dd (.xd [(fld, v)]) hF) (.ref (He.ga X.K cls)) (some dd) g2 (sr1.put hF (sr1.notA hd)) ⟨rfl, dd, v, rfl, upd_same, r.put hF⟩
        have e : upd (del (upd (upd (upd W1.H a (exo a (He.ga X.K cls) none)) dd (exd dd [(fld, v)])) a (exo a (He.ga X.K cls) (some dd))) a) dd (.xd [(fld, v)]) = upd W1.H dd (.xd [(fld, v)]) := by
          funext b
          by_cases hb : b = dd
          · subst hb; rw [upd_same, upd_same]
          · rw [upd_ne hb, upd_ne hb]
            by_cases hba : b = a
            · subst hba; rw [del_same, ha]
            · rw [del_ne hba, upd_ne hba, upd_ne hb, upd_ne hba]
        show EX _ _ (upd (del _ a) dd _)
        rw [e]
        exact z
  · exact p1.elim
def getExc (x : Str) : (T : List Ent) → Option {f : Str // Ent.exc x f ∈ T}
  | [] => none
  | .exc y f :: T => if h : y = x then some ⟨f, by subst h; exact List.mem_cons_self⟩ else (getExc x T).map fun q => ⟨q.1, List.mem_cons_of_mem _ q.2⟩
  | _ :: T => (getExc x T).map fun q => ⟨q.1, List.mem_cons_of_mem _ q.2⟩
def trRaise (t : Tr) (c : Sc) : (e q : Option Expr) → (p : Pos) → OS c (.Raise e q p)
  | some (.Call (.Name x p1) [e] [] p2), none, p => if hs : glb c x = true ∧ noStar e = true then (getExc x c.T).bind fun f => (t.A c [e]).map fun ms => ⟨mRaise x f.1 ms.1, fun X EX k => by
      obtain ⟨h1, h2, j, fI, fd, y, h3, h4, h5, h6, h7⟩ := k.ents _ f.2
      have g := gl_ok k.toXOk hs.1
      exact ds_raise k.tk k.calm h2 h4 h5 h6 (k.room.mono h3) h7 g.1 h1 g.2.1 (ms.2 X EX k.toXOk) (star_cons hs.2) rfl⟩ else none
  | _, _, _ => none
def stepS (u : TrS) (t : Tr) (c : Sc) (h : Hn) : (st : Stmt) → OS c st
  | .Pass p => some ⟨mNext, fun X EX k => ds_pass⟩
  | .Break p => some ⟨mBreak, fun X EX k => ds_break⟩
  | .Continue p => some ⟨mCont, fun X EX k => ds_cont⟩
  | .Return e p => trRet t c h p e
  | .Expr e p => trExprS t c h p e
  | .Assign [tg] e p => trAsg t c h p tg e
  | .If q a b p => (t.T c q).bind fun mq => (u.Ss c h a).bind fun ma => (u.Ss c h b).map fun mb => ⟨mIf mq.1 ma.1 mb.1, fun X EX k => ds_if (mq.2 X EX k.toXOk) (ma.2 X EX k) (mb.2 X EX k)⟩
  | .While q a [] p => (t.T c q).bind fun mq => (u.Ss c h a).map fun ma => ⟨mWhile mq.1 ma.1 wfuel, fun X EX k => ds_while wfuel k.hp (mq.2 X EX k.toXOk) (ma.2 X EX k)⟩
  | .Raise e q p => (trRaise t c e q p).or (some ⟨mBad, fun X EX k => ds_never⟩)
  | .For tg iter a [] p => if hs : noSet iter = true then (t.I c tg iter).bind fun mi => (t.G c tg).bind fun g => (u.Ss c h a).map fun ma => ⟨mFor mi.1 g.1 ma.1, fun X EX k => ds_for k.hp k.calm (mi.2 X EX k.toXOk) (g.2 X EX k.toXOk) (ma.2 X EX k) (fold_ok hs)⟩ else none
  | _ => none
def lnOf : Stmt → Nat
  | .Return _ p => p.line
  | .Expr _ p => p.line
  | .Assign _ _ p => p.line
  | .If _ _ _ p => p.line
  | .While _ _ _ p => p.line
  | .For _ _ _ _ p => p.line
  | _ => 0
def ghosts (c : Sc) (st : Stmt) (n : Nat) : List (Nat × Str) → OS c st → OS c st
  | [], o => o
  | q :: qs, o => if q.1 == n then (match ixOf q.2 c.N with
    | some i => (ghosts c st n qs o).map fun m => ⟨mGhost i m.1, fun X EX k => ds_ghost i (m.2 X EX k)⟩
    | none => none) else ghosts c st n qs o
def stepSs (u : TrS) (t : Tr) (c : Sc) (h : Hn) : (st : List Stmt) → OSs c st
  | [] => some ⟨mNext, fun X EX k => dss_nil⟩
  | [st] => (ghosts c st (lnOf st) h.frz (u.S c h st)).map fun m => ⟨m.1, fun X EX k => dss_one (m.2 X EX k)⟩
  | st :: sts => (ghosts c st (lnOf st) h.frz (u.S c h st)).bind fun m => (u.Ss c h sts).map fun ms => ⟨mSeq m.1 ms.1, fun X EX k => dss_cons (m.2 X EX k) (ms.2 X EX k)⟩
def trS (t : Tr) (n : Nat) : TrS := Nat.rec (motive := fun _ => TrS) ⟨fun _ _ _ => none, fun _ _ _ => none⟩ (fun _ u => ⟨fun c h => stepS u t c h, fun c h => stepSs u t c h⟩) n
end PD
set_option maxRecDepth 100000
set_option maxHeartbeats 4000000
namespace PD
open PySem PySem.Spec PyProof.Rows L2

/-! ## defs -/
def startE (n : Nat) (ds : List D) : Env := ds.map SV.dat ++ List.replicate (n - ds.length) .nul
def endD : R Out → R D
  | .ok (.nx _) s => .ok .non s
  | .ok (.rt d) s => .ok d s
  | .ok _ _ => .bad
  | .er e s => .er e s
  | .bad => .bad
def endO : R Out → R (List D)
  | .ok (.ro d) s => .ok d s
  | .ok _ _ => .bad
  | .er e s => .er e s
  | .bad => .bad
def mFn (n : Nat) (b : MS) : List D → Store → R D := fun ds s => endD (b (startE n ds) s)
def mFnO (n : Nat) (b : MS) : List D → Store → R (List D) := fun ds s => endO (b (startE n ds) s)
theorem sat_start {K : PySem.W.Frag} {B : Hp} {W : Wd} {N : List Str} {ds : List D} {vs : List V} (r : RepL K W ds vs) : Sat K B W (startE N.length ds) (L2.start N vs) := by
  have hl := r.len
  refine ⟨by unfold startE L2.start; simp [hl], fun i x o e1 e2 => ?_, fun i j x y o e1 e2 ox oy e3 e4 => ?_⟩
  · unfold startE at e1
    by_cases hi : i < ds.length
    · rw [List.getElem?_append_left (by simpa using hi), List.getElem?_map] at e1
      unfold L2.start at e2
      rw [List.getElem?_append_left (by simpa [← hl] using hi), List.getElem?_map] at e2
      rw [List.getElem?_eq_getElem hi] at e1
      cases e1
      obtain ⟨v, h1, h2⟩ := r.get (i := i) (d := ds[i]) (List.getElem?_eq_getElem hi)
      rw [h1] at e2
      cases e2
      exact ⟨v, rfl, h2⟩
    · rw [List.getElem?_append_right (by simpa using Nat.le_of_not_lt hi), List.getElem?_replicate] at e1
      split at e1
      · cases e1; trivial
      · cases e1
  · unfold startE at e1
    by_cases hi : i < ds.length
    · rw [List.getElem?_append_left (by simpa using hi), List.getElem?_map, List.getElem?_eq_getElem hi] at e1
      cases e1; cases ox
    · rw [List.getElem?_append_right (by simpa using Nat.le_of_not_lt hi), List.getElem?_replicate] at e1
      split at e1
      · cases e1; cases ox
      · cases e1
section
variable {P : Program} {w : World} {K : PySem.W.Frag} {mg : Str → Option Value} {base : Heap}
theorem sok_def {N ps : List Str} {qual : Str} {scope : Scope} {f : Addr} {cdv : Value} {A : Around} {outer : List PySem.Env} {s : Shared} {H : Hp} {E : XK} {k : Nat} {T : List Ent} {B : List Str} (S : FnScope N ps scope) (hr : Room k (A.deeper (envOfC qual scope s.heap.objs.size f cdv)))
    (he : ∀ e ∈ T, EntOk P w K mg base k e) (hf : ∀ x ∈ B, mg x = none) : SOk (cxOf (L2.CX P w) P w K mg base N qual scope f cdv A outer s H E) E ⟨N, scope, fun _ => true, T, B, k⟩ := by
  have tk : Takes (cxOf (L2.CX P w) P w K mg base N qual scope f cdv A outer s H E) (fun cls d _ H => E cls d H) := takes_of rfl rfl rfl rfl
  exact { calm := rfl, n := rfl, nd := S.nd, sc := rfl, kf := S.kind, room := hr, pass := passes_call tk (fun _ _ _ _ h => h), fn := fun _ _ => rfl, ents := he, free := hf, hp := passes_of rfl, tk := tk }
/-- a def keeps its promise: its text is translated -/
theorem fn_d {x : Str} {st : Stmt} {f : Addr} {fd : FuncData} {N ps : List Str} {k n : Nat} {T : List Ent} {B : List Str} {m : MS} {h : Hn} {tn sn : Nat} (F : FunD K x x (defArgs st) (defBody st) (defScope st) [] [] f fd) (S : FnScope N ps (defScope st)) (hn : ps.length = n)
    (htr : ((trS (tr tn) sn).Ss ⟨N, defScope st, fun _ => true, T, B, k⟩ h (defBody st)).map (·.1) = some m) (he : ∀ e ∈ T, EntOk P w K mg base k e) (hf : ∀ x ∈ B, mg x = none) :
    FnOk P w K mg base (L2.CX P w) (k + 1) f fd ps (Spec K n (mFn N.length m)) := by
  cases ht : (trS (tr tn) sn).Ss ⟨N, defScope st, fun _ => true, T, B, k⟩ h (defBody st) with
  | none => rw [ht] at htr; cases htr
  | some q =>
    rw [ht] at htr
    have hm : q.1 = m := by simpa using htr
    subst hm
    refine F.ok S (fun vs H Q E hsp => ?_) (fun cdv A outer s H vs Q E hr hsp => ?_)
    · obtain ⟨W, ds, s, _, _, r, hl, _⟩ := hsp
      rw [hn, ← hl, r.len]
    · obtain ⟨W, ds, s0, rfl, sr, r, hl, pp⟩ := hsp
      have ok := sok_def (E := E) (H := W.H) (outer := outer) (P := P) (w := w) (mg := mg) (base := base) S hr he hf
      obtain ⟨t, pt, qt⟩ := q.2 _ _ ok
      refine ⟨t, pt, qt W W (startE N.length ds) (L2.start N vs) s0 _ (Grow.refl W) (sat_start r) sr ?_⟩
      have pp : Post K E W (endD (q.1 (startE N.length ds) s0)) (Want K Q) := pp
      revert pp
      cases q.1 (startE N.length ds) s0 with
      | ok o s1 =>
        cases o with
        | nx Γ => exact fun pp W' g _ sr' σ _ => pp W' g sr' _ .non
        | rt d => exact fun pp W' g _ sr' v r => pp W' g sr' v r
        | _ => exact fun pp => pp.elim
      | er e s1 => exact fun pp W' c d g sr' q => pp W' c d g sr' q
      | bad => exact id
theorem fn_o {x : Str} {st : Stmt} {f : Addr} {fd : FuncData} {N ps : List Str} {k n : Nat} {T : List Ent} {B : List Str} {m : MS} {h : Hn} {tn sn : Nat} (F : FunD K x x (defArgs st) (defBody st) (defScope st) [] [] f fd) (S : FnScope N ps (defScope st)) (hn : ps.length = n)
    (htr : ((trS (tr tn) sn).Ss ⟨N, defScope st, fun _ => true, T, B, k⟩ h (defBody st)).map (·.1) = some m) (he : ∀ e ∈ T, EntOk P w K mg base k e) (hf : ∀ x ∈ B, mg x = none) :
    FnOk P w K mg base (L2.CX P w) (k + 1) f fd ps (SpecO K n (mFnO N.length m)) := by
  cases ht : (trS (tr tn) sn).Ss ⟨N, defScope st, fun _ => true, T, B, k⟩ h (defBody st) with
  | none => rw [ht] at htr; cases htr
  | some q =>
    rw [ht] at htr
    have hm : q.1 = m := by simpa using htr
    subst hm
    refine F.ok S (fun vs H Q E hsp => ?_) (fun cdv A outer s H vs Q E hr hsp => ?_)
    · obtain ⟨W, ds, s, _, _, r, hl, _⟩ := hsp
      rw [hn, ← hl, r.len]
    · obtain ⟨W, ds, s0, rfl, sr, r, hl, pp⟩ := hsp
      have ok := sok_def (E := E) (H := W.H) (outer := outer) (P := P) (w := w) (mg := mg) (base := base) S hr he hf
      obtain ⟨t, pt, qt⟩ := q.2 _ _ ok
      refine ⟨t, pt, qt W W (startE N.length ds) (L2.start N vs) s0 _ (Grow.refl W) (sat_start r) sr ?_⟩
      have pp : Post K E W (endO (q.1 (startE N.length ds) s0)) (WantO K W Q) := pp
      revert pp
      cases q.1 (startE N.length ds) s0 with
      | ok o s1 =>
        cases o with
        | ro d => exact fun pp W' g _ sr' p vs h0 h1 h2 h3 r => pp W' g sr' p vs h0 h1 h2 h3 r
        | _ => exact fun pp => pp.elim
      | er e s1 => exact fun pp W' c d g sr' q => pp W' c d g sr' q
      | bad => exact id
end
end PD
set_option maxRecDepth 100000
set_option maxHeartbeats 0
namespace PD
open PySem PySem.Spec PyProof.Rows L2

/-! ## the head: a light hook -/
def asL (g : Addr → Option Obj) (xs : List Str) : List Addr :=
  let K0 := He.frG g [mainGlobals]
  let fs := xs.map (He.ga K0)
  mainGlobals :: (fs ++ fs.flatMap fun a => match g a with
    | some o => He.refsO o
    | none => [])
def obsL (fa : List He.Fa) (fn : List He.DefD) (ex : PySem.W.Frag → Bool) (K : PySem.W.Frag) : He.AlD := ((fa.all fun f => f.ok K) && ((fn.all fun d => d.ok K) && ex K), fn.map fun d => He.fnW K d.at_)
def SaysL (fa : List He.Fa) (fn : List He.DefD) (ex : PySem.W.Frag → Bool) (K : PySem.W.Frag) : Prop := obsL fa fn ex K = He.valD fn
def obsLG (xs : List Str) (fa : List He.Fa) (fn : List He.DefD) (ex : PySem.W.Frag → Bool) (g : Addr → Option Obj) : He.AlD := obsL fa fn ex (He.frG g (asL g xs))
def hookL (xs : List Str) (fa : List He.Fa) (fn : List He.DefD) (ex : PySem.W.Frag → Bool) : PySem.W.Hook where
  α := He.AlD
  obs := fun s => obsLG xs fa fn ex s.heap.get?
  val := fun _ => He.valD fn
  says := fun _ h => ∃ K : PySem.W.Frag, K.In h ∧ SaysL fa fn ex K
  of := fun _ _ e => ⟨_, He.frG_in, e⟩
  keeps := fun _ _ _ ⟨K, hK, c⟩ k => ⟨K, PySem.W.Frag.In.keeps hK k, c⟩
theorem obsLG_eq {xs : List Str} {fa : List He.Fa} {fn : List He.DefD} {ex : PySem.W.Frag → Bool} {g : Addr → Option Obj} {s : Shared} (h : ∀ a, g a = s.heap.get? a) : obsLG xs fa fn ex g = (hookL xs fa fn ex).obs s := by
  have e : g = s.heap.get? := funext h
  rw [e] <;> rfl
section
variable {fa : List He.Fa} {fn : List He.DefD} {ex : PySem.W.Frag → Bool} {K : PySem.W.Frag}
theorem SaysL.ext (c : SaysL fa fn ex K) : ex K = true := (He.ba (He.ba (show ((fa.all fun f => f.ok K) && ((fn.all fun d => d.ok K) && ex K)) = true from congrArg (fun z : He.AlD => z.1) c)).2).2
theorem SaysL.fact (c : SaysL fa fn ex K) (i : Nat) {f : He.Fa} (h : fa[i]? = some f) : f.ok K = true :=
  List.all_eq_true.mp (He.ba (show ((fa.all fun f => f.ok K) && ((fn.all fun d => d.ok K) && ex K)) = true from congrArg (fun z : He.AlD => z.1) c)).1 f (List.mem_of_getElem? h)
theorem SaysL.mem (c : SaysL fa fn ex K) {f : He.Fa} (h : f ∈ fa) : f.ok K = true :=
  List.all_eq_true.mp (He.ba (show ((fa.all fun f => f.ok K) && ((fn.all fun d => d.ok K) && ex K)) = true from congrArg (fun z : He.AlD => z.1) c)).1 f h
theorem SaysL.def_ (c : SaysL fa fn ex K) (i : Nat) {d : He.DefD} (h : fn[i]? = some d) : ∃ fd, FunD K d.name d.qual d.params d.body d.scope (d.dvs K) (d.kws K) (He.fAd K d.at_) fd := by
  have c2 := (He.ba (He.ba (show ((fa.all fun f => f.ok K) && ((fn.all fun d => d.ok K) && ex K)) = true from congrArg (fun z : He.AlD => z.1) c)).2).1
  have e : fn.map (fun d => He.fnW K d.at_) = fn.map He.DefD.val := congrArg (fun z : He.AlD => z.2) c
  have e2 : (fn.map fun d => He.fnW K d.at_)[i]? = (fn.map He.DefD.val)[i]? := by rw [e]
  rw [List.getElem?_map, List.getElem?_map, h] at e2
  exact He.DefD.funD (Option.some.inj e2) (List.all_eq_true.mp c2 d (List.mem_of_getElem? h))
end
/-! ## the table of a text's defs -/
def TOk (P : Program) (w : World) (K : PySem.W.Frag) (mg : Str → Option Value) (base : Heap) (k : Nat) (T : List Ent) : Prop := ∀ e ∈ T, EntOk P w K mg base k e
def scB (N P : List Str) (sc : Scope) : Bool :=
  (match sc.kind with | .function => true | _ => false) && !sc.isCoroutine && !sc.isGenerator && decide N.Nodup && decide (N.take P.length = P) && P.all (fun x => decide (sc.names.lookup x = some .local) || decide (sc.names.lookup x = some .cell)) && sc.names.all (fun y => match y.2 with | .free => false | _ => true)
theorem scB_ok {N P : List Str} {sc : Scope} (h : scB N P sc = true) : FnScope N P sc := by
  unfold scB at h
  simp only [Bool.and_eq_true, Bool.not_eq_true', decide_eq_true_eq, List.all_eq_true, Bool.or_eq_true] at h
  obtain ⟨⟨⟨⟨⟨⟨h1, h2⟩, h3⟩, h4⟩, h5⟩, h6⟩, h7⟩ := h
  refine ⟨?_, h2, h3, h4, h5, h6, fun y hy e => ?_⟩
  · split at h1
    · assumption
    · cases h1
  · have := h7 y hy
    rw [e] at this
    cases this
section
variable {P : Program} {w : World} {K : PySem.W.Frag} {mg : Str → Option Value} {base : Heap}
theorem EntOk.up {k : Nat} {e : Ent} (h : EntOk P w K mg base k e) : EntOk P w K mg base (k + 1) e := by
  cases e with
  | fn x n m =>
    obtain ⟨f, fd, ps, h1, h2, h3, h4⟩ := h
    exact ⟨f, fd, ps, h1, h2, h3.mono (by omega), h4⟩
  | fo x n m =>
    obtain ⟨f, fd, ps, h1, h2, h3, h4⟩ := h
    exact ⟨f, fd, ps, h1, h2, h3.mono (by omega), h4⟩
  | con x d => exact h
  | tups x ys => exact h
  | fld c f => exact h
  | exc c f =>
    obtain ⟨h1, h2, j, fI, fd, y, h3, h4⟩ := h
    exact ⟨h1, h2, j, fI, fd, y, by omega, h4⟩
  | prop c f x =>
    obtain ⟨h0, j, p, g, fd, ps, h1, h2, h3, h4⟩ := h
    exact ⟨h0, j, p, g, fd, ps, by omega, h2, h3, h4⟩
  | cmt x m n f =>
    obtain ⟨h0, mc, p, g, h1, h2, h3⟩ := h
    exact ⟨h0, mc, p, g, h1, h2, h3.mono (by omega)⟩
  | sto c f m =>
    obtain ⟨j, g, h1, h2, h3⟩ := h
    exact ⟨j, g, by omega, h2, h3⟩
theorem TOk.up {k : Nat} {T : List Ent} (h : TOk P w K mg base k T) : TOk P w K mg base (k + 1) T := fun e he => (h e he).up
theorem TOk.cons {k : Nat} {T : List Ent} {e : Ent} (h : EntOk P w K mg base k e) (t : TOk P w K mg base k T) : TOk P w K mg base k (e :: T) := fun f hf => (List.mem_cons.mp hf).elim (fun z => z ▸ h) (t f)
abbrev BindF (x : Str) (st : Stmt) (ps : List Str) : Prop := ∀ (kV doc pm : Value) (an : Option Addr) (cdv ct : Value) (us : List Value), us.length = ps.length → bindArgs (PySem.W.fnOf x x (defArgs st) (defBody st) (defScope st) .none kV doc pm an cdv ct) ⟨us, []⟩ = pure (ps.zip us)
/-- the module's name x stands for the def y -/
abbrev FunA (K : PySem.W.Frag) (x y : Str) (st : Stmt) : Prop := ∃ fd, FunD K y y (defArgs st) (defBody st) (defScope st) [] [] (He.ga K x) fd
abbrev FunP (K : PySem.W.Frag) (x : Str) (st : Stmt) : Prop := ∃ fd, FunD K x x (defArgs st) (defBody st) (defScope st) [] [] (He.ga K x) fd
theorem add_d {x y : Str} {st : Stmt} {N ps : List Str} {k n nl : Nat} {T : List Ent} {B : List Str} {m : MS} {h : Hn} {tn sn : Nat} (ok : TOk P w K mg base k T) (F : FunA K x y st) (g : mg x = some (.ref (He.ga K x))) (hf : ∀ x ∈ B, mg x = none) (S : scB N ps (defScope st) = true) (hn : ps.length = n) (hl : N.length = nl)
    (b : BindF y st ps) (htr : ((trS (tr tn) sn).Ss ⟨N, defScope st, fun _ => true, T, B, k⟩ h (defBody st)).map (·.1) = some m) : TOk P w K mg base (k + 1) (.fn x n (mFn nl m) :: T) := by
  obtain ⟨fd, F⟩ := F
  subst hl
  exact ok.up.cons ⟨_, fd, ps, g, F.kp, fn_d F (scB_ok S) hn htr ok hf, F.bindsN b⟩
theorem add_o {x y : Str} {st : Stmt} {N ps : List Str} {k n nl : Nat} {T : List Ent} {B : List Str} {m : MS} {h : Hn} {tn sn : Nat} (ok : TOk P w K mg base k T) (F : FunA K x y st) (g : mg x = some (.ref (He.ga K x))) (hf : ∀ x ∈ B, mg x = none) (S : scB N ps (defScope st) = true) (hn : ps.length = n) (hl : N.length = nl)
    (b : BindF y st ps) (htr : ((trS (tr tn) sn).Ss ⟨N, defScope st, fun _ => true, T, B, k⟩ h (defBody st)).map (·.1) = some m) : TOk P w K mg base (k + 1) (.fo x n (mFnO nl m) :: T) := by
  obtain ⟨fd, F⟩ := F
  subst hl
  exact ok.up.cons ⟨_, fd, ps, g, F.kp, fn_o F (scB_ok S) hn htr ok hf, F.bindsN b⟩
/-- a def that calls itself, so many times -/
theorem rec_none {k n : Nat} {x y : Str} {st : Stmt} {N ps : List Str} (F : FunA K x y st) (g : mg x = some (.ref (He.ga K x))) (S : scB N ps (defScope st) = true) (b : BindF y st ps) : EntOk P w K mg base (k + 1) (.fn x n (fun _ _ => .bad)) := by
  obtain ⟨fd, F⟩ := F
  refine ⟨_, fd, ps, g, F.kp, F.ok (scB_ok S) (fun vs H Q E hsp => ?_) (fun cdv A outer s H vs Q E hr hsp => ?_), F.bindsN b⟩
  · obtain ⟨_, _, _, _, _, _, _, z⟩ := hsp
    exact z.elim
  · obtain ⟨_, _, _, _, _, _, _, z⟩ := hsp
    exact z.elim
def recM (nl : Nat) (b : (List D → Store → R D) → MS) (j : Nat) : List D → Store → R D := Nat.rec (motive := fun _ => List D → Store → R D) (fun _ _ => .bad) (fun _ m => mFn nl (b m)) j
theorem add_rec {x y : Str} {st : Stmt} {N ps : List Str} {k n nl : Nat} {T : List Ent} {B : List Str} {bm : (List D → Store → R D) → MS} {h : Hn} {tn sn : Nat} (ok : TOk P w K mg base k T) (F : FunA K x y st) (g : mg x = some (.ref (He.ga K x))) (hf : ∀ x ∈ B, mg x = none) (S : scB N ps (defScope st) = true) (hn : ps.length = n) (hl : N.length = nl)
    (b : BindF y st ps) (htr : ∀ m k, ((trS (tr tn) sn).Ss ⟨N, defScope st, fun _ => true, .fn x n m :: T, B, k⟩ h (defBody st)).map (·.1) = some (bm m)) : ∀ j : Nat, TOk P w K mg base (k + (j + 1)) (.fn x n (recM nl bm j) :: T)
  | 0 => ok.up.cons (rec_none F g S b)
  | j + 1 => by
    have ih := add_rec ok F g hf S hn hl b htr j
    obtain ⟨fd, F'⟩ := F
    subst hl
    have t : TOk P w K mg base (k + (j + 1) + 1) T := fun e he => (ih e (List.mem_cons_of_mem _ he)).up
    exact t.cons ⟨_, fd, ps, g, F'.kp, fn_d F' (scB_ok S) hn (htr _ _) ih hf, F'.bindsN b⟩
/-- the law's own promise: nothing is let out -/
def Spec0 (K : PySem.W.Frag) (n : Nat) (m : List D → Store → R D) : Sp := fun vs H Q _ => ∃ (W : Wd) (ds : List D) (s : Store), W.H = H ∧ SRep K W s ∧ RepL K W ds vs ∧ ds.length = n ∧ Post K noEX W (m ds s) (Want K Q)
theorem fn_d0 {x : Str} {st : Stmt} {f : Addr} {fd : FuncData} {N ps : List Str} {k n nl : Nat} {T : List Ent} {B : List Str} {m : MS} {h : Hn} {tn sn : Nat} (ok : TOk P w K mg base k T) (F : FunD K x x (defArgs st) (defBody st) (defScope st) [] [] f fd) (hf : ∀ x ∈ B, mg x = none) (S : scB N ps (defScope st) = true) (hn : ps.length = n) (hl : N.length = nl)
    (htr : ((trS (tr tn) sn).Ss ⟨N, defScope st, fun _ => true, T, B, k⟩ h (defBody st)).map (·.1) = some m) : FnOk P w K mg base CX0 (k + 1) f fd ps (Spec0 K n (mFn nl m)) := by
  subst hl
  have S := scB_ok S
  cases ht : (trS (tr tn) sn).Ss ⟨N, defScope st, fun _ => true, T, B, k⟩ h (defBody st) with
  | none => rw [ht] at htr; cases htr
  | some q =>
    rw [ht] at htr
    have hm : q.1 = m := by simpa using htr
    subst hm
    refine F.ok S (fun vs H Q E hsp => ?_) (fun cdv A outer s H vs Q E hr hsp => ?_)
    · obtain ⟨W, ds, s, _, _, r, hl, _⟩ := hsp
      rw [hn, ← hl, r.len]
    · obtain ⟨W, ds, s0, rfl, sr, r, hl, pp⟩ := hsp
      have okc : SOk (cxOf CX0 P w K mg base N x (defScope st) f cdv A outer s W.H E) noEX ⟨N, defScope st, fun _ => true, T, B, k⟩ :=
        { calm := rfl, n := rfl, nd := S.nd, sc := rfl, kf := S.kind, room := hr, pass := passL, fn := fun _ _ => rfl, ents := ok, free := hf, hp := passes_of rfl, tk := takes_no }
      obtain ⟨t, pt, qt⟩ := q.2 _ _ okc
      refine ⟨t, pt, qt W W (startE N.length ds) (L2.start N vs) s0 _ (Grow.refl W) (sat_start r) sr ?_⟩
      have pp : Post K noEX W (endD (q.1 (startE N.length ds) s0)) (Want K Q) := pp
      revert pp
      cases q.1 (startE N.length ds) s0 with
      | ok o s1 =>
        cases o with
        | nx Γ => exact fun pp W' g _ sr' σ _ => pp W' g sr' _ .non
        | rt d => exact fun pp W' g _ sr' v r => pp W' g sr' v r
        | _ => exact fun pp => pp.elim
      | er e s1 => exact fun pp W' c d g sr' q => pp W' c d g sr' q
      | bad => exact id
theorem law_sp {m : List D → Store → R D} (hm : ∀ ns : List Int, ns.length ≤ 63 → ∃ s, m [.scr ns] [] = .ok (.bl true) s) {H : Hp} {a : Addr} {ns : List Int} (hl : ns.length ≤ 63) (hS : SqL K H a (ns.map V.int)) : Spec0 K 1 m [.ref a] H (fun v _ => v = .bl true) fun _ _ _ => False := by
  obtain ⟨s, e⟩ := hm ns hl
  refine ⟨⟨H, H, [], fun _ _ h => h⟩, [.scr ns], [], rfl, ⟨rfl, List.nodup_nil, fun i a c h => by simp at h⟩, .cons (.scr hS) .nil, rfl, ?_⟩
  rw [e]
  intro W' g sr v r
  cases r
  rfl
end
end PD
set_option maxRecDepth 100000
set_option maxHeartbeats 4000000
namespace PD
open PySem PySem.Spec PyProof.Rows L2
/-! ## instances of one class with one field -/
section
variable {CX : CXT} {P : Program} {w : World} {K : PySem.W.Frag} {mg : Str → Option Value} {base : Heap} {k : Nat} {f : Addr} {name qual : Str} {params : Arguments} {body : List Stmt} {scope : Scope} {dV kV doc pm cdv ct oc : Value} {an od : Option Addr}
  {osl : Array (Option Value)} {N ps : List Str} {sp : Sp}
/-- a def with a star parameter: what is left over is a tuple that is known as an object -/
theorem fn_starF {pv : Str} (lk : K.lookup f = some ⟨oc, od, .func (PySem.W.fnOf name qual params body scope dV kV doc pm an cdv ct), osl⟩) (hcd : PySem.W.codeIn K cdv qual = true) (S : FnScope N (ps ++ [pv]) scope) (hCX : StX.CXUp CX)
    (hb : ∀ us rest : List Value, us.length = ps.length → bindArgs (PySem.W.fnOf name qual params body scope dV kV doc pm an cdv ct) ⟨us ++ rest, []⟩ = (newTuple rest >>= fun t => pure (ps.zip us ++ [(pv, t)])))
    (hbody : ∀ (A : Around) (outer : List PySem.Env) (s : Shared) (H : Hp) (vs : List V) (Q : VK) (E : XK), Room k (A.deeper (envOfC qual scope s.heap.objs.size f cdv)) → sp vs H Q E →
      ∃ t, PSs (cxOf CX P w K mg base N qual scope f cdv A outer s H E) body t ∧ t { nx := fun _ H' => Q .non H', rt := Q } (L2.start N vs) H) :
    FnR P w K mg base CX (k + 1) f (fun vs H Q E => ∃ ws rest, vs = ws ++ rest ∧ ws.length = ps.length ∧ rest.length ≤ sizeLine ∧ ∀ p o, TOb o → H p = none → sp (ws ++ [V.ref p]) (upd H p (.frz o (.tup rest))) Q E) := by
  intro A outer s H us vs Q E hr e0 r hsp
  obtain ⟨ws, rest, ev, hl, hz, hq⟩ := hsp
  subst ev
  obtain ⟨u1, u2, eu, r1, r2⟩ := StX.vals_split r
  subst eu
  have hn : H s.heap.objs.size = none := e0.hok.fresh (Nat.le_refl _)
  have hl1 : u1.length = ps.length := by rw [← r1.length]; exact hl
  have hl2 : u2.length ≤ sizeLine := by rw [← r2.length]; exact hz
  refine StX.run_bnd lk hcd S hr e0 (G := fun xs H2 => ∃ p o, TOb o ∧ H p = none ∧ xs = ws ++ [V.ref p] ∧ H2 = upd H p (.frz o (.tup rest))) (fun A' Ex Q' h => ?_) fun s2 H2 xs ⟨p, o, to, hp, ex, eH⟩ hr' => ?_
  · rw [hb u1 u2 hl1]
    refine wpAny_bind (wpAny_newTuple (wpAny_pure ?_) hl2)
    have there : (s.heap.push (tuO u2)).get? s.heap.objs.size = some (tuO u2) := Heap.get?_push_size _ rfl
    have fresh : ObjOk P w (upd H s.heap.objs.size (.frz (tuO u2) (.tup rest))) (s.heap.push (tuO u2)) s.heap.objs.size (.frz (tuO u2) (.tup rest)) := ⟨there, hz, u2, r2, ⟨_, there, rfl, _, rfl⟩⟩
    have grown := StX.un_laid (fs := frs outer) (s := s) (o := tuO u2) (u := .frz (tuO u2) (.tup rest)) hn
    have z := h _ _ (ws ++ [V.ref s.heap.objs.size]) (u1 ++ [Value.ref s.heap.objs.size]) (StX.env0_laid e0 fresh) grown rfl (fun e s' => hCX outer s H _ _ E e s' grown (fun b o q => Heap.get?_push_of_some _ q) rfl) (r1.append (.cons rfl .nil))
      (by rw [List.length_append, List.length_append, hl] <;> rfl) ⟨_, _, tuO_ok u2, hn, rfl, rfl⟩
    rw [List.zip_append hl1.symm] at z
    exact z
  · subst ex eH
    exact hbody A outer s2 _ _ Q E hr' (hq p o to hp)
end
section
variable {X : Cx} {CX : CXT} {k i : Nat} {f C : Addr} {sp : Sp} {E : XK} {x : Str} {e : Expr} {te : TE} {p sp_ pos : Pos}
/-- x(*y), x a local that holds a class -/
def tMakeLS (K : PySem.W.Frag) (i : Nat) (C : Addr) (sp : Sp) (E : XK) (te : TE) : TE := fun σ H Q => σ[i]? = some (some (.ref C)) ∧ te σ H fun y H1 => ∃ a xs, y = V.ref a ∧ SqT K H1 a xs ∧
  ∀ x dx, H1 x = none → H1 dx = none → dx ≠ x → sp (V.ref x :: xs) (upd (upd H1 dx (.own x)) x (.ins C dx [])) (fun v H2 => v = .non ∧ Q (.ref x) H2) E
theorem pe_makeLS (M : Mk X.K C f) (F : FnR X.prog X.w X.K X.mg X.base CX k f sp) (hr : Room (k + 1) X.A) (hN : X.N[i]? = some x) (hv : Vis X.env.scope x) (hx : Passes CX X E) (he : PE X e te)
    (hdb : (x == ("__debug__" : Str)) = false) (hcd : (x == ("__classdict__" : Str)) = false) (hst : starEach [.Starred e sp_] X.env = [(true, eval e X.env)] := by rfl) :
    PE X (.Call (.Name x p) [.Starred e sp_] [] pos) (tMakeLS X.K i C sp E te) := by
  refine ⟨fun pins s σ H Q I h => ?_⟩
  obtain ⟨hs, ht⟩ := h
  refine wpAny_Call_Name_kw (thn ((pe_var (pos := p) hN hv hdb hcd).run pins s σ H (fun v H1 => v = .ref C ∧ H1 = H) I ⟨.ref C, hs, rfl, rfl⟩) fun u s1 ⟨v, H1, I1, r1, q1⟩ => ?_)
  obtain ⟨rfl, rfl⟩ := q1
  cases r1
  refine PySem.W.callWith_S (h₀ := X.base) I.ok.mod.kin M.kp (thn (he.run pins s1 σ _ _ I1 ht) fun v s2 ⟨y, H2, I2, ry, a, xs, ey, hxs, q⟩ => ?_) hst
  subst ey
  obtain rfl : v = Value.ref a := ry
  exact StX.star_any I2 (.inl hxs) fun us s3 I3 rv => ⟨I3.kIn, StX.run_makeR M F hr hx I3 rv q⟩
/-! ### str(o), o's class has its own -/
theorem call_strO (h : StrOf X.K C f) (F : FnR X.prog X.w X.K X.mg X.base CX k f sp) (hr : Room (k + 2) X.A) (hx : ∀ pins H s e s', ∀ σ, Inv X pins σ H s → CX X.stack H s E e s' → X.xe e s') : CallR X (.type "str") (fun xs H Q => ∃ a dx fs, xs = [.ref a] ∧ H a = some (.ins C dx fs) ∧ sp [.ref a] H (fun v H' => (∃ z, v = .str z) ∧ Q v H') E) := by
  intro pins s σ H xs us Q I r q
  obtain ⟨a, dx, fs, rfl, ea, q⟩ := q
  obtain ⟨u, rfl, rx⟩ := vals1 r
  obtain rfl : u = Value.ref a := rx
  obtain ⟨mA, O, _, _, _, _⟩ := ins_get I.hok ea
  obtain ⟨od, J, _⟩ := O.look
  refine PySem.W.kso_call (by have := hr.un; show X.A.units + 1 + 1 < cLine; omega) I.kIn J h.at_ h.fn ?_
  refine wpAny_call (codeAny_mono (F X.A.in1.in1 X.stack s H [.ref a] [.ref a] _ E hr.in1.in1 I.env0.in1.in1 (.cons rfl .nil) q) fun r s' hq => ?_)
  cases r with
  | error er => exact hx pins H s er s' σ I hq
  | ok fl =>
    cases fl with
    | ret u =>
      obtain ⟨v, H', I3, rv, ⟨z, ez⟩, q3⟩ := I.after hq
      subst ez
      obtain ⟨t, rfl⟩ := rv
      exact ⟨.str z, H', I3, ⟨t, rfl⟩, q3⟩
    | next => exact False.elim hq
    | brk => exact False.elim hq
    | cont => exact False.elim hq
end
end PD
set_option maxRecDepth 100000
set_option maxHeartbeats 0
namespace PD
open PySem PySem.Spec PyProof.Rows L2
/-- the module's name x is a tuple of these, and no more -/
def tupD (K : PySem.W.Frag) (x : Str) (vs : List He.Dv) : Bool := match K.lookup (He.ga K x) with
  | some ⟨.type c, none, .seq its _, _⟩ => decide (c = "tuple") && (decide (its.size ≤ sizeLine) && He.relAll (vs.map (He.Dv.v K)) its.toList)
  | _ => false
theorem tupD_ok {K : PySem.W.Frag} {x : Str} {vs : List He.Dv} (h : tupD K x vs = true) (H : Hp) : SqD K H (He.ga K x) (vs.map (He.Dv.v K)) := by
  unfold tupD at h
  split at h
  · rename_i c its n sl hk
    obtain ⟨h1, h2⟩ := He.ba h
    obtain ⟨h3, h4⟩ := He.ba h2
    exact .inr ⟨_, its, n, ⟨congrArg Value.type (of_decide_eq_true h1), rfl⟩, hk, rfl, of_decide_eq_true h3, He.relAll_ok h4⟩
  · cases h
end PD
set_option maxRecDepth 100000
set_option maxHeartbeats 4000000
namespace PD
open PySem PySem.Spec PyProof.Rows L2
/-! ## instances of a class with one field: rules -/
def fFld (c f : Str) : D → Option D
  | .ins c' f' d => if c' = c ∧ f' = f then some d else none
  | _ => none
theorem fFld_rep {K : PySem.W.Frag} {W : Wd} {c f : Str} {d d' : D} {v : V} (r : Rep K W d v) (e : fFld c f d = some d') : ∃ a dx u, v = .ref a ∧ W.F a = some (.ins (He.ga K c) dx [(f, u)]) ∧ Rep K W d' u := by
  unfold fFld at e
  split at e
  · split at e
    · rename_i hc
      cases e
      obtain ⟨rfl, rfl⟩ := hc
      cases r with
      | ins h ho r => exact ⟨_, _, _, rfl, h, r⟩
    · cases e
  · cases e
def mStrO (c f : Str) (n : List D → Store → R D) (ms : Env → M (List D)) : Env → M D := fun Γ s => (ms Γ s).bind fun ds s1 => match ds with
  | [d] => match fFld c f d with
    | some _ => (n [d] s1).bind fun r s2 => match r with
      | .str z => .ok (.str z) s2
      | _ => .bad
    | none => .bad
  | _ => .bad
section
variable {X : Cx} {EX : XK} {e b : Expr} {es : List Expr} {pos apos p p1 : Pos} {c f x m : Str} {k : Nat} {CX : CXT}
theorem de_fldD {me : Env → M D} (C : Cls X.K (He.ga X.K c)) (n : NoAttr X.K (He.ga X.K c) f) (h : PEd X EX e me) (hb : attributeBase e f X.env (eval e X.env) = eval e X.env) : PEd X EX (.Attribute e f pos) (mOp1 (fFld c f) me) := by
  obtain ⟨t, pt, q⟩ := h
  refine ⟨_, pe_fld pt hb, fun B W Γ σ s Q sat sr pp => q B W Γ σ s _ sat sr (Post.bind pp fun d s1 W1 _ g1 sr1 p1 v r => ?_)⟩
  obtain ⟨d', e', w⟩ := p1.opt
  obtain ⟨a, dx, u, rfl, h, ru⟩ := fFld_rep r e'
  exact ⟨a, _, dx, _, u, rfl, W1.sub _ _ h, C, n, by simp [List.lookup], w W1 (Grow.refl _) sr1 _ ru⟩
theorem de_propD {me : Env → M D} {pr g : Addr} {fd : FuncData} {ps : List Str} (C : Cls X.K (He.ga X.K c)) (hp : PropOf X.K (He.ga X.K c) x pr g) (F : FnOk X.prog X.w X.K X.mg X.base CN k g fd ps (getSp (He.ga X.K c) f)) (hr : Room (k + 1) X.A) (hb : Binds X.K fd ps [])
    (h : PEd X EX e me) (hab : attributeBase e x X.env (eval e X.env) = eval e X.env) : PEd X EX (.Attribute e x pos) (mOp1 (fFld c f) me) := by
  obtain ⟨t, pt, q⟩ := h
  refine ⟨_, pe_prop (E := fun _ _ _ => False) pt C hp F hr hb .nil (fun _ _ _ _ _ _ _ z => z.elim) hab, fun B W Γ σ s Q sat sr pp => q B W Γ σ s _ sat sr (Post.bind pp fun d s1 W1 _ g1 sr1 p1 v r => ?_)⟩
  obtain ⟨d', e', w⟩ := p1.opt
  obtain ⟨a, dx, u, rfl, h, ru⟩ := fFld_rep r e'
  exact ⟨a, dx, _, rfl, W1.sub _ _ h, a, dx, _, u, rfl, W1.sub _ _ h, by simp [List.lookup], w W1 (Grow.refl _) sr1 _ ru⟩
theorem de_cmeth {n : Nat} {f : List D → Store → R D} {ms : Env → M (List D)} {mc : Value} {pr g : Addr} (hg : Gl X x) (hdb : (x == ("__debug__" : Str)) = false) (hm : X.mg x = some (.ref (He.ga X.K x))) (r : ClX.CRead X.K (He.ga X.K x) mc) (cm : ClX.CMet X.K (He.ga X.K x) mc m pr g)
    (F : FnR X.prog X.w X.K X.mg X.base CX k g (SpecC X.K (He.ga X.K x) n f)) (hr : Room k X.A) (hx : Passes CX X EX) (ha : PAd X EX (e :: es) ms) (hst : starEach (e :: es) X.env = (false, eval e X.env) :: starEach es X.env) (hpl : (backTo pos (starEach es X.env)).any (·.1) = false)
    {pl : Sem Bool} (ht : eval (.Call (.Attribute (.Name x p1) m apos) (e :: es) [] pos) X.env = (do
      let ov ← eval (.Name x p1) X.env
      standAt apos.atName
      let (f, first) ← holding [ov] (getMethod ov m pl)
      callWith pos f first (backTo pos (starEach (e :: es) X.env)) (backToKw pos (keywordEach [] X.env)))) : PEd X EX (.Call (.Attribute (.Name x p1) m apos) (e :: es) [] pos) (mCall n f ms) := by
  obtain ⟨t, pt, q⟩ := ha
  refine ⟨_, ClX.pe_cmeth (pl := pl) (pe_glob hg hm (v := .ref (He.ga X.K x)) rfl hdb) r cm F hr hx pt hst hpl ht, fun B W Γ σ s Q sat sr pp => ?_⟩
  refine ⟨rfl, q B W Γ σ s _ sat sr (Post.bind pp fun ds s1 W1 _ g1 sr1 p1 vs rs => ?_)⟩
  split at p1
  · rename_i hl
    exact ⟨W1, ds, vs, s1, rfl, rfl, sr1, rs, hl, p1⟩
  · exact p1.elim
theorem de_strO {n : List D → Store → R D} {ms : Env → M (List D)} {g : Addr} (S : StrOf X.K (He.ga X.K c) g) (F : FnR X.prog X.w X.K X.mg X.base CX k g (Spec X.K 1 n)) (hr : Room (k + 2) X.A) (hx : Passes CX X EX) (hg : Gl X "str") (hm : X.mg "str" = none)
    (ha : PAd X EX (e :: es) ms) (hst : starEach (e :: es) X.env = (false, eval e X.env) :: starEach es X.env) (hpl : (backTo pos (starEach es X.env)).any (·.1) = false) : PEd X EX (.Call (.Name "str" p) (e :: es) [] pos) (mStrO c f n ms) := by
  obtain ⟨t, pt, q⟩ := ha
  refine ⟨_, pe_callTy (call_strO S F hr (fun pins H s e s' σ I h => hx pins σ H s e s' I h)) hg hm (by rfl) pt (by decide) (by decide) hst hpl, fun B W Γ σ s Q sat sr pp => q B W Γ σ s _ sat sr (Post.bind pp fun ds s1 W1 _ g1 sr1 p1 vs rs => ?_)⟩
  split at p1
  · rename_i d
    split at p1
    · rename_i d' e'
      cases rs with
      | cons r rr =>
        cases rr
        obtain ⟨a, dx, u, rfl, h, ru⟩ := fFld_rep r e'
        refine ⟨a, dx, _, rfl, W1.sub _ _ h, W1, _, s1, rfl, sr1, .cons r .nil, rfl, Post.bind p1 fun d2 s2 W2 _ g2 sr2 p2 v rv => ?_⟩
        split at p2
        · cases rv
          exact ⟨⟨_, rfl⟩, p2 W2 (Grow.refl _) sr2 _ (.str _)⟩
        · exact p2.elim
    · exact p1.elim
  · exact p1.elim
end
theorem m1_ok {env : PySem.Env} {o e : Expr} {m : Str} {apos pos : Pos} (hb : attributeBase o m env (eval o env) = eval o env) (few : ((backTo pos (starEach [e] env)).all (fun x => !x.1) && (backToKw pos (keywordEach [] env)).all (fun x => x.1.isSome)
      && decide (([e] : List Expr).length + ([] : List Keyword).length + (if ([] : List Keyword).isEmpty then 0 else 1) < 30)) = true) (hl : (apos.endLine == pos.line) = true) : eval (.Call (.Attribute o m apos) [e] [] pos) env = (do
      let ov ← eval o env
      standAt apos.atName
      let (f, first) ← holding [ov] (getMethod ov m (do return (← importBound o env).getD true))
      callWith pos f first (backTo pos (starEach [e] env)) (backToKw pos (keywordEach [] env))) := by
  have hform : methodCallForm (([e] : List Expr).length + ([] : List Keyword).length) (backTo pos (starEach [e] env)) (backToKw pos (keywordEach [] env)) = true := few
  have hpos : methodCallPos true o env apos pos = pure pos := by unfold methodCallPos; simp [hl]
  rw [arm_eval_Call, hb]
  unfold methodCall
  rw [hform, hpos]
  rfl
/-! ## the translator with these -/
def getFld (f : Str) : (T : List Ent) → Option {c : Str // Ent.fld c f ∈ T}
  | [] => none
  | .fld c g :: T => if h : g = f then some ⟨c, by subst h; exact List.mem_cons_self⟩ else (getFld f T).map fun q => ⟨q.1, List.mem_cons_of_mem _ q.2⟩
  | _ :: T => (getFld f T).map fun q => ⟨q.1, List.mem_cons_of_mem _ q.2⟩
def getProp (x : Str) : (T : List Ent) → Option {q : Str × Str // Ent.prop q.1 q.2 x ∈ T}
  | [] => none
  | .prop c f y :: T => if h : y = x then some ⟨(c, f), by subst h; exact List.mem_cons_self⟩ else (getProp x T).map fun q => ⟨q.1, List.mem_cons_of_mem _ q.2⟩
  | _ :: T => (getProp x T).map fun q => ⟨q.1, List.mem_cons_of_mem _ q.2⟩
def getCmt (x m : Str) : (T : List Ent) → Option {q : Nat × (List D → Store → R D) // Ent.cmt x m q.1 q.2 ∈ T}
  | [] => none
  | .cmt y l n f :: T => if h : y = x ∧ l = m then some ⟨(n, f), by obtain ⟨rfl, rfl⟩ := h; exact List.mem_cons_self⟩ else (getCmt x m T).map fun q => ⟨q.1, List.mem_cons_of_mem _ q.2⟩
  | _ :: T => (getCmt x m T).map fun q => ⟨q.1, List.mem_cons_of_mem _ q.2⟩
def getSto : (T : List Ent) → Option {q : Str × Str × (List D → Store → R D) // Ent.sto q.1 q.2.1 q.2.2 ∈ T}
  | [] => none
  | .sto c f m :: T => some ⟨(c, f, m), List.mem_cons_self⟩
  | _ :: T => (getSto T).map fun q => ⟨q.1, List.mem_cons_of_mem _ q.2⟩
def spFld (t : Tr) (c : Sc) (e : Expr) (f : Str) (p : Pos) : OE c (.Attribute e f p) := if hb : noCall0 e = true then (getFld f c.T).bind fun q => (t.E c e).map fun m => ⟨mOp1 (fFld q.1 f) m.1, fun X EX k => by
    obtain ⟨h1, h2⟩ := k.ents _ q.2
    exact de_fldD h1 h2 (m.2 X EX k) (base_ok hb)⟩ else none
def spProp (t : Tr) (c : Sc) (e : Expr) (f : Str) (p : Pos) : OE c (.Attribute e f p) := if hb : noCall0 e = true then (getProp f c.T).bind fun q => (t.E c e).map fun m => ⟨mOp1 (fFld q.1.1 q.1.2) m.1, fun X EX k => by
    obtain ⟨h1, j, p, g, fd, ps, h2, h3, h4, h5⟩ := k.ents _ q.2
    exact de_propD h1 h3 h4 (k.room.mono h2) h5 (m.2 X EX k) (base_ok hb)⟩ else none
def spCm (t : Tr) (c : Sc) (x : Str) (p1 : Pos) (m : Str) (ap : Pos) (e : Expr) (p : Pos) : OE c (.Call (.Attribute (.Name x p1) m ap) [e] [] p) := if hs : glb c x = true ∧ noStar e = true ∧ (ap.endLine == p.line) = true then (getCmt x m c.T).bind fun q => (t.A c [e]).map fun ms => ⟨mCall q.1.1 q.1.2 ms.1, fun X EX k => by
    obtain ⟨h0, mc, pr, g, h1, h2, h3⟩ := k.ents _ q.2
    have gg := gl_ok k hs.1
    exact de_cmeth gg.1 gg.2.1 h0 h1 h2 h3 k.room k.pass (ms.2 X EX k) (star_cons hs.2.1) rfl (m1_ok (base_ok rfl) (few_one hs.2.1) hs.2.2)⟩ else none
def spStr (so : List Str) (t : Tr) (c : Sc) (x : Str) (p1 : Pos) (y : Str) (p2 p : Pos) : OE c (.Call (.Name x p1) [.Name y p2] [] p) := if hs : x = "str" ∧ y ∈ so ∧ glb c x = true then (memStr x c.B).bind fun hB => (getSto c.T).bind fun q => (t.A c [.Name y p2]).map fun ms => ⟨mStrO q.1.1 q.1.2.1 q.1.2.2 ms.1, fun X EX k => by
    obtain ⟨j, g, h1, h2, h3⟩ := k.ents _ q.2
    have gg := (gl_ok k hs.2.2).1
    have ff := k.free x hB.1
    rw [hs.1] at gg ff ⊢
    exact de_strO h2 h3 (k.room.mono h1) k.pass gg ff (ms.2 X EX k) (star_cons rfl) rfl⟩ else none
def spE (so : List Str) (t : Tr) (c : Sc) : (e : Expr) → OE c e
  | .Attribute e f p => (spFld t c e f p).or (spProp t c e f p)
  | .Call (.Attribute (.Name x p1) m ap) [e] [] p => spCm t c x p1 m ap e p
  | .Call (.Name x p1) [.Name y p2] [] p => spStr so t c x p1 y p2 p
  | _ => none
def trStepK (so : List Str) (t : Tr) : Tr where
  E := fun c e => (spE so t c e).or (stepE t c e)
  V := stepV t
  T := stepT t
  W := stepW t
  A := stepA t
  Av := stepAv t
  I := stepI t
  O := stepO t
  L := stepL t
  G := stepG t
  Gs := stepGs t
  P := stepP t
def trK (so : List Str) (n : Nat) : Tr := Nat.rec (motive := fun _ => Tr) trZero (fun _ t => trStepK so t) n
end PD
set_option maxRecDepth 100000
set_option maxHeartbeats 4000000
namespace PD
open PySem PySem.Spec PyProof.Rows L2
/-! ## defs by any translator -/
abbrev FunX (K : PySem.W.Frag) (nm ql : Str) (st : Stmt) (f : Addr) (fd : FuncData) : Prop := FunD K nm ql (defArgs st) (defBody st) (defScope st) [] [] f fd
section
variable {P : Program} {w : World} {K : PySem.W.Frag} {mg : Str → Option Value} {base : Heap}
abbrev BindQ (nm ql : Str) (st : Stmt) (ps : List Str) : Prop := ∀ (kV doc pm : Value) (an : Option Addr) (cdv ct : Value) (us : List Value), us.length = ps.length → bindArgs (PySem.W.fnOf nm ql (defArgs st) (defBody st) (defScope st) .none kV doc pm an cdv ct) ⟨us, []⟩ = pure (ps.zip us)
theorem fn_dT {nm ql : Str} {st : Stmt} {f : Addr} {fd : FuncData} {N ps : List Str} {k n nl : Nat} {T : List Ent} {B : List Str} {m : MS} {h : Hn} {t : Tr} {sn : Nat} (ok : TOk P w K mg base k T) (F : FunX K nm ql st f fd) (hf : ∀ x ∈ B, mg x = none) (S : scB N ps (defScope st) = true) (hn : ps.length = n) (hl : N.length = nl)
    (htr : ((trS t sn).Ss ⟨N, defScope st, fun _ => true, T, B, k⟩ h (defBody st)).map (·.1) = some m) :
    FnOk P w K mg base (L2.CX P w) (k + 1) f fd ps (Spec K n (mFn nl m)) := by
  subst hl
  have S := scB_ok S
  cases ht : (trS t sn).Ss ⟨N, defScope st, fun _ => true, T, B, k⟩ h (defBody st) with
  | none => rw [ht] at htr; cases htr
  | some q =>
    rw [ht] at htr
    have hm : q.1 = m := by simpa using htr
    subst hm
    refine F.ok S (fun vs H Q E hsp => ?_) (fun cdv A outer s H vs Q E hr hsp => ?_)
    · obtain ⟨W, ds, s, _, _, r, hl, _⟩ := hsp
      rw [hn, ← hl, r.len]
    · obtain ⟨W, ds, s0, rfl, sr, r, hl, pp⟩ := hsp
      have ok := sok_def (E := E) (H := W.H) (outer := outer) (P := P) (w := w) (mg := mg) (base := base) S hr ok hf
      obtain ⟨t, pt, qt⟩ := q.2 _ _ ok
      refine ⟨t, pt, qt W W (startE N.length ds) (L2.start N vs) s0 _ (Grow.refl W) (sat_start r) sr ?_⟩
      have pp : Post K E W (endD (q.1 (startE N.length ds) s0)) (Want K Q) := pp
      revert pp
      cases q.1 (startE N.length ds) s0 with
      | ok o s1 =>
        cases o with
        | nx Γ => exact fun pp W' g _ sr' σ _ => pp W' g sr' _ .non
        | rt d => exact fun pp W' g _ sr' v r => pp W' g sr' v r
        | _ => exact fun pp => pp.elim
      | er e s1 => exact fun pp W' c d g sr' q => pp W' c d g sr' q
      | bad => exact id
theorem fn_d0T {x : Str} {st : Stmt} {f : Addr} {fd : FuncData} {N ps : List Str} {k n nl : Nat} {T : List Ent} {B : List Str} {m : MS} {h : Hn} {t : Tr} {sn : Nat} (ok : TOk P w K mg base k T) (F : FunX K x x st f fd) (hf : ∀ x ∈ B, mg x = none) (S : scB N ps (defScope st) = true) (hn : ps.length = n) (hl : N.length = nl)
    (htr : ((trS t sn).Ss ⟨N, defScope st, fun _ => true, T, B, k⟩ h (defBody st)).map (·.1) = some m) : FnOk P w K mg base CX0 (k + 1) f fd ps (Spec0 K n (mFn nl m)) := by
  subst hl
  have S := scB_ok S
  cases ht : (trS t sn).Ss ⟨N, defScope st, fun _ => true, T, B, k⟩ h (defBody st) with
  | none => rw [ht] at htr; cases htr
  | some q =>
    rw [ht] at htr
    have hm : q.1 = m := by simpa using htr
    subst hm
    refine F.ok S (fun vs H Q E hsp => ?_) (fun cdv A outer s H vs Q E hr hsp => ?_)
    · obtain ⟨W, ds, s, _, _, r, hl, _⟩ := hsp
      rw [hn, ← hl, r.len]
    · obtain ⟨W, ds, s0, rfl, sr, r, hl, pp⟩ := hsp
      have okc : SOk (cxOf CX0 P w K mg base N x (defScope st) f cdv A outer s W.H E) noEX ⟨N, defScope st, fun _ => true, T, B, k⟩ :=
        { calm := rfl, n := rfl, nd := S.nd, sc := rfl, kf := S.kind, room := hr, pass := passL, fn := fun _ _ => rfl, ents := ok, free := hf, hp := passes_of rfl, tk := takes_no }
      obtain ⟨t, pt, qt⟩ := q.2 _ _ okc
      refine ⟨t, pt, qt W W (startE N.length ds) (L2.start N vs) s0 _ (Grow.refl W) (sat_start r) sr ?_⟩
      have pp : Post K noEX W (endD (q.1 (startE N.length ds) s0)) (Want K Q) := pp
      revert pp
      cases q.1 (startE N.length ds) s0 with
      | ok o s1 =>
        cases o with
        | nx Γ => exact fun pp W' g _ sr' σ _ => pp W' g sr' _ .non
        | rt d => exact fun pp W' g _ sr' v r => pp W' g sr' v r
        | _ => exact fun pp => pp.elim
      | er e s1 => exact fun pp W' c d g sr' q => pp W' c d g sr' q
      | bad => exact id

/-! ## the class's own defs -/
theorem fn_getF {nm ql : Str} {st : Stmt} {g C : Addr} {fd : FuncData} {N : List Str} {f : Str} {p1 p2 p3 : Pos} (F : FunX K nm ql st g fd) (S : scB N ["self"] (defScope st) = true) (hN : N[0]? = some ("self" : Str)) (hb : defBody st = [.Return (some (.Attribute (.Name "self" p1) f p2)) p3]) (c : Cls K C) (n : NoAttr K C f) :
    FnOk P w K mg base CN 1 g fd ["self"] (getSp C f) := by
  obtain ⟨oc, od, dV, kV, doc, pm, an, cdv, ct, osl, rfl, lk, hcd, _, _⟩ := F.ex
  exact fn_getter (k := 0) lk hcd (scB_ok S) hN hb c n
/-- __init__(self, *rows): check(rows); self.f = rows -/
def SpecI (K : PySem.W.Frag) (C : Addr) (f : Str) (m : List D → Store → R D) : Sp := fun vs H Q E => ∃ x p dx W ds s, vs = [V.ref x, V.ref p] ∧ W.H = H ∧ SRep K W s ∧ W.H x = some (.ins C dx []) ∧ x ∉ W.A ∧ Rep K W (.tup ds) (.ref p) ∧
  Post K E W (m [.tup ds] s) (fun W' _ _ => Q .non (upd W'.H x (.ins C dx [(f, V.ref p)])))
def SpecIS (K : PySem.W.Frag) (C : Addr) (f : Str) (m : List D → Store → R D) : Sp := fun vs H Q E => ∃ ws rest, vs = ws ++ rest ∧ ws.length = (["self"] : List Str).length ∧ rest.length ≤ sizeLine ∧ ∀ p o, TOb o → H p = none → SpecI K C f m (ws ++ [V.ref p]) (upd H p (.frz o (.tup rest))) Q E
theorem sat_two {B : Hp} {W : Wd} {v : V} {x : Option V} {d : D} (r : Rep K W d v) : Sat K B W [.nul, .dat d] [x, some v] := by
  refine ⟨rfl, fun i y o e1 e2 => ?_, fun i j y z o e1 e2 ox oy e3 e4 => ?_⟩
  · match i, e1, e2 with
    | 0, e1, e2 => cases e1; trivial
    | 1, e1, e2 => cases e1; cases e2; exact ⟨v, rfl, r⟩
    | i + 2, e1, e2 => cases e1
  · match i, e1 with
    | 0, e1 => cases e1; cases ox
    | 1, e1 => cases e1; cases ox
    | i + 2, e1 => cases e1
theorem sat_three {B : Hp} {W : Wd} {v : V} {x y : Option V} {d : D} (r : Rep K W d v) : Sat K B W [.nul, .dat d, .nul] [x, some v, y] := by
  refine ⟨rfl, fun i y o e1 e2 => ?_, fun i j y z o e1 e2 ox oy e3 e4 => ?_⟩
  · match i, e1, e2 with
    | 0, e1, e2 => cases e1; trivial
    | 1, e1, e2 => cases e1; cases e2; exact ⟨v, rfl, r⟩
    | 2, e1, e2 => cases e1; trivial
    | i + 3, e1, e2 => cases e1
  · match i, e1 with
    | 0, e1 => cases e1; cases ox
    | 1, e1 => cases e1; cases ox
    | 2, e1 => cases e1; cases ox
    | i + 3, e1 => cases e1
theorem fn_init {nm ql : Str} {st : Stmt} {g C : Addr} {fd : FuncData} {f : Str} {p1 p2 p3 p4 p5 : Pos} {k : Nat} {T : List Ent} {B : List Str} {ce : Expr} {t : Tr} {m : List D → Store → R D} (ok : TOk P w K mg base k T) (F : FunX K nm ql st g fd) (hf : ∀ x ∈ B, mg x = none)
    (S : scB ["self", "rows"] ["self", "rows"] (defScope st) = true) (hvi : visb ⟨["self", "rows"], defScope st, fun _ => true, T, B, k⟩ "self" = true ∧ visb ⟨["self", "rows"], defScope st, fun _ => true, T, B, k⟩ "rows" = true)
    (bi : ∀ (kV doc pm : Value) (an : Option Addr) (cdv ct : Value) (us rest : List Value), us.length = (["self"] : List Str).length → bindArgs (PySem.W.fnOf nm ql (defArgs st) (defBody st) (defScope st) .none kV doc pm an cdv ct) ⟨us ++ rest, []⟩ = (newTuple rest >>= fun t => pure ((["self"] : List Str).zip us ++ [(("rows" : Str), t)])))
    (hb : defBody st = [.Expr ce p1, .Assign [.Attribute (.Name "self" p2) f p3] (.Name "rows" p4) p5]) (hnc : noComp ce = true)
    (htr : (t.E ⟨["self", "rows"], defScope st, fun _ => true, T, B, k⟩ ce).map (·.1) = some (mCall 1 m (mCons (mVar 1) mNil))) (c : Cls K C) (n : NoAttr K C f) :
    FnR P w K mg base (L2.CX P w) (k + 1) g (SpecIS K C f m) := by
  obtain ⟨oc, od, dV, kV, doc, pm, an, cdv, ct, osl, rfl, lk, hcd, hD, _⟩ := F.ex
  have hdV : dV = .none := by
    rcases hD with ⟨_, e⟩ | ⟨e, _⟩
    · exact e
    · exact absurd rfl e
  subst hdV
  have S := scB_ok S
  cases ht : t.E ⟨["self", "rows"], defScope st, fun _ => true, T, B, k⟩ ce with
  | none => rw [ht] at htr; cases htr
  | some q =>
  rw [ht] at htr
  have hm : q.1 = mCall 1 m (mCons (mVar 1) mNil) := by simpa using htr
  refine fn_starF (ps := ["self"]) (pv := "rows") (sp := SpecI K C f m) lk hcd S StX.cxUp (bi kV doc pm an cdv ct) (fun A outer s H vs Q E hr hsp => ?_)
  obtain ⟨x, p, dx, W, ds, s0, rfl, rfl, sr, hx, hA, r, pp⟩ := hsp
  have okc := sok_def (E := E) (H := W.H) (outer := outer) (P := P) (w := w) (mg := mg) (base := base) (qual := ql) (f := g) (cdv := cdv) (A := A) (s := s) S hr ok hf
  obtain ⟨te, pe, qe⟩ := q.2 _ _ okc.toXOk
  rw [hm] at qe
  rw [hb]
  have v0 := vis_ok okc.toXOk hvi.1
  have v1 := vis_ok okc.toXOk hvi.2
  refine ⟨_, pss_cons (ps_expr pe (swaps_no hnc)) (pss_one (ps_fld (pe_var (i := 0) rfl v0.1 v0.2.1 v0.2.2) (pe_var (i := 1) rfl v1.1 v1.2.1 v1.2.2) rfl)), ?_⟩
  refine qe W.H W [.nul, .dat (.tup ds)] [some (V.ref x), some (V.ref p)] s0 _ (sat_two r) sr ?_
  have pp : Post K E W (mCall 1 m (mCons (mVar 1) mNil) [.nul, .dat (.tup ds)] s0) _ := pp
  refine pp.mono fun W1 s1 a _ g1 sr1 q v _ => ?_
  exact ⟨.ref p, rfl, .ref x, rfl, x, C, dx, [], rfl, g1.h x _ hA hx, c, n, by decide, q⟩
/-- read(cls, value): rows = f(value); return cls(*rows) -/
def mRead (c f : Str) (m1 m2 : List D → Store → R D) : List D → Store → R D := fun ds s => (m1 ds s).bind fun d s1 => match d with
  | .tup rs => if rs.length ≤ 100000 then (m2 [.tup rs] s1).bind fun _ s2 => .ok (.ins c f (.tup rs)) s2 else .bad
  | _ => .bad
theorem made {W1 : Wd} {s1 : Store} {E : XK} {Q : VK} {c f : Str} {rs : List D} {xs : List V} {x dx : Addr} {m2 : List D → Store → R D} (sr : SRep K W1 s1) (rl : RepL K W1 rs xs) (hx : W1.H x = none) (hdx : W1.H dx = none) (ne : dx ≠ x) (hz : xs.length ≤ sizeLine)
    (pp : Post K E W1 ((m2 [.tup rs] s1).bind fun _ s2 => .ok (.ins c f (.tup rs)) s2) (Want K Q)) :
    SpecIS K (He.ga K c) f m2 (V.ref x :: xs) (upd (upd W1.H dx (.own x)) x (.ins (He.ga K c) dx [])) (fun v H2 => v = .non ∧ Q (.ref x) H2) E := by
  refine ⟨[V.ref x], xs, rfl, rfl, hz, fun p o to hp => ?_⟩
  have f1 : W1.F dx = none := Wd.fnone hdx
  let Wa := W1.put dx (.own x) f1
  have ga : Grow W1 Wa := (Grow.refl W1).put f1 hdx
  have sa : SRep K Wa s1 := sr.put f1 (sr.notA hdx)
  have hax : Wa.H x = none := by
    show upd W1.H dx _ x = none
    rw [upd_ne ne.symm]; exact hx
  have f2 : Wa.F x = none := Wd.fnone hax
  let Wb := Wa.put x (.ins (He.ga K c) dx []) f2
  have gb : Grow W1 Wb := ga.put f2 hx
  have sb : SRep K Wb s1 := sa.put f2 (sr.notA hx)
  have hp : Wb.H p = none := hp
  have hbx : Wb.H x = some (.ins (He.ga K c) dx []) := upd_same
  have hbd : Wb.H dx = some (.own x) := by
    show upd (upd W1.H dx (.own x)) x _ dx = _
    rw [upd_ne ne, upd_same]
  have nx : x ≠ p := fun e => by rw [e, hp] at hbx; cases hbx
  have nd : dx ≠ p := fun e => by rw [e, hp] at hbd; cases hbd
  let W2 := Wb.new p (.frz o (.tup xs))
  have g2 : Grow W1 W2 := gb.trans (Grow.new hp sb)
  have s2 : SRep K W2 s1 := sb.new hp
  have r2 : Rep K W2 (.tup rs) (.ref p) := two_tup to hp sb (rl.grow gb)
  have h2x : W2.H x = some (.ins (He.ga K c) dx []) := by
    show upd Wb.H p _ x = _
    rw [upd_ne nx]; exact hbx
  have h2d : W2.H dx = some (.own x) := by
    show upd Wb.H p _ dx = _
    rw [upd_ne nd]; exact hbd
  have F2x : W2.F x = none := by
    show upd Wb.F p _ x = none
    rw [upd_ne nx]; exact f2
  have F2d : W2.F dx = none := by
    show upd Wb.F p _ dx = none
    rw [upd_ne nd]; exact f1
  have A2x : x ∉ W2.A := sr.notA hx
  have A2d : dx ∉ W2.A := sr.notA hdx
  refine ⟨x, p, dx, W2, rs, s1, rfl, rfl, s2, h2x, A2x, r2, ?_⟩
  revert pp
  cases m2 [.tup rs] s1 with
  | bad => exact id
  | er e s3 => exact fun pp W' cl d g sr' q => pp W' cl d (g2.trans g) sr' q
  | ok a s3 =>
    intro pp W' g sr'
    refine ⟨rfl, ?_⟩
    have k1 : W'.F x = none := g.n x F2x (by rw [h2x]; simp)
    have k2 : W'.F dx = none := g.n dx F2d (by rw [h2d]; simp)
    have a1 : x ∉ W'.A := g.notA A2x (by rw [h2x]; simp)
    have a2 : dx ∉ W'.A := g.notA A2d (by rw [h2d]; simp)
    have hd' : W'.H dx = some (.own x) := g.h dx _ A2d h2d
    have gx : Grow W1 W' := g2.trans g
    let Wc := W'.put x (.ins (He.ga K c) dx [(f, V.ref p)]) k1
    have gc : Grow W1 Wc := gx.put k1 hx
    have sc : SRep K Wc s3 := sr'.put k1 a1
    have rc : Rep K Wc (.tup rs) (.ref p) := (r2.grow g).put k1
    have hcx : Wc.H x = some (.ins (He.ga K c) dx [(f, V.ref p)]) := upd_same
    have hcd : Wc.H dx = some (.own x) := by
      show upd W'.H x _ dx = _
      rw [upd_ne ne]; exact hd'
    have kx : Wc.F x = none := k1
    have kd : Wc.F dx = none := k2
    let We := Wc.frz x _ hcx
    have ge : Grow W1 We := gc.frz hcx hx kx
    have se : SRep K We s3 := sc.frz hcx kx a1
    have re : Rep K We (.tup rs) (.ref p) := Rep.of (frz_sub hcx kx) (fun _ _ e => e) rc
    have hed : We.H dx = some (.own x) := hcd
    have ked : We.F dx = none := by
      show upd Wc.F x _ dx = none
      rw [upd_ne ne]; exact kd
    let Wf := We.frz dx _ hed
    have gf : Grow W1 Wf := ge.frz hed hdx ked
    have sf : SRep K Wf s3 := se.frz hed ked a2
    have rf : Rep K Wf (.tup rs) (.ref p) := Rep.of (frz_sub hed ked) (fun _ _ e => e) re
    refine pp Wf gf sf (.ref x) (.ins (dx := dx) (v := .ref p) ?_ ?_ rf)
    · show upd (upd Wc.F x _) dx _ x = _
      rw [upd_ne ne.symm, upd_same]
    · show upd (upd Wc.F x _) dx _ dx = _
      rw [upd_same]
theorem fn_read {nm ql : Str} {st : Stmt} {g ini : Addr} {fd : FuncData} {c f : Str} {p1 p2 p3 p4 p5 p6 p7 : Pos} {k : Nat} {T : List Ent} {B : List Str} {ce : Expr} {t : Tr} {m1 m2 : List D → Store → R D} (ok : TOk P w K mg base (k + 1) T) (F : FunX K nm ql st g fd) (hf : ∀ x ∈ B, mg x = none)
    (S : scB ["cls", "value", "rows"] ["cls", "value"] (defScope st) = true) (hvi : visb ⟨["cls", "value", "rows"], defScope st, fun _ => true, T, B, k + 1⟩ "cls" = true ∧ visb ⟨["cls", "value", "rows"], defScope st, fun _ => true, T, B, k + 1⟩ "rows" = true ∧ storb ⟨["cls", "value", "rows"], defScope st, fun _ => true, T, B, k + 1⟩ "rows" = true)
    (bi : BindQ nm ql st ["cls", "value"]) (hb : defBody st = [.Assign [.Name "rows" p1] ce p2, .Return (some (.Call (.Name "cls" p3) [.Starred (.Name "rows" p4) p5] [] p6)) p7]) (hnc : noComp ce = true)
    (htr : (t.E ⟨["cls", "value", "rows"], defScope st, fun _ => true, T, B, k + 1⟩ ce).map (·.1) = some (mCall 1 m1 (mCons (mVar 1) mNil))) (M : Mk K (He.ga K c) ini) (I : FnR P w K mg base (L2.CX P w) k ini (SpecIS K (He.ga K c) f m2)) :
    FnR P w K mg base (L2.CX P w) (k + 2) g (SpecC K (He.ga K c) 1 (mRead c f m1 m2)) := by
  have S := scB_ok S
  cases ht : t.E ⟨["cls", "value", "rows"], defScope st, fun _ => true, T, B, k + 1⟩ ce with
  | none => rw [ht] at htr; cases htr
  | some q =>
  rw [ht] at htr
  have hm : q.1 = mCall 1 m1 (mCons (mVar 1) mNil) := by simpa using htr
  have Fo : FnOk P w K mg base (L2.CX P w) (k + 2) g fd ["cls", "value"] (SpecC K (He.ga K c) 1 (mRead c f m1 m2)) := by
    refine F.ok S (fun vs H Q E hsp => ?_) (fun cdv A outer s H vs Q E hr hsp => ?_)
    · obtain ⟨W, ds, us, s, rfl, _, _, r, hl, _⟩ := hsp
      rw [List.length_cons, ← r.len, hl]; rfl
    · obtain ⟨W, ds, us, s0, rfl, rfl, sr, r, hl, pp⟩ := hsp
      match ds, r, hl, pp with
      | [d], .cons (v := v) r .nil, _, pp =>
      have okc := sok_def (E := E) (H := W.H) (outer := outer) (P := P) (w := w) (mg := mg) (base := base) (qual := ql) (f := g) (cdv := cdv) (A := A) (s := s) S hr ok hf
      obtain ⟨te, pe, qe⟩ := q.2 _ _ okc.toXOk
      rw [hm] at qe
      rw [hb]
      have v0 := vis_ok okc.toXOk hvi.1
      have v1 := vis_ok okc.toXOk hvi.2.1
      have st2 := stor_ok okc.toXOk hvi.2.2
      refine ⟨_, pss_cons (ps_set (i := 2) S.nd rfl st2.1 pe (swaps_no hnc) st2.2) (pss_one (ps_ret (pe_makeLS (i := 0) (E := E) M I (okc.room.mono (Nat.le_refl _)) rfl v0.1 okc.pass (pe_var (i := 2) rfl v1.1 v1.2.1 v1.2.2) v0.2.1 v0.2.2 rfl))), ?_⟩
      refine qe W.H W [.nul, .dat d, .nul] [some (V.ref (He.ga K c)), some v, none] s0 _ (sat_three r) sr ?_
      have pp : Post K E W ((mCall 1 m1 (mCons (mVar 1) mNil) [.nul, .dat d, .nul] s0).bind fun d s1 => match d with
        | .tup rs => if rs.length ≤ 100000 then (m2 [.tup rs] s1).bind fun _ s2 => .ok (.ins c f (.tup rs)) s2 else .bad
        | _ => .bad) (Want K Q) := pp
      refine Post.bind pp fun d1 s1 W1 _ g1 sr1 p1 v1 r1 => ?_
      split at p1
      · rename_i rs
        split at p1
        · rename_i hz
          cases r1 with
          | tup hT rl =>
            rename_i a xs
            refine ⟨rfl, .ref a, rfl, a, xs, rfl, (hT.ex W1.sub).t, fun x dx hx hdx ne => ?_⟩
            exact made sr1 rl hx hdx ne (by rw [← rl.len]; exact Evl.sz_of hz) p1
        · exact p1.elim
      · exact p1.elim
  refine (Fo.raw (F.bindsN bi) .nil).imp fun vs H Q E h => ?_
  rw [List.append_nil]; exact h
end
end PD
set_option maxRecDepth 100000
set_option maxHeartbeats 4000000
namespace PD
open PySem PySem.Spec PyProof.Rows L2
/-! ## shapes of bodies, read -/
def clsStmt (st : Stmt) (j : Nat) : Stmt := match st with
  | .ClassDef _ _ _ body _ _ _ _ _ _ _ => body.getD j (.Pass ⟨0, 0, 0, 0⟩)
  | _ => .Pass ⟨0, 0, 0, 0⟩
def shI (f : Str) : List Stmt → Option Expr
  | [.Expr ce _, .Assign [.Attribute (.Name s _) g _] (.Name r _) _] => if s = "self" ∧ g = f ∧ r = "rows" then some ce else none
  | _ => none
theorem shI_ok {f : Str} {b : List Stmt} {ce : Expr} (h : shI f b = some ce) : ∃ p1 p2 p3 p4 p5, b = [.Expr ce p1, .Assign [.Attribute (.Name "self" p2) f p3] (.Name "rows" p4) p5] := by
  unfold shI at h
  split at h
  · split at h
    · rename_i hc
      obtain ⟨rfl, rfl, rfl⟩ := hc
      cases h
      exact ⟨_, _, _, _, _, rfl⟩
    · cases h
  · cases h
def shR : List Stmt → Option Expr
  | [.Assign [.Name s _] ce _, .Return (some (.Call (.Name g _) [.Starred (.Name r _) _] [] _)) _] => if s = "rows" ∧ g = "cls" ∧ r = "rows" then some ce else none
  | _ => none
theorem shR_ok {b : List Stmt} {ce : Expr} (h : shR b = some ce) : ∃ p1 p2 p3 p4 p5 p6 p7, b = [.Assign [.Name "rows" p1] ce p2, .Return (some (.Call (.Name "cls" p3) [.Starred (.Name "rows" p4) p5] [] p6)) p7] := by
  unfold shR at h
  split at h
  · split at h
    · rename_i hc
      obtain ⟨rfl, rfl, rfl⟩ := hc
      cases h
      exact ⟨_, _, _, _, _, _, _, rfl⟩
    · cases h
  · cases h
def shG (f : Str) : List Stmt → Bool
  | [.Return (some (.Attribute (.Name s _) g _)) _] => decide (s = "self" ∧ g = f)
  | _ => false
theorem shG_ok {f : Str} {b : List Stmt} (h : shG f b = true) : ∃ p1 p2 p3, b = [.Return (some (.Attribute (.Name "self" p1) f p2)) p3] := by
  unfold shG at h
  split at h
  · obtain ⟨rfl, rfl⟩ := of_decide_eq_true h
    exact ⟨_, _, _, rfl⟩
  · cases h
def trOne (t : Tr) (c : Sc) (o : Option Expr) : Option (Env → M D) := match o with
  | some ce => if noComp ce = true then (t.E c ce).map (·.1) else none
  | none => none
theorem trOne_ok {t : Tr} {c : Sc} {o : Option Expr} {m : Env → M D} (h : trOne t c o = some m) : ∃ ce, o = some ce ∧ noComp ce = true ∧ (t.E c ce).map (·.1) = some m := by
  unfold trOne at h
  split at h
  · split at h
    · exact ⟨_, rfl, by assumption, h⟩
    · cases h
  · cases h
section
variable {P : Program} {w : World} {K : PySem.W.Frag} {mg : Str → Option Value} {base : Heap}
theorem cls_prop {nm ql : Str} {st : Stmt} {g p : Addr} {fd : FuncData} {c f x : Str} {k : Nat} (F : FunX K nm ql st g fd) (S : scB ["self"] ["self"] (defScope st) = true) (hb : shG f (defBody st) = true) (bi : BindQ nm ql st ["self"]) (C : Cls K (He.ga K c)) (n : NoAttr K (He.ga K c) f) (hp : PropOf K (He.ga K c) x p g) (hk : 2 ≤ k) :
    EntOk P w K mg base k (.prop c f x) := by
  obtain ⟨p1, p2, p3, hb⟩ := shG_ok hb
  exact ⟨C, 1, p, g, fd, ["self"], hk, hp, fn_getF F S rfl hb C n, F.bindsN bi⟩
theorem cls_str {nm ql : Str} {st : Stmt} {g : Addr} {fd : FuncData} {c f : Str} {k j nl : Nat} {T : List Ent} {B : List Str} {m : MS} {h : Hn} {t : Tr} {sn : Nat} {N : List Str} (ok : TOk P w K mg base j T) (F : FunX K nm ql st g fd) (hf : ∀ x ∈ B, mg x = none) (S : scB N ["self"] (defScope st) = true) (hl : N.length = nl)
    (htr : ((trS t sn).Ss ⟨N, defScope st, fun _ => true, T, B, j⟩ h (defBody st)).map (·.1) = some m) (bi : BindQ nm ql st ["self"]) (so : StrOf K (He.ga K c) g) (hk : j + 3 ≤ k) : EntOk P w K mg base k (.sto c f (mFn nl m)) := by
  have Fo := fn_dT (n := 1) ok F hf S rfl hl htr
  exact ⟨j + 1, g, hk, so, ((Fo.raw (F.bindsN bi) .nil).imp fun vs H Q E h => by rw [List.append_nil]; exact h)⟩
theorem cls_read {nm1 ql1 nm2 ql2 : Str} {st1 st2 : Stmt} {g : Addr} {fd1 fd2 : FuncData} {c f rd : Str} {pr : Addr} {mc : Value} {k : Nat} {T : List Ent} {B : List Str} {t : Tr} {m1 m2 : List D → Store → R D} (ok : TOk P w K mg base k T) (hg : mg c = some (.ref (He.ga K c))) (hf : ∀ x ∈ B, mg x = none)
    (F1 : FunX K nm1 ql1 st1 (He.ma K (He.ga K c) "__init__") fd1) (F2 : FunX K nm2 ql2 st2 g fd2) (C : Cls K (He.ga K c)) (n : NoAttr K (He.ga K c) f) (M : Mk K (He.ga K c) (He.ma K (He.ga K c) "__init__")) (r : ClX.CRead K (He.ga K c) mc) (cm : ClX.CMet K (He.ga K c) mc rd pr g)
    (S1 : scB ["self", "rows"] ["self", "rows"] (defScope st1) = true) (v1 : (visb ⟨["self", "rows"], defScope st1, fun _ => true, T, B, k⟩ "self" && visb ⟨["self", "rows"], defScope st1, fun _ => true, T, B, k⟩ "rows") = true)
    (b1 : ∀ (kV doc pm : Value) (an : Option Addr) (cdv ct : Value) (us rest : List Value), us.length = (["self"] : List Str).length → bindArgs (PySem.W.fnOf nm1 ql1 (defArgs st1) (defBody st1) (defScope st1) .none kV doc pm an cdv ct) ⟨us ++ rest, []⟩ = (newTuple rest >>= fun t => pure ((["self"] : List Str).zip us ++ [(("rows" : Str), t)])))
    (t1 : trOne t ⟨["self", "rows"], defScope st1, fun _ => true, T, B, k⟩ (shI f (defBody st1)) = some (mCall 1 m2 (mCons (mVar 1) mNil)))
    (S2 : scB ["cls", "value", "rows"] ["cls", "value"] (defScope st2) = true) (v2 : (visb ⟨["cls", "value", "rows"], defScope st2, fun _ => true, T, B, k + 2⟩ "cls" && (visb ⟨["cls", "value", "rows"], defScope st2, fun _ => true, T, B, k + 2⟩ "rows" && storb ⟨["cls", "value", "rows"], defScope st2, fun _ => true, T, B, k + 2⟩ "rows")) = true)
    (b2 : BindQ nm2 ql2 st2 ["cls", "value"]) (t2 : trOne t ⟨["cls", "value", "rows"], defScope st2, fun _ => true, T, B, k + 2⟩ (shR (defBody st2)) = some (mCall 1 m1 (mCons (mVar 1) mNil))) : EntOk P w K mg base (k + 3) (.cmt c rd 1 (mRead c f m1 m2)) := by
  obtain ⟨ce1, e1, n1, t1⟩ := trOne_ok t1
  obtain ⟨p1, p2, p3, p4, p5, e1⟩ := shI_ok e1
  obtain ⟨ce2, e2, n2, t2⟩ := trOne_ok t2
  obtain ⟨q1, q2, q3, q4, q5, q6, q7, e2⟩ := shR_ok e2
  rw [Bool.and_eq_true] at v1 v2
  rw [Bool.and_eq_true] at v2
  have I := fn_init ok F1 hf S1 v1 b1 e1 n1 t1 C n
  exact ⟨hg, mc, pr, g, r, cm, fn_read (k := k + 1) ok.up.up F2 hf S2 ⟨v2.1, v2.2.1, v2.2.2⟩ b2 e2 n2 t2 M I⟩
end
/-! ## the head, with a class -/
def recA (K : PySem.W.Frag) (p : Addr) (T : String) : Addr := match PySem.W.recIn K p T with
  | some (.ref g :: _) => g
  | _ => 0
def recB (K : PySem.W.Frag) (p : Addr) (T : String) : Bool := match PySem.W.recIn K p T with
  | some (.ref _ :: _) => true
  | _ => false
theorem recB_ok {K : PySem.W.Frag} {p : Addr} {T : String} (h : recB K p T = true) : ∃ rest, PySem.W.recIn K p T = some (.ref (recA K p T) :: rest) := by
  unfold recB at h
  unfold recA
  split at h
  · rename_i g r e
    rw [e]
    exact ⟨r, rfl⟩
  · cases h
def propB (K : PySem.W.Frag) (c x : Str) : Bool := He.eqO (PySem.W.findIn K (.ref (He.ga K c)) x) (some (some (.ref (He.ma K (He.ga K c) x)))) && (He.eqO (PySem.W.specialIn K (.ref (He.ma K (He.ga K c) x)) "__get__") (some (some (.builtin "property.__get__"))) &&
  (decide (PySem.W.takesIn K (.ref (He.ma K (He.ga K c) x)) = some true) && recB K (He.ma K (He.ga K c) x) "property"))
theorem propB_ok {K : PySem.W.Frag} {c x : Str} (h : propB K c x = true) : PropOf K (He.ga K c) x (He.ma K (He.ga K c) x) (recA K (He.ma K (He.ga K c) x) "property") := by
  obtain ⟨h1, h⟩ := He.ba h
  obtain ⟨h2, h⟩ := He.ba h
  obtain ⟨h3, h4⟩ := He.ba h
  exact ⟨He.eqO_ok h1, He.eqO_ok h2, of_decide_eq_true h3, recB_ok h4⟩
def readB (K : PySem.W.Frag) (c : Str) : Bool := PySem.W.readsIn K (He.ga K c) (.type "type") && He.eqO (PySem.W.specialIn K (.ref (He.ga K c)) "__getattribute__") (some (some (.builtin "type.__getattribute__")))
theorem readB_ok {K : PySem.W.Frag} {c : Str} (h : readB K c = true) : ClX.CRead K (He.ga K c) (.type "type") := by
  obtain ⟨h1, h2⟩ := He.ba h
  exact ⟨h1, He.eqO_ok h2⟩
def cmetB (K : PySem.W.Frag) (c m : Str) : Bool := (match PySem.W.findCls K (.ref (He.ga K c)) (.type "type") m with
  | some (.get (.builtin b) (.ref p) .none (.ref C)) => decide (b = "classmethod.__get__") && (decide (p = He.ma K (He.ga K c) m) && decide (C = He.ga K c))
  | _ => false) && (recB K (He.ma K (He.ga K c) m) "classmethod" && PySem.W.fnIn K (recA K (He.ma K (He.ga K c) m) "classmethod"))
theorem cmetB_ok {K : PySem.W.Frag} {c m : Str} (h : cmetB K c m = true) : ClX.CMet K (He.ga K c) (.type "type") m (He.ma K (He.ga K c) m) (recA K (He.ma K (He.ga K c) m) "classmethod") := by
  obtain ⟨h1, h⟩ := He.ba h
  obtain ⟨h2, h3⟩ := He.ba h
  refine ⟨?_, recB_ok h2, h3⟩
  split at h1
  · rename_i b p C e
    obtain ⟨e1, h1⟩ := He.ba h1
    obtain ⟨e2, e3⟩ := He.ba h1
    rw [e, of_decide_eq_true e1, of_decide_eq_true e2, of_decide_eq_true e3]
  · cases h1
def strB (K : PySem.W.Frag) (c : Str) : Bool := He.eqO (PySem.W.findIn K (.ref (He.ga K c)) "__str__") (some (some (.ref (He.ma K (He.ga K c) "__str__")))) && PySem.W.isFn K (.ref (He.ma K (He.ga K c) "__str__"))
theorem strB_ok {K : PySem.W.Frag} {c : Str} (h : strB K c = true) : StrOf K (He.ga K c) (He.ma K (He.ga K c) "__str__") := by
  obtain ⟨h1, h2⟩ := He.ba h
  exact ⟨He.eqO_ok h1, h2⟩
/-- a def at an address of one's own -/
structure DefM where
  ad : PySem.W.Frag → Addr
  name : Str
  qual : Str
  st : Stmt
def fnA (K : PySem.W.Frag) (a : Addr) : He.FnW := match K.lookup a with
  | some ⟨_, _, .func fd, _⟩ => some (fd.name, fd.qualname, fd.params, fd.body, fd.scope, fd.globals, fd.closure, fd.builtins)
  | _ => none
def DefM.val (d : DefM) : He.FnW := some (d.name, d.qual, defArgs d.st, .stmts (defBody d.st), defScope d.st, mainGlobals, [], builtinsNs)
def DefM.ok (K : PySem.W.Frag) (d : DefM) : Bool := PySem.W.keepIn K (.ref (d.ad K)) && (match K.lookup (d.ad K) with
  | some ⟨_, _, .func fd, _⟩ => PySem.W.codeIn K fd.code d.qual && (He.dflB K fd.defaults [] && He.kwdB K fd.kwdefaults [])
  | _ => false)
theorem DefM.funD {K : PySem.W.Frag} {d : DefM} (e : fnA K (d.ad K) = d.val) (c : d.ok K = true) : ∃ fd, FunX K d.name d.qual d.st (d.ad K) fd := by
  obtain ⟨kp, c2⟩ := He.ba c
  unfold fnA at e
  cases q : K.lookup (d.ad K) with
  | none =>
    rw [q] at c2
    cases c2
  | some o =>
    obtain ⟨oc, od, dt, osl⟩ := o
    rw [q] at c2 e
    cases dt with
    | func fd =>
      obtain ⟨n1, n2, n3, n4, n5, n6, n7, n8, n9, n10, n11, n12, n13, n14, n15⟩ := fd
      have e2 : (some (n1, n2, n3, n4, n5, n6, n7, n15) : He.FnW) = some (d.name, d.qual, defArgs d.st, .stmts (defBody d.st), defScope d.st, mainGlobals, [], builtinsNs) := e
      simp only [Option.some.injEq, Prod.mk.injEq] at e2
      obtain ⟨h1, h2, h3, h4, h5, h6, h7, h8⟩ := e2
      subst h1 h2 h3 h4 h5 h6 h7 h8
      have c3 : (PySem.W.codeIn K n13 d.qual && (He.dflB K n8 [] && He.kwdB K n9 [])) = true := c2
      obtain ⟨k1, k2⟩ := He.ba c3
      obtain ⟨k3, k4⟩ := He.ba k2
      exact ⟨_, ⟨oc, od, n8, n9, n10, n11, n12, n13, n14, osl, rfl, q, k1, He.dflB_ok k3, He.kwdB_ok k4⟩, kp⟩
    | _ => cases c2
def deepG (g : Addr → Option Obj) : Nat → List Addr → List Addr
  | 0, as => as
  | n + 1, as => deepG g n (He.growG g as)
def asM (g : Addr → Option Obj) (xs cs : List Str) : List Addr :=
  let K0 := He.frG g [mainGlobals]
  asL g xs ++ (cStatics :: deepG g 4 (cs.map (He.ga K0)))
def exM (fm : List DefM) (ex : PySem.W.Frag → Bool) (K : PySem.W.Frag) : Bool := (fm.all fun d => d.ok K) && ex K
def obsM (fa : List He.Fa) (fn : List He.DefD) (fm : List DefM) (ex : PySem.W.Frag → Bool) (K : PySem.W.Frag) : He.AlD := ((obsL fa fn (exM fm ex) K).1, (obsL fa fn (exM fm ex) K).2 ++ fm.map fun d => fnA K (d.ad K))
def valM (fn : List He.DefD) (fm : List DefM) : He.AlD := (true, (He.valD fn).2 ++ fm.map DefM.val)
def SaysM (fa : List He.Fa) (fn : List He.DefD) (fm : List DefM) (ex : PySem.W.Frag → Bool) (K : PySem.W.Frag) : Prop := obsM fa fn fm ex K = valM fn fm
def obsMG (xs cs : List Str) (fa : List He.Fa) (fn : List He.DefD) (fm : List DefM) (ex : PySem.W.Frag → Bool) (g : Addr → Option Obj) : He.AlD := obsM fa fn fm ex (He.frG g (asM g xs cs))
def hookM (xs cs : List Str) (fa : List He.Fa) (fn : List He.DefD) (fm : List DefM) (ex : PySem.W.Frag → Bool) : PySem.W.Hook where
  α := He.AlD
  obs := fun s => obsMG xs cs fa fn fm ex s.heap.get?
  val := fun _ => valM fn fm
  says := fun _ h => ∃ K : PySem.W.Frag, K.In h ∧ SaysM fa fn fm ex K
  of := fun _ _ e => ⟨_, He.frG_in, e⟩
  keeps := fun _ _ _ ⟨K, hK, c⟩ k => ⟨K, PySem.W.Frag.In.keeps hK k, c⟩
theorem obsMG_eq {xs cs : List Str} {fa : List He.Fa} {fn : List He.DefD} {fm : List DefM} {ex : PySem.W.Frag → Bool} {g : Addr → Option Obj} {s : Shared} (h : ∀ a, g a = s.heap.get? a) : obsMG xs cs fa fn fm ex g = (hookM xs cs fa fn fm ex).obs s := by
  have e : g = s.heap.get? := funext h
  rw [e] <;> rfl
section
variable {fa : List He.Fa} {fn : List He.DefD} {fm : List DefM} {ex : PySem.W.Frag → Bool} {K : PySem.W.Frag}
theorem SaysM.two (c : SaysM fa fn fm ex K) : SaysL fa fn (exM fm ex) K ∧ (fm.map fun d => fnA K (d.ad K)) = fm.map DefM.val := by
  have e1 : (obsL fa fn (exM fm ex) K).1 = true := congrArg (fun z : He.AlD => z.1) c
  have e2 : (obsL fa fn (exM fm ex) K).2 ++ (fm.map fun d => fnA K (d.ad K)) = (He.valD fn).2 ++ fm.map DefM.val := congrArg (fun z : He.AlD => z.2) c
  have hl : (obsL fa fn (exM fm ex) K).2.length = (He.valD fn).2.length := by
    show (fn.map _).length = (fn.map _).length
    rw [List.length_map, List.length_map]
  obtain ⟨h1, h2⟩ := List.append_inj e2 hl
  exact ⟨Prod.ext e1 h1, h2⟩
theorem SaysM.l (c : SaysM fa fn fm ex K) : SaysL fa fn (exM fm ex) K := c.two.1
theorem SaysM.ext (c : SaysM fa fn fm ex K) : ex K = true := (He.ba (show ((fm.all fun d => d.ok K) && ex K) = true from c.l.ext)).2
theorem SaysM.def_ (c : SaysM fa fn fm ex K) (i : Nat) {d : DefM} (h : fm[i]? = some d) : ∃ fd, FunX K d.name d.qual d.st (d.ad K) fd := by
  have c2 := (He.ba (show ((fm.all fun d => d.ok K) && ex K) = true from c.l.ext)).1
  have e2 : (fm.map fun d => fnA K (d.ad K))[i]? = (fm.map DefM.val)[i]? := by rw [c.two.2]
  rw [List.getElem?_map, List.getElem?_map, h] at e2
  exact DefM.funD (Option.some.inj e2) (List.all_eq_true.mp c2 d (List.mem_of_getElem? h))
end
end PD
set_option maxRecDepth 100000
set_option maxHeartbeats 4000000
namespace PD
open PySem PySem.Spec PyProof.Rows L2
/-- the module's name x is a plain tuple -/
def tupN (K : PySem.W.Frag) (x : Str) : Bool := match K.lookup (He.ga K x) with
  | some ⟨.type c, none, _, _⟩ => decide (c = "tuple")
  | _ => false
theorem tupN_ok {K : PySem.W.Frag} {x : Str} (h : tupN K x = true) : ∃ o, K.lookup (He.ga K x) = some o ∧ o.cls = .type "tuple" ∧ o.dict = none := by
  unfold tupN at h
  split at h
  · rename_i c d sl e
    exact ⟨_, e, congrArg Value.type (of_decide_eq_true h), rfl⟩
  · cases h
end PD
set_option maxRecDepth 100000
set_option maxHeartbeats 4000000
namespace PD
open PySem PySem.Spec PyProof.Rows L2
/-! ## super().__init__(text) in the __init__ of an own class over ValueError -/
/-- what the written part says of the class and of its __init__ -/
structure SupC (P : Program) (K : PySem.W.Frag) (C f cA cc : Addr) : Prop where
  oex : OexC K C
  cell : ∃ o, K.lookup cA = some o ∧ o.data = .cell (some (.ref C))
  fn : ∃ o fd ar, K.lookup f = some o ∧ o.data = .func fd ∧ (fd.params.posonlyargs ++ fd.params.args).head? = some ar ∧ ar.arg = "self"
  code : ∃ o vs file tf, K.lookup cc = some o ∧ o.data = .fields vs ∧ vs[2]? = some (.str file tf) ∧ ((P.main.file : Str) == file) = true
  top : (P.main.scope.names.lookup ("super" : Str)).isSome = false
  self : PySem.W.subIn K (.ref C) (.ref C) = some true
  sub : PySem.W.subIn K (.ref C) (.type "ValueError") = some true
  no : PySem.W.nsIn K cStatics "thirdparty.any" = some none
  along : ∃ cd, PySem.W.clsIn K C = some cd ∧ PySem.W.alongIn K "__init__" ((cd.mro.dropWhile (· != .ref C)).drop 1) = some (some (.builtin "ValueError.__init__"))
section
variable {X : Cx} {pins : List (Addr × Obj)} {σ : L2.St} {H : Hp} {s : Shared} {a C f cA cc : Addr} {E : Value → Shared → Prop} {A : Around}
theorem wrap_call {u : Addr} {rest : List Value} {Q : Value → Shared → Prop} (T : OexC X.K C) (I : Inv X pins σ H s) (e : H a = some (exo a C none)) (hu : s.heap.get? u = some (PySem.W.kxs_mw "ValueError.__init__" a)) (hl : rest.length ≤ sizeLine) (h : ∀ s', Inv X pins σ H s' → Q .none s') :
    wpAny (model X.prog X.w) A (call (.ref u) rest) Q E s := by
  obtain ⟨nm, q, N, bs, bm, sn, sub, ab, col, dd, k0, k1, k2, k3, k5, hC, hbm⟩ := T.cls
  obtain ⟨t1, ho⟩ := exo_at I.hok e
  have hK := I.kIn
  obtain ⟨hp, g, d, t, os⟩ := s
  refine wpAny_call (codeAny_of_tree ?_)
  show wpAny _ A.in1 (callAny (.ref u) ⟨rest, []⟩) _ _ _
  simp only [callAny]
  refine wpAny_bind (wpAny_load hu ?_)
  simp only [PySem.W.kxs_mw, show (Value.type "method-wrapper" == Value.type "method" || Value.type "method-wrapper" == Value.type "builtin_function_or_method" || Value.type "method-wrapper" == Value.type "method-wrapper") = true by decide, if_true]
  refine PySem.W.KFB.if_so (by decide) ?_
  refine wpAny_bind (PySem.W.check_bound_init F.excBase_ValueError.toExcCallFacts (hK _ _ hC) ho rfl ?_)
  refine wpAny_bind (wpAny_pure (wpAny_pure ?_))
  refine ⟨plainId_quiet F.excBase_ValueError.init.plain _, codeAny_builtin F.excBase_ValueError.initEntry ?_⟩
  refine PySem.W.exc_init_tree ho hl fun h' k hx _ => ?_
  have J := I.write (t' := t) (x := a) (e := a) (o := exo a C none) (by rw [e]; exact True.intro) (.inl rfl) k ⟨_, hx⟩ (exo_ok hx)
  have eu : upd H a (exo a C none) = H := by
    funext b
    by_cases hb : b = a
    · rw [hb, upd_same, e]
    · rw [upd_ne hb]
  rw [eu] at J
  exact h _ J
theorem m1b_ok {env : PySem.Env} {o e : Expr} {m : Str} {apos pos : Pos} (few : ((backTo pos (starEach [e] env)).all (fun x => !x.1) && (backToKw pos (keywordEach [] env)).all (fun x => x.1.isSome)
      && decide (([e] : List Expr).length + ([] : List Keyword).length + (if ([] : List Keyword).isEmpty then 0 else 1) < 30)) = true) (hl : (apos.endLine == pos.line) = true) : eval (.Call (.Attribute o m apos) [e] [] pos) env = (do
      let ov ← attributeBase o m env (eval o env)
      standAt apos.atName
      let (f, first) ← holding [ov] (getMethod ov m (do return (← importBound o env).getD true))
      callWith pos f first (backTo pos (starEach [e] env)) []) := by
  have hform : methodCallForm (([e] : List Expr).length + ([] : List Keyword).length) (backTo pos (starEach [e] env)) (backToKw pos (keywordEach [] env)) = true := few
  have hpos : methodCallPos true o env apos pos = pure pos := by unfold methodCallPos; simp [hl]
  rw [arm_eval_Call]
  unfold methodCall
  rw [hform, hpos]
  rfl
theorem sup_stmt {body : List Stmt} {z : Str} {kk i : Nat} {p0 p1 p2 p3 p4 p5 : Pos} {Q : Flow → Shared → Prop} (I : Inv X pins σ H s) (S : SupC X.prog X.K C f cA cc) (e : H a = some (exo a C none)) (hN : X.N[i]? = some ("self" : Str)) (hσ : σ[i]? = some (some (.ref a))) (hl : X.env.kindOf "self" = some .local)
    (hfn : X.env.func = some f) (hcode : X.env.code = .ref cc) (hcell : X.env.cells.lookup ("__class__" : Str) = some cA) (hkc : X.env.kindOf "__class__" = some .free) (hks : Gl X "super") (hm : X.mg "super" = none) (hline : (p2.endLine == p4.line) = true)
    (h : ∀ s', Inv X pins σ H s' → Q .next s') : PySem.wpAt (model X.prog X.w) X.A (.func body X.env) (exec (.Expr (.Call (.Attribute (.Call (.Name "super" p0) [] [] p1) "__init__" p2) [.Constant (.str z) kk p3] [] p4) p5) X.env) Q E s := by
  obtain ⟨nm, q, N, bs, bm, sn, sub, ab, col, dd, k0, k1, k2, k3, k5, hC, hbm⟩ := S.oex.cls
  obtain ⟨oc, lc, hc⟩ := S.cell
  obtain ⟨of, fd, ar, lf, hfd, hp, har⟩ := S.fn
  obtain ⟨occ, vs, file, tf, lcc, hoc, hvs, hfile⟩ := S.code
  obtain ⟨cd, hcd, halong⟩ := S.along
  have K0 := I.kIn
  refine ks_wpAt_Expr_any (ks_wpAt_MethodCall (ks_wpAt_super_base hks hkc (by decide) hfn (K0 _ _ lf) hfd hp hcode (K0 _ _ lcc) hoc hvs hfile S.top ?_) (m1b_ok (few_one rfl) hline)) I.quiet (swaps_no rfl)
  obtain ⟨mb, b1, b2⟩ := I.mod.blt
  have hsup : wpAny (model X.prog X.w) X.A (loadName X.env "super") (fun g s₁ => g = .type "super" ∧ s₁ = s) E s := by
    unfold loadName
    simp only [Env.blockKind, I.ok.kind, show X.env.kindOf "super" = some .globalImplicit from hks, ScopeKind.isAnnotationScope, Bool.false_and, Bool.false_eq_true, if_false]
    exact Calls.loadGlobal_builtin (by rw [I.ok.glob]; exact I.mod.glob.keeps I.bk) hm (by rw [I.ok.blt]; exact b1.keeps I.bk) ((b2 "super" (by decide)).trans (by rfl : bootBuiltins "super" = some (.type "super"))) ⟨rfl, rfl⟩
  refine wpAny_mono hsup (fun g s1 z1 => ?_) fun _ _ y => y
  obtain ⟨rfl, rfl⟩ := z1
  refine ⟨rfl, ?_⟩
  refine wpAny_loadName_free I.ok.kind hkc hcell ⟨oc, K0 _ _ lc, hc⟩ ?_ (by decide)
  rw [har]
  obtain ⟨m, hn, hloc⟩ := I.loc
  obtain ⟨u, hu, hlook⟩ := hloc i "self" (.ref a) hN hσ (.inl hl)
  obtain rfl : u = Value.ref a := hu
  have hmv : m "self" = some (.ref a) := by
    rcases hlook with ⟨_, y⟩ | ⟨y, _⟩
    · exact y
    · rw [hl] at y
      rcases y with y | y <;> cases y
  refine wpAny_loadName_local I.ok.kind hl hn hmv ?_
  have hCo := K0 _ _ hC
  obtain ⟨t1, ho⟩ := exo_at I.hok e
  refine ks_wpAny_isType_cls hCo rfl ⟨rfl, ?_⟩
  obtain ⟨hp0, g, d, t, os⟩ := s1
  refine ks_wpAny_call_super hCo rfl ho rfl (fun c y => nomatch y) (PySem.W.looks_subIn K0 S.self) fun h1 hso k1' => ?_
  have I1 : Inv X pins σ H ⟨h1, g, d, t, os⟩ := I.kept (t' := t) k1'
  have K1 := I1.kIn
  have hxC : a ≠ C := fun y => by
    have q1 := K1 _ _ hC
    rw [← y, k1' _ _ ho] at q1
    cases q1
  have Ia : PySem.W.InstAt h1 a ({ cls := .ref C, dict := none, data := .fields #[.ref t1, .none, .none, .none, .bool false, .none] } : Obj) C none := ⟨k1' _ _ ho, rfl, rfl, trivial⟩
  refine PySem.W.kxs_getMethod PySem.W.kxs_ValueError hso (PySem.W.looks_opaque K1 S.no) (l₀ := cd.mro) ((PySem.W.looks_clsIn K1 hcd).andThen .now) rfl K1 halong (Ia.type.andThen (PySem.W.looks_subIn K1 S.sub)) hxC (by decide) ?_
  have hpush : ∀ b o, h1.get? b = some o → (h1.push (PySem.W.kxs_mw "ValueError.__init__" a)).get? b = some o := fun b o y => Heap.get?_push_of_some _ y
  have I2 : Inv X pins σ H ⟨h1.push (PySem.W.kxs_mw "ValueError.__init__" a), g, d, t + 1, os⟩ := I1.kept (t' := t + 1) hpush
  have hu : (h1.push (PySem.W.kxs_mw "ValueError.__init__" a)).get? h1.objs.size = some (PySem.W.kxs_mw "ValueError.__init__" a) := Heap.get?_push_size h1 rfl
  refine PySem.W.kxs_callWith (i := "ValueError.__init__") (u := h1.objs.size) (x := a) rfl (Calls.evalArgs_plain (Calls.spliced_cons (Calls.Constant_str (k := kk) (pos := p3) (Calls.spliced_nil ⟨hu, ?_⟩))))
  exact wrap_call S.oex (I2.tok _) e hu (show 1 ≤ sizeLine by rw [sizeLine_eq]; decide) fun s' J => h s' J
def shS (fld : Str) : List Stmt → Option Str
  | [.Expr (.Call (.Attribute (.Call (.Name su _) [] [] _) ini p2) [.Constant (.str _) _ _] [] p4) _, .Assign [.Attribute (.Name s _) g _] (.Name y _) _] => if su = "super" ∧ ini = "__init__" ∧ s = "self" ∧ g = fld ∧ (p2.endLine == p4.line) = true then some y else none
  | _ => none
theorem shS_ok {fld y : Str} {b : List Stmt} (h : shS fld b = some y) : ∃ p0 p1 p2 z kk p3 p4 p5 p6 p7 p8 p9, b = [.Expr (.Call (.Attribute (.Call (.Name "super" p0) [] [] p1) "__init__" p2) [.Constant (.str z) kk p3] [] p4) p5, .Assign [.Attribute (.Name "self" p6) fld p7] (.Name y p8) p9] ∧ (p2.endLine == p4.line) = true := by
  unfold shS at h
  split at h
  · split at h
    · rename_i hc
      obtain ⟨rfl, rfl, rfl, rfl, hl⟩ := hc
      cases h
      exact ⟨_, _, _, _, _, _, _, _, _, _, _, _, rfl, hl⟩
    · cases h
  · cases h
/-- what is looked at in the scope -/
structure SupS (y : Str) (sc : Scope) : Prop where
  kind : sc.kind = .function
  co : sc.isCoroutine = false
  gen : sc.isGenerator = false
  self : sc.names.lookup ("self" : Str) = some .local
  arg : sc.names.lookup y = some .local
  cls : sc.names.lookup ("__class__" : Str) = some .free
  sup : sc.names.lookup ("super" : Str) = some .globalImplicit
  nocell : ∀ x ∈ sc.names, x.2 ≠ .cell
  free : ∀ x ∈ sc.names, x.2 = .free → x.1 = "__class__"
  ne : y ≠ "self" ∧ (y == ("__debug__" : Str)) = false ∧ (y == ("__classdict__" : Str)) = false
end
section
variable {P : Program} {w : World} {K : PySem.W.Frag} {mg : Str → Option Value} {base : Heap}
theorem fn_super {CX : CXT} {k : Nat} {f C cA cc : Addr} {fd : FuncData} {oc : Value} {od : Option Addr} {osl : Array (Option Value)} {body : List Stmt} {fld y : Str} (lk : K.lookup f = some ⟨oc, od, .func fd, osl⟩) (hcd : PySem.W.codeIn K fd.code fd.qualname = true)
    (hb : fd.body = .stmts body) (hsh : shS fld body = some y) (hsc : SupS y fd.scope) (hcl : fd.closure = [(("__class__" : Str), cA)]) (hgl : fd.globals = mainGlobals) (hbl : fd.builtins = builtinsNs) (hcode : fd.code = .ref cc) (S : SupC P K C f cA cc)
    (no : PySem.W.findIn K (.ref C) fld = some none) (hm : mg "super" = none) : FnOk P w K mg base CX (k + 1) f fd ["self", y] (SpI C fld) := by
  refine ⟨fun vs H Q E h => ?_, fun A outer s H args us vs Q E hr e0 hbd r hsp => ?_⟩
  · obtain ⟨a, v, rfl, _⟩ := h
    rfl
  obtain ⟨a, v, rfl, ea, hq⟩ := hsp
  obtain ⟨u0, ur, rfl, r0, rr⟩ : ∃ u0 ur, us = u0 :: ur ∧ RelV (.ref a) u0 ∧ Vals [v] ur := by
    cases r with
    | cons h t => exact ⟨_, _, rfl, h, t⟩
  obtain ⟨u, rfl, ru⟩ := vals1 rr
  obtain rfl : u0 = Value.ref a := r0
  have KX : K.In s.heap := e0.mod.kin.keeps fun b o e => (e0.bs b o e).1
  have lim : s.heap.NoLimit := e0.mod.nolimit.keeps fun b o e => (e0.bs b o e).1
  obtain ⟨p0, p1, p2, z, kk, p3, p4, p5, p6, p7, p8, p9, rfl, hline⟩ := shS_ok hsh
  refine ks_codeAny_call_defAt hr.depth (KX _ _ lk) rfl lim (PySem.W.codeRec_of KX hcd) hb hbd hsc.nocell (fun x hx => ?_) (fun h0 hn hk => ?_) hsc.co hsc.gen hsc.kind
  · rcases List.mem_cons.mp hx with e | hx
    · subst e; exact hsc.self
    · rcases List.mem_cons.mp hx with e | hx
      · subst e; exact hsc.arg
      · cases hx
  let env := callEnv fd s.heap.objs.size f
  let X : Cx :=
    { prog := P
      w := w
      K := K
      mg := mg
      base := base
      A := A.deeper env
      N := ["self", y]
      s_0 := s
      H_0 := H
      env := env
      outer := outer
      stack := env :: outer
      ex := []
      calm := true
      fn := fun _ => false
      pn := []
      xe := fun e s' => wpAny (model P w) (A.deeper env) (leaving env e) (fun _ s'' => CR CX outer P w H s Q E (.error e) s'') (fun e' s'' => CR CX outer P w H s Q E (.error e') s'') s' }
  have hcells : X.env.cells = [(("__class__" : Str), cA)] := hcl
  have hlk : ∀ x c, X.env.cells.lookup x = some c → x = "__class__" ∧ c = cA := fun x c e => by
    rw [hcells] at e
    by_cases hx : x = "__class__"
    · subst hx
      simp [List.lookup] at e
      exact ⟨rfl, e.symm⟩
    · have : (x == ("__class__" : Str)) = false := by simpa using hx
      simp [List.lookup, this] at e
  obtain ⟨occ, lcc, hcc⟩ := S.cell
  have hK0 : K.In h0 := fun b o e => hk b o (KX b o e)
  have ok : X.Ok := {
    mod := e0.mod, kind := hsc.kind, glob := hgl, blt := hbl, above := Nat.le_refl _
    inj := fun x y' c h1 h2 => (hlk x c h1).1.trans (hlk y' c h2).1.symm
    has := fun x h => by
      have h : fd.scope.names.lookup x = some .cell ∨ fd.scope.names.lookup x = some .free := h
      rcases h with h | h
      · exact absurd rfl (hsc.nocell _ (PySem.mem_of_lookup h))
      · have := hsc.free _ (PySem.mem_of_lookup h) rfl
        have e : x = "__class__" := this
        subst e
        exact ⟨cA, by rw [hcells]; simp [List.lookup]⟩
    cab := fun x c h => nomatch h
    hd := fun _ => hr.hd
    frames := Around.frames_deeper e0.frames
    stk := .inr ⟨rfl, rfl⟩
    exf := fun b z => absurd (show b ∈ ([] : List Addr) from z) (by simp)
    bs := e0.bs, bsz := e0.bsz
    noex := fun b _ _ z => absurd (show b ∈ ([] : List Addr) from z) (by simp)
    exfs := fun b z => absurd (show b ∈ ([] : List Addr) from z) (by simp)
    funs := e0.funs, frf := e0.frf }
  have I : Inv X [] [some (.ref a), some v] H { s with heap := h0, toks := s.toks + 2 } := {
    ok := ok, os := rfl, bare := e0.bare, base := Un.kept hk
    loc := ⟨_, hn, fun i x v' h1 h2 h3 => by
      match i, h1, h2 with
      | 0, h1, h2 =>
        cases h1; cases h2
        refine ⟨.ref a, rfl, .inl ⟨hsc.self, ?_⟩⟩
        have e1 : (("self" : Str) == y) = false := by simpa using Ne.symm hsc.ne.1
        show (List.lookup ("self" : Str) [(y, u), (("self" : Str), Value.ref a)]) = _
        simp [List.lookup, e1]
      | 1, h1, h2 =>
        cases h1; cases h2
        refine ⟨u, ru, .inl ⟨hsc.arg, ?_⟩⟩
        show (List.lookup y [(y, u), (("self" : Str), Value.ref a)]) = _
        simp [List.lookup]
      | i + 2, h1, h2 => cases h1⟩
    cell := fun x c e => by
      obtain ⟨_, rfl⟩ := hlk x c e
      exact ⟨_, occ, hK0 _ _ lcc, hcc⟩
    free := e0.hok.fresh (Nat.le_refl _)
    freeC := fun x c e => by
      obtain ⟨_, rfl⟩ := hlk x c e
      exact (e0.bs _ _ (e0.mod.kin _ _ lcc)).2
    pin := fun p hp => absurd (show p ∈ ([] : List (Addr × Obj)) from hp) (by simp)
    hok := e0.hok.kept hk, len := rfl }
  have pss : PSs X [.Assign [.Attribute (.Name "self" p6) fld p7] (.Name y p8) p9] (tOst K fld (tVar 0) (tVar 1)) := pss_one (ps_ost (X := X) (pe_var (i := 0) rfl (.inl hsc.self)) (pe_var (i := 1) rfl (.inl hsc.arg) hsc.ne.2.1 hsc.ne.2.2) rfl)
  refine ks_wpAt_execs_cons (sup_stmt (X := X) (i := 0) I S ea rfl rfl hsc.self rfl hcode (by rw [hcells]; simp [List.lookup]) hsc.cls hsc.sup hm hline fun s' J => ?_)
  refine wpAt_of_wpAny (wpAny_mono (pss.run [] s' _ H { nx := fun _ H' => Q .non H', rt := Q } J ?_) (fun fl s'' hs => ?_) fun e s'' hs => hs)
  · exact ⟨v, rfl, .ref a, rfl, a, C, rfl, S.oex, no, .inl ⟨ea, fun dx h1 h2 => hq dx h1 h2⟩⟩
  · have fin : ∀ {σ' : L2.St} {H' : Hp} {v : V} {u : Value}, Inv X [] σ' H' s'' → RelV v u → Q v H' → CE outer P w H s Q u s'' := fun {σ' H' v u} J rv q => ⟨v, H', J.os, J.bare, J.base, J.hok, rv, q⟩
    cases fl with
    | ret u =>
      obtain ⟨v, σ', H', J, rv, q⟩ := hs
      exact fin J rv q
    | next =>
      obtain ⟨σ', H', J, q⟩ := hs
      exact fin (v := V.non) (u := Value.none) J rfl q
    | brk =>
      obtain ⟨_, _, _, q⟩ := hs
      exact False.elim q
    | cont =>
      obtain ⟨_, _, _, q⟩ := hs
      exact False.elim q
end
end PD
set_option maxRecDepth 100000
set_option maxHeartbeats 4000000
namespace PD
open PySem PySem.Spec PyProof.Rows L2
/-! ## try, one clause: reading a text -/
theorem PSs.mono' {X : Cx} {b : List Stmt} {t t' : TS} (h : PSs X b t) (f : ∀ D σ H, t' D σ H → t D σ H) : PSs X b t' := ⟨fun pins s σ H D I q => h.run pins s σ H D I (f D σ H q)⟩
def cS (K : PySem.W.Frag) (EX : XK) (m : MS) : TS := fun D σ H => ∃ W0 W Γ s, W.H = H ∧ Grow W0 W ∧ Sat K W0.H W Γ σ ∧ SRep K W s ∧ PostS K EX W0 W (m Γ s) (WantS K W0 W0.H D)
theorem PSsd.can {X : Cx} {EX : XK} {b : List Stmt} {m : MS} (h : PSsd X EX b m) : PSs X b (cS X.K EX m) := by
  obtain ⟨t, p, q⟩ := h
  exact PSs.mono' p fun D σ H ⟨W0, W, Γ, s, e, g, sat, sr, pp⟩ => e ▸ q W0 W Γ σ s D g sat sr pp
abbrev lenW (N : List Str) (W : WX) : XK := fun c d H => ∀ σ : L2.St, σ.length = N.length → W c d σ H
theorem takes_len {X : Cx} {W : WX} (t : Takes X W) : Takes X (fun c d _ H => lenW X.N W c d H) := fun u s' ⟨a, B, sI, pins, σ, H, cls, d, e, I, nb, up, sky, na, os, ag, w⟩ =>
  t u s' ⟨a, B, sI, pins, σ, H, cls, d, e, I, nb, up, sky, na, os, ag, w σ I.len⟩
/-- isinstance(e, c), e the exception that the suite holds, with a dict -/
def rIsX (K : PySem.W.Frag) (D a dd : Addr) : List V → Hp → VK → Prop := fun xs H Q => ∃ (c : V) (cv : Value) (b : Bool) (fs : List (Str × V)), xs = [.ref a, c] ∧ H dd = some (.xd fs) ∧ (∀ u, RelV c u → u = cv) ∧ PySem.W.kitOne K (.ref D) cv = some b ∧ Q (.bl b) H
theorem call_isX {X : Cx} {a D dd : Addr} {oe : Obj} {pn : List (Addr × Obj)} (C : ExcC X.K D) (hcl : (PySem.W.clsIn X.K D).isSome = true) (hz : Zc (.ref D) (some dd) oe) (hf : ∃ vs, oe.data = .fields vs) : CallR (X.suite a ((a, oe) :: pn)) (.builtin "isinstance") (rIsX X.K D a dd) := by
  intro pins s σ H xs us Q I r h
  obtain ⟨c, cv, b, fs, rfl, hdd, hcv, e, q⟩ := h
  cases r with
  | cons rx rr =>
    cases rr with
    | cons rt rr =>
      cases rr
      cases rx
      have ec := hcv _ rt
      subst ec
      obtain ⟨hget, _⟩ := I.pin (a, oe) (List.mem_append.mpr (.inl List.mem_cons_self))
      obtain ⟨vs, hv⟩ := hf
      have hx : ObjOk X.prog X.w H s.heap dd (.xd fs) := I.hok dd _ hdd
      obtain ⟨mA, hns, hr⟩ := hx
      obtain ⟨od, ho, hl⟩ := lookIn_ns hns
      have J : PySem.W.InstAt s.heap a oe D (some od) := ⟨hget, hz.1, by unfold PySem.W.notCls; rw [hv] <;> rfl, by rw [hz.2]; exact ho⟩
      exact PySem.W.kia_one (PySem.W.kitx_exc hcl C.hg C.hk C.hs C.ha C.hn C.ht C.hm) I.kIn J e (fun z => nomatch z) fun tk => ⟨.bl b, H, I.kept (t' := tk) fun _ _ z => z, rfl, q⟩
def rIsY (K : PySem.W.Frag) (a : Addr) (cls : Value) (d : Option Addr) : List V → Hp → VK → Prop := fun xs H Q => ∃ D dd, cls = .ref D ∧ d = some dd ∧ ExcC K D ∧ (PySem.W.clsIn K D).isSome = true ∧ rIsX K D a dd xs H Q
theorem call_isY {X : Cx} {a : Addr} {cls : Value} {d : Option Addr} {oe : Obj} {pn : List (Addr × Obj)} (hz : Zc cls d oe) (hf : ∃ vs, oe.data = .fields vs) : CallR (X.suite a ((a, oe) :: pn)) (.builtin "isinstance") (rIsY X.K a cls d) := by
  intro pins s σ H xs us Q I r h
  obtain ⟨D, dd, rfl, rfl, C, hcl, h⟩ := h
  exact call_isX C hcl hz hf pins s σ H xs us Q I r h
/-! the def's text -/
def shT (cls y fld : Str) : List Stmt → Option (List Stmt)
  | [.Try body [.ExceptHandler (some (.Name c _)) (some n) [.Return (some (.IfExp (.Call (.Name i _) [.Name e1 _, .Name y' _] [] _) (.Tuple [.Constant .none _ _, .Attribute (.Name e2 _) f _] _ _) (.Tuple [.Constant .none _ _, .Constant (.str _) _ _] _ _) _)) _] _] [] [] _] =>
    if c = cls ∧ n = "e" ∧ i = "isinstance" ∧ e1 = "e" ∧ y' = y ∧ e2 = "e" ∧ f = fld then some body else none
  | _ => none
theorem shT_ok {cls y fld : Str} {b body : List Stmt} (h : shT cls y fld b = some body) : ∃ np q1 q2 q3 q4 k1 q5 q6 q7 k2 q8 k3 q9 z k4 q10 k5 q11 q12 q13 q14 q15,
    b = [.Try body [.ExceptHandler (some (.Name cls np)) (some "e") [.Return (some (.IfExp (.Call (.Name "isinstance" q1) [.Name "e" q2, .Name y q3] [] q4) (.Tuple [.Constant .none k1 q5, .Attribute (.Name "e" q6) fld q7] k2 q8) (.Tuple [.Constant .none k3 q9, .Constant (.str z) k4 q10] k5 q11) q12)) q13] q14] [] [] q15] := by
  unfold shT at h
  split at h
  · split at h
    · rename_i hc
      obtain ⟨rfl, rfl, rfl, rfl, rfl, rfl, rfl⟩ := hc
      cases h
      exact ⟨_, _, _, _, _, _, _, _, _, _, _, _, _, _, _, _, _, _, _, _, _, _, rfl⟩
    · cases h
  · cases h
def mTryR (cls fld : Str) (mb : MS) (n : Nat) : List D → Store → R D := fun ds s => match mb (startE n ds) s with
  | .ok o s1 => endD (.ok o s1)
  | .er e s1 => if e.cls = cls then (match e.fld with
    | some (f, d) => if f = fld then .ok (.tup [.non, d]) s1 else .bad
    | none => .bad) else .bad
  | .bad => .bad
/-- what is asked of the classes -/
structure TryC (K : PySem.W.Frag) (C O : Addr) (fld : Str) : Prop where
  xf : XfC K C
  no : PySem.W.findIn K (.ref C) fld = some none
  ex : ExcC K C
  cl : (PySem.W.clsIn K C).isSome = true
  hit : PySem.W.exmOne K (.ref C) (.ref C) = some true
  is : PySem.W.kitOne K (.ref C) (.ref O) = some true
section
variable {P : Program} {w : World} {K : PySem.W.Frag} {mg : Str → Option Value} {base : Heap}
theorem fn_try {x cls y fld : Str} {st : Stmt} {f : Addr} {fd : FuncData} {k : Nat} {T : List Ent} {B : List Str} {mb : MS} {h : Hn} {t : Tr} {sn : Nat} {body : List Stmt} (ok : TOk P w K mg base k T) (F : FunX K x x st f fd) (hf : ∀ x ∈ B, mg x = none) (S : scB ["text", "e"] ["text"] (defScope st) = true)
    (hsh : shT cls y fld (defBody st) = some body) (htr : ((trS t sn).Ss ⟨["text", "e"], defScope st, fun _ => true, T, B, k⟩ h body).map (·.1) = some mb)
    (hv : (visb ⟨["text", "e"], defScope st, fun _ => true, T, B, k⟩ "e" && (glb ⟨["text", "e"], defScope st, fun _ => true, T, B, k⟩ cls && (glb ⟨["text", "e"], defScope st, fun _ => true, T, B, k⟩ y && glb ⟨["text", "e"], defScope st, fun _ => true, T, B, k⟩ "isinstance"))) = true) (hl : (defScope st).names.lookup ("e" : Str) = some .local)
    (hC : mg cls = some (.ref (He.ga K cls))) (hO : mg y = some (.ref (He.ga K y))) (hi : mg "isinstance" = none) (TC : TryC K (He.ga K cls) (He.ga K y) fld) :
    FnOk P w K mg base (L2.CX P w) (k + 1) f fd ["text"] (Spec K 1 (mTryR cls fld mb 2)) := by
  have S := scB_ok S
  simp only [Bool.and_eq_true] at hv
  obtain ⟨v1, v2, v3, v4⟩ := hv
  obtain ⟨np, q1, q2, q3, q4, k1, q5, q6, q7, k2, q8, k3, q9, z, k4, q10, k5, q11, q12, q13, q14, q15, hb⟩ := shT_ok hsh
  cases ht : (trS t sn).Ss ⟨["text", "e"], defScope st, fun _ => true, T, B, k⟩ h body with
  | none => rw [ht] at htr; cases htr
  | some q =>
  rw [ht] at htr
  have hm : q.1 = mb := by simpa using htr
  refine F.ok S (fun vs H Q E hsp => ?_) (fun cdv A outer s H vs Q E hr hsp => ?_)
  · obtain ⟨W, ds, s, _, _, r, hl, _⟩ := hsp
    rw [← r.len, hl]; rfl
  obtain ⟨W, ds, s0, rfl, sr, r, hlen, pp⟩ := hsp
  rw [hb]
  let X : Cx := cxOf (L2.CX P w) P w K mg base ["text", "e"] x (defScope st) f cdv A outer s W.H E
  have ok' : SOk X E ⟨["text", "e"], defScope st, fun _ => true, T, B, k⟩ := sok_def S hr ok hf
  have vis := vis_ok ok'.toXOk v1
  have gC := gl_ok ok'.toXOk v2
  have gO := gl_ok ok'.toXOk v3
  have gI := gl_ok ok'.toXOk v4
  have hbody : ∀ (Wx : WX) (pn : List (Addr × Obj)) (xe : Value → Shared → Prop), Takes (X.tr pn xe) Wx → PassesOwn (model P w) X.A X.env xe → PSs (X.tr pn xe) body (cS K (lenW ["text", "e"] Wx) mb) := fun Wx pn xe tk hp => by
    have tk' : Takes (X.tr pn xe) (fun c d _ H => lenW ["text", "e"] Wx c d H) := takes_len tk
    have okt : SOk (X.tr pn xe) (lenW ["text", "e"] Wx) ⟨["text", "e"], defScope st, fun _ => true, T, B, k⟩ :=
      { calm := rfl, n := rfl, nd := S.nd, sc := rfl, kf := S.kind, room := hr, pass := passes_call tk' (fun _ _ _ _ h => h), fn := fun _ _ => rfl, ents := ok, free := hf, hp := hp, tk := tk' }
    have z := (q.2 _ _ okt).can
    rw [hm] at z
    exact z
  have hsu : ∀ (a : Addr) (oe : Obj) (c : Value) (d : Option Addr) (pn : List (Addr × Obj)), Zc c d oe → (∃ vs, oe.data = .fields vs) → PSs (X.suite a ((a, oe) :: pn))
      [.Return (some (.IfExp (.Call (.Name "isinstance" q1) [.Name "e" q2, .Name y q3] [] q4) (.Tuple [.Constant .none k1 q5, .Attribute (.Name "e" q6) fld q7] k2 q8) (.Tuple [.Constant .none k3 q9, .Constant (.str z) k4 q10] k5 q11) q12)) q13]
      (tRet (tIf (tB (tCB (rIsY K a c d) (tCons (tVar 1) (tCons (tC (.ref (He.ga K y))) tNil)))) (tTupF (tCons (tC .non) (tCons (tXf a c d (He.ga K cls) fld (tVar 1)) tNil))) (tTupF (tCons (tC .non) (tCons (tC (.str z)) tNil))))) := fun a oe c d pn hz hv => by
    refine pss_one (ps_ret (pe_ifExp (pt_val (pe_callB (call_isY hz hv) gI.1 hi (by rfl) (pa_cons (pe_var rfl vis.1) (pa_cons (pe_glob gO.1 hO rfl gO.2.1) pa_nil)) (by decide) (by decide))) (pe_tupF (pa_cons pe_non (pa_cons (pe_xf TC.xf TC.no hz hv (pe_var rfl vis.1) rfl) pa_nil))) (pe_tupF (pa_cons pe_non (pa_cons pe_str pa_nil)))))
  refine ⟨_, pss_one (ps_try_as (X := X) (i := 1) (Wout := fun c d _ H => E c d H) rfl rfl S.nd rfl hl ⟨gC.1, gC.2.1, .inl hC⟩ ok'.tk hbody hsu), ?_⟩
  refine ⟨W, W, startE 2 ds, s0, rfl, Grow.refl W, sat_start (N := ["text", "e"]) r, sr, ?_⟩
  have pp : Post K E W (mTryR cls fld mb 2 ds s0) (Want K Q) := pp
  unfold mTryR at pp
  revert pp
  cases mb (startE 2 ds) s0 with
  | bad => exact id
  | ok o s1 =>
    cases o with
    | nx Γ => exact fun pp W' g _ sr' σ _ => pp W' g sr' _ .non
    | rt d => exact fun pp W' g _ sr' v r => pp W' g sr' v r
    | _ => exact fun pp => pp.elim
  | er e s1 =>
    obtain ⟨ec, ef⟩ := e
    intro pp0
    have pp : Post K E W (if ec = cls then (match ef with
      | some (f, d) => if f = fld then R.ok (.tup [.non, d]) s1 else .bad
      | none => .bad) else .bad) (Want K Q) := pp0
    clear pp0
    by_cases hc : ec = cls
    · rw [if_pos hc] at pp
      subst hc
      cases ef with
      | none => exact pp.elim
      | some fd' =>
      obtain ⟨fl, d⟩ := fd'
      have pp2 : Post K E W (if fl = fld then R.ok (.tup [.non, d]) s1 else .bad) (Want K Q) := pp
      clear pp
      by_cases hfl : fl = fld
      · rw [if_pos hfl] at pp2
        subst hfl
        intro W' c dx g sr' er σ hσ
        obtain ⟨rfl, dd, v, rfl, hH, rv⟩ := er
        refine ⟨true, TC.hit, fun _ a ha => ?_, fun z => by cases z⟩
        have h1 : (σ.set 1 (some (V.ref a)))[1]? = some (some (V.ref a)) := List.getElem?_set_self (by rw [hσ]; decide)
        refine ⟨.ref a, h1, ?_⟩
        refine ⟨_, dd, rfl, rfl, TC.ex, TC.cl, .ref (He.ga K y), .ref (He.ga K y), true, [(fl, v)], rfl, hH, fun u hu => hu, TC.is, true, rfl, ?_⟩
        change tTupF (tCons (tC V.non) (tCons (tXf a _ (some dd) (He.ga K ec) fl (tVar 1)) tNil)) _ _ _
        refine ⟨.ref a, h1, rfl, rfl, dd, [(fl, v)], v, rfl, hH, by simp [List.lookup], ?_⟩
        refine ⟨by rw [sizeLine_eq]; simp, fun p o to hp => ?_⟩
        exact pp2 (W'.new p (.frz o (.tup [V.non, v]))) (g.trans (Grow.new hp sr')) (sr'.new hp) (.ref p) (two_tup to hp sr' (.cons .non (.cons rv .nil)))
      · rw [if_neg hfl] at pp2; exact pp2.elim
    · rw [if_neg hc] at pp; exact pp.elim
end
end PD
set_option maxRecDepth 100000
set_option maxHeartbeats 4000000
namespace PD
open PySem PySem.Spec PyProof.Rows L2
/-! ## the head, with an own exception -/
def oexB (K : PySem.W.Frag) (C : Addr) : Bool := (match K.lookup C with
  | some ⟨.type "type", _, .cls cd, sl⟩ => (match cd.mro, sl.toList with
    | .ref C' :: bm, [_, _, _, _, some (.builtin n), _] => decide (C' = C) && (decide (n = "ValueError.__new__") && (!cd.hasDel && (cd.hasDict && PySem.HandSPX.refsVE bm)))
    | _, _ => false)
  | _ => false) && (He.eqO (PySem.W.findIn K (.ref C) "__setattr__") (some (some (.builtin "object.__setattr__"))) && (decide (PySem.W.subIn K (.ref C) (.type "BaseException") = some true) && (decide (PySem.W.typeIn K (.ref C) = some (.type "type")) && PySem.W.keepIn K (.ref C))))
theorem oexB_ok {K : PySem.W.Frag} {C : Addr} (h : oexB K C = true) : OexC K C := by
  obtain ⟨h1, h⟩ := He.ba h
  obtain ⟨h2, h⟩ := He.ba h
  obtain ⟨h3, h⟩ := He.ba h
  obtain ⟨h4, h5⟩ := He.ba h
  refine ⟨?_, He.eqO_ok h2, of_decide_eq_true h3, of_decide_eq_true h4, h5⟩
  split at h1
  · rename_i dd cd sl ho
    split at h1
    · rename_i C' bm k0 k1 k2 k3 n k5 hm hs
      obtain ⟨e2, h1⟩ := He.ba h1
      obtain ⟨e3, h1⟩ := He.ba h1
      obtain ⟨e4, h1⟩ := He.ba h1
      obtain ⟨e5, e6⟩ := He.ba h1
      have e2 := of_decide_eq_true e2
      have e3 := of_decide_eq_true e3
      subst e2 e3
      have hsl : sl = #[k0, k1, k2, k3, some (.builtin "ValueError.__new__"), k5] := Array.toList_inj.mp (by rw [hs])
      obtain ⟨nm, bs, mro, ns, qn, hd, sn, sub, ab, col, del⟩ := cd
      dsimp only at hm e4 e5
      subst hm e5 hsl
      have e4 : del = false := by simpa using e4
      subst e4
      exact ⟨nm, qn, ns, bs, bm, sn, sub, ab, col, dd, k0, k1, k2, k3, k5, ho, e6⟩
    · cases h1
  · cases h1
def supSB (y : Str) (sc : Scope) : Bool := (match sc.kind with | .function => true | _ => false) && (!sc.isCoroutine && (!sc.isGenerator && (decide (sc.names.lookup ("self" : Str) = some .local) && (decide (sc.names.lookup y = some .local) && (decide (sc.names.lookup ("__class__" : Str) = some .free) && (decide (sc.names.lookup ("super" : Str) = some .globalImplicit) &&
  ((sc.names.all fun q => match q.2 with | .cell => false | .free => decide (q.1 = "__class__") | _ => true) && (decide (y ≠ "self") && (!(y == ("__debug__" : Str)) && !(y == ("__classdict__" : Str)))))))))))
theorem supSB_ok {y : Str} {sc : Scope} (h : supSB y sc = true) : SupS y sc := by
  unfold supSB at h
  simp only [Bool.and_eq_true, Bool.not_eq_true', decide_eq_true_eq, List.all_eq_true] at h
  obtain ⟨h1, h2, h3, h4, h5, h6, h7, h8, h9, h10, h11⟩ := h
  refine ⟨?_, h2, h3, h4, h5, h6, h7, fun q hq e => ?_, fun q hq e => ?_, h9, h10, h11⟩
  · split at h1
    · assumption
    · cases h1
  · have := h8 q hq
    rw [e] at this
    cases this
  · have := h8 q hq
    rw [e] at this
    exact of_decide_eq_true this
structure DefS where
  cls : Str
  fld : Str
  name : Str
  qual : Str
  st : Stmt
def DefS.ad (K : PySem.W.Frag) (d : DefS) : Addr := He.ma K (He.ga K d.cls) "__init__"
def fnC (K : PySem.W.Frag) (a : Addr) : He.FnW := match K.lookup a with
  | some ⟨_, _, .func fd, _⟩ => some (fd.name, fd.qualname, fd.params, fd.body, fd.scope, fd.globals, fd.closure.map (fun q => (q.1, 0)), fd.builtins)
  | _ => none
def DefS.val (d : DefS) : He.FnW := some (d.name, d.qual, defArgs d.st, .stmts (defBody d.st), defScope d.st, mainGlobals, [(("__class__" : Str), 0)], builtinsNs)
def codeF (mf : Str) (K : PySem.W.Frag) (cc : Addr) : Bool := match K.lookup cc with
  | some ⟨_, _, .fields vs, _⟩ => (match (vs : Array Value)[2]? with | some (Value.str file _) => mf == file | _ => false)
  | _ => false
def cellB (K : PySem.W.Frag) (cl : List (Str × Addr)) (C : Addr) : Bool := match cl with
  | [(_, a)] => (match K.lookup a with | some ⟨_, _, .cell (some (.ref c)), _⟩ => decide (c = C) | _ => false)
  | _ => false
def headB (p : Arguments) : Bool := match (p.posonlyargs ++ p.args).head? with
  | some ar => decide (ar.arg = "self")
  | none => false
def aloB (K : PySem.W.Frag) (C : Addr) : Bool := match PySem.W.clsIn K C with
  | some cd => He.eqO (PySem.W.alongIn K "__init__" ((cd.mro.dropWhile (· != .ref C)).drop 1)) (some (some (.builtin "ValueError.__init__")))
  | none => false
def DefS.okF (mf : Str) (K : PySem.W.Frag) (d : DefS) : Bool := match K.lookup (d.ad K) with
  | some ⟨_, _, .func fd, _⟩ => PySem.W.codeIn K fd.code d.qual && (He.dflB K fd.defaults [] && ((match fd.code with | .ref cc => codeF mf K cc | _ => false) && (cellB K fd.closure (He.ga K d.cls) && headB fd.params)))
  | _ => false
def DefS.ok (mf : Str) (K : PySem.W.Frag) (d : DefS) : Bool := d.okF mf K && (oexB K (He.ga K d.cls) && (He.eqO (PySem.W.findIn K (.ref (He.ga K d.cls)) "__init__") (some (some (.ref (d.ad K)))) && (decide (PySem.W.typeIn K (.ref (d.ad K)) = some (.type "function")) &&
  (decide (PySem.W.subIn K (.ref (He.ga K d.cls)) (.ref (He.ga K d.cls)) = some true) && (decide (PySem.W.subIn K (.ref (He.ga K d.cls)) (.type "ValueError") = some true) && (He.eqO (PySem.W.nsIn K cStatics "thirdparty.any") (some none) && (aloB K (He.ga K d.cls) && He.eqO (PySem.W.findIn K (.ref (He.ga K d.cls)) d.fld) (some none))))))))
abbrev BindS (nm ql : Str) (st : Stmt) (ps : List Str) : Prop := ∀ (fd : FuncData) (us : List Value), fd.params = defArgs st → fd.defaults = .none → us.length = ps.length → bindArgs fd ⟨us, []⟩ = pure (ps.zip us)
section
variable {P : Program} {w : World} {K : PySem.W.Frag} {mg : Str → Option Value} {base : Heap}
theorem exc_ent {d : DefS} {mf y : Str} {k : Nat} (e : fnC K (d.ad K) = d.val) (c : d.ok mf K = true) (g : mg d.cls = some (.ref (He.ga K d.cls))) (hm : mg "super" = none) (hPf : (P.main.file : Str) = mf) (hPt : (P.main.scope.names.lookup ("super" : Str)).isSome = false)
    (hsh : shS d.fld (defBody d.st) = some y) (hsc : supSB y (defScope d.st) = true) (bi : BindS d.name d.qual d.st ["self", y]) (hk : 2 ≤ k) : EntOk P w K mg base k (.exc d.cls d.fld) := by
  obtain ⟨c0, c⟩ := He.ba c
  obtain ⟨c1, c⟩ := He.ba c
  obtain ⟨c2, c⟩ := He.ba c
  obtain ⟨c3, c⟩ := He.ba c
  obtain ⟨c4, c⟩ := He.ba c
  obtain ⟨c5, c⟩ := He.ba c
  obtain ⟨c6, c⟩ := He.ba c
  obtain ⟨c7, c8⟩ := He.ba c
  unfold DefS.okF at c0
  unfold fnC at e
  have along : ∃ cd, PySem.W.clsIn K (He.ga K d.cls) = some cd ∧ PySem.W.alongIn K "__init__" ((cd.mro.dropWhile (· != .ref (He.ga K d.cls))).drop 1) = some (some (.builtin "ValueError.__init__")) := by
    unfold aloB at c7
    split at c7
    · exact ⟨_, by assumption, He.eqO_ok c7⟩
    · cases c7
  cases q : K.lookup (d.ad K) with
  | none => rw [q] at e; cases e
  | some o =>
    obtain ⟨oc, od, dt, osl⟩ := o
    rw [q] at e c0
    cases dt with
    | func fd =>
      have e2 : (some (fd.name, fd.qualname, fd.params, fd.body, fd.scope, fd.globals, fd.closure.map (fun q => (q.1, 0)), fd.builtins) : He.FnW) = some (d.name, d.qual, defArgs d.st, .stmts (defBody d.st), defScope d.st, mainGlobals, [(("__class__" : Str), 0)], builtinsNs) := e
      simp only [Option.some.injEq, Prod.mk.injEq] at e2
      obtain ⟨h1, h2, h3, h4, h5, h6, h7, h8⟩ := e2
      have c0 : (PySem.W.codeIn K fd.code d.qual && (He.dflB K fd.defaults [] && ((match fd.code with | .ref cc => codeF mf K cc | _ => false) && (cellB K fd.closure (He.ga K d.cls) && headB fd.params)))) = true := c0
      obtain ⟨f1, c0⟩ := He.ba c0
      obtain ⟨f2, c0⟩ := He.ba c0
      obtain ⟨f3, c0⟩ := He.ba c0
      obtain ⟨f4, f5⟩ := He.ba c0
      obtain ⟨cA, hcl⟩ : ∃ cA, fd.closure = [(("__class__" : Str), cA)] := by
        cases hq : fd.closure with
        | nil => rw [hq] at h7; cases h7
        | cons x xs =>
          rw [hq] at h7
          cases xs with
          | nil =>
            obtain ⟨x1, x2⟩ := x
            simp at h7
            exact ⟨x2, by rw [h7]⟩
          | cons _ _ => simp at h7
      obtain ⟨cc, hcode⟩ : ∃ cc, fd.code = .ref cc := by
        split at f3
        · exact ⟨_, by assumption⟩
        · cases f3
      have hdf : fd.defaults = .none := by
        cases hq : fd.defaults with
        | none => rfl
        | _ => rw [hq] at f2; cases f2
      have S : SupC P K (He.ga K d.cls) (d.ad K) cA cc := {
        oex := oexB_ok c1
        cell := by
          rw [hcl] at f4
          have f4 : (match K.lookup cA with | some ⟨_, _, .cell (some (.ref c)), _⟩ => decide (c = He.ga K d.cls) | _ => false) = true := f4
          split at f4
          · rename_i c' _ hh
            have := of_decide_eq_true f4
            subst this
            exact ⟨_, hh, rfl⟩
          · cases f4
        fn := by
          unfold headB at f5
          cases hh : (fd.params.posonlyargs ++ fd.params.args).head? with
          | none => rw [hh] at f5; cases f5
          | some ar =>
            rw [hh] at f5
            exact ⟨_, fd, ar, q, rfl, hh, of_decide_eq_true f5⟩
        code := by
          rw [hcode] at f3
          have f3 : codeF mf K cc = true := f3
          unfold codeF at f3
          split at f3
          · rename_i vs _ hh
            split at f3
            · rename_i file tf hv
              exact ⟨_, vs, file, tf, hh, rfl, hv, by rw [hPf]; exact f3⟩
            · cases f3
          · cases f3
        top := hPt
        self := of_decide_eq_true c4
        sub := of_decide_eq_true c5
        no := He.eqO_ok c6
        along := along }
      refine ⟨g, oexB_ok c1, 1, d.ad K, fd, y, hk, He.eqO_ok c2, of_decide_eq_true c3, ?_, .all fun us hu => bi fd us h3 hdf hu⟩
      exact fn_super (k := 0) q (by rw [h2]; exact f1) h4 hsh (by rw [h5]; exact supSB_ok hsc) hcl h6 h8 hcode S (He.eqO_ok c8) hm
    | _ => cases c0
end
def excCB (K : PySem.W.Frag) (D : Addr) : Bool := He.eqO (PySem.W.findIn K (.ref D) "__getattribute__") (some (some (.builtin "BaseException.__getattribute__"))) && (He.eqO (PySem.W.findIn K (.ref D) "__getattr__") (some none) && (decide (PySem.W.subIn K (.ref D) (.type "BaseException") = some true) && (PySem.W.hasDictIn K D &&
  (He.eqO (PySem.W.findIn K (.ref D) "__class__") (some (some (.builtin "object.__class__"))) && (He.eqO (PySem.W.specialIn K (.builtin "object.__class__") "__get__") (some (some (.builtin "getset_descriptor.__get__"))) && (decide (PySem.W.takesIn K (.builtin "object.__class__") = some true) && decide (PySem.W.mroIn K D (.type "object") = some true)))))))
theorem excCB_ok {K : PySem.W.Frag} {D : Addr} (h : excCB K D = true) : ExcC K D := by
  obtain ⟨h1, h⟩ := He.ba h
  obtain ⟨h2, h⟩ := He.ba h
  obtain ⟨h3, h⟩ := He.ba h
  obtain ⟨h4, h⟩ := He.ba h
  obtain ⟨h5, h⟩ := He.ba h
  obtain ⟨h6, h⟩ := He.ba h
  obtain ⟨h7, h8⟩ := He.ba h
  exact ⟨He.eqO_ok h1, He.eqO_ok h2, of_decide_eq_true h3, h4, He.eqO_ok h5, He.eqO_ok h6, of_decide_eq_true h7, of_decide_eq_true h8⟩
def tryB (K : PySem.W.Frag) (cls y fld : Str) : Bool := xfB K (He.ga K cls) && (He.eqO (PySem.W.findIn K (.ref (He.ga K cls)) fld) (some none) && (excCB K (He.ga K cls) && ((PySem.W.clsIn K (He.ga K cls)).isSome && (decide (PySem.W.exmOne K (.ref (He.ga K cls)) (.ref (He.ga K cls)) = some true) && decide (PySem.W.kitOne K (.ref (He.ga K cls)) (.ref (He.ga K y)) = some true)))))
theorem tryB_ok {K : PySem.W.Frag} {cls y fld : Str} (h : tryB K cls y fld = true) : TryC K (He.ga K cls) (He.ga K y) fld := by
  obtain ⟨h1, h⟩ := He.ba h
  obtain ⟨h2, h⟩ := He.ba h
  obtain ⟨h3, h⟩ := He.ba h
  obtain ⟨h4, h⟩ := He.ba h
  obtain ⟨h5, h6⟩ := He.ba h
  exact ⟨xfB_ok h1, He.eqO_ok h2, excCB_ok h3, h4, of_decide_eq_true h5, of_decide_eq_true h6⟩
/-! the hook -/
def deepD (g : Addr → Option Obj) : Nat → List Addr → List Addr
  | 0, as => as
  | n + 1, as => deepD g n (He.growD g as)
def asS (g : Addr → Option Obj) (xs cs : List Str) : List Addr :=
  let K0 := He.frG g [mainGlobals]
  asL g xs ++ (cStatics :: deepD g 4 (cs.map (He.ga K0)))
def exS (mf : Str) (fs : List DefS) (ex : PySem.W.Frag → Bool) (K : PySem.W.Frag) : Bool := (fs.all fun d => d.ok mf K) && ex K
def obsS (mf : Str) (fa : List He.Fa) (fn : List He.DefD) (fs : List DefS) (ex : PySem.W.Frag → Bool) (K : PySem.W.Frag) : He.AlD := ((obsL fa fn (exS mf fs ex) K).1, (obsL fa fn (exS mf fs ex) K).2 ++ fs.map fun d => fnC K (d.ad K))
def valS (fn : List He.DefD) (fs : List DefS) : He.AlD := (true, (He.valD fn).2 ++ fs.map DefS.val)
def SaysS (mf : Str) (fa : List He.Fa) (fn : List He.DefD) (fs : List DefS) (ex : PySem.W.Frag → Bool) (K : PySem.W.Frag) : Prop := obsS mf fa fn fs ex K = valS fn fs
def obsSG (mf : Str) (xs cs : List Str) (fa : List He.Fa) (fn : List He.DefD) (fs : List DefS) (ex : PySem.W.Frag → Bool) (g : Addr → Option Obj) : He.AlD := obsS mf fa fn fs ex (He.frG g (asS g xs cs))
def hookS (mf : Str) (xs cs : List Str) (fa : List He.Fa) (fn : List He.DefD) (fs : List DefS) (ex : PySem.W.Frag → Bool) : PySem.W.Hook where
  α := He.AlD
  obs := fun s => obsSG mf xs cs fa fn fs ex s.heap.get?
  val := fun _ => valS fn fs
  says := fun _ h => ∃ K : PySem.W.Frag, K.In h ∧ SaysS mf fa fn fs ex K
  of := fun _ _ e => ⟨_, He.frG_in, e⟩
  keeps := fun _ _ _ ⟨K, hK, c⟩ k => ⟨K, PySem.W.Frag.In.keeps hK k, c⟩
theorem obsSG_eq {mf : Str} {xs cs : List Str} {fa : List He.Fa} {fn : List He.DefD} {fs : List DefS} {ex : PySem.W.Frag → Bool} {g : Addr → Option Obj} {s : Shared} (h : ∀ a, g a = s.heap.get? a) : obsSG mf xs cs fa fn fs ex g = (hookS mf xs cs fa fn fs ex).obs s := by
  have e : g = s.heap.get? := funext h
  rw [e] <;> rfl
section
variable {mf : Str} {fa : List He.Fa} {fn : List He.DefD} {fs : List DefS} {ex : PySem.W.Frag → Bool} {K : PySem.W.Frag}
theorem SaysS.two (c : SaysS mf fa fn fs ex K) : SaysL fa fn (exS mf fs ex) K ∧ (fs.map fun d => fnC K (d.ad K)) = fs.map DefS.val := by
  have e1 : (obsL fa fn (exS mf fs ex) K).1 = true := congrArg (fun z : He.AlD => z.1) c
  have e2 : (obsL fa fn (exS mf fs ex) K).2 ++ (fs.map fun d => fnC K (d.ad K)) = (He.valD fn).2 ++ fs.map DefS.val := congrArg (fun z : He.AlD => z.2) c
  have hl : (obsL fa fn (exS mf fs ex) K).2.length = (He.valD fn).2.length := by
    show (fn.map _).length = (fn.map _).length
    rw [List.length_map, List.length_map]
  obtain ⟨h1, h2⟩ := List.append_inj e2 hl
  exact ⟨Prod.ext e1 h1, h2⟩
theorem SaysS.l (c : SaysS mf fa fn fs ex K) : SaysL fa fn (exS mf fs ex) K := c.two.1
theorem SaysS.ext (c : SaysS mf fa fn fs ex K) : ex K = true := (He.ba (show ((fs.all fun d => d.ok mf K) && ex K) = true from c.l.ext)).2
theorem SaysS.at_ (c : SaysS mf fa fn fs ex K) (i : Nat) {d : DefS} (h : fs[i]? = some d) : fnC K (d.ad K) = d.val ∧ d.ok mf K = true := by
  have c2 := (He.ba (show ((fs.all fun d => d.ok mf K) && ex K) = true from c.l.ext)).1
  have e2 : (fs.map fun d => fnC K (d.ad K))[i]? = (fs.map DefS.val)[i]? := by rw [c.two.2]
  rw [List.getElem?_map, List.getElem?_map, h] at e2
  exact ⟨Option.some.inj e2, List.all_eq_true.mp c2 d (List.mem_of_getElem? h)⟩
end
section
variable {P : Program} {w : World} {K : PySem.W.Frag} {mg : Str → Option Value} {base : Heap}
theorem add_try {x cls y fld : Str} {st : Stmt} {k : Nat} {T : List Ent} {B : List Str} {mb : MS} {h : Hn} {t : Tr} {sn : Nat} (ok : TOk P w K mg base k T) (F : FunA K x x st) (g : mg x = some (.ref (He.ga K x))) (hf : ∀ x ∈ B, mg x = none) (S : scB ["text", "e"] ["text"] (defScope st) = true) (b : BindF x st ["text"])
    (htr : ((shT cls y fld (defBody st)).bind fun body => ((trS t sn).Ss ⟨["text", "e"], defScope st, fun _ => true, T, B, k⟩ h body).map (·.1)) = some mb)
    (hv : (visb ⟨["text", "e"], defScope st, fun _ => true, T, B, k⟩ "e" && (glb ⟨["text", "e"], defScope st, fun _ => true, T, B, k⟩ cls && (glb ⟨["text", "e"], defScope st, fun _ => true, T, B, k⟩ y && glb ⟨["text", "e"], defScope st, fun _ => true, T, B, k⟩ "isinstance"))) = true) (hl : decide ((defScope st).names.lookup ("e" : Str) = some .local) = true)
    (hC : mg cls = some (.ref (He.ga K cls))) (hO : mg y = some (.ref (He.ga K y))) (hi : mg "isinstance" = none) (TC : TryC K (He.ga K cls) (He.ga K y) fld) : TOk P w K mg base (k + 1) (.fn x 1 (mTryR cls fld mb 2) :: T) := by
  obtain ⟨fd, F⟩ := F
  cases hs : shT cls y fld (defBody st) with
  | none => rw [hs] at htr; cases htr
  | some body =>
    rw [hs] at htr
    exact ok.up.cons ⟨_, fd, ["text"], g, F.kp, fn_try ok F hf S hs htr hv (of_decide_eq_true hl) hC hO hi TC, F.bindsN b⟩
end
end PD
set_option maxRecDepth 100000
set_option maxHeartbeats 0
namespace PD
open PySem PySem.Spec PyProof.Rows L2
def w_WORDS : List Str := ["atleast", "more", "same"]
def d_WORDS : D := .tup (w_WORDS.map .str)
def d_LARGEST : D := .int 1000000000000
def w_NUMBERS : List Str := ["0", "1", "2", "3", "4", "5", "6", "7", "8", "9", "10", "11", "12"]
def d_NUMBERS : D := .tup (w_NUMBERS.map .str)
def b_is_number : MS :=
  (mRet (mAndV (mOp1 (fIsi "int") (mPeek 0)) (mAndV (mNotV (mOp1 (fIsi "bool") (mPeek 0))) (mChain fLe fLe (mPeek 1) (mPeek 0) (mPeek 2)))))
def m_is_number := mFn 3 b_is_number
def b_is_tuple : MS :=
  (mRet (mAndV (mOp1 (fIsi "tuple") (mPeek 0)) (mChain fLe fLe (mPeek 1) (mBlt fLen (mCons (mPeek 0) mNil)) (mPeek 2))))
def m_is_tuple := mFn 3 b_is_tuple
def b_is_row : MS :=
  (mRet (mAndV (mCall 3 m_is_tuple (mCons (mVar 0) (mCons (mVar 1) (mCons (mVar 1) mNil)))) (mBlt fAll (mCons (mFrz (mLcL (mItems (mVar 0)) (.nm 2) mYes (mCall 3 m_is_number (mCons (mVar 2) (mCons (mCon (.int 0)) (mCons (mCon (.int 12)) mNil)))) [2])) mNil))))
def m_is_row := mFn 3 b_is_row
def b_are_good_debts : MS :=
  (mSeq (mIf (mOrT (mNotT (mTest (mCall 3 m_is_tuple (mCons (mVar 0) (mCons (mCon (.int 2)) (mCons (mCon (.int 4)) mNil)))))) (mNotT (mTest (mBlt fAll (mCons (mFrz (mLcL (mItems (mVar 0)) (.nm 1) mYes (mCall 2 m_is_row (mCons (mVar 1) (mCons (mBlt fLen (mCons (mPeek 0) mNil)) mNil))) [1])) mNil))))) (mRet (mCon (.bl false))) mNext)
  (mRet (mBlt fAll (mCons (mFrz (mLcL (mRng fEnum (mCons (mVar 0) mNil)) (.tp [(.nm 2), (.nm 1)]) mYes (mOp fEq (mIx (mPeek 1) (mVar 2)) (mCon (.int 0))) [2, 1])) mNil))))
def m_are_good_debts := mFn 3 b_are_good_debts
def b_is_debts : MS :=
  (mRet (mCall 1 m_are_good_debts (mCons (mVar 0) mNil)))
def m_is_debts := mFn 1 b_is_debts
def b_row_in : MS :=
  (mSeq (mAsg 1 (mSd (mStr2 fSplit (mPeek 0) (mCon (.str " ")))))
  (mSeq (mIf (mOrT (mNotT (mTest (mChain fLe fLe (mCon (.int 2)) (mBlt fLen (mCons (mPeek 1) mNil)) (mCon (.int 4))))) (mNotT (mTest (mBlt fAll (mCons (mFrz (mLcL (mItems (mVar 1)) (.nm 2) mYes (mOp fIn (mPeek 2) (mCon d_NUMBERS)) [2])) mNil))))) (mRet (mCon .non)) mNext)
  (mRet (mBlt fTuple (mCons (mFrz (mLcL (mItems (mVar 1)) (.nm 2) mYes (mOp1 (fGIdx w_NUMBERS) (mPeek 2)) [2])) mNil)))))
def m_row_in := mFn 3 b_row_in
def b_debts_in : MS :=
  (mSeq (mIf (mNotT (mTest (mOp1 (fIsi "str") (mPeek 0)))) (mRaise "InvalidText" "line" (mCons (mCon (.int 0)) mNil)) mNext)
  (mSeq (mAsg 1 (mSd (mFrz (mLcL (mItems (mStr2 fSplit (mPeek 0) (mCon (.str "\n")))) (.nm 2) mYes (mCall 1 m_row_in (mCons (mVar 2) mNil)) [2]))))
  (mSeq (mIf (mTest (mOp fIn (mCon .non) (mPeek 1))) (mRaise "InvalidText" "line" (mCons (mOp fAdd (mXIdx (mPeek 1) (mCon .non)) (mCon (.int 1))) mNil)) mNext)
  (mSeq (mIf (mNotT (mTest (mCall 1 m_are_good_debts (mCons (mBlt fTuple (mCons (mPeek 1) mNil)) mNil)))) (mRaise "InvalidText" "line" (mCons (mOp fAdd (mBlt fLen (mCons (mPeek 1) mNil)) (mCon (.int 1))) mNil)) mNext)
  (mRet (mBlt fTuple (mCons (mPeek 1) mNil)))))))
def m_debts_in := mFn 3 b_debts_in
def b_read_debts : MS :=
  (mRet (mCall 1 m_debts_in (mCons (mVar 0) mNil)))
def m_read_debts := mFn 1 b_read_debts
def b__law_source : MS :=
  (mSeq (mAsg 2 (mSd (mCon (.int 0))))
  (mSeq (mIf (mTest (mOp fLt (mPeek 1) (mBlt fLen (mCons (mPeek 0) mNil)))) (mAsg 2 (mSd (mBlt fAbs (mCons (mBlt fInt (mCons (mIx (mPeek 0) (mVar 1)) mNil)) mNil)))) mNext)
  (mSeq (mIf (mTest (mOp fLt (mPeek 2) (mOp fPow (mCon (.int 10)) (mCon (.int 18))))) (mRetO (mLstO (mCons (mCon (.int 0)) (mCons (mOp fAdd (mCon (.int 1)) (mOp fMod (mBlt fInt (mCons (mOp fAdd (mOp fMul (mPeek 2) (mCon (.int 7919))) (mOp fMul (mCon (.int 104729)) (mPeek 1))) mNil)) (mCon (.int 2147483646)))) mNil)))) mNext)
  (mRetO (mLstO (mCons (mVar 2) (mCons (mOp fAdd (mCon (.int 1)) (mOp fMod (mBlt fInt (mCons (mOp fAdd (mPeek 2) (mPeek 1)) mNil)) (mCon (.int 2147483646)))) mNil)))))))
def m__law_source := mFnO 3 b__law_source
def b__law_draw : MS :=
  (mSeq (mIf (mTest (mOp fGt (mIx (mPeek 0) (mCon (.int 0))) (mCon (.int 0)))) (mSeq (mAsg 2 (mSd (mOp fMod (mBlt fInt (mCons (mIx (mPeek 0) (mCon (.int 0))) mNil)) (mPeek 1))))
  (mSeq (mSetC (mVar 0) (mCon (.int 0)) (mOp fDiv (mIx (mPeek 0) (mCon (.int 0))) (mPeek 1)))
  (mRetV 2))) mNext)
  (mSeq (mSetC (mVar 0) (mCon (.int 1)) (mOp fMod (mBlt fInt (mCons (mOp fMul (mIx (mPeek 0) (mCon (.int 1))) (mCon (.int 48271))) mNil)) (mCon (.int 2147483647))))
  (mRet (mOp fMod (mBlt fInt (mCons (mOp fDiv (mOp fMod (mBlt fInt (mCons (mOp fMul (mIx (mPeek 0) (mCon (.int 1))) (mIx (mPeek 0) (mCon (.int 1)))) mNil)) (mCon (.int 2147483629))) (mCon (.int 64))) mNil)) (mPeek 1)))))
def m__law_draw := mFn 3 b__law_draw
def b__law_of : MS :=
  (mRet (mIx (mPeek 1) (mCall 2 m__law_draw (mCons (mVar 0) (mCons (mBlt fLen (mCons (mPeek 1) mNil)) mNil)))))
def m__law_of := mFn 2 b__law_of
def b__law_debts : MS :=
  (mSeq (mAsg 2 (mSd (mOp fAdd (mCon (.int 2)) (mCall 2 m__law_draw (mCons (mVar 0) (mCons (mOp fSub (mPeek 1) (mCon (.int 1))) mNil))))))
  (mSeq (mAsg 3 (mSd (mTup mNil)))
  (mSeq (mFor (mRng fRng1 (mCons (mVar 2) mNil)) (.nm 4) (mSeq (mAsg 5 (mSd (mTup mNil)))
  (mSeq (mFor (mRng fRng1 (mCons (mVar 2) mNil)) (.nm 6) (mSeq (mAsg 7 (mSd (mCall 2 m__law_of (mCons (mVar 0) (mCons (mLst (mCons (mCon (.int 0)) (mCons (mCon (.int 0)) (mCons (mCon (.int 0)) (mCons (mCon (.int 1)) (mCons (mCon (.int 2)) (mCons (mCon (.int 3)) (mCons (mCon (.int 4)) (mCons (mCon (.int 6)) (mCons (mCon (.int 12)) (mCons (mCall 2 m__law_draw (mCons (mVar 0) (mCons (mCon (.int 13)) mNil))) mNil))))))))))) mNil)))))
  (mAsg 5 (mSd (mOp fAdd (mPeek 5) (mTup (mCons (mIte (mTest (mOp fEq (mPeek 4) (mPeek 6))) (mCon (.int 0)) (mVar 7)) mNil)))))))
  (mAsg 3 (mSd (mOp fAdd (mPeek 3) (mTup (mCons (mVar 5) mNil))))))))
  (mRetV 3))))
def m__law_debts := mFn 8 b__law_debts
def b__law_text : MS :=
  (mRet (mStr2 fJoin (mCon (.str "\n")) (mFrz (mLcL (mItems (mVar 0)) (.nm 2) mYes (mStr2 fJoin (mCon (.str " ")) (mFrz (mLcL (mItems (mVar 2)) (.nm 1) mYes (mBlt fStr (mCons (mPeek 1) mNil)) [1]))) [2]))))
def m__law_text := mFn 3 b__law_text
def b__law_read : MS :=
  (mRet (mTup (mCons (mCall 1 m_read_debts (mCons (mVar 0) mNil)) (mCons (mCon .non) mNil))))
def m__law_read := mTryR "InvalidText" "line" b__law_read 2
def b__law_is_line : MS :=
  (mSeq (mAsg 1 (mSd (mStr2 fSplit (mPeek 0) (mCon (.str " ")))))
  (mSeq (mAsg 2 (mSd (mFrz (mLcL (mRng fRng1 (mCons (mCon (.int 13)) mNil)) (.nm 3) mYes (mBlt fStr (mCons (mPeek 3) mNil)) [3]))))
  (mRet (mAndV (mChain fLe fLe (mCon (.int 2)) (mBlt fLen (mCons (mPeek 1) mNil)) (mCon (.int 4))) (mOp fEq (mFrz (mLcL (mItems (mVar 1)) (.nm 4) (mTest (mOp fNotIn (mPeek 4) (mPeek 2))) (mVar 4) [4])) (mLst mNil))))))
def m__law_is_line := mFn 5 b__law_is_line
def b__law_spoilt : MS :=
  (mSeq (mPar [2, 3] (mRcons (mSd (mCall 2 m__law_draw (mCons (mVar 0) (mCons (mOp fAdd (mBlt fLen (mCons (mPeek 1) mNil)) (mCon (.int 1))) mNil)))) (mRcons (mSd (mCall 2 m__law_draw (mCons (mVar 0) (mCons (mCon (.int 3)) mNil)))) mRnil)))
  (mSeq (mAsg 4 (mSd (mLst (mCons (mCon (.str "")) (mCons (mCon (.str " ")) (mCons (mCon (.str "0")) (mCons (mCon (.str "1")) (mCons (mCon (.str "4")) (mCons (mCon (.str "-")) (mCons (mCon (.str "\n")) (mCons (mCon (.str "\n0 0")) (mCons (mCon (.str "12")) (mCons (mCon (.str "13")) (mCons (mCon (.str "01")) (mCons (mCon (.str "a")) (mCons (mCon (.str " 0")) (mCons (mCon (.str "\n0 0 0")) mNil)))))))))))))))))
  (mSeq (mIf (mTest (mOp fEq (mPeek 3) (mCon (.int 2)))) (mSeq (mAsg 5 (mSd (mStr2 fSplit (mPeek 1) (mCon (.str "\n")))))
  (mSeq (mAsg 6 (mSd (mCall 2 m__law_draw (mCons (mVar 0) (mCons (mBlt fLen (mCons (mPeek 5) mNil)) mNil)))))
  (mSeq (mAsg 7 (mSd (mSl (mPeek 5) (mPart (mVar 6)) (mPart (mOp fAdd (mPeek 6) (mCall 2 m__law_draw (mCons (mVar 0) (mCons (mCon (.int 3)) mNil))))))))
  (mRet (mStr2 fJoin (mCon (.str "\n")) (mOp fAdd (mOp fAdd (mSl (mPeek 5) mNoPart (mPart (mVar 6))) (mSl (mPeek 5) (mPart (mOp fAdd (mPeek 6) (mCon (.int 1)))) mNoPart)) (mPeek 7))))))) mNext)
  (mRet (mOp fAdd (mOp fAdd (mSl (mPeek 1) mNoPart (mPart (mVar 2))) (mCall 2 m__law_of (mCons (mVar 0) (mCons (mVar 4) mNil)))) (mSl (mPeek 1) (mPart (mOp fAdd (mPeek 2) (mPeek 3))) mNoPart))))))
def m__law_spoilt := mFn 8 b__law_spoilt
def b_law : MS :=
  (mSeq (mFor (mRng fRng1 (mCons (mOp fAdd (mCon (.int 1)) (mBlt fMin (mCons (mBlt fLen (mCons (mPeek 0) mNil)) (mCons (mCon (.int 10)) mNil)))) mNil)) (.nm 1) (mSeq (mCell 2 (mCallO 2 m__law_source (mCons (mVar 0) (mCons (mVar 1) mNil))))
  (mSeq (mAsg 3 (mSd (mCall 2 m__law_debts (mCons (mVar 2) (mCons (mCon (.int 4)) mNil)))))
  (mSeq (mAsg 4 (mSd (mCall 1 m__law_text (mCons (mVar 3) mNil))))
  (mSeq (mFor (mRng fRng1 (mCons (mCon (.int 6)) mNil)) (.nm 5) (mSeq (mUnp (.tp [(.nm 6), (.nm 7)]) (mCall 1 m__law_read (mCons (mVar 4) mNil)))
  (mSeq (mPar [8, 9] (mRcons (mSd (mStr2 fSplit (mPeek 4) (mCon (.str "\n")))) (mRcons (mSd (mLst mNil)) mRnil)))
  (mSeq (mFor (mRng fEnum (mCons (mVar 8) mNil)) (.tp [(.nm 10), (.nm 11)]) (mAsg 9 (mSd (mOp fAdd (mPeek 9) (mIte (mTest (mCall 1 m__law_is_line (mCons (mVar 11) mNil))) (mLst mNil) (mLst (mCons (mOp fAdd (mPeek 10) (mCon (.int 1))) mNil)))))))
  (mSeq (mIf (mAndT (mTest (mOp fIs (mPeek 6) (mCon .non))) (mTest (mOp fNe (mPeek 7) (mIx (mOp fAdd (mPeek 9) (mLst (mCons (mOp fAdd (mBlt fLen (mCons (mPeek 8) mNil)) (mCon (.int 1))) mNil))) (mCon (.int 0)))))) (mRet (mCon (.bl false))) mNext)
  (mSeq (mIf (mAndT (mTest (mOp fNotIs (mPeek 6) (mCon .non))) (mOrT (mTest (mOp fNe (mPeek 9) (mLst mNil))) (mNotT (mTest (mCall 1 m_is_debts (mCons (mVar 6) mNil)))))) (mRet (mCon (.bl false))) mNext)
  (mSeq (mIf (mAndT (mTest (mOp fNotIs (mPeek 6) (mCon .non))) (mTest (mOp fNe (mCall 1 m__law_text (mCons (mVar 6) mNil)) (mPeek 4)))) (mRet (mCon (.bl false))) mNext)
  (mSeq (mIf (mAndT (mTest (mOp fEq (mPeek 5) (mCon (.int 0)))) (mTest (mOp fNe (mPeek 6) (mPeek 3)))) (mRet (mCon (.bl false))) mNext)
  (mAsg 4 (mSd (mSl (mCall 2 m__law_spoilt (mCons (mVar 2) (mCons (mVar 4) mNil))) mNoPart (mPart (mCon (.int 1600))))))))))))))
  (mIf (mTest (mOp fNe (mCall 1 m__law_read (mCons (mCall 2 m__law_of (mCons (mVar 2) (mCons (mLst (mCons (mCon .non) (mCons (mCon (.int 5)) (mCons (mCon (.bl true)) (mCons (mLst mNil) (mCons (mTup (mCons (mCon (.str "0 1")) mNil)) (mCons (mVar 3) mNil))))))) mNil))) mNil)) (mTup (mCons (mCon .non) (mCons (mCon (.int 0)) mNil))))) (mRet (mCon (.bl false))) mNext))))))
  (mSeq (mAsg 12 (mSd (mLst (mCons (mCon (.str "")) (mCons (mCon (.str "0 1")) (mCons (mCon (.str "0 1\n0 0")) (mCons (mCon (.str "0 1\n0 1")) (mCons (mCon (.str "0 1\n0")) (mCons (mCon (.str "0 13\n0 0")) (mCons (mCon (.str "0 1\n0 0\n")) (mCons (mCon (.str "0 1 0\n0 0 0")) (mCons (mCon (.str "00 1\n0 0")) mNil))))))))))))
  (mRet (mOp fEq (mFrz (mLcL (mItems (mVar 12)) (.nm 4) mYes (mIx (mCall 1 m__law_read (mCons (mVar 4) mNil)) (mCon (.int 1))) [4])) (mLst (mCons (mCon (.int 1)) (mCons (mCon (.int 2)) (mCons (mCon .non) (mCons (mCon (.int 3)) (mCons (mCon (.int 2)) (mCons (mCon (.int 1)) (mCons (mCon (.int 3)) (mCons (mCon (.int 3)) (mCons (mCon (.int 1)) mNil))))))))))))))
def m_law := mFn 13 b_law
end PD
set_option maxRecDepth 100000
set_option maxHeartbeats 0
namespace PD
open PySem PySem.Spec PyProof.Rows L2
def top (i : Nat) : Stmt := PySem.Challenge.pw_handsowing_k15_texts_spoilt.main.body.getD i (.Pass ⟨0, 0, 0, 0⟩)
def BB : List Str := ["abs", "all", "any", "bool", "dict", "enumerate", "int", "isinstance", "len", "list", "max", "min", "range", "sorted", "str", "sum", "tuple", "zip"]
def T_0 : List Ent := [.exc "InvalidText" "line", .con "NUMBERS" d_NUMBERS, .tups "NUMBERS" w_NUMBERS]
def N_is_number : List Str := ["value", "least", "most"]
theorem t_is_number (k : Nat) : ((trS (tr 60) 40).Ss ⟨N_is_number, defScope (top 4), fun _ => true, T_0, BB, k⟩ { own := [], cells := [], frz := [], ro := false } (defBody (top 4))).map (·.1) = some b_is_number := by kernel_rfl
def T_1 : List Ent := .fn "is_number" 3 m_is_number :: T_0
def N_is_tuple : List Str := ["value", "least", "most"]
theorem t_is_tuple (k : Nat) : ((trS (tr 60) 40).Ss ⟨N_is_tuple, defScope (top 5), fun _ => true, T_1, BB, k⟩ { own := [], cells := [], frz := [], ro := false } (defBody (top 5))).map (·.1) = some b_is_tuple := by kernel_rfl
def T_2 : List Ent := .fn "is_tuple" 3 m_is_tuple :: T_1
def N_is_row : List Str := ["value", "many", "one"]
theorem t_is_row (k : Nat) : ((trS (tr 60) 40).Ss ⟨N_is_row, defScope (top 6), fun _ => true, T_2, BB, k⟩ { own := [], cells := [], frz := [], ro := false } (defBody (top 6))).map (·.1) = some b_is_row := by kernel_rfl
def T_3 : List Ent := .fn "is_row" 2 m_is_row :: T_2
def N_are_good_debts : List Str := ["value", "row", "place"]
theorem t_are_good_debts (k : Nat) : ((trS (tr 60) 40).Ss ⟨N_are_good_debts, defScope (top 7), fun _ => true, T_3, BB, k⟩ { own := [], cells := [], frz := [], ro := false } (defBody (top 7))).map (·.1) = some b_are_good_debts := by kernel_rfl
def T_4 : List Ent := .fn "are_good_debts" 1 m_are_good_debts :: T_3
def N_is_debts : List Str := ["value"]
theorem t_is_debts (k : Nat) : ((trS (tr 60) 40).Ss ⟨N_is_debts, defScope (top 8), fun _ => true, T_4, BB, k⟩ { own := [], cells := [], frz := [], ro := false } (defBody (top 8))).map (·.1) = some b_is_debts := by kernel_rfl
def T_5 : List Ent := .fn "is_debts" 1 m_is_debts :: T_4
def N_row_in : List Str := ["line", "words", "word"]
theorem t_row_in (k : Nat) : ((trS (tr 60) 40).Ss ⟨N_row_in, defScope (top 11), fun _ => true, T_5, BB, k⟩ { own := [], cells := [], frz := [], ro := false } (defBody (top 11))).map (·.1) = some b_row_in := by kernel_rfl
def T_6 : List Ent := .fn "row_in" 1 m_row_in :: T_5
def N_debts_in : List Str := ["value", "rows", "line"]
theorem t_debts_in (k : Nat) : ((trS (tr 60) 40).Ss ⟨N_debts_in, defScope (top 12), fun _ => true, T_6, BB, k⟩ { own := [], cells := [], frz := [], ro := false } (defBody (top 12))).map (·.1) = some b_debts_in := by kernel_rfl
def T_7 : List Ent := .fn "debts_in" 1 m_debts_in :: T_6
def N_read_debts : List Str := ["value"]
theorem t_read_debts (k : Nat) : ((trS (tr 60) 40).Ss ⟨N_read_debts, defScope (top 13), fun _ => true, T_7, BB, k⟩ { own := [], cells := [], frz := [], ro := false } (defBody (top 13))).map (·.1) = some b_read_debts := by kernel_rfl
def T_8 : List Ent := .fn "read_debts" 1 m_read_debts :: T_7
def N__law_source : List Str := ["script", "k", "cell"]
theorem t__law_source (k : Nat) : ((trS (tr 60) 40).Ss ⟨N__law_source, defScope (top 15), fun _ => true, T_8, BB, k⟩ { own := [], cells := [], frz := [], ro := true } (defBody (top 15))).map (·.1) = some b__law_source := by kernel_rfl
def T_9 : List Ent := .fo "_law_source" 2 m__law_source :: T_8
def N__law_draw : List Str := ["source", "many", "found"]
theorem t__law_draw (k : Nat) : ((trS (tr 60) 40).Ss ⟨N__law_draw, defScope (top 16), fun _ => true, T_9, BB, k⟩ { own := [], cells := ["source"], frz := [], ro := false } (defBody (top 16))).map (·.1) = some b__law_draw := by kernel_rfl
def T_10 : List Ent := .fn "_law_draw" 2 m__law_draw :: T_9
def N__law_of : List Str := ["source", "items"]
theorem t__law_of (k : Nat) : ((trS (tr 60) 40).Ss ⟨N__law_of, defScope (top 17), fun _ => true, T_10, BB, k⟩ { own := [], cells := [], frz := [], ro := false } (defBody (top 17))).map (·.1) = some b__law_of := by kernel_rfl
def T_11 : List Ent := .fn "_law_of" 2 m__law_of :: T_10
def N__law_debts : List Str := ["source", "most", "people", "found", "person", "row", "other", "owed"]
theorem t__law_debts (k : Nat) : ((trS (tr 60) 40).Ss ⟨N__law_debts, defScope (top 18), fun _ => true, T_11, BB, k⟩ { own := [], cells := [], frz := [], ro := false } (defBody (top 18))).map (·.1) = some b__law_debts := by kernel_rfl
def T_12 : List Ent := .fn "_law_debts" 2 m__law_debts :: T_11
def N__law_text : List Str := ["debts", "number", "row"]
theorem t__law_text (k : Nat) : ((trS (tr 60) 40).Ss ⟨N__law_text, defScope (top 19), fun _ => true, T_12, BB, k⟩ { own := [], cells := [], frz := [], ro := false } (defBody (top 19))).map (·.1) = some b__law_text := by kernel_rfl
def T_13 : List Ent := .fn "_law_text" 1 m__law_text :: T_12
def N__law_read : List Str := ["text", "e"]
theorem t__law_read (k : Nat) : ((shT "InvalidText" "OweError" "line" (defBody (top 20))).bind fun body => ((trS (tr 60) 40).Ss ⟨["text", "e"], defScope (top 20), fun _ => true, T_13, BB, k⟩ { own := [], cells := [], frz := [], ro := false } body).map (·.1)) = some b__law_read := by kernel_rfl
theorem v__law_read (k : Nat) : (visb ⟨["text", "e"], defScope (top 20), fun _ => true, T_13, BB, k⟩ "e" && (glb ⟨["text", "e"], defScope (top 20), fun _ => true, T_13, BB, k⟩ "InvalidText" && (glb ⟨["text", "e"], defScope (top 20), fun _ => true, T_13, BB, k⟩ "OweError" && glb ⟨["text", "e"], defScope (top 20), fun _ => true, T_13, BB, k⟩ "isinstance"))) = true := by kernel_rfl
theorem l__law_read : decide ((defScope (top 20)).names.lookup ("e" : Str) = some .local) = true := by kernel_rfl
theorem h_ini : shS "line" (defBody (clsStmt (top 2) 0)) = some "line" := by kernel_rfl
theorem s_ini : supSB "line" (defScope (clsStmt (top 2) 0)) = true := by kernel_rfl
theorem a_ini : BindS "__init__" "InvalidText.__init__" (clsStmt (top 2) 0) ["self", "line"] := fun fd us h1 h2 hl => by
  obtain ⟨n1, n2, n3, n4, n5, n6, n7, n8, n9, n10, n11, n12, n13, n14, n15⟩ := fd
  dsimp only at h1 h2
  subst h1 h2
  match us, hl with
  | [_, _], _ => kernel_rfl
def T_14 : List Ent := .fn "_law_read" 1 m__law_read :: T_13
def N__law_is_line : List Str := ["line", "words", "good", "number", "word"]
theorem t__law_is_line (k : Nat) : ((trS (tr 60) 40).Ss ⟨N__law_is_line, defScope (top 21), fun _ => true, T_14, BB, k⟩ { own := [], cells := [], frz := [], ro := false } (defBody (top 21))).map (·.1) = some b__law_is_line := by kernel_rfl
def T_15 : List Ent := .fn "_law_is_line" 1 m__law_is_line :: T_14
def N__law_spoilt : List Str := ["source", "text", "at", "more", "signs", "lines", "spot", "rest"]
theorem t__law_spoilt (k : Nat) : ((trS (tr 60) 40).Ss ⟨N__law_spoilt, defScope (top 22), fun _ => true, T_15, BB, k⟩ { own := [], cells := [], frz := [], ro := false } (defBody (top 22))).map (·.1) = some b__law_spoilt := by kernel_rfl
def T_16 : List Ent := .fn "_law_spoilt" 2 m__law_spoilt :: T_15
def N_law : List Str := ["script", "k", "source", "some", "text", "turn", "found", "line", "rows", "bad", "at", "row", "texts"]
theorem t_law (k : Nat) : ((trS (tr 60) 40).Ss ⟨N_law, defScope (top 23), fun _ => true, T_16, BB, k⟩ { own := [], cells := ["source"], frz := [], ro := false } (defBody (top 23))).map (·.1) = some b_law := by kernel_rfl
def T_17 : List Ent := .fn "law" 1 m_law :: T_16
def hfn : List He.DefD := [
  ⟨("is_number", none), "is_number", "is_number", defArgs (top 4), defBody (top 4), defScope (top 4), [], []⟩,
  ⟨("is_tuple", none), "is_tuple", "is_tuple", defArgs (top 5), defBody (top 5), defScope (top 5), [], []⟩,
  ⟨("is_row", none), "is_row", "is_row", defArgs (top 6), defBody (top 6), defScope (top 6), [], []⟩,
  ⟨("are_good_debts", none), "are_good_debts", "are_good_debts", defArgs (top 7), defBody (top 7), defScope (top 7), [], []⟩,
  ⟨("is_debts", none), "is_debts", "is_debts", defArgs (top 8), defBody (top 8), defScope (top 8), [], []⟩,
  ⟨("row_in", none), "row_in", "row_in", defArgs (top 11), defBody (top 11), defScope (top 11), [], []⟩,
  ⟨("debts_in", none), "debts_in", "debts_in", defArgs (top 12), defBody (top 12), defScope (top 12), [], []⟩,
  ⟨("read_debts", none), "read_debts", "read_debts", defArgs (top 13), defBody (top 13), defScope (top 13), [], []⟩,
  ⟨("_law_source", none), "_law_source", "_law_source", defArgs (top 15), defBody (top 15), defScope (top 15), [], []⟩,
  ⟨("_law_draw", none), "_law_draw", "_law_draw", defArgs (top 16), defBody (top 16), defScope (top 16), [], []⟩,
  ⟨("_law_of", none), "_law_of", "_law_of", defArgs (top 17), defBody (top 17), defScope (top 17), [], []⟩,
  ⟨("_law_debts", none), "_law_debts", "_law_debts", defArgs (top 18), defBody (top 18), defScope (top 18), [], []⟩,
  ⟨("_law_text", none), "_law_text", "_law_text", defArgs (top 19), defBody (top 19), defScope (top 19), [], []⟩,
  ⟨("_law_read", none), "_law_read", "_law_read", defArgs (top 20), defBody (top 20), defScope (top 20), [], []⟩,
  ⟨("_law_is_line", none), "_law_is_line", "_law_is_line", defArgs (top 21), defBody (top 21), defScope (top 21), [], []⟩,
  ⟨("_law_spoilt", none), "_law_spoilt", "_law_spoilt", defArgs (top 22), defBody (top 22), defScope (top 22), [], []⟩,
  ⟨("law", none), "law", "law", defArgs (top 23), defBody (top 23), defScope (top 23), [], []⟩]
def hfa : List He.Fa := [.glo "is_number", .glo "is_tuple", .glo "is_row", .glo "are_good_debts", .glo "is_debts", .glo "row_in", .glo "debts_in", .glo "read_debts", .glo "_law_source", .glo "_law_draw", .glo "_law_of", .glo "_law_debts", .glo "_law_text", .glo "_law_read", .glo "_law_is_line", .glo "_law_spoilt", .glo "law", .free "abs", .free "all", .free "any", .free "bool", .free "dict", .free "enumerate", .free "int", .free "isinstance", .free "len", .free "list", .free "max", .free "min", .free "range", .free "sorted", .free "str", .free "sum", .free "tuple", .free "zip", .glo "NUMBERS", .glo "InvalidText", .glo "OweError", .free "super"]
def hx0 : List Str := ["is_number", "is_tuple", "is_row", "are_good_debts", "is_debts", "row_in", "debts_in", "read_debts", "_law_source", "_law_draw", "_law_of", "_law_debts", "_law_text", "_law_read", "_law_is_line", "_law_spoilt", "law", "NUMBERS", "InvalidText", "OweError"]
def hfs : List DefS := [⟨"InvalidText", "line", "__init__", "InvalidText.__init__", (clsStmt (top 2) 0)⟩]
def mf : Str := (PySem.Challenge.rw_handsowing_k15_texts_spoilt.prog.main.file : Str)
def hxs : List Str := hx0
def hex (K : PySem.W.Frag) : Bool := tupD K "NUMBERS" [.str "0", .str "1", .str "2", .str "3", .str "4", .str "5", .str "6", .str "7", .str "8", .str "9", .str "10", .str "11", .str "12"] && (tupN K "NUMBERS" && (He.tupB K "NUMBERS" [.str "0", .str "1", .str "2", .str "3", .str "4", .str "5", .str "6", .str "7", .str "8", .str "9", .str "10", .str "11", .str "12"] && tryB K "InvalidText" "OweError" "line"))
def lo0 : List PySem.Str := ["__name__", "OweError", "InvalidText", "is_number", "is_tuple", "is_row", "are_good_debts", "is_debts", "NUMBERS", "row_in", "debts_in", "read_debts", "_law_source", "_law_draw", "_law_of", "_law_debts", "_law_text", "_law_read", "_law_is_line", "_law_spoilt"]
def loose : List PySem.Str := lo0
abbrev RR : PySem.W.OpenRow := PySem.W.OpenLaw.row PySem.Challenge.rw_handsowing_k15_texts_spoilt
abbrev hk : PySem.W.Hook := hookS mf hxs ["InvalidText", "OweError"] hfa hfn hfs hex
def ob (s : PySem.W.SharedT) : He.AlD := obsSG mf hxs ["InvalidText", "OweError"] hfa hfn hfs hex (HandSHeadRun.getT s)
theorem ob_eq (s : PySem.W.SharedT) : ob s = hk.obs s.abs := obsSG_eq (HandSHeadRun.getT_eq s)
theorem run (w : World) : HandSHeadRun.RunEq RR (PySem.W.view RR.prog [23]) hk ob 20000 loose w := by
  intro os
  kernel_rfl
end PD
set_option maxRecDepth 100000
set_option maxHeartbeats 4000000
namespace PD
open PySem PySem.Spec PyProof.Rows L2

/-! ## plain laws: running -/
@[simp] theorem R.bind_ok {α β : Type} {a : α} {s : Store} {f : α → Store → R β} : (R.ok a s).bind f = f a s := rfl
@[simp] theorem R.opt_some {α : Type} {a : α} {s : Store} : R.opt (some a) s = .ok a s := rfl
@[simp] theorem R.opt_none {α : Type} {s : Store} : (R.opt none s : R α) = .bad := rfl
@[simp] theorem R.bind_bad {α β : Type} {f : α → Store → R β} : (R.bad : R α).bind f = .bad := rfl
@[simp] theorem toB_bl (b : Bool) (s : Store) : toB (.bl b) s = .ok b s := rfl
@[simp] theorem toI_int (i : Int) (s : Store) : toI (.int i) s = .ok (some i) s := rfl
@[simp] theorem endD_nx (Γ : Env) (s : Store) : endD (.ok (.nx Γ) s) = .ok .non s := rfl
@[simp] theorem endD_rt (d : D) (s : Store) : endD (.ok (.rt d) s) = .ok d s := rfl
@[simp] theorem endO_ro (d : List D) (s : Store) : endO (.ok (.ro d) s) = .ok d s := rfl
theorem mFn_run (n : Nat) (b : MS) (ds : List D) (s : Store) : mFn n b ds s = endD (b (startE n ds) s) := rfl
theorem mFnO_run (n : Nat) (b : MS) (ds : List D) (s : Store) : mFnO n b ds s = endO (b (startE n ds) s) := rfl
@[simp] theorem few_ok (f : List D → D) (ds : List D) (h : ds.length ≤ 100000) : few f ds = some (f ds) := if_pos h
@[simp] theorem setAllE_c (i : Nat) (is : List Nat) (x : SV) (xs : List SV) (Γ : Env) : setAllE (i :: is) (x :: xs) Γ = setAllE is xs (Γ.set i x) := rfl
@[simp] theorem setAllE_n (xs : List SV) (Γ : Env) : setAllE [] xs Γ = Γ := by cases xs <;> rfl
@[simp] theorem bindT_nm (i : Nat) (d : D) (Γ : Env) : bindT (.nm i) d Γ = some (Γ.set i (.dat d)) := by simp only [bindT]
@[simp] theorem bindT_tp (ts : List Tg) (ds : List D) (Γ : Env) : bindT (.tp ts) (.tup ds) Γ = bindTs ts ds Γ := by simp only [bindT]
@[simp] theorem bindTs_nil (Γ : Env) : bindTs [] [] Γ = some Γ := by simp only [bindTs]
@[simp] theorem bindTs_cons (t : Tg) (ts : List Tg) (d : D) (ds : List D) (Γ : Env) : bindTs (t :: ts) (d :: ds) Γ = (bindT t d Γ).bind fun Γ1 => bindTs ts ds Γ1 := by simp only [bindTs]
@[simp] theorem wipeE_nil (Γ : Env) : wipeE Γ [] = Γ := rfl
@[simp] theorem wipeE_cons (Γ : Env) (v : Nat) (vs : List Nat) : wipeE Γ (v :: vs) = (wipeE Γ vs).set v .nul := rfl
@[simp] theorem mVar_run (i : Nat) (Γ : Env) (s : Store) : mVar i Γ s = (match Γ[i]? with | some (.dat d) => .ok d s | _ => .bad) := rfl
@[simp] theorem mPeek_run (i : Nat) (Γ : Env) (s : Store) : mPeek i Γ s = (match Γ[i]? with | some (.dat d) => .ok d s | some (.own ds) => .ok (.lst ds) s | _ => .bad) := rfl
@[simp] theorem mCon_run (d : D) (Γ : Env) (s : Store) : mCon d Γ s = (.ok d s) := rfl
@[simp] theorem mOp_run (f : D → D → Option D) (a b : Env → M D) (Γ : Env) (s : Store) : mOp f a b Γ s = ((a Γ s).bind fun d1 s1 => (b Γ s1).bind fun d2 s2 => R.opt (f d1 d2) s2) := rfl
@[simp] theorem mOp1_run (f : D → Option D) (a : Env → M D) (Γ : Env) (s : Store) : mOp1 f a Γ s = ((a Γ s).bind fun d1 s1 => R.opt (f d1) s1) := rfl
@[simp] theorem mSd_run (m : Env → M D) (Γ : Env) (s : Store) : mSd m Γ s = ((m Γ s).bind fun d s1 => .ok (.dat d) s1) := rfl
@[simp] theorem mSo_run (m : Env → M (List D)) (Γ : Env) (s : Store) : mSo m Γ s = ((m Γ s).bind fun d s1 => .ok (.own d) s1) := rfl
@[simp] theorem mRnil_run  (Γ : Env) (s : Store) : mRnil Γ s = (.ok [] s) := rfl
@[simp] theorem mRcons_run (m : Env → M SV) (n : Env → M (List SV)) (Γ : Env) (s : Store) : mRcons m n Γ s = ((m Γ s).bind fun d s1 => (n Γ s1).bind fun ds s2 => .ok (d :: ds) s2) := rfl
@[simp] theorem mNil_run  (Γ : Env) (s : Store) : mNil Γ s = (.ok [] s) := rfl
@[simp] theorem mCons_run (m : Env → M D) (n : Env → M (List D)) (Γ : Env) (s : Store) : mCons m n Γ s = ((m Γ s).bind fun d s1 => (n Γ s1).bind fun ds s2 => .ok (d :: ds) s2) := rfl
@[simp] theorem mTest_run (m : Env → M D) (Γ : Env) (s : Store) : mTest m Γ s = ((m Γ s).bind toB) := rfl
@[simp] theorem mNotT_run (m : Env → M Bool) (Γ : Env) (s : Store) : mNotT m Γ s = ((m Γ s).bind fun b s1 => .ok (!b) s1) := rfl
@[simp] theorem mAndT_run (m n : Env → M Bool) (Γ : Env) (s : Store) : mAndT m n Γ s = ((m Γ s).bind fun b s1 => match b with | true => n Γ s1 | false => .ok false s1) := rfl
@[simp] theorem mOrT_run (m n : Env → M Bool) (Γ : Env) (s : Store) : mOrT m n Γ s = ((m Γ s).bind fun b s1 => match b with | true => .ok true s1 | false => n Γ s1) := rfl
@[simp] theorem mIte_run (c : Env → M Bool) (m n : Env → M D) (Γ : Env) (s : Store) : mIte c m n Γ s = ((c Γ s).bind fun b s1 => match b with | true => m Γ s1 | false => n Γ s1) := rfl
@[simp] theorem mTup_run (m : Env → M (List D)) (Γ : Env) (s : Store) : mTup m Γ s = ((m Γ s).bind fun ds s1 => R.opt (few .tup ds) s1) := rfl
@[simp] theorem mLst_run (m : Env → M (List D)) (Γ : Env) (s : Store) : mLst m Γ s = ((m Γ s).bind fun ds s1 => R.opt (few .lst ds) s1) := rfl
@[simp] theorem mBlt_run (f : List D → Option D) (m : Env → M (List D)) (Γ : Env) (s : Store) : mBlt f m Γ s = ((m Γ s).bind fun ds s1 => R.opt (f ds) s1) := rfl
@[simp] theorem mIx_run (a b : Env → M D) (Γ : Env) (s : Store) : mIx a b Γ s = ((a Γ s).bind fun d1 s1 => (b Γ s1).bind fun d2 s2 => R.opt (fIx (s2.deref d1) d2) s2) := rfl
@[simp] theorem mPar_run (is : List Nat) (m : Env → M (List SV)) (Γ : Env) (s : Store) : mPar is m Γ s = ((m Γ s).bind fun xs s1 => if xs.length = is.length then .ok (.nx (setAllE is xs Γ)) s1 else .bad) := rfl
@[simp] theorem mAsg_run (i : Nat) (m : Env → M SV) (Γ : Env) (s : Store) : mAsg i m Γ s = ((m Γ s).bind fun x s1 => .ok (.nx (Γ.set i x)) s1) := rfl
@[simp] theorem mSeq_run (m n : MS) (Γ : Env) (s : Store) : mSeq m n Γ s = ((m Γ s).bind fun o s1 => match o with | .nx Γ1 => n Γ1 s1 | o => .ok o s1) := rfl
@[simp] theorem mIf_run (c : Env → M Bool) (m n : MS) (Γ : Env) (s : Store) : mIf c m n Γ s = ((c Γ s).bind fun b s1 => match b with | true => m Γ s1 | false => n Γ s1) := rfl
@[simp] theorem mRet_run (m : Env → M D) (Γ : Env) (s : Store) : mRet m Γ s = ((m Γ s).bind fun d s1 => .ok (.rt d) s1) := rfl
@[simp] theorem mRetN_run  (Γ : Env) (s : Store) : mRetN Γ s = (.ok (.rt .non) s) := rfl
@[simp] theorem mNext_run  (Γ : Env) (s : Store) : mNext Γ s = (.ok (.nx Γ) s) := rfl
@[simp] theorem mRetV_run (i : Nat) (Γ : Env) (s : Store) : mRetV i Γ s = (match Γ[i]? with | some (.dat d) => .ok (.rt d) s | some (.own ds) => .ok (.rt (.lst ds)) s | _ => .bad) := rfl
@[simp] theorem mRetVO_run (i : Nat) (Γ : Env) (s : Store) : mRetVO i Γ s = (match Γ[i]? with | some (.own ds) => .ok (.ro ds) s | _ => .bad) := rfl
@[simp] theorem mRetO_run (m : Env → M (List D)) (Γ : Env) (s : Store) : mRetO m Γ s = ((m Γ s).bind fun d s1 => .ok (.ro d) s1) := rfl
@[simp] theorem mUnp_run (t : Tg) (m : Env → M D) (Γ : Env) (s : Store) : mUnp t m Γ s = ((m Γ s).bind fun d s1 => match bindT t d Γ with | none => .bad | some Γ1 => .ok (.nx Γ1) s1) := rfl
@[simp] theorem mDrop_run (m : Env → M D) (Γ : Env) (s : Store) : mDrop m Γ s = ((m Γ s).bind fun _ s1 => .ok (.nx Γ) s1) := rfl
@[simp] theorem mCall_run (n : Nat) (f : List D → Store → R D) (m : Env → M (List D)) (Γ : Env) (s : Store) : mCall n f m Γ s = ((m Γ s).bind fun ds s1 => if ds.length = n then f ds s1 else .bad) := rfl
@[simp] theorem mCallO_run (n : Nat) (f : List D → Store → R (List D)) (m : Env → M (List D)) (Γ : Env) (s : Store) : mCallO n f m Γ s = ((m Γ s).bind fun ds s1 => if ds.length = n then f ds s1 else .bad) := rfl
@[simp] theorem mItems_run (m : Env → M D) (Γ : Env) (s : Store) : mItems m Γ s = ((m Γ s).bind fun d s1 => R.opt (fItems d) s1) := rfl
@[simp] theorem mRng_run (f : List D → Option (List D)) (m : Env → M (List D)) (Γ : Env) (s : Store) : mRng f m Γ s = ((m Γ s).bind fun ds s1 => R.opt (f ds) s1) := rfl
@[simp] theorem mFrz_run (m : Env → M (List D)) (Γ : Env) (s : Store) : mFrz m Γ s = ((m Γ s).bind fun ds s1 => .ok (.lst ds) s1) := rfl
@[simp] theorem mLcL_run (mi : Env → M (List D)) (t : Tg) (c : Env → M Bool) (e : Env → M D) (o : List Nat) (Γ : Env) (s : Store) : mLcL mi t c e o Γ s = ((mi Γ s).bind fun ds s1 => if ds.length ≤ 100000 then lcGo t c e (wipeE Γ o) ds s1 else .bad) := rfl
@[simp] theorem mFor_run (mi : Env → M (List D)) (t : Tg) (b : MS) (Γ : Env) (s : Store) : mFor mi t b Γ s = ((mi Γ s).bind fun ds s1 => forGo t b ds Γ s1) := rfl
@[simp] theorem mNoPart_run  (Γ : Env) (s : Store) : mNoPart Γ s = (.ok none s) := rfl
@[simp] theorem mPart_run (m : Env → M D) (Γ : Env) (s : Store) : mPart m Γ s = ((m Γ s).bind toI) := rfl
@[simp] theorem mSl_run (m : Env → M D) (a b : Env → M (Option Int)) (Γ : Env) (s : Store) : mSl m a b Γ s = ((m Γ s).bind fun d s1 => (a Γ s1).bind fun lo s2 => (b Γ s2).bind fun hi s3 => R.opt (fSl d lo hi) s3) := rfl
@[simp] theorem mApp_run (i : Nat) (m : Env → M D) (Γ : Env) (s : Store) : mApp i m Γ s = (match Γ[i]? with | some (.own ds) => (m Γ s).bind fun d s1 => if ds.length < 100000 then .ok (.nx (Γ.set i (.own (ds ++ [d])))) s1 else .bad | _ => .bad) := rfl
@[simp] theorem mGhost_run (i : Nat) (m : MS) (Γ : Env) (s : Store) : mGhost i m Γ s = (m (frzE i Γ) s) := rfl
@[simp] theorem mCell_run (i : Nat) (m : Env → M (List D)) (Γ : Env) (s : Store) : mCell i m Γ s = ((m Γ s).bind fun ds s1 => .ok (.nx (Γ.set i (.dat (.cel s1.length)))) (s1 ++ [.lst ds])) := rfl
@[simp] theorem mLR_run (m : Env → M (List D)) (Γ : Env) (s : Store) : mLR m Γ s = ((m Γ s).bind fun ds s1 => R.opt (fLR ds) s1) := rfl
@[simp] theorem mTR_run (m : Env → M (List D)) (Γ : Env) (s : Store) : mTR m Γ s = ((m Γ s).bind fun ds s1 => R.opt ((fLR ds).map .tup) s1) := rfl
@[simp] theorem mLstO_run (m : Env → M (List D)) (Γ : Env) (s : Store) : mLstO m Γ s = ((m Γ s).bind fun ds s1 => if ds.length ≤ 100000 then .ok ds s1 else .bad) := rfl
@[simp] theorem mYes_run  (Γ : Env) (s : Store) : mYes Γ s = (.ok true s) := rfl
@[simp] theorem mBad_run  (Γ : Env) (s : Store) : mBad Γ s = (.bad) := rfl
theorem run_while_ok {c : Env → M Bool} {b : MS} {n : Nat} {Γ Γ1 : Env} {s s1 s2 : Store} (hc : c Γ s = .ok true s1) (hb : b Γ s1 = .ok (.nx Γ1) s2) : mWhile c b (n + 1) Γ s = mWhile c b n Γ1 s2 := by
  rw [mWhile_succ, hc]
  show (b Γ s1).bind _ = _
  rw [hb]; rfl
theorem run_while_end {c : Env → M Bool} {b : MS} {n : Nat} {Γ : Env} {s s1 : Store} (hc : c Γ s = .ok false s1) : mWhile c b (n + 1) Γ s = .ok (.nx Γ) s1 := by
  rw [mWhile_succ, hc]; rfl
/-- a loop as a fold: Γ of the state -/
theorem run_for {τ : Type} {tg : Tg} {b : MS} {s : Store} (E : τ → Env) (f : τ → D → τ) (ok : τ → List D → Prop) : ∀ (ds : List D) (a : τ), ok a ds → (∀ a d ds, ok a (d :: ds) → ok (f a d) ds ∧ ∃ Γ1, bindT tg d (E a) = some Γ1 ∧ b Γ1 s = .ok (.nx (E (f a d))) s) → forGo tg b ds (E a) s = .ok (.nx (E (ds.foldl f a))) s
  | [], a, _, _ => rfl
  | d :: ds, a, h, st => by
    obtain ⟨h1, Γ1, h2, h3⟩ := st a d ds h
    show (match bindT tg d (E a) with
      | none => R.bad
      | some Γ1 => (b Γ1 s).bind fun o s2 => match o with
        | .nx Γ2 => forGo tg b ds Γ2 s2
        | .ct Γ2 => forGo tg b ds Γ2 s2
        | .bk Γ2 => .ok (.nx Γ2) s2
        | o => .ok o s2) = _
    rw [h2]
    show (b Γ1 s).bind _ = _
    rw [h3]
    exact run_for E f ok ds (f a d) h1 st
/-- a comprehension as a map (no test) -/
theorem run_lc {tg : Tg} {me : Env → M D} {Γ : Env} {s : Store} (g : D → D) : ∀ ds : List D, (∀ d ∈ ds, ∃ Γ1, bindT tg d Γ = some Γ1 ∧ me Γ1 s = .ok (g d) s) → lcGo tg mYes me Γ ds s = .ok (ds.map g) s
  | [], _ => rfl
  | d :: ds, h => by
    obtain ⟨Γ1, h1, h2⟩ := h d List.mem_cons_self
    unfold lcGo
    rw [h1]
    show (me Γ1 s).nox.bind _ = _
    rw [h2]
    show (lcGo tg mYes me Γ ds s).bind _ = _
    rw [run_lc g ds fun e he => h e (List.mem_cons_of_mem _ he)]
    rfl
/-- .. with a test -/
theorem run_lcf {tg : Tg} {mc : Env → M Bool} {me : Env → M D} {Γ : Env} {s : Store} (t : D → Bool) (g : D → D) : ∀ ds : List D, (∀ d ∈ ds, ∃ Γ1, bindT tg d Γ = some Γ1 ∧ mc Γ1 s = .ok (t d) s ∧ (t d = true → me Γ1 s = .ok (g d) s)) → lcGo tg mc me Γ ds s = .ok ((ds.filter t).map g) s
  | [], _ => rfl
  | d :: ds, h => by
    obtain ⟨Γ1, h1, h2, h3⟩ := h d List.mem_cons_self
    have ih := run_lcf t g ds fun e he => h e (List.mem_cons_of_mem _ he)
    unfold lcGo
    rw [h1]
    show (mc Γ1 s).nox.bind _ = _
    rw [h2]
    cases ht : t d with
    | true =>
      show (me Γ1 s).nox.bind _ = _
      rw [h3 ht]
      show (lcGo tg mc me Γ ds s).bind _ = _
      rw [ih, List.filter_cons, ht]
      rfl
    | false =>
      show lcGo tg mc me Γ ds s = _
      rw [ih, List.filter_cons, ht]
      rfl
/-! ### operations on ints -/
section
variable {i j : Int} {k : Nat}
@[simp] theorem fAdd_ii : fAdd (.int i) (.int j) = some (.int (i + j)) := rfl
@[simp] theorem fSub_ii : fSub (.int i) (.int j) = some (.int (i - j)) := rfl
theorem fMul_ii (h : i.natAbs.log2 + j.natAbs.log2 < 1000000) : fMul (.int i) (.int j) = some (.int (i * j)) := if_pos h
theorem fDiv_ii (h : 0 < j) (h2 : j.natAbs.log2 < 9000) : fDiv (.int i) (.int j) = some (.int (i / j)) := if_pos ⟨h, h2⟩
theorem fMod_ii (h : 0 < j) : fMod (.int i) (.int j) = some (.int (i % j)) := if_pos h
@[simp] theorem fNeg_i : fNeg (.int i) = some (.int (-i)) := rfl
@[simp] theorem fLt_ii : fLt (.int i) (.int j) = some (.bl (decide (i < j))) := rfl
@[simp] theorem fLe_ii : fLe (.int i) (.int j) = some (.bl (decide (i ≤ j))) := rfl
@[simp] theorem fGt_ii : fGt (.int i) (.int j) = some (.bl (decide (j < i))) := rfl
@[simp] theorem fGe_ii : fGe (.int i) (.int j) = some (.bl (decide (j ≤ i))) := rfl
@[simp] theorem fEq_ii : fEq (.int i) (.int j) = some (.bl (i == j)) := by
  unfold fEq; rw [if_pos (by simp [D.fine])]; rfl
@[simp] theorem fNe_ii : fNe (.int i) (.int j) = some (.bl (!(i == j))) := by
  unfold fNe; rw [if_pos (by simp [D.fine])]; rfl
@[simp] theorem fAbs_i : fAbs [.int i] = some (.int i.natAbs) := by
  unfold fAbs
  show some (D.int (if i < 0 then -i else i)) = _
  congr 2
  split <;> omega
@[simp] theorem fMax_ii : fMax [.int i, .int j] = some (.int (if j > i then j else i)) := rfl
@[simp] theorem fMin_ii : fMin [.int i, .int j] = some (.int (if j < i then j else i)) := rfl
@[simp] theorem fInt_i : fInt [.int i] = some (.int i) := rfl
end
end PD
set_option maxRecDepth 100000
set_option maxHeartbeats 4000000
namespace PD
open PySem PySem.Spec PyProof.Rows L2

/-! ### the greatest divisor -/
def eL (xs : List Int) : D := .lst (xs.map .int)
@[simp] theorem fItems_eL (xs : List Int) : fItems (eL xs) = some (xs.map .int) := rfl
def gcdL (xs : List Int) : Nat := xs.foldl (fun g x => Nat.gcd g x.natAbs) 0
def part (xs : List Int) : Nat := if gcdL xs > 0 then gcdL xs else 1
abbrev gcdC : Env → M Bool := mTest (mOp fGt (mPeek 4) (mCon (.int 0)))
abbrev gcdB : MS := mPar [3, 4] (mRcons (mSd (mVar 4)) (mRcons (mSd (mOp fMod (mPeek 3) (mPeek 4))) mRnil))
theorem gcd_step {x0 x1 x2 : SV} {a b : Nat} {s : Store} (hb : 0 < b) : gcdB [x0, x1, x2, .dat (.int a), .dat (.int b)] s = .ok (.nx [x0, x1, x2, .dat (.int b), .dat (.int ((a % b : Nat) : Int))]) s := by
  have e : fMod (.int (a : Int)) (.int (b : Int)) = some (.int ((a % b : Nat) : Int)) := by
    rw [fMod_ii (by omega)]; rfl
  simp [gcdB, e]
theorem gcd_test {x0 x1 x2 x3 : SV} {b : Nat} {s : Store} : gcdC [x0, x1, x2, x3, .dat (.int b)] s = .ok (decide (0 < b)) s := by
  simp [gcdC]
theorem gcd_loop {x0 x1 x2 : SV} {s : Store} : ∀ (n m : Nat) (a b : Nat), b < 2 ^ n → 2 * n + 1 ≤ m → mWhile gcdC gcdB m [x0, x1, x2, .dat (.int a), .dat (.int b)] s = .ok (.nx [x0, x1, x2, .dat (.int (Nat.gcd a b)), .dat (.int 0)]) s
  | 0, m + 1, a, b, h, hm => by
    have : b = 0 := by simpa using h
    subst this
    rw [run_while_end (gcd_test (b := 0))]
    simp
  | n + 1, m + 1, a, b, h, hm => by
    by_cases hb : b = 0
    · subst hb
      rw [run_while_end (gcd_test (b := 0))]
      simp
    · rw [run_while_ok (s1 := s) (by rw [gcd_test]; simp; omega) (gcd_step (by omega))]
      cases m with
      | zero => omega
      | succ m =>
        by_cases hr : a % b = 0
        · rw [hr, run_while_end (gcd_test (b := 0))]
          rw [Nat.gcd_comm a b, Nat.gcd_rec b a, hr, Nat.gcd_zero_left]
          rfl
        · rw [run_while_ok (s1 := s) (by rw [gcd_test]; simp; omega) (gcd_step (by omega))]
          have h1 : a % b < b := Nat.mod_lt _ (by omega)
          have h2 : b % (a % b) < a % b := Nat.mod_lt _ (by omega)
          have h3 : b % (a % b) ≤ b - a % b := by
            rw [Nat.mod_eq_sub_mod (Nat.le_of_lt h1)]
            exact Nat.mod_le _ _
          rw [gcd_loop n m (a % b) (b % (a % b)) (by rw [Nat.pow_succ] at h; omega) (by omega)]
          have e : Nat.gcd (a % b) (b % (a % b)) = Nat.gcd a b := by
            rw [Nat.gcd_comm a b, Nat.gcd_rec b a, Nat.gcd_rec (a % b) b, Nat.gcd_comm]
          rw [e]
theorem wfuel_big : 2 * 900000 + 1 ≤ wfuel := by unfold wfuel; decide
theorem lt_of_log {x : Nat} {n : Nat} (h : x.log2 < n) : x < 2 ^ n := Nat.lt_of_lt_of_le Nat.lt_log2_self (Nat.pow_le_pow_right (by decide) h)
abbrev divB : MS := mSeq (mPar [3, 4] (mRcons (mSd (mVar 1)) (mRcons (mSd (mBlt fAbs (mCons (mPeek 2) mNil))) mRnil))) (mSeq (mWhile gcdC gcdB wfuel) (mAsg 1 (mSd (mVar 3))))
theorem div_loop {x0 : SV} {s : Store} : ∀ (xs : List Int) (g : Nat) (x2 x3 x4 : SV), (∀ x ∈ xs, x.natAbs.log2 < 900000) → ∃ y2 y3 y4, forGo (.nm 2) divB (xs.map .int) [x0, .dat (.int g), x2, x3, x4] s = .ok (.nx [x0, .dat (.int ((xs.foldl (fun g x => Nat.gcd g x.natAbs) g : Nat) : Int)), y2, y3, y4]) s
  | [], g, x2, x3, x4, _ => ⟨x2, x3, x4, rfl⟩
  | x :: xs, g, x2, x3, x4, h => by
    obtain ⟨y2, y3, y4, ih⟩ := div_loop (x0 := x0) (s := s) xs (Nat.gcd g x.natAbs) (.dat (.int x)) (.dat (.int (Nat.gcd g x.natAbs))) (.dat (.int 0)) fun z hz => h z (List.mem_cons_of_mem _ hz)
    refine ⟨y2, y3, y4, ?_⟩
    have st : divB [x0, .dat (.int g), .dat (.int x), x3, x4] s = .ok (.nx [x0, .dat (.int (Nat.gcd g x.natAbs)), .dat (.int x), .dat (.int (Nat.gcd g x.natAbs)), .dat (.int 0)]) s := by
      have e := gcd_loop (x0 := x0) (x1 := .dat (.int g)) (x2 := .dat (.int x)) (s := s) 900000 wfuel g x.natAbs (lt_of_log (h x List.mem_cons_self)) wfuel_big
      simp only [divB, mSeq_run, mPar_run, mRcons_run, mSd_run, mVar_run, mBlt_run, mCons_run, mPeek_run, mNil_run, mRnil_run, mAsg_run]
      simp [e]
    rw [List.map_cons]
    show (match bindT (.nm 2) (.int x) [x0, .dat (.int g), x2, x3, x4] with
      | none => R.bad
      | some Γ1 => (divB Γ1 s).bind _) = _
    simp only [bindT, List.set_cons_succ, List.set_cons_zero]
    rw [st]
    exact ih
theorem part_if {xs : List Int} : (if (gcdL xs : Int) > 0 then ((gcdL xs : Nat) : Int) else 1) = (part xs : Int) := by
  unfold part
  by_cases h : gcdL xs > 0
  · rw [if_pos h, if_pos (by omega)]
  · rw [if_neg h, if_neg (by omega)]; rfl
theorem part_pos {xs : List Int} : 0 < part xs := by
  unfold part; split <;> omega
theorem gcdL_dvd {xs : List Int} : ∀ {g : Nat}, ((xs.foldl (fun g x => Nat.gcd g x.natAbs) g) ∣ g) ∧ ∀ x ∈ xs, ((xs.foldl (fun g x => Nat.gcd g x.natAbs) g : Nat) : Int) ∣ x := by
  induction xs with
  | nil => intro g; exact ⟨Nat.dvd_refl _, fun x h => nomatch h⟩
  | cons y ys ih =>
    intro g
    obtain ⟨h1, h2⟩ := ih (g := Nat.gcd g y.natAbs)
    refine ⟨Nat.dvd_trans h1 (Nat.gcd_dvd_left _ _), fun x hx => ?_⟩
    rcases List.mem_cons.mp hx with rfl | hx
    · exact Int.dvd_trans (Int.ofNat_dvd.mpr (Nat.dvd_trans h1 (Nat.gcd_dvd_right _ _))) Int.natAbs_dvd_self
    · exact h2 x hx
theorem part_dvd {xs : List Int} {x : Int} (hx : x ∈ xs) : (part xs : Int) ∣ x := by
  unfold part
  split
  · exact (gcdL_dvd (g := 0)).2 x hx
  · exact Int.one_dvd x

/-! ### a row, neat -/
def neatL (xs : List Int) : List Int := xs.map fun x => x / (part xs : Int)
end PD
set_option maxRecDepth 100000
set_option maxHeartbeats 4000000
set_option exponentiation.threshold 20
namespace PD
open PySem PySem.Spec PyProof.Rows L2

/-! ### numbers in lists -/
@[simp] theorem deref_eL (s : Store) (xs : List Int) : s.deref (eL xs) = eL xs := rfl
theorem atI_nat {α : Type} {xs : List α} {k : Nat} (h : k < xs.length) : atI xs (k : Int) = some xs[k] := by
  unfold atI ixN
  rw [if_pos (by omega), if_pos (by omega)]
  simp [h]
theorem atI_last {α : Type} {xs : List α} (h : 0 < xs.length) : atI xs (-1) = some xs[xs.length - 1] := by
  unfold atI ixN
  rw [if_neg (by omega), if_pos (by omega)]
  have : (-1 + (xs.length : Int)).toNat = xs.length - 1 := by omega
  simp [this]
def nth (xs : List Int) (k : Nat) : Int := xs.getD k 0
def lastD (xs : List Int) : Int := nth xs (xs.length - 1)
theorem fIx_nat {xs : List Int} {k : Nat} (h : k < xs.length) : fIx (eL xs) (.int (k : Int)) = some (.int (nth xs k)) := by
  show atI (xs.map D.int) (k : Int) = _
  rw [atI_nat (by simpa using h)]
  simp [nth, List.getElem?_eq_getElem h]
theorem fIx_last {xs : List Int} (h : 0 < xs.length) : fIx (eL xs) (.int (-1)) = some (.int (lastD xs)) := by
  show atI (xs.map D.int) (-1) = _
  rw [atI_last (by simpa using h)]
  unfold lastD nth
  simp [List.getElem?_eq_getElem (show xs.length - 1 < xs.length by omega)]
theorem zipD_map : ∀ {xs ys : List Int}, zipD (xs.map .int) (ys.map .int) = (xs.zip ys).map fun p => .tup [.int p.1, .int p.2]
  | [], _ => by simp [zipD]
  | _ :: _, [] => by simp [zipD]
  | x :: xs, y :: ys => by simp [zipD, zipD_map]
@[simp] theorem fZip_eL (xs ys : List Int) : fZip [eL xs, eL ys] = some ((xs.zip ys).map fun p => .tup [.int p.1, .int p.2]) := by
  show some (zipD (xs.map D.int) (ys.map D.int)) = _
  rw [zipD_map]
/-! ### sizes -/
def Sm (x : Int) : Prop := x.natAbs.log2 < 4000
def SmL (xs : List Int) : Prop := ∀ x ∈ xs, Sm x
theorem SmL.get {xs : List Int} (h : SmL xs) (k : Nat) : Sm (nth xs k) := by
  unfold nth
  by_cases hk : k < xs.length
  · rw [List.getD_eq_getElem?_getD, List.getElem?_eq_getElem hk]
    exact h _ (List.getElem_mem hk)
  · rw [List.getD_eq_getElem?_getD, List.getElem?_eq_none (by omega)]
    show (0 : Int).natAbs.log2 < 4000
    decide
theorem log_lt {x n : Nat} (hn : 0 < n) (h : x < 2 ^ n) : x.log2 < n := by
  by_cases h0 : x = 0
  · subst h0; simpa using hn
  · exact (Nat.log2_lt h0).mpr h
theorem mul_log {a b : Int} {n m : Nat} (ha : a.natAbs.log2 < n) (hb : b.natAbs.log2 < m) : (a * b).natAbs.log2 < n + m := by
  refine log_lt (by omega) ?_
  rw [Int.natAbs_mul, Nat.pow_add]
  exact Nat.mul_lt_mul'' (lt_of_log ha) (lt_of_log hb)
theorem sub_log {a b : Int} {n : Nat} (ha : a.natAbs.log2 < n) (hb : b.natAbs.log2 < n) : (a - b).natAbs.log2 < n + 1 := by
  refine log_lt (by omega) ?_
  have h1 := lt_of_log ha
  have h2 := lt_of_log hb
  rw [Nat.pow_succ]
  omega
theorem comb_log {a b c d : Int} (ha : Sm a) (hb : Sm b) (hc : Sm c) (hd : Sm d) : (a * b - c * d).natAbs.log2 < 8001 := sub_log (n := 8000) (mul_log (n := 4000) (m := 4000) ha hb) (mul_log (n := 4000) (m := 4000) hc hd)
theorem fMul_sm {i j : Int} (hi : Sm i) (hj : Sm j) : fMul (.int i) (.int j) = some (.int (i * j)) := by
  refine fMul_ii ?_
  unfold Sm at hi hj
  omega
theorem natAbs_le_log {a b : Nat} (h : a ≤ b) : a.log2 ≤ b.log2 := by
  by_cases hb : b = 0
  · subst hb
    have : a = 0 := by omega
    subst this; exact Nat.le_refl _
  · have h1 := Nat.lt_log2_self (n := b)
    have h2 : a < 2 ^ (b.log2 + 1) := by omega
    have := log_lt (n := b.log2 + 1) (by omega) h2
    omega
/-! ### a row without an unknown -/
def comb (line pivot : List Int) (k : Nat) : List Int := (line.zip pivot).map fun p => p.1 * nth pivot k - p.2 * nth line k
def clr (line pivot : List Int) (k : Nat) : List Int := if nth line k = 0 then line else neatL (comb line pivot k)
theorem comb_sm {line pivot : List Int} {k : Nat} (h1 : SmL line) (h2 : SmL pivot) : ∀ x ∈ comb line pivot k, x.natAbs.log2 < 8001 := fun x hx => by
  unfold comb at hx
  obtain ⟨p, hp, rfl⟩ := List.mem_map.mp hx
  obtain ⟨a, b⟩ := p
  obtain ⟨ha, hb⟩ := List.of_mem_zip hp
  exact comb_log (h1 a ha) (h2.get k) (h2 b hb) (h1.get k)
theorem part_log {xs : List Int} {n : Nat} (hn : 1 < n) (h : ∀ x ∈ xs, x.natAbs.log2 < n) : (part xs).log2 < n := by
  by_cases hz : ∃ x ∈ xs, x ≠ 0
  · obtain ⟨x, hx, h0⟩ := hz
    have hd := part_dvd hx
    have hle : part xs ≤ x.natAbs := by
      have := Int.natAbs_dvd_natAbs.mpr hd
      simpa using Nat.le_of_dvd (by omega) this
    exact Nat.lt_of_le_of_lt (natAbs_le_log hle) (h x hx)
  · have : gcdL xs = 0 := by
      have hz' : ∀ x ∈ xs, x = 0 := fun x hx => Classical.byContradiction fun q => hz ⟨x, hx, q⟩
      unfold gcdL
      clear h hz
      induction xs with
      | nil => rfl
      | cons y ys ih =>
        have := hz' y List.mem_cons_self
        subst this
        simpa using ih fun x hx => hz' x (List.mem_cons_of_mem _ hx)
    unfold part
    rw [this, if_neg (by omega)]
    show Nat.log2 1 < n
    have : Nat.log2 1 = 0 := by decide
    omega
end PD
set_option maxRecDepth 100000
set_option maxHeartbeats 4000000
set_option exponentiation.threshold 20
namespace PD
open PySem PySem.Spec PyProof.Rows L2

/-! ### a table, the row that bounds an unknown most -/
def eT (t : List (List Int)) : D := .lst (t.map eL)
def row (t : List (List Int)) (k : Nat) : List Int := t.getD k []
@[simp] theorem deref_eT (s : Store) (xs : List (List Int)) : s.deref (eT xs) = eT xs := rfl
@[simp] theorem fItems_eT (t : List (List Int)) : fItems (eT t) = some (t.map eL) := rfl
theorem fIx_row {t : List (List Int)} {k : Nat} (h : k < t.length) : fIx (eT t) (.int (k : Int)) = some (eL (row t k)) := by
  show atI (t.map eL) (k : Int) = _
  rw [atI_nat (by simpa using h)]
  simp [row, List.getElem?_eq_getElem h]
@[simp] theorem fLen_eL (xs : List Int) : fLen [eL xs] = some (.int xs.length) := by
  show some (D.int ((xs.map D.int).length : Nat)) = _
  rw [List.length_map]
@[simp] theorem fLen_eT (t : List (List Int)) : fLen [eT t] = some (.int t.length) := by
  show some (D.int ((t.map eL).length : Nat)) = _
  rw [List.length_map]
@[simp] theorem fEnum_eT (t : List (List Int)) : fEnum [eT t] = some (enumD 0 (t.map eL)) := rfl
@[simp] theorem fEnum_eL (t : List Int) : fEnum [eL t] = some (enumD 0 (t.map .int)) := rfl
/-- what a table is -/
structure TabOk (t : List (List Int)) (n : Nat) : Prop where
  len : ∀ l ∈ t, l.length = n
  sm : ∀ l ∈ t, SmL l
  pos : 0 < n
  few : n ≤ 1000 ∧ t.length ≤ 1000
theorem TabOk.row {t : List (List Int)} {n k : Nat} (h : TabOk t n) (hk : k < t.length) : (row t k).length = n ∧ SmL (row t k) := by
  unfold PD.row
  rw [List.getD_eq_getElem?_getD, List.getElem?_eq_getElem hk]
  exact ⟨h.len _ (List.getElem_mem hk), h.sm _ (List.getElem_mem hk)⟩
/-- is row i, that is line, nearer than row f -/
def nearer (t : List (List Int)) (basis : List Int) (k : Nat) (i : Nat) (line : List Int) (f : Nat) : Bool :=
  decide (lastD line * nth (row t f) k < lastD (row t f) * nth line k) || (lastD line * nth (row t f) k == lastD (row t f) * nth line k && decide (nth basis i < nth basis f))
def leavS (t : List (List Int)) (basis : List Int) (k : Nat) (f : Option Nat) (i : Nat) (line : List Int) : Option Nat :=
  if 0 < nth line k then (match f with
    | none => some i
    | some g => if nearer t basis k i line g then some i else some g) else f
def leavG (t : List (List Int)) (basis : List Int) (k : Nat) : Nat → List (List Int) → Option Nat → Option Nat
  | _, [], f => f
  | i, l :: ls, f => leavG t basis k (i + 1) ls (leavS t basis k f i l)
def leav (t : List (List Int)) (basis : List Int) (k : Nat) : Option Nat := leavG t basis k 0 t none
def eO : Option Nat → D
  | none => .non
  | some k => .int k
@[simp] theorem fIs_none : fIs .non .non = some (.bl true) := rfl
@[simp] theorem fIs_int (i : Int) : fIs (.int i) .non = some (.bl false) := rfl
@[simp] theorem fIs_lst (xs : List D) : fIs (.lst xs) .non = some (.bl false) := rfl
@[simp] theorem fIs_eL (xs : List Int) : fIs (eL xs) .non = some (.bl false) := rfl
abbrev leavB : MS := (mIf (mTest (mOp fGt (mIx (mPeek 5) (mVar 2)) (mCon (.int 0)))) (mIf (mTest (mOp fIs (mPeek 3) (mCon .non))) (mAsg 3 (mSd (mVar 4))) (mSeq (mPar [6, 7] (mRcons (mSd (mOp fMul (mIx (mPeek 5) (mOp1 fNeg (mCon (.int 1)))) (mIx (mIx (mPeek 0) (mVar 3)) (mVar 2)))) (mRcons (mSd (mOp fMul (mIx (mIx (mPeek 0) (mVar 3)) (mOp1 fNeg (mCon (.int 1)))) (mIx (mPeek 5) (mVar 2)))) mRnil)))
  (mIf (mOrT (mTest (mOp fLt (mPeek 6) (mPeek 7))) (mAndT (mTest (mOp fEq (mPeek 6) (mPeek 7))) (mTest (mOp fLt (mIx (mPeek 1) (mVar 4)) (mIx (mPeek 1) (mVar 3)))))) (mAsg 3 (mSd (mVar 4))) mNext))) mNext)
theorem leav_step {t : List (List Int)} {basis : List Int} {n k i : Nat} {line : List Int} {f : Option Nat} {x6 x7 : SV} {s : Store} (ht : TabOk t n) (hk : k < n) (hl : line.length = n) (hs : SmL line) (hi : i < basis.length) (hb : basis.length = t.length) (hf : ∀ g, f = some g → g < t.length) :
    ∃ y6 y7, leavB [.dat (eT t), .dat (eL basis), .dat (.int k), .dat (eO f), .dat (.int i), .dat (eL line), x6, x7] s = .ok (.nx [.dat (eT t), .dat (eL basis), .dat (.int k), .dat (eO (leavS t basis k f i line)), .dat (.int i), .dat (eL line), y6, y7]) s := by
  have e0 := fIx_nat (xs := line) (hl ▸ hk)
  have e1 := fIx_last (xs := line) (by have := ht.pos; omega)
  have e2 := fIx_nat (xs := basis) hi
  by_cases h0 : 0 < nth line k
  · cases f with
    | none =>
      refine ⟨x6, x7, ?_⟩
      simp [leavB, e0, h0, eO, leavS]
    | some g =>
      have hg := hf g rfl
      obtain ⟨rl, rs⟩ := ht.row hg
      have e3 := fIx_row hg
      have e4 := fIx_nat (xs := row t g) (rl ▸ hk)
      have e5 := fIx_last (xs := row t g) (by have := ht.pos; omega)
      have e6 := fIx_nat (xs := basis) (hb ▸ hg)
      have m1 := fMul_sm (show Sm (lastD line) from hs.get _) (rs.get k)
      have m2 := fMul_sm (show Sm (lastD (row t g)) from rs.get _) (hs.get k)
      refine ⟨.dat (.int (lastD line * nth (row t g) k)), .dat (.int (lastD (row t g) * nth line k)), ?_⟩
      have hn : nearer t basis k i line g = (decide (lastD line * nth (row t g) k < lastD (row t g) * nth line k) || (lastD line * nth (row t g) k == lastD (row t g) * nth line k && decide (nth basis i < nth basis g))) := rfl
      generalize lastD line * nth (row t g) k = p at m1 hn ⊢
      generalize lastD (row t g) * nth line k = q at m2 hn ⊢
      by_cases h1 : p < q
      · have hn : nearer t basis k i line g = true := by rw [hn]; simp [h1]
        simp [leavB, e0, e1, e2, e3, e4, e5, e6, h0, eO, leavS, m1, m2, hn, h1]
      · by_cases h2 : p = q
        · by_cases h3 : nth basis i < nth basis g
          · have hn : nearer t basis k i line g = true := by rw [hn]; simp [h2, h3]
            simp [leavB, e0, e1, e2, e3, e4, e5, e6, h0, eO, leavS, m1, m2, hn, h2, h3]
          · have hn : nearer t basis k i line g = false := by rw [hn]; simp [h2, h3]
            simp [leavB, e0, e1, e2, e3, e4, e5, e6, h0, eO, leavS, m1, m2, hn, h2, h3]
        · have hn : nearer t basis k i line g = false := by rw [hn]; simp [h1, h2]
          have h2' : (p == q) = false := by simpa using h2
          simp [leavB, e0, e1, e2, e3, e4, e5, e6, h0, eO, leavS, m1, m2, hn, h1, h2']
  · refine ⟨x6, x7, ?_⟩
    simp [leavB, e0, h0, leavS]
theorem leavS_lt {t : List (List Int)} {basis : List Int} {k i : Nat} {line : List Int} {f : Option Nat} (hi : i < t.length) (hf : ∀ g, f = some g → g < t.length) : ∀ g, leavS t basis k f i line = some g → g < t.length := fun g h => by
  unfold leavS at h
  split at h
  · split at h
    · cases h; exact hi
    · split at h
      · cases h; exact hi
      · cases h; exact hf _ rfl
  · exact hf g h
theorem leav_loop {t : List (List Int)} {basis : List Int} {n k : Nat} {s : Store} (ht : TabOk t n) (hk : k < n) (hb : basis.length = t.length) : ∀ (ls : List (List Int)) (i : Nat) (f : Option Nat) (x4 x5 x6 x7 : SV), (∀ l ∈ ls, l ∈ t) → i + ls.length = t.length → (∀ g, f = some g → g < t.length) →
    ∃ y4 y5 y6 y7, forGo (.tp [.nm 4, .nm 5]) leavB (enumD i (ls.map eL)) [.dat (eT t), .dat (eL basis), .dat (.int k), .dat (eO f), x4, x5, x6, x7] s = .ok (.nx [.dat (eT t), .dat (eL basis), .dat (.int k), .dat (eO (leavG t basis k i ls f)), y4, y5, y6, y7]) s
  | [], i, f, x4, x5, x6, x7, _, _, _ => ⟨x4, x5, x6, x7, rfl⟩
  | l :: ls, i, f, x4, x5, x6, x7, hm, hi, hf => by
    obtain ⟨y6, y7, e⟩ := leav_step (x6 := x6) (x7 := x7) (s := s) ht hk (ht.len l (hm l List.mem_cons_self)) (ht.sm l (hm l List.mem_cons_self)) (i := i) (by rw [hb, ← hi]; simp) hb hf
    obtain ⟨z4, z5, z6, z7, ih⟩ := leav_loop (s := s) ht hk hb ls (i + 1) (leavS t basis k f i l) (.dat (.int i)) (.dat (eL l)) y6 y7 (fun l hl => hm l (List.mem_cons_of_mem _ hl)) (by rw [← hi]; simp; omega) (leavS_lt (by rw [← hi]; simp) hf)
    refine ⟨z4, z5, z6, z7, ?_⟩
    rw [List.map_cons]
    show (match bindT (.tp [.nm 4, .nm 5]) (.tup [.int i, eL l]) [.dat (eT t), .dat (eL basis), .dat (.int k), .dat (eO f), x4, x5, x6, x7] with
      | none => R.bad
      | some Γ1 => (leavB Γ1 s).bind _) = _
    simp only [bindT, bindTs, Option.bind_some, List.set_cons_succ, List.set_cons_zero]
    rw [e]
    exact ih
end PD
set_option maxRecDepth 100000
set_option maxHeartbeats 4000000
set_option exponentiation.threshold 20
namespace PD
open PySem PySem.Spec PyProof.Rows L2

/-! ### exchanging -/
structure LP where
  t : List (List Int)
  b : List Int
  g : List Int
/-- the places that make the goal greater -/
def places (g : List Int) : List Nat := (List.range (g.length - 1)).filter fun k => decide (0 < nth g k)
def pivG (t : List (List Int)) (p : List Int) (k i : Nat) : Nat → List (List Int) → List (List Int)
  | _, [] => []
  | j, l :: ls => (if j = i then p else clr l p k) :: pivG t p k i (j + 1) ls
def LP.piv (x : LP) (k i : Nat) : LP := ⟨pivG x.t (row x.t i) k i 0 x.t, x.b.take i ++ [(k : Int)] ++ x.b.drop (i + 1), clr x.g (row x.t i) k⟩
structure LP.Ok (x : LP) (n : Nat) : Prop where
  t : TabOk x.t n
  b : x.b.length = x.t.length
  g : x.g.length = n
  sg : SmL x.g
theorem places_lt {g : List Int} {k : Nat} (h : k ∈ places g) : k < g.length - 1 ∧ 0 < nth g k := by
  unfold places at h
  rw [List.mem_filter, List.mem_range, decide_eq_true_eq] at h
  exact h
@[simp] theorem eL_len (xs : List Nat) : D.lst (xs.map fun (k : Nat) => D.int (k : Int)) = eL (xs.map fun (k : Nat) => (k : Int)) := by
  simp [eL, Function.comp_def]
theorem fEq_nil (xs : List Int) : fEq (eL xs) (.lst []) = some (.bl xs.isEmpty) := by
  cases xs with
  | nil => rfl
  | cons x xs =>
    unfold fEq
    rw [if_pos]
    · rfl
    · have : ∀ ys : List Int, D.fineL 59 (ys.map .int) = true := fun ys => by
        induction ys with
        | nil => rfl
        | cons y ys ih => simp [D.fineL, D.fine, ih]
      have h1 : D.fine 60 (eL (x :: xs)) = true := by
        show (60 != 0 && D.fineL (60 - 1) ((x :: xs).map .int)) = true
        rw [show (60 - 1 : Nat) = 59 from rfl, this]; rfl
      rw [h1]; rfl
theorem rangeD_map (n : Nat) : rangeD 0 n = (List.range n).map fun (k : Nat) => D.int (k : Int) := by
  unfold rangeD; simp
theorem fRng1_nat {n : Nat} (h : n ≤ 100000) : fRng1 [.int (n : Int)] = some ((List.range n).map fun (k : Nat) => D.int (k : Int)) := by
  unfold fRng1
  show (if -100000 ≤ (n : Int) ∧ (n : Int) ≤ 100000 then some (rangeD 0 (n : Int).toNat) else none) = _
  rw [if_pos (by omega), Int.toNat_natCast, rangeD_map]
theorem filter_map_nat (xs : List Nat) (p : Nat → Bool) (q : D → Bool) (h : ∀ k ∈ xs, q (.int (k : Int)) = p k) : (xs.map fun (k : Nat) => D.int (k : Int)).filter q = (xs.filter p).map fun (k : Nat) => D.int (k : Int) := by
  induction xs with
  | nil => rfl
  | cons x xs ih =>
    rw [List.map_cons, List.filter_cons, List.filter_cons, h x List.mem_cons_self, ih fun k hk => h k (List.mem_cons_of_mem _ hk)]
    split <;> rfl
/-- [at for at in range(len(goal) - 1) if goal[at] > 0], the goal in slot gi, the name in slot ai -/
theorem places_run {Γ : Env} {s : Store} {g : List Int} {gi ai : Nat} (hg : Γ[gi]? = some (.dat (eL g))) (ha : ai < Γ.length) (hne : gi ≠ ai) (hl : g.length ≤ 1000) (h1 : 0 < g.length) :
    lcGo (.nm ai) (mTest (mOp fGt (mIx (mPeek gi) (mVar ai)) (mCon (.int 0)))) (mVar ai) (Γ.set ai .nul) ((List.range (g.length - 1)).map fun (k : Nat) => D.int (k : Int)) s = .ok ((places g).map fun (k : Nat) => D.int (k : Int)) s := by
  have e := run_lcf (tg := .nm ai) (mc := mTest (mOp fGt (mIx (mPeek gi) (mVar ai)) (mCon (.int 0)))) (me := mVar ai) (Γ := Γ.set ai .nul) (s := s) (fun d => match d with
    | .int i => decide (0 < nth g i.toNat)
    | _ => false) id ((List.range (g.length - 1)).map fun (k : Nat) => D.int (k : Int)) (fun d hd => by
    obtain ⟨k, hk, rfl⟩ := List.mem_map.mp hd
    rw [List.mem_range] at hk
    refine ⟨_, rfl, ?_, fun _ => ?_⟩
    · have e0 := fIx_nat (xs := g) (k := k) (by omega)
      have e1 : ((Γ.set ai .nul).set ai (.dat (.int (k : Int))))[gi]? = some (.dat (eL g)) := by
        rw [List.getElem?_set_ne (Ne.symm hne), List.getElem?_set_ne (Ne.symm hne)]; exact hg
      have e2 : ((Γ.set ai .nul).set ai (.dat (.int (k : Int))))[ai]? = some (.dat (.int (k : Int))) := by
        rw [List.getElem?_set_self (by simpa using ha)]
      simp only [mTest_run, mOp_run, mIx_run, mPeek_run, mVar_run, mCon_run, e1, e2, R.bind_ok, deref_eL, e0, R.opt_some, fGt_ii, toB_bl, Int.toNat_natCast]
    · have e2 : ((Γ.set ai .nul).set ai (.dat (.int (k : Int))))[ai]? = some (.dat (.int (k : Int))) := by
        rw [List.getElem?_set_self (by simpa using ha)]
      simp only [mVar_run, e2]; rfl)
  rw [e, filter_map_nat _ (fun k => decide (0 < nth g k)) _ (fun k _ => by simp)]
  simp [places]
/-- the new table -/
theorem piv_row {t : List (List Int)} {p : List Int} {n k i : Nat} (ht : TabOk t n) (hp : p.length = n ∧ SmL p) (hk : k < n) {s : Store} {me : Env → M D} {tg : Tg} {Γ : Env}
    (hme : ∀ (j : Nat) (l : List Int), l ∈ t → ∃ Γ1, bindT tg (.tup [.int (j : Int), eL l]) Γ = some Γ1 ∧ me Γ1 s = (if j = i then R.ok (eL p) s else R.ok (eL (clr l p k)) s)) : ∀ (ls : List (List Int)) (j : Nat), (∀ l ∈ ls, l ∈ t) → lcGo tg mYes me Γ (enumD j (ls.map eL)) s = .ok ((pivG t p k i j ls).map eL) s
  | [], j, _ => rfl
  | l :: ls, j, h => by
    obtain ⟨Γ1, h1, h2⟩ := hme j l (h l List.mem_cons_self)
    rw [List.map_cons]
    unfold enumD lcGo
    rw [h1]
    show (me Γ1 s).nox.bind _ = _
    have ih := piv_row ht hp hk hme ls (j + 1) fun l hl => h l (List.mem_cons_of_mem _ hl)
    rw [h2]
    by_cases hj : j = i
    · rw [if_pos hj]
      show (lcGo tg mYes me Γ (enumD (j + 1) (ls.map eL)) s).bind _ = _
      rw [ih]
      simp [pivG, hj]
    · rw [if_neg hj]
      show (lcGo tg mYes me Γ (enumD (j + 1) (ls.map eL)) s).bind _ = _
      rw [ih]
      simp [pivG, hj]
end PD
set_option maxRecDepth 100000
set_option maxHeartbeats 4000000
set_option exponentiation.threshold 20
namespace PD
open PySem PySem.Spec PyProof.Rows L2
theorem cut_to {α : Type} {xs : List α} {i : Nat} (h : i ≤ xs.length) : cutD xs none (some (i : Int)) = xs.take i := by
  unfold cutD
  rw [HT.sIx_none, HT.sIx_nat, Nat.min_eq_left h, List.drop_zero, Nat.sub_zero]
theorem cut_from {α : Type} {xs : List α} {i : Nat} (h : i ≤ xs.length) : cutD xs (some (i : Int)) none = xs.drop i := by
  unfold cutD
  rw [HT.sIx_none, HT.sIx_nat, Nat.min_eq_left h]
  exact List.take_of_length_le (by rw [List.length_drop]; omega)
theorem fSl_to {xs : List Int} {i : Nat} (h : i ≤ xs.length) : fSl (eL xs) none (some (i : Int)) = some (eL (xs.take i)) := by
  show some (D.lst (cutD (xs.map .int) none (some (i : Int)))) = _
  rw [cut_to (by simpa using h), eL, List.map_take]
theorem fSl_from {xs : List Int} {i : Nat} (h : i ≤ xs.length) : fSl (eL xs) (some (i : Int)) none = some (eL (xs.drop i)) := by
  show some (D.lst (cutD (xs.map .int) (some (i : Int)) none)) = _
  rw [cut_from (by simpa using h), eL, List.map_drop]
theorem fAdd_eL {xs ys : List Int} (h : xs.length + ys.length ≤ 100000) : fAdd (eL xs) (eL ys) = some (eL (xs ++ ys)) := by
  show (if (xs.map D.int).length + (ys.map D.int).length ≤ 100000 then some (D.lst (xs.map .int ++ ys.map .int)) else none) = _
  rw [if_pos (by simpa using h), eL, List.map_append]
/-! ### one turn of greatest -/
abbrev grA : MS := mAsg 7 (mSd (mFrz (mLcL (mRng fRng1 (mCons (mOp fSub (mBlt fLen (mCons (mPeek 1) mNil)) (mCon (.int 1))) mNil)) (.nm 6) (mTest (mOp fGt (mIx (mPeek 1) (mVar 6)) (mCon (.int 0)))) (mVar 6) [6])))
abbrev grT : Env → M Bool := mOrT (mTest (mOp fEq (mPeek 7) (mLst mNil))) (mAndT (mTest (mOp fNotIs (mPeek 2) (mCon .non))) (mTest (mOp fLt (mIx (mPeek 1) (mOp1 fNeg (mCon (.int 1)))) (mCon (.int 0)))))
abbrev grG : MS := mAsg 5 (mSd (mOp fAdd (mOp fAdd (mSl (mPeek 5) mNoPart (mPart (mVar 8))) (mLst (mCons (mIx (mPeek 7) (mCon (.int 0))) mNil))) (mSl (mPeek 5) (mPart (mOp fAdd (mPeek 8) (mCon (.int 1)))) mNoPart)))
def natL (xs : List Nat) : D := eL (xs.map fun (k : Nat) => (k : Int))
theorem grA_ok {L W many x6 x7 x8 x9 x10 x11 tt bb : SV} {g : List Int} {s : Store} (hl : g.length ≤ 1000) (h1 : 0 < g.length) : grA [L, .dat (eL g), W, many, tt, bb, x6, x7, x8, x9, x10, x11] s = .ok (.nx [L, .dat (eL g), W, many, tt, bb, x6, .dat (natL (places g)), x8, x9, x10, x11]) s := by
  have e := places_run (Γ := [L, .dat (eL g), W, many, tt, bb, x6, x7, x8, x9, x10, x11]) (s := s) (g := g) (gi := 1) (ai := 6) rfl (by simp) (by decide) hl h1
  simp only [List.set_cons_succ, List.set_cons_zero] at e
  have e0 : ((g.length : Int) - 1) = ((g.length - 1 : Nat) : Int) := by omega
  have e1 := fRng1_nat (n := g.length - 1) (by omega)
  simp only [grA, mAsg_run, mSd_run, mFrz_run, mLcL_run, mRng_run, mCons_run, mOp_run, mBlt_run, mPeek_run, mNil_run, mCon_run]
  simp [e0, e1]
  rw [if_pos (by omega), e]
  simp [natL]
theorem natL_ix {xs : List Nat} {k : Nat} {ks : List Nat} (h : xs = k :: ks) : fIx (natL xs) (.int 0) = some (.int (k : Int)) := by
  subst h
  exact fIx_nat (xs := (k :: ks).map fun (k : Nat) => (k : Int)) (k := 0) (by simp)
@[simp] theorem deref_natL (s : Store) (xs : List Nat) : s.deref (natL xs) = natL xs := rfl
theorem natL_nil {xs : List Nat} : fEq (natL xs) (.lst []) = some (.bl xs.isEmpty) := by
  unfold natL
  rw [fEq_nil]
  cases xs <;> rfl
end PD
set_option maxRecDepth 100000
set_option maxHeartbeats 4000000
set_option exponentiation.threshold 20
namespace PD
open PySem PySem.Spec PyProof.Rows L2

/-! ### greatest: the whole loop -/
theorem leavG_lt {t : List (List Int)} {basis : List Int} {k : Nat} : ∀ (ls : List (List Int)) (i : Nat) (f : Option Nat), i + ls.length = t.length → (∀ g, f = some g → g < t.length) → ∀ g, leavG t basis k i ls f = some g → g < t.length
  | [], i, f, _, hf, g, h => hf g h
  | l :: ls, i, f, hi, hf, g, h => leavG_lt ls (i + 1) _ (by rw [← hi]; simp; omega) (leavS_lt (by rw [← hi]; simp) hf) g h
theorem leav_lt {t : List (List Int)} {basis : List Int} {k i : Nat} (h : leav t basis k = some i) : i < t.length := leavG_lt t 0 none (by simp) (fun _ z => nomatch z) i h
def stopB (W : Bool) (x : LP) : Bool := (places x.g).isEmpty || (W && decide (lastD x.g < 0))
def grt (W : Bool) : Nat → LP → Option LP
  | 0, _ => none
  | n + 1, x => if stopB W x then some x else (match places x.g with
    | [] => none
    | k :: _ => (match leav x.t x.b k with
      | none => none
      | some i => grt W n (x.piv k i)))
end PD
set_option maxRecDepth 100000
set_option maxHeartbeats 4000000
set_option exponentiation.threshold 20
namespace PD
open PySem PySem.Spec PyProof.Rows L2

/-! ### the numbers that a basis tells -/
def cstep (c : Int) (p : List Int × Int) : Int := c * (nth p.1 p.2.toNat / (part [c, nth p.1 p.2.toNat] : Int))
def comm (t : List (List Int)) (b : List Int) : Int := (t.zip b).foldl cstep 1
theorem zipD_TL : ∀ {t : List (List Int)} {b : List Int}, zipD (t.map eL) (b.map .int) = (t.zip b).map fun p => .tup [eL p.1, .int p.2]
  | [], _ => by simp [zipD]
  | _ :: _, [] => by simp [zipD]
  | x :: xs, y :: ys => by simp [zipD, zipD_TL]
@[simp] theorem fZip_TL (t : List (List Int)) (b : List Int) : fZip [eT t, eL b] = some ((t.zip b).map fun p => .tup [eL p.1, .int p.2]) := by
  show some (zipD (t.map eL) (b.map D.int)) = _
  rw [zipD_TL]
/-- a place of a basis -/
structure PlOk (n : Nat) (p : List Int × Int) : Prop where
  len : p.1.length = n
  sm : SmL p.1
  lo : 0 ≤ p.2
  hi : p.2 < n
  pos : 0 < nth p.1 p.2.toNat
theorem PlOk.ix {n : Nat} {p : List Int × Int} (h : PlOk n p) : fIx (eL p.1) (.int p.2) = some (.int (nth p.1 p.2.toNat)) := by
  have e := fIx_nat (xs := p.1) (k := p.2.toNat) (by have := h.lo; have := h.hi; have := h.len; omega)
  rwa [Int.toNat_of_nonneg h.lo] at e
theorem quo_log {c : Int} {p : List Int × Int} {n : Nat} (h : PlOk n p) : (nth p.1 p.2.toNat / (part [c, nth p.1 p.2.toNat] : Int)).natAbs.log2 < 4000 := by
  have hs : Sm (nth p.1 p.2.toNat) := h.sm.get _
  have hp := part_pos (xs := [c, nth p.1 p.2.toNat])
  refine Nat.lt_of_le_of_lt (natAbs_le_log ?_) hs
  have hd := part_dvd (xs := [c, nth p.1 p.2.toNat]) (x := nth p.1 p.2.toNat) (by simp)
  obtain ⟨q, hq⟩ := hd
  generalize part [c, nth p.1 p.2.toNat] = P at hp hq ⊢
  rw [hq, Int.mul_ediv_cancel_left _ (by omega), Int.natAbs_mul]
  have : 1 ≤ (P : Int).natAbs := by omega
  exact Nat.le_mul_of_pos_left _ this
theorem cstep_log {c : Int} {p : List Int × Int} {m n : Nat} (hc : c.natAbs.log2 < m) (h : PlOk n p) : (cstep c p).natAbs.log2 < m + 4000 := mul_log hc (quo_log h)
def valN (t : List (List Int)) (b : List Int) (c : Int) (k : Int) : Int := (((t.zip b).find? fun p => p.2 == k).map fun p => lastD p.1 * (c / nth p.1 p.2.toNat)).getD 0
theorem pairs_map (ps : List (List Int × Int)) (f : List Int × Int → Int) : pairsOf (ps.map fun p => .tup [.int p.2, .int (f p)]) = some (ps.map (·.2), ps.map fun p => .int (f p)) := by
  induction ps with
  | nil => rfl
  | cons p ps ih => simp [pairsOf, ih]
theorem look_map (ps : List (List Int × Int)) (f : List Int × Int → Int) (k : Int) : (lookD (ps.map (·.2)) (ps.map fun p => D.int (f p)) k).getD (.int 0) = .int (((ps.find? fun p => p.2 == k).map f).getD 0) := by
  induction ps with
  | nil => rfl
  | cons p ps ih =>
    simp only [List.map_cons, lookD, List.find?_cons]
    by_cases h : p.2 = k
    · simp [h]
    · have h' : (p.2 == k) = false := by simpa using h
      simp [h, h', ih]
end PD
set_option maxRecDepth 100000
set_option maxHeartbeats 4000000
set_option exponentiation.threshold 20
namespace PD
open PySem PySem.Spec PyProof.Rows L2

/-! ### the table of some lines -/
def eLn (lines : List (List Int × Int)) : D := .lst (lines.map fun p => .tup [eL p.1, .int p.2])
def unitL (many k : Nat) : List Int := (List.range many).map fun j => if j = k then 1 else 0
def tabG (many : Nat) : Nat → List (List Int × Int) → List (List Int)
  | _, [] => []
  | k, p :: ps => (p.1 ++ unitL many k ++ [p.2]) :: tabG many (k + 1) ps
def tabOf (lines : List (List Int × Int)) : List (List Int) := tabG lines.length 0 lines
theorem tabG_len (many : Nat) : ∀ (ps : List (List Int × Int)) (k : Nat), (tabG many k ps).length = ps.length
  | [], _ => rfl
  | p :: ps, k => by simp [tabG, tabG_len many ps]
@[simp] theorem fLen_lst (xs : List D) : fLen [.lst xs] = some (.int xs.length) := rfl
theorem unit_run {Γ : Env} {s : Store} {ai ki many k : Nat} (hk : Γ[ki]? = some (.dat (.int (k : Int)))) (ha : ai < Γ.length) (hne : ki ≠ ai) :
    lcGo (.nm ai) mYes (mIte (mTest (mOp fEq (mPeek ai) (mPeek ki))) (mCon (.int 1)) (mCon (.int 0))) (Γ.set ai .nul) ((List.range many).map fun (j : Nat) => D.int (j : Int)) s = .ok ((unitL many k).map .int) s := by
  have e := run_lc (tg := .nm ai) (me := mIte (mTest (mOp fEq (mPeek ai) (mPeek ki))) (mCon (.int 1)) (mCon (.int 0))) (Γ := Γ.set ai .nul) (s := s) (fun d => match d with
    | .int j => .int (if j = (k : Int) then 1 else 0)
    | d => d) ((List.range many).map fun (j : Nat) => D.int (j : Int)) (fun d hd => by
    obtain ⟨j, hj, rfl⟩ := List.mem_map.mp hd
    refine ⟨_, rfl, ?_⟩
    have e1 : ((Γ.set ai .nul).set ai (.dat (.int (j : Int))))[ki]? = some (.dat (.int (k : Int))) := by
      rw [List.getElem?_set_ne (Ne.symm hne), List.getElem?_set_ne (Ne.symm hne)]; exact hk
    have e2 : ((Γ.set ai .nul).set ai (.dat (.int (j : Int))))[ai]? = some (.dat (.int (j : Int))) := by
      rw [List.getElem?_set_self (by simpa using ha)]
    simp only [mIte_run, mTest_run, mOp_run, mPeek_run, mCon_run, e1, e2, R.bind_ok, R.opt_some, fEq_ii, toB_bl]
    by_cases h : (j : Int) = (k : Int)
    · simp [h]
    · have h' : ((j : Int) == (k : Int)) = false := by simpa using h
      simp [h, h'])
  rw [e]
  congr 1
  simp only [List.map_map, unitL]
  refine List.map_congr_left fun j _ => ?_
  show D.int (if (j : Int) = (k : Int) then 1 else 0) = D.int (if j = k then 1 else 0)
  by_cases h : j = k
  · simp [h]
  · have : ¬ (j : Int) = (k : Int) := by omega
    simp [h, this]
abbrev tbB : MS := mSeq (mUnp (.tp [(.nm 5), (.nm 6)]) (mVar 4))
  (mSeq (mAsg 7 (mSd (mFrz (mLcL (mRng fRng1 (mCons (mVar 1) mNil)) (.nm 8) mYes (mIte (mTest (mOp fEq (mPeek 8) (mPeek 3))) (mCon (.int 1)) (mCon (.int 0))) [8]))))
  (mAsg 2 (mSd (mOp fAdd (mPeek 2) (mLst (mCons (mOp fAdd (mOp fAdd (mPeek 5) (mPeek 7)) (mLst (mCons (mVar 6) mNil))) mNil))))))
theorem fAdd_eT {t : List (List Int)} {l : List Int} (h : t.length < 100000) : fAdd (eT t) (.lst [eL l]) = some (eT (t ++ [l])) := by
  show (if (t.map eL).length + [eL l].length ≤ 100000 then some (D.lst (t.map eL ++ [eL l])) else none) = _
  rw [if_pos (by simp; omega)]
  simp [eT]
theorem tb_step {x0 x5 x6 x7 x8 : SV} {t : List (List Int)} {many k : Nat} {p : List Int × Int} {s : Store} (hm : many ≤ 1000) (hl : p.1.length ≤ 1000) (ht : t.length ≤ 1000) :
    tbB [x0, .dat (.int many), .dat (eT t), .dat (.int k), .dat (.tup [eL p.1, .int p.2]), x5, x6, x7, x8] s = .ok (.nx [x0, .dat (.int many), .dat (eT (t ++ [p.1 ++ unitL many k ++ [p.2]])), .dat (.int k), .dat (.tup [eL p.1, .int p.2]), .dat (eL p.1), .dat (.int p.2), .dat (eL (unitL many k)), x8]) s := by
  have r1 := fRng1_nat (n := many) (by omega)
  have u := unit_run (Γ := [x0, .dat (.int many), .dat (eT t), .dat (.int k), .dat (.tup [eL p.1, .int p.2]), .dat (eL p.1), .dat (.int p.2), x7, x8]) (s := s) (ai := 8) (ki := 3) (many := many) (k := k) rfl (by simp) (by decide)
  simp only [List.set_cons_succ, List.set_cons_zero] at u
  have ul : (unitL many k).length = many := by simp [unitL]
  have a1 := fAdd_eL (xs := p.1) (ys := unitL many k) (by omega)
  have a2 := fAdd_eL (xs := p.1 ++ unitL many k) (ys := [p.2]) (by simp; omega)
  have fw : few D.lst [D.int p.2] = some (eL [p.2]) := rfl
  have fw2 : few D.lst [eL (p.1 ++ unitL many k ++ [p.2])] = some (.lst [eL (p.1 ++ unitL many k ++ [p.2])]) := rfl
  have a3 := fAdd_eT (t := t) (l := p.1 ++ unitL many k ++ [p.2]) (by omega)
  have q : ((List.range many).map fun (j : Nat) => D.int (j : Int)).length ≤ 100000 := by rw [List.length_map, List.length_range]; omega
  have z : D.lst ((unitL many k).map .int) = eL (unitL many k) := rfl
  simp only [tbB, mSeq_run, mUnp_run, mVar_run, List.getElem?_cons_succ, List.getElem?_cons_zero, R.bind_ok, bindT, bindTs, Option.bind_some, List.set_cons_succ, List.set_cons_zero, mAsg_run, mSd_run, mFrz_run, mLcL_run, mRng_run, mCons_run, mNil_run, r1, R.opt_some, wipeE]
  rw [if_pos q, u]
  simp only [R.bind_ok, z, mOp_run, mPeek_run, mLst_run, mCons_run, mVar_run, mNil_run, List.getElem?_cons_succ, List.getElem?_cons_zero, List.set_cons_succ, List.set_cons_zero, a1, fw, a2, R.opt_some, fw2, a3]
theorem tb_loop {x0 : SV} {many : Nat} {s : Store} (hm : many ≤ 1000) : ∀ (ps : List (List Int × Int)) (k : Nat) (t : List (List Int)) (x3 x4 x5 x6 x7 x8 : SV), (∀ p ∈ ps, p.1.length ≤ 1000) → t.length + ps.length ≤ 1000 →
    ∃ y3 y4 y5 y6 y7 y8, forGo (.tp [.nm 3, .nm 4]) tbB (enumD k (ps.map fun p => .tup [eL p.1, .int p.2])) [x0, .dat (.int many), .dat (eT t), x3, x4, x5, x6, x7, x8] s = .ok (.nx [x0, .dat (.int many), .dat (eT (t ++ tabG many k ps)), y3, y4, y5, y6, y7, y8]) s
  | [], k, t, x3, x4, x5, x6, x7, x8, _, _ => ⟨x3, x4, x5, x6, x7, x8, by simp [enumD, forGo, tabG]⟩
  | p :: ps, k, t, x3, x4, x5, x6, x7, x8, hp, hl => by
    have e := tb_step (x0 := x0) (x5 := x5) (x6 := x6) (x7 := x7) (x8 := x8) (t := t) (k := k) (s := s) hm (hp p List.mem_cons_self) (by omega)
    obtain ⟨y3, y4, y5, y6, y7, y8, ih⟩ := tb_loop (x0 := x0) (s := s) hm ps (k + 1) (t ++ [p.1 ++ unitL many k ++ [p.2]]) (.dat (.int k)) (.dat (.tup [eL p.1, .int p.2])) (.dat (eL p.1)) (.dat (.int p.2)) (.dat (eL (unitL many k))) x8 (fun q hq => hp q (List.mem_cons_of_mem _ hq)) (by simp at hl ⊢; omega)
    refine ⟨y3, y4, y5, y6, y7, y8, ?_⟩
    rw [List.map_cons]
    show (match bindT (.tp [.nm 3, .nm 4]) (.tup [.int k, .tup [eL p.1, .int p.2]]) [x0, .dat (.int many), .dat (eT t), x3, x4, x5, x6, x7, x8] with
      | none => R.bad
      | some Γ1 => (tbB Γ1 s).bind _) = _
    simp only [bindT, bindTs, Option.bind_some, List.set_cons_succ, List.set_cons_zero]
    rw [e]
    have z : t ++ tabG many k (p :: ps) = t ++ [p.1 ++ unitL many k ++ [p.2]] ++ tabG many (k + 1) ps := by simp [tabG]
    rw [z]
    exact ih
end PD
set_option maxRecDepth 100000
set_option maxHeartbeats 4000000
set_option exponentiation.threshold 20
namespace PD
open PySem PySem.Spec PyProof.Rows L2

/-! ### greatest, solution -/
theorem fMul_rep {i : Int} {n : Nat} (h : n ≤ 1000) : fMul (.lst [.int i]) (.int (n : Int)) = some (eL (List.replicate n i)) := by
  unfold fMul
  show (if -1000 ≤ (n : Int) ∧ (n : Int) ≤ 1000 ∧ [D.int i].length ≤ 100 then some (D.lst (List.replicate (n : Int).toNat [D.int i]).flatten) else none) = _
  rw [if_pos ⟨by omega, by omega, by simp⟩, Int.toNat_natCast]
  congr 1
  simp [eL]
def LP.init (lines : List (List Int × Int)) (goal : List Int) : LP := ⟨tabOf lines, (List.range lines.length).map fun (k : Nat) => ((goal.length + k : Nat) : Int), goal ++ List.replicate (lines.length + 1) 0⟩
end PD
set_option maxRecDepth 100000
set_option maxHeartbeats 4000000
set_option exponentiation.threshold 20
namespace PD
open PySem PySem.Spec PyProof.Rows L2

/-! ### fractions in lowest terms -/
def lowL (a b : Int) : Int × Int := if 0 < b then (a / (part [a, b] : Int), b / (part [a, b] : Int)) else (a / -(part [a, b] : Int), b / -(part [a, b] : Int))
def eF (p : Int × Int) : D := .tup [.int p.1, .int p.2]
/-! ### solution -/
/-- a row as a datum -/
def RowRel (d : D) (p : List Int × Bool) : Prop := ∃ X, d = .tup [X, .bl p.2] ∧ fItems X = some (p.1.map .int)
def lnOfRow (p : List Int × Bool) : List Int × Int := (p.1.map (- ·) ++ [if p.2 then 1 else 0], 0)
def solLines (rows : List (List Int × Bool)) (many : Nat) : List (List Int × Int) := rows.map lnOfRow ++ [(List.replicate many 0 ++ [-1, 1], 0), (List.replicate (many + 1) 1 ++ [0], 1)]
theorem neg_run {Γ : Env} {s : Store} {ai : Nat} (ha : ai < Γ.length) (xs : List Int) : lcGo (.nm ai) mYes (mOp1 fNeg (mPeek ai)) Γ (xs.map .int) s = .ok ((xs.map (- ·)).map .int) s := by
  have e := run_lc (tg := .nm ai) (me := mOp1 fNeg (mPeek ai)) (Γ := Γ) (s := s) (fun d => match d with
    | .int j => .int (-j)
    | d => d) (xs.map .int) (fun d hd => by
    obtain ⟨j, hj, rfl⟩ := List.mem_map.mp hd
    refine ⟨_, rfl, ?_⟩
    have e2 : (Γ.set ai (.dat (.int j)))[ai]? = some (.dat (.int j)) := by rw [List.getElem?_set_self ha]
    simp only [mOp1_run, mPeek_run, e2, R.bind_ok, fNeg_i, R.opt_some])
  rw [e]
  simp
abbrev slE : Env → M D := mTup (mCons (mOp fAdd (mFrz (mLcL (mItems (mVar 4)) (.nm 3) mYes (mOp1 fNeg (mPeek 3)) [3])) (mLst (mCons (mIte (mTest (mVar 5)) (mCon (.int 1)) (mCon (.int 0))) mNil))) (mCons (mCon (.int 0)) mNil))
theorem sl_run {x0 x1 x2 x3 x6 x7 x8 : SV} {s : Store} (enc : List Int × Bool → D) (rows : List (List Int × Bool)) (hr : ∀ p ∈ rows, RowRel (enc p) p) (hl : ∀ p ∈ rows, p.1.length ≤ 1000) :
    lcGo (.tp [.nm 4, .nm 5]) mYes slE [x0, x1, x2, x3, .nul, .nul, x6, x7, x8] (rows.map enc) s = .ok ((rows.map lnOfRow).map fun p => .tup [eL p.1, .int p.2]) s := by
  induction rows with
  | nil => rfl
  | cons p rows ih =>
    have ih := ih (fun q hq => hr q (List.mem_cons_of_mem _ hq)) (fun q hq => hl q (List.mem_cons_of_mem _ hq))
    obtain ⟨X, hX, hi⟩ := hr p List.mem_cons_self
    have hlen := hl p List.mem_cons_self
    have st : slE [x0, x1, x2, x3, .dat X, .dat (.bl p.2), x6, x7, x8] s = .ok (.tup [eL (lnOfRow p).1, .int (lnOfRow p).2]) s := by
      have n1 := neg_run (Γ := [x0, x1, x2, .nul, .dat X, .dat (.bl p.2), x6, x7, x8]) (s := s) (ai := 3) (by simp) p.1
      have q : (p.1.map D.int).length ≤ 100000 := by rw [List.length_map]; omega
      have z : D.lst ((p.1.map (- ·)).map .int) = eL (p.1.map (- ·)) := rfl
      have a1 : ∀ v : Int, fAdd (eL (p.1.map (- ·))) (eL [v]) = some (eL (p.1.map (- ·) ++ [v])) := fun v => fAdd_eL (by simp; omega)
      have fw : ∀ v : Int, few D.lst [D.int v] = some (eL [v]) := fun _ => rfl
      have fw2 : ∀ (x : D) (v : Int), few D.tup [x, D.int v] = some (.tup [x, D.int v]) := fun _ _ => rfl
      simp only [slE, mTup_run, mCons_run, mOp_run, mFrz_run, mLcL_run, mItems_run, mVar_run, List.getElem?_cons_succ, List.getElem?_cons_zero, R.bind_ok, hi, R.opt_some, wipeE, List.set_cons_succ, List.set_cons_zero]
      rw [if_pos q, n1]
      simp only [R.bind_ok, z, mLst_run, mCons_run, mIte_run, mTest_run, mVar_run, mCon_run, mNil_run, List.getElem?_cons_succ, List.getElem?_cons_zero, toB_bl, R.opt_some]
      cases hp2 : p.2 with
      | true =>
        simp only [R.bind_ok, fw, R.opt_some, a1, fw2]
        simp [lnOfRow, hp2]
      | false =>
        simp only [R.bind_ok, fw, R.opt_some, a1, fw2]
        simp [lnOfRow, hp2]
    rw [List.map_cons, hX]
    unfold lcGo
    simp only [bindT, bindTs, Option.bind_some, List.set_cons_succ, List.set_cons_zero, mYes_run]
    show (slE [x0, x1, x2, x3, .dat X, .dat (.bl p.2), x6, x7, x8] s).nox.bind _ = _
    rw [st]
    show (lcGo (.tp [.nm 4, .nm 5]) mYes slE [x0, x1, x2, x3, .nul, .nul, x6, x7, x8] (rows.map enc) s).bind _ = _
    rw [ih]
    rfl
/-- what solution gives: the row of numbers and the divisor, or nothing -/
def solOut (nums : List Int) (many : Nat) : D := if nth nums (many + 1) = 0 then .non else .lst ((nums.take many).map fun a => eF (lowL a (nth nums many)))
end PD
set_option maxRecDepth 100000
set_option maxHeartbeats 4000000
namespace PD
open PySem PySem.Spec PyProof.Rows L2
/-! ## what values are: plain -/
@[simp] theorem isi_NoneType_int : fIsi "int" .non = some (.bl false) := rfl
@[simp] theorem isi_NoneType_bool : fIsi "bool" .non = some (.bl false) := rfl
@[simp] theorem isi_NoneType_str : fIsi "str" .non = some (.bl false) := rfl
@[simp] theorem isi_NoneType_tuple : fIsi "tuple" .non = some (.bl false) := rfl
@[simp] theorem isi_NoneType_list : fIsi "list" .non = some (.bl false) := rfl
@[simp] theorem isi_bool_int (b : Bool) : fIsi "int" (.bl b) = some (.bl true) := rfl
@[simp] theorem isi_bool_bool (b : Bool) : fIsi "bool" (.bl b) = some (.bl true) := rfl
@[simp] theorem isi_bool_str (b : Bool) : fIsi "str" (.bl b) = some (.bl false) := rfl
@[simp] theorem isi_bool_tuple (b : Bool) : fIsi "tuple" (.bl b) = some (.bl false) := rfl
@[simp] theorem isi_bool_list (b : Bool) : fIsi "list" (.bl b) = some (.bl false) := rfl
@[simp] theorem isi_int_int (i : Int) : fIsi "int" (.int i) = some (.bl true) := rfl
@[simp] theorem isi_int_bool (i : Int) : fIsi "bool" (.int i) = some (.bl false) := rfl
@[simp] theorem isi_int_str (i : Int) : fIsi "str" (.int i) = some (.bl false) := rfl
@[simp] theorem isi_int_tuple (i : Int) : fIsi "tuple" (.int i) = some (.bl false) := rfl
@[simp] theorem isi_int_list (i : Int) : fIsi "list" (.int i) = some (.bl false) := rfl
@[simp] theorem isi_str_int (x : Str) : fIsi "int" (.str x) = some (.bl false) := rfl
@[simp] theorem isi_str_bool (x : Str) : fIsi "bool" (.str x) = some (.bl false) := rfl
@[simp] theorem isi_str_str (x : Str) : fIsi "str" (.str x) = some (.bl true) := rfl
@[simp] theorem isi_str_tuple (x : Str) : fIsi "tuple" (.str x) = some (.bl false) := rfl
@[simp] theorem isi_str_list (x : Str) : fIsi "list" (.str x) = some (.bl false) := rfl
@[simp] theorem isi_list_int (xs : List D) : fIsi "int" (.lst xs) = some (.bl false) := rfl
@[simp] theorem isi_list_bool (xs : List D) : fIsi "bool" (.lst xs) = some (.bl false) := rfl
@[simp] theorem isi_list_str (xs : List D) : fIsi "str" (.lst xs) = some (.bl false) := rfl
@[simp] theorem isi_list_tuple (xs : List D) : fIsi "tuple" (.lst xs) = some (.bl false) := rfl
@[simp] theorem isi_list_list (xs : List D) : fIsi "list" (.lst xs) = some (.bl true) := rfl
@[simp] theorem isi_tuple_int (xs : List D) : fIsi "int" (.tup xs) = some (.bl false) := rfl
@[simp] theorem isi_tuple_bool (xs : List D) : fIsi "bool" (.tup xs) = some (.bl false) := rfl
@[simp] theorem isi_tuple_str (xs : List D) : fIsi "str" (.tup xs) = some (.bl false) := rfl
@[simp] theorem isi_tuple_tuple (xs : List D) : fIsi "tuple" (.tup xs) = some (.bl true) := rfl
@[simp] theorem isi_tuple_list (xs : List D) : fIsi "list" (.tup xs) = some (.bl false) := rfl
theorem mAndV_run {m n : Env → M D} {Γ : Env} {s : Store} : mAndV m n Γ s = (m Γ s).bind fun d s1 => match d with
  | .bl true => n Γ s1
  | .bl false => .ok (.bl false) s1
  | _ => .bad := rfl
theorem and_t {m n : Env → M D} {Γ : Env} {s s1 : Store} (h : m Γ s = .ok (.bl true) s1) : mAndV m n Γ s = n Γ s1 := by rw [mAndV_run, h]; rfl
theorem and_f {m n : Env → M D} {Γ : Env} {s s1 : Store} (h : m Γ s = .ok (.bl false) s1) : mAndV m n Γ s = .ok (.bl false) s1 := by rw [mAndV_run, h]; rfl
theorem and_b {m n : Env → M D} {Γ : Env} {s : Store} {p q : Bool} (h : m Γ s = .ok (.bl p) s) (h2 : p = true → n Γ s = .ok (.bl q) s) : mAndV m n Γ s = .ok (.bl (p && q)) s := by
  cases p with
  | true => rw [and_t h, h2 rfl]; rfl
  | false => rw [and_f h]; rfl
theorem or_b {m n : Env → M D} {Γ : Env} {s : Store} {p q : Bool} (h : m Γ s = .ok (.bl p) s) (h2 : p = false → n Γ s = .ok (.bl q) s) : mOrV m n Γ s = .ok (.bl (p || q)) s := by
  show (m Γ s).bind _ = _
  rw [h]
  cases p with
  | true => rfl
  | false => exact h2 rfl
theorem not_b {m : Env → M D} {Γ : Env} {s : Store} {p : Bool} (h : m Γ s = .ok (.bl p) s) : mNotV m Γ s = .ok (.bl (!p)) s := by
  show (m Γ s).bind _ = _
  rw [h]; rfl
theorem test_b {m : Env → M D} {Γ : Env} {s : Store} {p : Bool} (h : m Γ s = .ok (.bl p) s) : mTest m Γ s = .ok p s := by
  show (m Γ s).bind _ = _
  rw [h]; rfl
theorem notT_b {m : Env → M Bool} {Γ : Env} {s : Store} {p : Bool} (h : m Γ s = .ok p s) : mNotT m Γ s = .ok (!p) s := by
  show (m Γ s).bind _ = _
  rw [h]; rfl
theorem orT_b {m n : Env → M Bool} {Γ : Env} {s : Store} {p q : Bool} (h : m Γ s = .ok p s) (h2 : p = false → n Γ s = .ok q s) : mOrT m n Γ s = .ok (p || q) s := by
  show (m Γ s).bind _ = _
  rw [h]
  cases p with
  | true => rfl
  | false => exact h2 rfl
theorem andT_b {m n : Env → M Bool} {Γ : Env} {s : Store} {p q : Bool} (h : m Γ s = .ok p s) (h2 : p = true → n Γ s = .ok q s) : mAndT m n Γ s = .ok (p && q) s := by
  show (m Γ s).bind _ = _
  rw [h]
  cases p with
  | true => exact h2 rfl
  | false => rfl
theorem le_chain {ma mb mc : Env → M D} {Γ : Env} {s : Store} {a b c : Int} (h1 : ma Γ s = .ok (.int a) s) (h2 : mb Γ s = .ok (.int b) s) (h3 : mc Γ s = .ok (.int c) s) : mChain fLe fLe ma mb mc Γ s = .ok (.bl (decide (a ≤ b) && decide (b ≤ c))) s := by
  show (ma Γ s).bind _ = _
  rw [h1]
  show (mb Γ s).bind _ = _
  rw [h2]
  show (match fLe (.int a) (.int b) with | some (.bl true) => _ | some (.bl false) => _ | _ => _) = _
  rw [fLe_ii]
  by_cases h : a ≤ b
  · rw [decide_eq_true h]
    show (mc Γ s).bind _ = _
    rw [h3]
    show R.opt (fLe (.int b) (.int c)) s = _
    rw [fLe_ii]; rfl
  · rw [decide_eq_false h]; rfl
/-- a value's kind is known -/
def Ty (d : D) : Prop := match d with
  | .cel _ => False | .scr _ => False | .dki _ _ => False | .dkt _ _ => False | .ins _ _ _ => False
  | _ => True
def isNum (lo hi : Int) (d : D) : Bool := match d with
  | .int i => decide (lo ≤ i) && decide (i ≤ hi)
  | _ => false
def isTup (few many : Int) (d : D) : Bool := match d with
  | .tup xs => decide (few ≤ xs.length) && decide ((xs.length : Int) ≤ many)
  | _ => false
theorem num_ok {d : D} {lo hi : Int} {s : Store} (h : Ty d) : m_is_number [d, .int lo, .int hi] s = .ok (.bl (isNum lo hi d)) s := by
  have c : ∀ i : Int, d = .int i → mChain fLe fLe (mPeek 1) (mPeek 0) (mPeek 2) [.dat d, .dat (.int lo), .dat (.int hi)] s = .ok (.bl (decide (lo ≤ i) && decide (i ≤ hi))) s := fun i e => le_chain (by simp) (by simp [e]) (by simp)
  cases d with
  | int i => simp [m_is_number, b_is_number, mFn_run, startE, mAndV, mNotV, c i rfl, isNum]
  | cel _ => exact h.elim
  | scr _ => exact h.elim
  | dki _ _ => exact h.elim
  | dkt _ _ => exact h.elim
  | ins _ _ _ => exact h.elim
  | _ => simp [m_is_number, b_is_number, mFn_run, startE, mAndV, mNotV, isNum]
theorem tup_ok {d : D} {lo hi : Int} {s : Store} (h : Ty d) : m_is_tuple [d, .int lo, .int hi] s = .ok (.bl (isTup lo hi d)) s := by
  cases d with
  | tup xs =>
    have c : mChain fLe fLe (mPeek 1) (mBlt fLen (mCons (mPeek 0) mNil)) (mPeek 2) [.dat (.tup xs), .dat (.int lo), .dat (.int hi)] s = .ok (.bl (decide (lo ≤ (xs.length : Int)) && decide ((xs.length : Int) ≤ hi))) s := le_chain (by simp) (by simp [fLen]) (by simp)
    simp [m_is_tuple, b_is_tuple, mFn_run, startE, mAndV, c, isTup]
  | cel _ => exact h.elim
  | scr _ => exact h.elim
  | dki _ _ => exact h.elim
  | dkt _ _ => exact h.elim
  | ins _ _ _ => exact h.elim
  | _ => simp [m_is_tuple, b_is_tuple, mFn_run, startE, mAndV, isTup]
/-! ### all of a list -/
theorem bls_map {α : Type} (xs : List α) (f : α → Bool) : blsOf (xs.map fun d => .bl (f d)) = some (xs.map f) := by
  induction xs with
  | nil => rfl
  | cons x xs ih => simp [blsOf, ih]
theorem all_map {α : Type} (xs : List α) (f : α → Bool) : fAll [.lst (xs.map fun d => .bl (f d))] = some (.bl (xs.all f)) := by
  show (blsOf _).map _ = _
  rw [bls_map]
  simp [List.all_map]
theorem all_run {mi : Env → M (List D)} {t : Tg} {e : Env → M D} {o : List Nat} {Γ : Env} {s : Store} {xs : List D} (f : D → Bool) (hi : mi Γ s = .ok xs s) (hx : xs.length ≤ 100000) (he : ∀ d ∈ xs, ∃ Γ1, bindT t d (wipeE Γ o) = some Γ1 ∧ e Γ1 s = .ok (.bl (f d)) s) :
    mBlt fAll (mCons (mFrz (mLcL mi t mYes e o)) mNil) Γ s = .ok (.bl (xs.all f)) s := by
  simp only [mBlt_run, mCons_run, mFrz_run, mLcL_run, hi, R.bind_ok, hx, if_true, run_lc (fun d => .bl (f d)) xs he, mNil_run, all_map, R.opt_some]
def tupAll (f : D → Bool) : D → Bool
  | .tup xs => xs.all f
  | _ => false
def isRow (n : Nat) (d : D) : Bool := isTup n n d && tupAll (isNum 0 12) d
def TyL (xs : List D) : Prop := ∀ x ∈ xs, Ty x
/-- kinds are known two rows down -/
def Ty1 (d : D) : Prop := Ty d ∧ ∀ xs, (d = .tup xs ∨ d = .lst xs) → TyL xs
def Ty2 (d : D) : Prop := Ty d ∧ ∀ xs, (d = .tup xs ∨ d = .lst xs) → ∀ x ∈ xs, Ty1 x
theorem row_ok {d : D} {n : Nat} {s : Store} (h : Ty1 d) (hn : n ≤ 1000) : m_is_row [d, .int n] s = .ok (.bl (isRow n d)) s := by
  have e1 := tup_ok (lo := n) (hi := n) (s := s) h.1
  unfold m_is_row b_is_row
  rw [mFn_run]
  show endD (mRet _ [.dat d, .dat (.int n), .nul] s) = _
  rw [mRet_run, and_b (p := isTup n n d) (q := tupAll (isNum 0 12) d) (by simp [e1]) fun ht => ?_]
  · rfl
  · cases d with
    | tup xs =>
      have : xs.length = n := by simp [isTup] at ht; omega
      exact all_run (isNum 0 12) (by simp [fItems]) (by omega) fun d hd => ⟨_, rfl, by
        have := num_ok (lo := 0) (hi := 12) (s := s) (h.2 xs (.inl rfl) d hd)
        simp [this]⟩
    | _ => simp [isTup] at ht
/-! ### debts -/
def isDiag : Nat → List D → Bool
  | _, [] => true
  | k, .tup xs :: ds => (match xs[k]? with | some d => D.eqv d (.int 0) | none => false) && isDiag (k + 1) ds
  | _, _ => false
def isDebts (d : D) : Bool := isTup 2 4 d && (match d with | .tup xs => xs.all (isRow xs.length) && isDiag 0 xs | _ => false)
def diagB (p : D) : Bool := match p with
  | .tup [.int k, .tup xs] => (match xs[k.toNat]? with | some d => D.eqv d (.int 0) | none => false)
  | _ => false
theorem diag_all : ∀ (ds : List D) (k : Nat), (∀ d ∈ ds, ∃ xs, d = .tup xs) → (enumD k ds).all diagB = isDiag k ds
  | [], _, _ => rfl
  | d :: ds, k, h => by
    obtain ⟨xs, rfl⟩ := h d List.mem_cons_self
    show (diagB (.tup [.int k, .tup xs]) && (enumD (k + 1) ds).all diagB) = _
    rw [diag_all ds (k + 1) fun d hd => h d (List.mem_cons_of_mem _ hd)]
    rfl
theorem enum_mem : ∀ {ds : List D} {k : Nat} {p : D}, p ∈ enumD k ds → ∃ (j : Nat) (d : D), k ≤ j ∧ j < k + ds.length ∧ d ∈ ds ∧ p = .tup [.int j, d]
  | d :: ds, k, p, h => by
    rcases List.mem_cons.mp h with rfl | h
    · exact ⟨k, d, Nat.le_refl k, by simp, List.mem_cons_self, rfl⟩
    · obtain ⟨j, d', h1, h2, h3, h4⟩ := enum_mem h
      exact ⟨j, d', by omega, by simp; omega, List.mem_cons_of_mem _ h3, h4⟩
theorem row_tup {n : Nat} {d : D} (h : isRow n d = true) : ∃ xs, d = .tup xs ∧ xs.length = n ∧ ∀ x ∈ xs, ∃ i : Int, x = .int i ∧ 0 ≤ i ∧ i ≤ 12 := by
  cases d with
  | tup xs =>
    simp [isRow, isTup, tupAll] at h
    refine ⟨xs, rfl, by omega, fun x hx => ?_⟩
    have := h.2 x hx
    cases x with
    | int i => simp [isNum] at this; exact ⟨i, rfl, this⟩
    | _ => simp [isNum] at this
  | _ => simp [isRow, isTup] at h
theorem fEq_iz (i j : Int) : fEq (.int i) (.int j) = some (.bl (D.eqv (.int i) (.int j))) := rfl
theorem debts_ok {d : D} {s : Store} (h : Ty2 d) : m_are_good_debts [d] s = .ok (.bl (isDebts d)) s := by
  have e1 := tup_ok (lo := 2) (hi := 4) (s := s) h.1
  unfold m_are_good_debts b_are_good_debts
  rw [mFn_run]
  show endD (mSeq _ _ [.dat d, .nul, .nul] s) = _
  have c1 : (mNotT (mTest (mCall 3 m_is_tuple (mCons (mVar 0) (mCons (mCon (.int 2)) (mCons (mCon (.int 4)) mNil)))))) [.dat d, .nul, .nul] s = .ok (!isTup 2 4 d) s := notT_b (test_b (by simp [e1]))
  rw [mSeq_run, mIf_run]
  cases ht : isTup 2 4 d with
  | false =>
    rw [ht] at c1
    rw [orT_b (p := true) (q := true) c1 (fun h => nomatch h)]
    simp [isDebts, ht]
  | true =>
    rw [ht] at c1
    cases d with
    | tup xs =>
      have hx : xs.length ≤ 4 := by simp [isTup] at ht; omega
      have el : fLen [.tup xs] = some (.int xs.length) := rfl
      have a1 : (mBlt fAll (mCons (mFrz (mLcL (mItems (mVar 0)) (.nm 1) mYes (mCall 2 m_is_row (mCons (mVar 1) (mCons (mBlt fLen (mCons (mPeek 0) mNil)) mNil))) [1])) mNil)) [.dat (.tup xs), .nul, .nul] s = .ok (.bl (xs.all (isRow xs.length))) s :=
        all_run (isRow xs.length) (by simp [fItems]) (by omega) fun d hd => ⟨_, rfl, by
          have := row_ok (n := xs.length) (s := s) (h.2 xs (.inl rfl) d hd) (by omega)
          simp [el, this]⟩
      rw [orT_b (p := false) (q := !xs.all (isRow xs.length)) c1 (fun _ => notT_b (test_b a1))]
      cases ha : xs.all (isRow xs.length) with
      | false => simp [isDebts, ht, ha]
      | true =>
        have hr : ∀ d ∈ xs, isRow xs.length d = true := List.all_eq_true.mp ha
        have a2 : (mBlt fAll (mCons (mFrz (mLcL (mRng fEnum (mCons (mVar 0) mNil)) (.tp [(.nm 2), (.nm 1)]) mYes (mOp fEq (mIx (mPeek 1) (mVar 2)) (mCon (.int 0))) [2, 1])) mNil)) [.dat (.tup xs), .nul, .nul] s = .ok (.bl ((enumD 0 xs).all diagB)) s :=
          all_run diagB (by simp [fEnum, fItems]) (by rw [enumD_len]; omega) fun d hd => by
            obtain ⟨j, r, _, h2, h3, rfl⟩ := enum_mem hd
            obtain ⟨ys, rfl, hl, hy⟩ := row_tup (hr r h3)
            have hj : j < ys.length := by omega
            have hi : fIx (.tup ys) (.int (j : Int)) = some ys[j] := by
              show atI ys (j : Int) = _
              exact atI_nat hj
            obtain ⟨i, e, _⟩ := hy _ (List.getElem_mem hj)
            refine ⟨_, rfl, ?_⟩
            simp [hi, diagB, hj, Store.deref, e, D.eqv]
        rw [diag_all xs 0 fun d hd => by obtain ⟨ys, e, _⟩ := row_tup (hr d hd); exact ⟨ys, e⟩] at a2
        simp only [Bool.not_true, Bool.or_false, R.bind_ok, mNext_run, mRet_run, a2, endD_rt]
        simp [isDebts, ht, ha]
    | _ => simp [isTup] at ht
end PD
set_option maxRecDepth 100000
set_option maxHeartbeats 4000000
set_option exponentiation.threshold 20
namespace PD
open PySem PySem.Spec PyProof.Rows L2
/-! ## lots, facts, amounts -/
/-- data of known kinds, so deep, no row longer than L -/
def Gd (L : Nat) : Nat → D → Prop
  | 0, .non => True | 0, .bl _ => True | 0, .int _ => True | 0, .str x => strFine x = true
  | _ + 1, .non => True | _ + 1, .bl _ => True | _ + 1, .int _ => True | _ + 1, .str x => strFine x = true
  | n + 1, .tup xs => xs.length ≤ L ∧ ∀ x ∈ xs, Gd L n x
  | n + 1, .lst xs => xs.length ≤ L ∧ ∀ x ∈ xs, Gd L n x
  | _, _ => False
theorem Gd.ty {L n : Nat} {d : D} (h : Gd L n d) : Ty d := by
  cases n <;> cases d <;> simp_all [Gd, Ty]
theorem Gd.tup {L n : Nat} {xs : List D} (h : Gd L n (.tup xs)) : xs.length ≤ L ∧ ∃ m, n = m + 1 ∧ ∀ x ∈ xs, Gd L m x := by
  cases n with
  | zero => exact h.elim
  | succ m => exact ⟨h.1, m, rfl, h.2⟩
theorem Gd.lst {L n : Nat} {xs : List D} (h : Gd L n (.lst xs)) : xs.length ≤ L ∧ ∃ m, n = m + 1 ∧ ∀ x ∈ xs, Gd L m x := by
  cases n with
  | zero => exact h.elim
  | succ m => exact ⟨h.1, m, rfl, h.2⟩
theorem Gd.kid {L n : Nat} {xs : List D} {x : D} (h : Gd L n (.tup xs)) (hx : x ∈ xs) : ∃ m, n = m + 1 ∧ Gd L m x := by
  obtain ⟨_, m, e, h⟩ := h.tup
  exact ⟨m, e, h x hx⟩
theorem Gd.ty1 {L n : Nat} {d : D} (h : Gd L n d) : Ty1 d := by
  refine ⟨h.ty, fun xs e x hx => ?_⟩
  rcases e with rfl | rfl
  · obtain ⟨_, m, e, q⟩ := h.tup
    exact (q x hx).ty
  · obtain ⟨_, m, e, q⟩ := h.lst
    exact (q x hx).ty
theorem Gd.ty2 {L n : Nat} {d : D} (h : Gd L n d) : Ty2 d := by
  refine ⟨h.ty, fun xs e x hx => ?_⟩
  rcases e with rfl | rfl
  · obtain ⟨_, m, e, q⟩ := h.tup
    exact (q x hx).ty1
  · obtain ⟨_, m, e, q⟩ := h.lst
    exact (q x hx).ty1
theorem isTup_len {few many : Int} {d : D} (h : isTup few many d = true) : ∃ xs, d = .tup xs ∧ few ≤ xs.length ∧ (xs.length : Int) ≤ many := by
  cases d with
  | tup xs => simp [isTup] at h; exact ⟨xs, rfl, h⟩
  | _ => simp [isTup] at h
def ltP (p : D) : Bool := match p with
  | .tup [.int a, .int b] => decide (a < b)
  | _ => false
def isUp (xs : List D) : Bool := (zipD xs xs.tail).all ltP
def isLot (n : Nat) (d : D) : Bool := (isTup 0 n d && tupAll (isNum 0 (n - 1)) d) && (match d with | .tup xs => isUp xs | _ => false)
theorem zip_mem' : ∀ {xs ys : List D} {p : D}, p ∈ zipD xs ys → ∃ a b, a ∈ xs ∧ b ∈ ys ∧ p = .tup [a, b]
  | [], _, p, h => by simp [zipD] at h
  | _ :: _, [], p, h => by simp [zipD] at h
  | x :: xs, y :: ys, p, h => by
    rw [zipD] at h
    rcases List.mem_cons.mp h with rfl | h
    · exact ⟨x, y, List.mem_cons_self, List.mem_cons_self, rfl⟩
    · obtain ⟨a, b, h1, h2, h3⟩ := zip_mem' h
      exact ⟨a, b, List.mem_cons_of_mem _ h1, List.mem_cons_of_mem _ h2, h3⟩
theorem zip_len : ∀ {xs ys : List D}, (zipD xs ys).length ≤ xs.length
  | [], _ => by simp [zipD]
  | _ :: _, [] => by simp [zipD]
  | x :: xs, y :: ys => by simp [zipD]; exact zip_len
theorem cut_fromN {α : Type} (xs : List α) (k : Nat) : cutD xs (some (k : Int)) none = xs.drop k := by
  unfold cutD
  rw [HT.sIx_nat, HT.sIx_none]
  by_cases h : k ≤ xs.length
  · rw [Nat.min_eq_left h]
    exact List.take_of_length_le (by simp)
  · rw [Nat.min_eq_right (by omega), List.drop_of_length_le (by omega), List.drop_of_length_le (by omega)]
    simp
theorem cut_toN {α : Type} (xs : List α) (k : Nat) : cutD xs none (some (k : Int)) = xs.take k := by
  unfold cutD
  rw [HT.sIx_nat, HT.sIx_none, List.drop_zero, Nat.sub_zero]
  by_cases h : k ≤ xs.length
  · rw [Nat.min_eq_left h]
  · rw [Nat.min_eq_right (by omega), List.take_of_length_le (by omega), List.take_of_length_le (by omega)]
theorem cut_tail (xs : List D) : cutD xs (some 1) none = xs.tail := by
  have := cut_fromN xs 1
  rw [List.drop_one] at this
  exact this
/-! ### facts -/
def wordB (x : Str) : Bool := D.anyEq (.str x) (w_WORDS.map .str)
def isFact (n : Nat) (d : D) : Bool := match d with
  | .tup [.str w, a, b, k] => wordB w && (isLot n a && (isLot n b && isNum (-60) 60 k))
  | _ => false
theorem word_in {x : Str} (h : strFine x = true) : fNotIn (.str x) d_WORDS = some (.bl (!wordB x)) := by
  unfold fNotIn
  rw [if_pos]
  · rfl
  · have : D.fine 60 d_WORDS = true := by decide +kernel
    simp [D.fine, h, this]
def isFacts (n : Nat) (d : D) : Bool := isTup 0 5 d && tupAll (isFact n) d
/-! ### amounts -/
def isAmt (most : Int) (d : D) : Bool := match d with
  | .tup [a, b] => isNum 0 most a && (isNum 1 most b && (match a, b with | .int a, .int b => decide (part [a, b] = 1) | _, _ => false))
  | _ => false
theorem isNum_int {lo hi : Int} {d : D} (h : isNum lo hi d = true) : ∃ i, d = .int i ∧ lo ≤ i ∧ i ≤ hi := by
  cases d with
  | int i => simp [isNum] at h; exact ⟨i, rfl, h⟩
  | _ => simp [isNum] at h
def isAmts (n : Nat) (d : D) : Bool := isTup n n d && tupAll (isAmt 1000000000000) d
end PD
set_option maxRecDepth 100000
set_option maxHeartbeats 4000000
set_option exponentiation.threshold 20
namespace PD
open PySem PySem.Spec PyProof.Rows L2

/-! ## the law's own: part, unit, clear, out -/
theorem part_max {xs : List Int} : (if (gcdL xs : Int) > 1 then (gcdL xs : Int) else 1) = (part xs : Int) := by
  unfold part
  by_cases h : gcdL xs > 0
  · rw [if_pos h]
    by_cases h1 : (gcdL xs : Int) > 1
    · rw [if_pos h1]
    · rw [if_neg h1]; omega
  · rw [if_neg h, if_neg (by omega)]; rfl
/-- the loops of _law_clear are those of divisor, two slots further -/
abbrev lgC : Env → M Bool := mTest (mOp fGt (mPeek 6) (mCon (.int 0)))
abbrev lgB : MS := mPar [5, 6] (mRcons (mSd (mVar 6)) (mRcons (mSd (mOp fMod (mPeek 5) (mPeek 6))) mRnil))
theorem lg_step {x0 x1 x2 x3 x4 x7 : SV} {a b : Nat} {s : Store} (hb : 0 < b) : lgB [x0, x1, x2, x3, x4, .dat (.int a), .dat (.int b), x7] s = .ok (.nx [x0, x1, x2, x3, x4, .dat (.int b), .dat (.int ((a % b : Nat) : Int)), x7]) s := by
  have e : fMod (.int (a : Int)) (.int (b : Int)) = some (.int ((a % b : Nat) : Int)) := by
    rw [fMod_ii (by omega)]; rfl
  simp [lgB, e]
theorem lg_test {x0 x1 x2 x3 x4 x5 x7 : SV} {b : Nat} {s : Store} : lgC [x0, x1, x2, x3, x4, x5, .dat (.int b), x7] s = .ok (decide (0 < b)) s := by
  simp [lgC]
theorem lg_loop {x0 x1 x2 x3 x4 x7 : SV} {s : Store} : ∀ (n m : Nat) (a b : Nat), b < 2 ^ n → 2 * n + 1 ≤ m → mWhile lgC lgB m [x0, x1, x2, x3, x4, .dat (.int a), .dat (.int b), x7] s = .ok (.nx [x0, x1, x2, x3, x4, .dat (.int (Nat.gcd a b)), .dat (.int 0), x7]) s
  | 0, m + 1, a, b, h, hm => by
    have : b = 0 := by simpa using h
    subst this
    rw [run_while_end (lg_test (b := 0))]
    simp
  | n + 1, m + 1, a, b, h, hm => by
    by_cases hb : b = 0
    · subst hb
      rw [run_while_end (lg_test (b := 0))]
      simp
    · rw [run_while_ok (s1 := s) (by rw [lg_test]; simp; omega) (lg_step (by omega))]
      cases m with
      | zero => omega
      | succ m =>
        by_cases hr : a % b = 0
        · rw [hr, run_while_end (lg_test (b := 0))]
          rw [Nat.gcd_comm a b, Nat.gcd_rec b a, hr, Nat.gcd_zero_left]
          rfl
        · rw [run_while_ok (s1 := s) (by rw [lg_test]; simp; omega) (lg_step (by omega))]
          have h1 : a % b < b := Nat.mod_lt _ (by omega)
          have h2 : b % (a % b) < a % b := Nat.mod_lt _ (by omega)
          have h3 : b % (a % b) ≤ b - a % b := by
            rw [Nat.mod_eq_sub_mod (Nat.le_of_lt h1)]
            exact Nat.mod_le _ _
          rw [lg_loop n m (a % b) (b % (a % b)) (by rw [Nat.pow_succ] at h; omega) (by omega)]
          have e : Nat.gcd (a % b) (b % (a % b)) = Nat.gcd a b := by
            rw [Nat.gcd_comm a b, Nat.gcd_rec b a, Nat.gcd_rec (a % b) b, Nat.gcd_comm]
          rw [e]
abbrev lgD : MS := mSeq (mPar [5, 6] (mRcons (mSd (mVar 4)) (mRcons (mSd (mBlt fAbs (mCons (mPeek 7) mNil))) mRnil))) (mSeq (mWhile lgC lgB wfuel) (mAsg 4 (mSd (mVar 5))))
theorem lg_all {x0 x1 x2 x3 : SV} {s : Store} : ∀ (xs : List Int) (g : Nat) (x5 x6 x7 : SV), (∀ x ∈ xs, x.natAbs.log2 < 900000) → ∃ y5 y6 y7, forGo (.nm 7) lgD (xs.map .int) [x0, x1, x2, x3, .dat (.int g), x5, x6, x7] s = .ok (.nx [x0, x1, x2, x3, .dat (.int ((xs.foldl (fun g x => Nat.gcd g x.natAbs) g : Nat) : Int)), y5, y6, y7]) s
  | [], g, x5, x6, x7, _ => ⟨x5, x6, x7, rfl⟩
  | x :: xs, g, x5, x6, x7, h => by
    obtain ⟨y2, y3, y4, ih⟩ := lg_all (x0 := x0) (x1 := x1) (x2 := x2) (x3 := x3) (s := s) xs (Nat.gcd g x.natAbs) (.dat (.int (Nat.gcd g x.natAbs))) (.dat (.int 0)) (.dat (.int x)) fun z hz => h z (List.mem_cons_of_mem _ hz)
    refine ⟨y2, y3, y4, ?_⟩
    have st : lgD [x0, x1, x2, x3, .dat (.int g), x5, x6, .dat (.int x)] s = .ok (.nx [x0, x1, x2, x3, .dat (.int (Nat.gcd g x.natAbs)), .dat (.int (Nat.gcd g x.natAbs)), .dat (.int 0), .dat (.int x)]) s := by
      have e := lg_loop (x0 := x0) (x1 := x1) (x2 := x2) (x3 := x3) (x4 := .dat (.int g)) (x7 := .dat (.int x)) (s := s) 900000 wfuel g x.natAbs (lt_of_log (h x List.mem_cons_self)) wfuel_big
      simp only [lgD, mSeq_run, mPar_run, mRcons_run, mSd_run, mVar_run, mBlt_run, mCons_run, mPeek_run, mNil_run, mRnil_run, mAsg_run]
      simp [e]
    rw [List.map_cons]
    show (match bindT (.nm 7) (.int x) [x0, x1, x2, x3, .dat (.int g), x5, x6, x7] with
      | none => R.bad
      | some Γ1 => (lgD Γ1 s).bind _) = _
    simp only [bindT, List.set_cons_succ, List.set_cons_zero]
    rw [st]
    exact ih
end PD
set_option maxRecDepth 100000
set_option maxHeartbeats 4000000
set_option exponentiation.threshold 20
namespace PD
open PySem PySem.Spec PyProof.Rows L2
/-! ## the law's reading of values -/
mutual
theorem Gd.fine {L : Nat} : ∀ {n k : Nat} {d : D}, Gd L n d → n ≤ k → D.fine k d = true
  | _, _, .non, _, _ => by simp [D.fine]
  | _, _, .bl _, _, _ => by simp [D.fine]
  | _, _, .int _, _, _ => by simp [D.fine]
  | 0, _, .str _, h, _ => by simp only [D.fine]; exact h
  | _ + 1, _, .str _, h, _ => by simp only [D.fine]; exact h
  | n + 1, k, .tup xs, h, hk => by
    rw [D.fine, Gd.fineL (n := n) (k := k - 1) h.2 (by omega)]
    simp; omega
  | n + 1, k, .lst xs, h, hk => by
    rw [D.fine, Gd.fineL (n := n) (k := k - 1) h.2 (by omega)]
    simp; omega
  | 0, _, .tup _, h, _ => h.elim
  | 0, _, .lst _, h, _ => h.elim
  | 0, _, .cel _, h, _ => h.elim
  | 0, _, .scr _, h, _ => h.elim
  | 0, _, .dki _ _, h, _ => h.elim
  | 0, _, .dkt _ _, h, _ => h.elim
  | 0, _, .ins _ _ _, h, _ => h.elim
  | _ + 1, _, .cel _, h, _ => h.elim
  | _ + 1, _, .scr _, h, _ => h.elim
  | _ + 1, _, .dki _ _, h, _ => h.elim
  | _ + 1, _, .dkt _ _, h, _ => h.elim
  | _ + 1, _, .ins _ _ _, h, _ => h.elim
theorem Gd.fineL {L : Nat} : ∀ {n k : Nat} {xs : List D}, (∀ x ∈ xs, Gd L n x) → n ≤ k → D.fineL k xs = true
  | _, _, [], _, _ => by simp [D.fineL]
  | n, k, x :: xs, h, hk => by
    rw [D.fineL, Gd.fine (h x List.mem_cons_self) hk, Gd.fineL (fun y hy => h y (List.mem_cons_of_mem _ hy)) hk]; rfl
end
theorem fEq_emp {xs : List D} (h : D.fineL 59 xs = true) : fEq (.lst xs) (.lst []) = some (.bl xs.isEmpty) := by
  unfold fEq
  rw [if_pos (by simp [D.fine, h, D.fineL])]
  cases xs <;> rfl
theorem filt_empty {xs : List D} {f : D → Bool} : (xs.filter fun d => !f d).isEmpty = xs.all f := by
  rw [Bool.eq_iff_iff, List.isEmpty_iff, List.filter_eq_nil_iff, List.all_eq_true]
  constructor
  · intro h x hx; simpa using h x hx
  · intro h x hx; simpa using h x hx
/-! ### loops that look for a bad one -/
theorem for_all {I : Env → Prop} {t : Tg} {b : MS} {s : Store} (f : D → Bool) : ∀ (ds : List D) (Γ : Env), I Γ → (∀ d ∈ ds, ∀ Γ, I Γ → ∃ Γ1, bindT t d Γ = some Γ1 ∧ (f d = true → ∃ Γ', b Γ1 s = .ok (.nx Γ') s ∧ I Γ') ∧ (f d = false → b Γ1 s = .ok (.rt (.bl false)) s)) →
    ∃ Γ', I Γ' ∧ forGo t b ds Γ s = .ok (if ds.all f = true then .nx Γ' else .rt (.bl false)) s
  | [], Γ, h, _ => ⟨Γ, h, rfl⟩
  | d :: ds, Γ, h, hb => by
    obtain ⟨Γ1, e1, ht, hf⟩ := hb d List.mem_cons_self Γ h
    cases hd : f d with
    | true =>
      obtain ⟨Γ', e2, hI⟩ := ht hd
      obtain ⟨Γ2, hI2, e3⟩ := for_all f ds Γ' hI fun d hd => hb d (List.mem_cons_of_mem _ hd)
      refine ⟨Γ2, hI2, ?_⟩
      unfold forGo
      rw [e1]
      show (b Γ1 s).bind _ = _
      rw [e2]
      show forGo t b ds Γ' s = _
      rw [e3, List.all_cons, hd, Bool.true_and]
    | false =>
      refine ⟨Γ, h, ?_⟩
      unfold forGo
      rw [e1]
      show (b Γ1 s).bind _ = _
      rw [hf hd, List.all_cons, hd, Bool.false_and]
      rfl
theorem fNe_iz (i j : Int) : fNe (.int i) (.int j) = some (.bl (!D.eqv (.int i) (.int j))) := rfl
theorem all_and {α : Type} (f g : α → Bool) : ∀ xs : List α, (xs.all fun x => f x && g x) = (xs.all f && xs.all g)
  | [] => rfl
  | x :: xs => by
    simp only [List.all_cons, all_and f g xs]
    cases f x <;> cases g x <;> simp
def rowP (n : Nat) (p : D) : Bool := match p with
  | .tup [_, r] => isRow n r
  | _ => false
theorem rowP_all {n : Nat} : ∀ (ds : List D) (k : Nat), (enumD k ds).all (rowP n) = ds.all (isRow n)
  | [], _ => rfl
  | d :: ds, k => by
    show (isRow n d && (enumD (k + 1) ds).all (rowP n)) = _
    rw [rowP_all ds (k + 1)]; rfl
end PD
set_option maxRecDepth 100000
set_option maxHeartbeats 4000000
set_option exponentiation.threshold 20
namespace PD
open PySem PySem.Spec PyProof.Rows L2
theorem ones_fine : ∀ n : Nat, D.fineL 59 (List.replicate n (.int 1)) = true
  | 0 => rfl
  | n + 1 => by
    show (D.fine 59 (.int 1) && D.fineL 59 (List.replicate n (.int 1))) = true
    rw [ones_fine n]; rfl
/-! ### what three functions tell -/
theorem fEq_bb (a b : Bool) : fEq (.bl a) (.bl b) = some (.bl (a == b)) := rfl
theorem fNe_bb (a b : Bool) : fNe (.bl a) (.bl b) = some (.bl (!(a == b))) := rfl
theorem fold_loop {I : Bool → Env → Prop} {t : Tg} {b : MS} {s : Store} (f : D → Bool) : ∀ (ds : List D) (g : Bool) (Γ : Env), I g Γ → (∀ d ∈ ds, ∀ g Γ, I g Γ → ∃ Γ1 Γ', bindT t d Γ = some Γ1 ∧ b Γ1 s = .ok (.nx Γ') s ∧ I (g && f d) Γ') → ∃ Γ', I (g && ds.all f) Γ' ∧ forGo t b ds Γ s = .ok (.nx Γ') s
  | [], g, Γ, h, _ => ⟨Γ, by simpa using h, rfl⟩
  | d :: ds, g, Γ, h, hb => by
    obtain ⟨Γ1, Γ', h1, h2, h3⟩ := hb d List.mem_cons_self g Γ h
    obtain ⟨Γ2, h4, h5⟩ := fold_loop f ds (g && f d) Γ' h3 fun d hd => hb d (List.mem_cons_of_mem _ hd)
    refine ⟨Γ2, by simpa [Bool.and_assoc] using h4, ?_⟩
    unfold forGo
    rw [h1]
    show (b Γ1 s).bind _ = _
    rw [h2]
    exact h5
theorem isdebts_ok {d : D} {s : Store} (h : Ty2 d) : m_is_debts [d] s = .ok (.bl (isDebts d)) s := by
  have e := debts_ok (s := s) h
  simp [m_is_debts, b_is_debts, mFn_run, startE, e]
end PD
set_option maxRecDepth 100000
set_option maxHeartbeats 4000000
namespace PD
open PySem PySem.Spec PyProof.Rows L2

/-! ## a law's source of draws -/
theorem log_of {i : Int} {n : Nat} (hn : 0 < n) (h0 : 0 ≤ i) (h : i < ((2 ^ n : Nat) : Int)) : i.natAbs.log2 < n := by
  have h1 : i.natAbs < 2 ^ n := by omega
  by_cases z : i.natAbs = 0
  · rw [z]; simpa using hn
  · exact (Nat.log2_lt z).mpr h1
def Src (s : Store) (i : Nat) : Prop := ∃ c z : Int, s[i]? = some (.lst [.int c, .int z]) ∧ 0 ≤ c ∧ 0 ≤ z ∧ z < 2147483647
theorem Src.app {s : Store} {c z : Int} (hc : 0 ≤ c) (hz : 0 ≤ z) (hz2 : z < 2147483647) : Src (s ++ [.lst [.int c, .int z]]) s.length := ⟨c, z, by simp, hc, hz, hz2⟩
abbrev srcT : MS := mSeq (mIf (mTest (mOp fLt (mPeek 2) (mOp fPow (mCon (.int 10)) (mCon (.int 18))))) (mRetO (mLstO (mCons (mCon (.int 0)) (mCons (mOp fAdd (mCon (.int 1)) (mOp fMod (mBlt fInt (mCons (mOp fAdd (mOp fMul (mPeek 2) (mCon (.int 7919))) (mOp fMul (mCon (.int 104729)) (mPeek 1))) mNil)) (mCon (.int 2147483646)))) mNil)))) mNext)
      (mRetO (mLstO (mCons (mVar 2) (mCons (mOp fAdd (mCon (.int 1)) (mOp fMod (mBlt fInt (mCons (mOp fAdd (mPeek 2) (mPeek 1)) mNil)) (mCon (.int 2147483646)))) mNil))))
theorem src_end (ns : List Int) (k : Nat) (hk : k ≤ 1000) (s : Store) (c : Int) (hc : 0 ≤ c) : ∃ c' z : Int, 0 ≤ c' ∧ 0 ≤ z ∧ z < 2147483647 ∧ srcT [.dat (.scr ns), .dat (.int k), .dat (.int c)] s = .ok (.ro [.int c', .int z]) s := by
  have p18 : fPow (.int 10) (.int 18) = some (.int 1000000000000000000) := by rfl
  by_cases h : c < 1000000000000000000
  · refine ⟨0, 1 + (c * 7919 + 104729 * k) % 2147483646, by decide, ?_, ?_, ?_⟩
    · have := Int.emod_nonneg (c * 7919 + 104729 * k) (show (2147483646 : Int) ≠ 0 by decide); omega
    · have := Int.emod_lt_of_pos (c * 7919 + 104729 * k) (show (0 : Int) < 2147483646 by decide); omega
    · have l1 : fMul (.int c) (.int 7919) = some (.int (c * 7919)) := fMul_ii (by
        have := log_of (n := 60) (by decide) hc (Int.lt_of_lt_of_le h (by decide))
        have : (7919 : Int).natAbs.log2 < 100 := by decide
        omega)
      have l2 : fMul (.int 104729) (.int k) = some (.int (104729 * k)) := fMul_ii (by
        have : (104729 : Int).natAbs.log2 < 100 := by decide
        have := log_of (i := (k : Int)) (n := 10) (by decide) (by omega) (Int.lt_of_le_of_lt (show (k : Int) ≤ 1000 by omega) (by decide))
        omega)
      have l3 : fMod (.int (c * 7919 + 104729 * k)) (.int 2147483646) = some (.int ((c * 7919 + 104729 * k) % 2147483646)) := fMod_ii (by decide)
      simp [p18, h, l1, l2, l3]
  · refine ⟨c, 1 + (c + k) % 2147483646, hc, ?_, ?_, ?_⟩
    · have := Int.emod_nonneg (c + k) (show (2147483646 : Int) ≠ 0 by decide); omega
    · have := Int.emod_lt_of_pos (c + k) (show (0 : Int) < 2147483646 by decide); omega
    · have l3 : fMod (.int (c + k)) (.int 2147483646) = some (.int ((c + k) % 2147483646)) := fMod_ii (by decide)
      simp [p18, h, l3]
theorem source_ok (ns : List Int) (k : Nat) (hk : k ≤ 1000) (s : Store) : ∃ c z : Int, 0 ≤ c ∧ 0 ≤ z ∧ z < 2147483647 ∧ m__law_source [.scr ns, .int k] s = .ok [.int c, .int z] s := by
  have run : ∀ c : Int, (mSeq (mAsg 2 (mSd (mCon (.int 0)))) (mSeq (mIf (mTest (mOp fLt (mPeek 1) (mBlt fLen (mCons (mPeek 0) mNil)))) (mAsg 2 (mSd (mBlt fAbs (mCons (mBlt fInt (mCons (mIx (mPeek 0) (mVar 1)) mNil)) mNil)))) mNext) srcT)) [.dat (.scr ns), .dat (.int k), .nul] s = srcT [.dat (.scr ns), .dat (.int k), .dat (.int c)] s → 0 ≤ c →
      ∃ c z : Int, 0 ≤ c ∧ 0 ≤ z ∧ z < 2147483647 ∧ m__law_source [.scr ns, .int k] s = .ok [.int c, .int z] s := fun c e hc => by
    obtain ⟨c', z, h1, h2, h3, h4⟩ := src_end ns k hk s c hc
    refine ⟨c', z, h1, h2, h3, ?_⟩
    show endO ((mSeq (mAsg 2 (mSd (mCon (.int 0)))) (mSeq (mIf (mTest (mOp fLt (mPeek 1) (mBlt fLen (mCons (mPeek 0) mNil)))) (mAsg 2 (mSd (mBlt fAbs (mCons (mBlt fInt (mCons (mIx (mPeek 0) (mVar 1)) mNil)) mNil)))) mNext) srcT)) [.dat (.scr ns), .dat (.int k), .nul] s) = _
    rw [e, h4]; rfl
  by_cases h : k < ns.length
  · refine run (if ns[k] < 0 then -ns[k] else ns[k]) ?_ (by split <;> omega)
    have e1 : fIx (s.deref (.scr ns)) (.int k) = some (.int ns[k]) := by
      show (atI ns k).map D.int = _
      unfold atI ixN
      rw [if_pos (by omega), if_pos (by omega)]
      simp [h]
    have e2 : fLen [.scr ns] = some (.int ns.length) := rfl
    have e3 : fAbs [.int ns[k]] = some (.int (if ns[k] < 0 then -ns[k] else ns[k])) := rfl
    simp [e1, e2, e3, h]
  · refine run 0 ?_ (by decide)
    have e2 : fLen [.scr ns] = some (.int ns.length) := rfl
    simp [e2, h]
theorem draw_ok {s : Store} {i : Nat} {n : Int} (hs : Src s i) (hn : 0 < n) (hn2 : n ≤ 1000000000000) : ∃ (d : Int) (s' : Store), 0 ≤ d ∧ d < n ∧ Src s' i ∧ s'.length = s.length ∧ (∀ j, j ≠ i → s'[j]? = s[j]?) ∧ m__law_draw [.cel i, .int n] s = .ok (.int d) s' := by
  obtain ⟨c, z, h, hc, hz, hz2⟩ := hs
  have hi : i < s.length := (List.getElem?_eq_some_iff.mp h).1
  have dr : ∀ (t : Store) (a b : D), t[i]? = some (.lst [a, b]) → t.deref (.cel i) = .lst [a, b] := fun t a b h => by
    show t.lstAt i = _
    unfold Store.lstAt
    rw [h]
  have i0 : ∀ a b : D, fIx (.lst [a, b]) (.int 0) = some a := fun a b => rfl
  have i1 : ∀ a b : D, fIx (.lst [a, b]) (.int 1) = some b := fun a b => rfl
  have x0 : ixN 2 0 = some 0 := by decide
  have x1 : ixN 2 1 = some 1 := by decide
  have nl : n.natAbs.log2 < 9000 := Nat.lt_of_lt_of_le (log_of (n := 41) (by decide) (by omega) (Int.lt_of_le_of_lt hn2 (by decide))) (by decide)
  by_cases h0 : 0 < c
  · have l1 : fMod (.int c) (.int n) = some (.int (c % n)) := fMod_ii hn
    have l2 : fDiv (.int c) (.int n) = some (.int (c / n)) := fDiv_ii hn nl
    refine ⟨c % n, s.set i (.lst [.int (c / n), .int z]), Int.emod_nonneg _ (by omega), Int.emod_lt_of_pos _ hn, ⟨c / n, z, by simp [hi], Int.ediv_nonneg hc (by omega), hz, hz2⟩, by simp, fun j hj => List.getElem?_set_ne (Ne.symm hj), ?_⟩
    unfold m__law_draw b__law_draw
    simp [mFn_run, startE, dr s _ _ h, i0, h0, l1, l2, x0, h, mSetC]
  · have c0 : ¬ 0 < c := h0
    have l1 : fMul (.int z) (.int 48271) = some (.int (z * 48271)) := fMul_ii (by
      have := log_of (n := 31) (by decide) hz (Int.lt_trans hz2 (by decide))
      have : (48271 : Int).natAbs.log2 < 100 := by decide
      omega)
    have l2 : fMod (.int (z * 48271)) (.int 2147483647) = some (.int (z * 48271 % 2147483647)) := fMod_ii (by decide)
    have g0 := Int.emod_nonneg (z * 48271) (show (2147483647 : Int) ≠ 0 by decide)
    have g1 := Int.emod_lt_of_pos (z * 48271) (show (0 : Int) < 2147483647 by decide)
    generalize hg : z * 48271 % 2147483647 = w at l2 g0 g1
    have l3 : fMul (.int w) (.int w) = some (.int (w * w)) := fMul_ii (by
      have := log_of (n := 31) (by decide) g0 (Int.lt_trans g1 (by decide))
      omega)
    have l4 : fMod (.int (w * w)) (.int 2147483629) = some (.int (w * w % 2147483629)) := fMod_ii (by decide)
    have l5 : fDiv (.int (w * w % 2147483629)) (.int 64) = some (.int (w * w % 2147483629 / 64)) := fDiv_ii (by decide) (by decide)
    have l6 : fMod (.int (w * w % 2147483629 / 64)) (.int n) = some (.int (w * w % 2147483629 / 64 % n)) := fMod_ii hn
    have h' : (s.set i (.lst [.int c, .int w]))[i]? = some (.lst [.int c, .int w]) := by simp [hi]
    refine ⟨w * w % 2147483629 / 64 % n, s.set i (.lst [.int c, .int w]), Int.emod_nonneg _ (by omega), Int.emod_lt_of_pos _ hn, ⟨c, w, h', hc, g0, g1⟩, by simp, fun j hj => List.getElem?_set_ne (Ne.symm hj), ?_⟩
    unfold m__law_draw b__law_draw
    simp [mFn_run, startE, dr s _ _ h, i0, i1, c0, l1, l2, l3, l4, l5, l6, x1, h, mSetC, dr _ _ _ h']
end PD
set_option maxRecDepth 100000
set_option maxHeartbeats 4000000
set_option exponentiation.threshold 20000
namespace PD
open PySem PySem.Spec PyProof.Rows L2
/-! ## what the law draws -/
theorem for_inv (tg : Tg) (b : MS) (I : Env → Store → Prop) : ∀ (ds : List D) (Γ : Env) (s : Store), I Γ s → (∀ d ∈ ds, ∀ Γ s, I Γ s → ∃ Γ1 Γ' s', bindT tg d Γ = some Γ1 ∧ b Γ1 s = .ok (.nx Γ') s' ∧ I Γ' s') → ∃ Γ' s', I Γ' s' ∧ forGo tg b ds Γ s = .ok (.nx Γ') s'
  | [], Γ, s, h, _ => ⟨Γ, s, h, rfl⟩
  | d :: ds, Γ, s, h, hb => by
    obtain ⟨Γ1, Γ', s', h1, h2, h3⟩ := hb d List.mem_cons_self Γ s h
    obtain ⟨Γ2, s2, h4, h5⟩ := for_inv tg b I ds Γ' s' h3 fun d hd => hb d (List.mem_cons_of_mem _ hd)
    refine ⟨Γ2, s2, h4, ?_⟩
    unfold forGo
    rw [h1]
    show (b Γ1 s).bind _ = _
    rw [h2]
    exact h5
theorem for_ix (tg : Tg) (b : MS) (I : Nat → Env → Store → Prop) : ∀ (m k : Nat) (Γ : Env) (s : Store), I k Γ s → (∀ j, k ≤ j → j < k + m → ∀ Γ s, I j Γ s → ∃ Γ1 Γ' s', bindT tg (.int (j : Int)) Γ = some Γ1 ∧ b Γ1 s = .ok (.nx Γ') s' ∧ I (j + 1) Γ' s') →
    ∃ Γ' s', I (k + m) Γ' s' ∧ forGo tg b ((List.range' k m).map fun (j : Nat) => D.int (j : Int)) Γ s = .ok (.nx Γ') s'
  | 0, k, Γ, s, h, _ => ⟨Γ, s, h, rfl⟩
  | m + 1, k, Γ, s, h, hb => by
    obtain ⟨Γ1, Γ', s', h1, h2, h3⟩ := hb k (by omega) (by omega) Γ s h
    obtain ⟨Γ2, s2, h4, h5⟩ := for_ix tg b I m (k + 1) Γ' s' h3 fun j h1 h2 => hb j (by omega) (by omega)
    refine ⟨Γ2, s2, by rw [show k + (m + 1) = k + 1 + m by omega]; exact h4, ?_⟩
    rw [List.range'_succ, List.map_cons]
    unfold forGo
    rw [h1]
    show (b Γ1 s).bind _ = _
    rw [h2]
    exact h5
theorem fRng1_ix {n : Nat} (h : n ≤ 1000) : fRng1 [.int (n : Int)] = some ((List.range' 0 n).map fun (j : Nat) => D.int (j : Int)) := by
  rw [← List.range_eq_range']
  exact fRng1_nat (by omega)
theorem of_ok {s : Store} {i : Nat} {items : List D} (hs : Src s i) (h0 : 0 < items.length) (hl : items.length ≤ 1000) : ∃ (d : D) (s' : Store), d ∈ items ∧ Src s' i ∧ m__law_of [.cel i, .lst items] s = .ok d s' := by
  obtain ⟨k, s', k0, k1, hs', _, _, e⟩ := draw_ok (n := items.length) hs (by omega) (by omega)
  obtain ⟨k, rfl⟩ : ∃ j : Nat, k = j := ⟨k.toNat, by omega⟩
  have hk : k < items.length := by omega
  refine ⟨items[k], s', List.getElem_mem hk, hs', ?_⟩
  have ix : fIx (.lst items) (.int (k : Int)) = some items[k] := by
    show atI items (k : Int) = _
    exact atI_nat hk
  have dr : s'.deref (.lst items) = .lst items := rfl
  unfold m__law_of b__law_of
  rw [mFn_run]
  show endD (mRet _ [.dat (.cel i), .dat (.lst items)] s) = _
  simp only [mRet_run, mIx_run, mPeek_run, mCall_run, mCons_run, mVar_run, mBlt_run, mNil_run, List.getElem?_cons_succ, List.getElem?_cons_zero, R.bind_ok, fLen_lst, R.opt_some, List.length_cons, List.length_nil, Nat.reduceAdd, if_true, e, dr, ix, endD_rt]
/-! ### debts -/
def Owed (d : Int) : Prop := 0 ≤ d ∧ d ≤ 12
structure RowIs (p j : Nat) (xs : List Int) : Prop where
  len : xs.length = j
  ok : ∀ x ∈ xs, Owed x
  diag : p < j → xs[p]? = some 0
def eR (xs : List Int) : D := .tup (xs.map .int)
abbrev owedE : Env → M D := mCall 2 m__law_of (mCons (mVar 0) (mCons (mLst (mCons (mCon (.int 0)) (mCons (mCon (.int 0)) (mCons (mCon (.int 0)) (mCons (mCon (.int 1)) (mCons (mCon (.int 2)) (mCons (mCon (.int 3)) (mCons (mCon (.int 4)) (mCons (mCon (.int 6)) (mCons (mCon (.int 12)) (mCons (mCall 2 m__law_draw (mCons (mVar 0) (mCons (mCon (.int 13)) mNil))) mNil))))))))))) mNil))
theorem owed_ok {Γ : Env} {s : Store} {i : Nat} (h0 : Γ[0]? = some (.dat (.cel i))) (hs : Src s i) : ∃ (d : Int) (s' : Store), Owed d ∧ Src s' i ∧ owedE Γ s = .ok (.int d) s' := by
  obtain ⟨k, s1, k0, k1, hs1, _, _, e⟩ := draw_ok (n := 13) hs (by decide) (by decide)
  obtain ⟨d, s2, hd, hs2, e2⟩ := of_ok (items := [.int 0, .int 0, .int 0, .int 1, .int 2, .int 3, .int 4, .int 6, .int 12, .int k]) hs1 (by simp) (by simp)
  have : ∃ z : Int, d = .int z ∧ Owed z := by
    simp only [List.mem_cons, List.not_mem_nil, or_false] at hd
    rcases hd with rfl | rfl | rfl | rfl | rfl | rfl | rfl | rfl | rfl | rfl
    all_goals exact ⟨_, rfl, by unfold Owed; omega⟩
  obtain ⟨z, rfl, hz⟩ := this
  refine ⟨z, s2, hz, hs2, ?_⟩
  simp only [owedE, mCall_run, mCons_run, mVar_run, h0, mLst_run, mCon_run, mNil_run, R.bind_ok, List.length_cons, List.length_nil, Nat.reduceAdd, if_true, e]
  rw [few_ok _ _ (by simp)]
  simp only [R.opt_some, R.bind_ok, List.length_cons, List.length_nil, Nat.reduceAdd, if_true, e2]
abbrev rowB : MS := mSeq (mAsg 7 (mSd owedE))
  (mAsg 5 (mSd (mOp fAdd (mPeek 5) (mTup (mCons (mIte (mTest (mOp fEq (mPeek 4) (mPeek 6))) (mCon (.int 0)) (mVar 7)) mNil)))))
theorem tup_app {xs : List D} {d : D} (h : xs.length < 1000) : fAdd (.tup xs) (.tup [d]) = some (.tup (xs ++ [d])) := by
  show (if xs.length + 1 ≤ 100000 then some (D.tup (xs ++ [d])) else none) = _
  rw [if_pos (by omega)]
theorem rowB_ok {x1 x2 x3 x7 : SV} {s : Store} {i p j : Nat} {xs : List Int} (hs : Src s i) (hr : RowIs p j xs) (hj : j < 100) : ∃ (ys : List Int) (y7 : SV) (s' : Store), rowB [.dat (.cel i), x1, x2, x3, .dat (.int p), .dat (eR xs), .dat (.int j), x7] s = .ok (.nx [.dat (.cel i), x1, x2, x3, .dat (.int p), .dat (eR ys), .dat (.int j), y7]) s' ∧ Src s' i ∧ RowIs p (j + 1) ys := by
  obtain ⟨d, s', hd, hs', e⟩ := owed_ok (Γ := [.dat (.cel i), x1, x2, x3, .dat (.int p), .dat (eR xs), .dat (.int j), x7]) rfl hs
  have hl := hr.len
  have t1 := tup_app (xs := xs.map .int) (d := .int (if p = j then 0 else d)) (by simp; omega)
  have ite : (mIte (mTest (mOp fEq (mPeek 4) (mPeek 6))) (mCon (.int 0)) (mVar 7)) [.dat (.cel i), x1, x2, x3, .dat (.int p), .dat (eR xs), .dat (.int j), .dat (.int d)] s' = .ok (.int (if p = j then 0 else d)) s' := by
    simp only [mIte_run, mTest_run, mOp_run, mPeek_run, List.getElem?_cons_succ, List.getElem?_cons_zero, R.bind_ok, fEq_ii, R.opt_some, toB_bl]
    by_cases h : p = j
    · subst h; simp
    · have : ((p : Int) == (j : Int)) = false := by simpa using (show ¬(p : Int) = (j : Int) by omega)
      rw [this, if_neg h]; simp
  refine ⟨xs ++ [if p = j then 0 else d], .dat (.int d), s', ?_, hs', ?_⟩
  · rw [rowB, mSeq_run, mAsg_run, mSd_run, e]
    simp only [R.bind_ok, List.set_cons_succ, List.set_cons_zero, mAsg_run, mSd_run, mOp_run fAdd, mPeek_run, mTup_run, mCons_run, ite, List.getElem?_cons_succ, List.getElem?_cons_zero, mNil_run]
    rw [few_ok _ _ (by simp)]
    simp only [R.opt_some, R.bind_ok]
    rw [show fAdd (eR xs) (.tup [.int (if p = j then 0 else d)]) = _ from t1]
    simp [eR]
  · refine ⟨by simp [hl], fun x hx => ?_, fun hp => ?_⟩
    · rcases List.mem_append.mp hx with hx | hx
      · exact hr.ok x hx
      · simp at hx; subst hx
        split
        · unfold Owed; omega
        · exact hd
    · by_cases e : p = j
      · rw [List.getElem?_append_right (by omega), if_pos e]
        simp [hl, e]
      · rw [List.getElem?_append_left (by omega)]
        exact hr.diag (by omega)
structure DebtsAre (n k : Nat) (rs : List (List Int)) : Prop where
  len : rs.length = k
  row : ∀ (p : Nat) (xs : List Int), rs[p]? = some xs → RowIs p n xs
def eDb (rs : List (List Int)) : D := .tup (rs.map eR)
abbrev debB : MS := mSeq (mAsg 5 (mSd (mTup mNil)))
  (mSeq (mFor (mRng fRng1 (mCons (mVar 2) mNil)) (.nm 6) rowB)
  (mAsg 3 (mSd (mOp fAdd (mPeek 3) (mTup (mCons (mVar 5) mNil))))))
theorem debB_ok {x1 x5 x6 x7 : SV} {s : Store} {i n k : Nat} {rs : List (List Int)} (hs : Src s i) (hn : n ≤ 90) (hd : DebtsAre n k rs) (hk : k < n) : ∃ (rs' : List (List Int)) (y5 y6 y7 : SV) (s' : Store), debB [.dat (.cel i), x1, .dat (.int n), .dat (eDb rs), .dat (.int k), x5, x6, x7] s = .ok (.nx [.dat (.cel i), x1, .dat (.int n), .dat (eDb rs'), .dat (.int k), y5, y6, y7]) s' ∧ Src s' i ∧ DebtsAre n (k + 1) rs' := by
  obtain ⟨Γ', s', ⟨hs', xs, y6, y7, rfl, hr⟩, e⟩ := for_ix (.nm 6) rowB (fun j Γ s => Src s i ∧ ∃ xs x6 x7, Γ = [.dat (.cel i), x1, .dat (.int n), .dat (eDb rs), .dat (.int k), .dat (eR xs), x6, x7] ∧ RowIs k j xs) n 0 [.dat (.cel i), x1, .dat (.int n), .dat (eDb rs), .dat (.int k), .dat (eR []), x6, x7] s ⟨hs, [], x6, x7, rfl, ⟨rfl, (fun _ h => nomatch h), fun h => absurd h (by omega)⟩⟩ fun j _ hj Γ s hI => by
    obtain ⟨hs, xs, x6, x7, rfl, hr⟩ := hI
    obtain ⟨ys, y7, s', e, hs', hr'⟩ := rowB_ok (x1 := x1) (x2 := .dat (.int n)) (x3 := .dat (eDb rs)) (x7 := x7) hs hr (by omega)
    exact ⟨[.dat (.cel i), x1, .dat (.int n), .dat (eDb rs), .dat (.int k), .dat (eR xs), .dat (.int j), x7], _, s', rfl, e, hs', ys, _, _, rfl, hr'⟩
  rw [Nat.zero_add] at hr
  have hl := hd.len
  have t1 := tup_app (xs := rs.map eR) (d := eR xs) (by simp; omega)
  refine ⟨rs ++ [xs], .dat (eR xs), y6, y7, s', ?_, hs', ⟨by simp [hl], fun p zs hp => ?_⟩⟩
  · have a1 : mAsg 5 (mSd (mTup mNil)) [.dat (.cel i), x1, .dat (.int n), .dat (eDb rs), .dat (.int k), x5, x6, x7] s = .ok (.nx [.dat (.cel i), x1, .dat (.int n), .dat (eDb rs), .dat (.int k), .dat (eR []), x6, x7]) s := rfl
    rw [debB, mSeq_run, a1]
    simp only [R.bind_ok]
    rw [mSeq_run, mFor_run]
    simp only [mRng_run, mCons_run, mVar_run, mNil_run, List.getElem?_cons_succ, List.getElem?_cons_zero, R.bind_ok, fRng1_ix (show n ≤ 1000 by omega), R.opt_some, e, mAsg_run, mSd_run, mOp_run, mPeek_run, mTup_run]
    rw [few_ok _ _ (by simp)]
    simp only [R.opt_some, R.bind_ok]
    rw [show fAdd (eDb rs) (.tup [eR xs]) = _ from t1]
    simp [eDb]
  · by_cases h : p < rs.length
    · rw [List.getElem?_append_left h] at hp
      exact hd.row p zs hp
    · rw [List.getElem?_append_right (by omega)] at hp
      have : p = rs.length := by
        by_cases h2 : p - rs.length = 0
        · omega
        · rw [List.getElem?_eq_none (by simp; omega)] at hp; cases hp
      subst this
      simp at hp; subst hp
      rw [hl]; exact hr
theorem debts_draw {s : Store} {i : Nat} {most : Nat} (hs : Src s i) (hm : 2 ≤ most ∧ most ≤ 90) : ∃ (n : Nat) (rs : List (List Int)) (s' : Store), m__law_debts [.cel i, .int most] s = .ok (eDb rs) s' ∧ Src s' i ∧ 2 ≤ n ∧ n ≤ most ∧ DebtsAre n n rs := by
  obtain ⟨k, s1, k0, k1, hs1, _, _, e⟩ := draw_ok (n := (most : Int) - 1) hs (by omega) (by omega)
  obtain ⟨k, rfl⟩ : ∃ j : Nat, k = j := ⟨k.toNat, by omega⟩
  obtain ⟨Γ', s', ⟨hs', rs, y4, y5, y6, y7, rfl, hr⟩, e2⟩ := for_ix (.nm 4) debB (fun j Γ s => Src s i ∧ ∃ rs x4 x5 x6 x7, Γ = [.dat (.cel i), .dat (.int most), .dat (.int ((2 + k : Nat) : Int)), .dat (eDb rs), x4, x5, x6, x7] ∧ DebtsAre (2 + k) j rs) (2 + k) 0 [.dat (.cel i), .dat (.int most), .dat (.int ((2 + k : Nat) : Int)), .dat (eDb []), .nul, .nul, .nul, .nul] s1 ⟨hs1, [], _, _, _, _, rfl, ⟨rfl, fun p xs h => by simp at h⟩⟩ fun j _ hj Γ s hI => by
    obtain ⟨hs, rs, x4, x5, x6, x7, rfl, hr⟩ := hI
    obtain ⟨rs', y5, y6, y7, s', e, hs', hr'⟩ := debB_ok (x1 := .dat (.int most)) (x5 := x5) (x6 := x6) (x7 := x7) hs (show 2 + k ≤ 90 by omega) hr (by omega)
    exact ⟨[.dat (.cel i), .dat (.int most), .dat (.int ((2 + k : Nat) : Int)), .dat (eDb rs), .dat (.int j), x5, x6, x7], _, s', rfl, e, hs', rs', _, _, _, _, rfl, hr'⟩
  rw [Nat.zero_add] at hr
  refine ⟨2 + k, rs, s', ?_, hs', by omega, by omega, hr⟩
  unfold m__law_debts b__law_debts
  rw [mFn_run]
  show endD (mSeq _ (mSeq _ (mSeq (mFor _ _ debB) _)) [.dat (.cel i), .dat (.int most), .nul, .nul, .nul, .nul, .nul, .nul] s) = _
  have a1 : mAsg 2 (mSd (mOp fAdd (mCon (.int 2)) (mCall 2 m__law_draw (mCons (mVar 0) (mCons (mOp fSub (mPeek 1) (mCon (.int 1))) mNil))))) [.dat (.cel i), .dat (.int most), .nul, .nul, .nul, .nul, .nul, .nul] s = .ok (.nx [.dat (.cel i), .dat (.int most), .dat (.int ((2 + k : Nat) : Int)), .nul, .nul, .nul, .nul, .nul]) s1 := by
    simp [e]
  have a2 : mAsg 3 (mSd (mTup mNil)) [.dat (.cel i), .dat (.int most), .dat (.int ((2 + k : Nat) : Int)), .nul, .nul, .nul, .nul, .nul] s1 = .ok (.nx [.dat (.cel i), .dat (.int most), .dat (.int ((2 + k : Nat) : Int)), .dat (eDb []), .nul, .nul, .nul, .nul]) s1 := rfl
  rw [mSeq_run, a1]
  simp only [R.bind_ok]
  rw [mSeq_run, a2]
  simp only [R.bind_ok]
  rw [mSeq_run, mFor_run]
  simp only [mRng_run, mCons_run, mVar_run, mNil_run, List.getElem?_cons_succ, List.getElem?_cons_zero, R.bind_ok, fRng1_ix (show 2 + k ≤ 1000 by omega), R.opt_some, e2, mRetV_run, endD_rt]
end PD
set_option maxRecDepth 100000
set_option maxHeartbeats 4000000
set_option exponentiation.threshold 20000
namespace PD
open PySem PySem.Spec PyProof.Rows L2
/-! ### debts are debts -/
theorem gd_int {L n : Nat} (i : Int) : Gd L n (.int i) := by cases n <;> trivial
theorem gd_ints {L n : Nat} {xs : List Int} (h : xs.length ≤ L) : Gd L (n + 1) (eR xs) := by
  refine ⟨by simpa using h, fun x hx => ?_⟩
  obtain ⟨i, _, rfl⟩ := List.mem_map.mp hx
  exact gd_int i
theorem isRow_eR {n p : Nat} {xs : List Int} (h : RowIs p n xs) : isRow n (eR xs) = true := by
  have hl := h.len
  unfold isRow eR isTup tupAll
  simp only [List.length_map, hl, Bool.and_eq_true, decide_eq_true_eq, List.all_eq_true]
  refine ⟨by omega, fun x hx => ?_⟩
  obtain ⟨i, hi, rfl⟩ := List.mem_map.mp hx
  have := h.ok i hi
  unfold Owed at this
  simp [isNum]; omega
theorem isDiag_eR {n : Nat} : ∀ (rs : List (List Int)) (k : Nat), (∀ (p : Nat) (xs : List Int), rs[p]? = some xs → xs[k + p]? = some 0) → isDiag k (rs.map eR) = true
  | [], _, _ => rfl
  | xs :: rs, k, h => by
    have h0 := h 0 xs rfl
    rw [Nat.add_zero] at h0
    show ((match (xs.map D.int)[k]? with | some d => D.eqv d (.int 0) | none => false) && isDiag (k + 1) (rs.map eR)) = true
    rw [List.getElem?_map, h0, isDiag_eR (n := n) rs (k + 1) fun p ys hp => by rw [show k + 1 + p = k + (p + 1) by omega]; exact h (p + 1) ys (by simpa using hp)]
    rfl
theorem debts_are {n : Nat} {rs : List (List Int)} (h : DebtsAre n n rs) (hn : 2 ≤ n ∧ n ≤ 4) : isDebts (eDb rs) = true ∧ fLen [eDb rs] = some (.int n) ∧ ∀ L m, n ≤ L → Gd L (m + 2) (eDb rs) := by
  have hl := h.len
  refine ⟨?_, ?_, fun L m hL => ⟨by simpa [hl] using hL, fun x hx => ?_⟩⟩
  · unfold isDebts eDb
    have e1 : isTup 2 4 (.tup (rs.map eR)) = true := by simp [isTup, hl]; omega
    rw [e1, Bool.true_and]
    show ((rs.map eR).all (isRow (rs.map eR).length) && isDiag 0 (rs.map eR)) = true
    rw [List.length_map, hl, Bool.and_eq_true]
    refine ⟨List.all_eq_true.mpr fun x hx => ?_, isDiag_eR (n := n) rs 0 fun p xs hp => ?_⟩
    · obtain ⟨xs, hxs, rfl⟩ := List.mem_map.mp hx
      obtain ⟨p, hp, rfl⟩ := List.mem_iff_getElem.mp hxs
      exact isRow_eR (h.row p _ (List.getElem?_eq_getElem hp))
    · rw [Nat.zero_add]
      have hp' := (List.getElem?_eq_some_iff.mp hp).1
      exact (h.row p xs hp).diag (by omega)
  · show some (D.int ((rs.map eR).length : Int)) = _
    rw [List.length_map, hl]
  · obtain ⟨xs, hxs, rfl⟩ := List.mem_map.mp hx
    obtain ⟨p, hp, rfl⟩ := List.mem_iff_getElem.mp hxs
    have := (h.row p _ (List.getElem?_eq_getElem hp)).len
    exact gd_ints (by omega)
end PD
set_option maxRecDepth 100000
set_option maxHeartbeats 4000000
namespace PD
open PySem PySem.Spec PyProof.Rows L2
/-! ## debts as a text -/
theorem run_lcm {α : Type} {tg : Tg} {me : Env → M D} {Γ : Env} {s : Store} (f g : α → D) : ∀ as : List α, (∀ a ∈ as, ∃ Γ1, bindT tg (f a) Γ = some Γ1 ∧ me Γ1 s = .ok (g a) s) → lcGo tg mYes me Γ (as.map f) s = .ok (as.map g) s
  | [], _ => rfl
  | d :: ds, h => by
    obtain ⟨Γ1, h1, h2⟩ := h d List.mem_cons_self
    rw [List.map_cons]
    unfold lcGo
    rw [h1]
    show (me Γ1 s).nox.bind _ = _
    rw [h2]
    show (lcGo tg mYes me Γ (ds.map f) s).bind _ = _
    rw [run_lcm f g ds fun e he => h e (List.mem_cons_of_mem _ he)]
    rfl
def istr (i : Int) : Str := toString i
def rowS (xs : List Int) : Str := Txt.join " " (xs.map istr)
def textOf (rs : List (List Int)) : Str := Txt.join "\n" (rs.map rowS)
abbrev idxB (x : Str) : Option Nat := idxOf (fun d => match d with | .str y => y == x | _ => false) (w_NUMBERS.map D.str)
theorem small : ∀ k : Fin 13, (32 ∉ TL.tl (istr (k.val : Int)) ∧ 10 ∉ TL.tl (istr (k.val : Int)) ∧ (TL.tl (istr (k.val : Int))).length ≤ 2 ∧ (TL.tl (istr (k.val : Int))).all (fun c => decide (c < 128)) = true) ∧ D.anyEq (.str (istr (k.val : Int))) (w_NUMBERS.map .str) = true ∧ idxB (istr (k.val : Int)) = some k.val := by decide +kernel
structure SmT (x : Str) : Prop where
  sp : 32 ∉ TL.tl x
  nl : 10 ∉ TL.tl x
  len : (TL.tl x).length ≤ 100
  lo : ∀ c ∈ TL.tl x, c < 128
theorem istr_ok {i : Int} (h : Owed i) : SmT (istr i) ∧ (TL.tl (istr i)).length ≤ 2 ∧ D.anyEq (.str (istr i)) (w_NUMBERS.map .str) = true ∧ fGIdx w_NUMBERS (.str (istr i)) = some (.int i) := by
  obtain ⟨h0, h1⟩ := h
  have q := small ⟨i.toNat, by omega⟩
  have e : ((i.toNat : Nat) : Int) = i := by omega
  simp only [e] at q
  obtain ⟨⟨a, b, c, d⟩, f, g⟩ := q
  refine ⟨⟨a, b, by omega, fun z hz => of_decide_eq_true (List.all_eq_true.mp d z hz)⟩, c, f, ?_⟩
  show (idxB (istr i)).map (fun j => D.int (j : Nat)) = _
  rw [g]
  show some (D.int ((i.toNat : Nat) : Int)) = _
  rw [e]
theorem joinL_mem {S : List Nat} {c : Nat} : ∀ {ps : List (List Nat)}, c ∈ TL.joinL S ps → c ∈ S ∨ ∃ p ∈ ps, c ∈ p
  | [], h => by cases h
  | [p], h => .inr ⟨p, by simp, h⟩
  | p :: q :: r, h => by
    have h : c ∈ p ++ (S ++ TL.joinL S (q :: r)) := h
    rcases List.mem_append.mp h with h | h
    · exact .inr ⟨p, by simp, h⟩
    · rcases List.mem_append.mp h with h | h
      · exact .inl h
      · rcases joinL_mem h with h | ⟨z, hz, h⟩
        · exact .inl h
        · exact .inr ⟨z, List.mem_cons_of_mem _ hz, h⟩
theorem joinL_len {S : List Nat} (m : Nat) : ∀ {ps : List (List Nat)}, (∀ p ∈ ps, p.length ≤ m) → (TL.joinL S ps).length ≤ ps.length * (m + S.length)
  | [], h => by simp [TL.joinL]
  | [p], h => by
    have := h p (by simp)
    show p.length ≤ 1 * (m + S.length)
    omega
  | p :: q :: r, h => by
    have h1 := h p (by simp)
    have h2 := joinL_len (S := S) m (ps := q :: r) fun z hz => h z (List.mem_cons_of_mem _ hz)
    show (p ++ (S ++ TL.joinL S (q :: r))).length ≤ _
    rw [List.length_append, List.length_append, List.length_cons, Nat.add_mul]
    omega
theorem tl_joinT (y : Str) (ps : List Str) : TL.tl (Txt.join y ps) = TL.joinL (TL.tl y) (ps.map TL.tl) := by rw [TL.join_eq, TL.tl_join]
theorem tl_sp : TL.tl (" " : Str) = [32] := by decide +kernel
theorem tl_nl : TL.tl ("\n" : Str) = [10] := by decide +kernel
theorem fine_of {x : Str} (h : ∀ c ∈ TL.tl x, c < 128) : strFine x = true := by
  unfold strFine
  rw [List.all_eq_true]
  intro c hc
  have := h c hc
  exact decide_eq_true (by omega)
structure RowN (xs : List Int) : Prop where
  lo : 2 ≤ xs.length
  hi : xs.length ≤ 4
  ok : ∀ x ∈ xs, Owed x
theorem row_chars {xs : List Int} (h : RowN xs) : 10 ∉ TL.tl (rowS xs) ∧ (TL.tl (rowS xs)).length ≤ 12 ∧ (∀ c ∈ TL.tl (rowS xs), c < 128) := by
  have e : TL.tl (rowS xs) = TL.joinL [32] (xs.map fun x => TL.tl (istr x)) := by
    unfold rowS
    rw [tl_joinT, tl_sp, List.map_map]
    rfl
  rw [e]
  have m : ∀ c ∈ TL.joinL [32] (xs.map fun x => TL.tl (istr x)), c = 32 ∨ ∃ i, Owed i ∧ c ∈ TL.tl (istr i) := fun c hc => by
    rcases joinL_mem hc with h1 | ⟨p, hp, h1⟩
    · exact .inl (by simpa using h1)
    · obtain ⟨i, hi, rfl⟩ := List.mem_map.mp hp
      exact .inr ⟨i, h.ok i hi, h1⟩
  refine ⟨fun hc => ?_, ?_, fun c hc => ?_⟩
  · rcases m 10 hc with h1 | ⟨i, hi, h1⟩
    · cases h1
    · exact (istr_ok hi).1.nl h1
  · have q := joinL_len (S := [32]) 2 (ps := xs.map fun x => TL.tl (istr x)) fun p hp => by
      obtain ⟨i, hi, rfl⟩ := List.mem_map.mp hp
      exact (istr_ok (h.ok i hi)).2.1
    rw [List.length_map] at q
    have := h.hi
    simp only [List.length_cons, List.length_nil] at q
    omega
  · rcases m c hc with h1 | ⟨i, hi, h1⟩
    · omega
    · exact (istr_ok hi).1.lo c h1
structure TabN (rs : List (List Int)) : Prop where
  lo : 2 ≤ rs.length
  hi : rs.length ≤ 4
  ok : ∀ xs ∈ rs, RowN xs
theorem text_chars {rs : List (List Int)} (h : TabN rs) : (TL.tl (textOf rs)).length ≤ 100 ∧ ∀ c ∈ TL.tl (textOf rs), c < 128 := by
  have e : TL.tl (textOf rs) = TL.joinL [10] (rs.map fun x => TL.tl (rowS x)) := by
    unfold textOf
    rw [tl_joinT, tl_nl, List.map_map]
    rfl
  rw [e]
  refine ⟨?_, fun c hc => ?_⟩
  · have q := joinL_len (S := [10]) 12 (ps := rs.map fun x => TL.tl (rowS x)) fun p hp => by
      obtain ⟨i, hi, rfl⟩ := List.mem_map.mp hp
      exact (row_chars (h.ok i hi)).2.1
    rw [List.length_map] at q
    have := h.hi
    simp only [List.length_cons, List.length_nil] at q
    omega
  · rcases joinL_mem hc with h1 | ⟨p, hp, h1⟩
    · simp at h1; omega
    · obtain ⟨i, hi, rfl⟩ := List.mem_map.mp hp
      exact (row_chars (h.ok i hi)).2.2 c h1
theorem row_split {xs : List Int} (h : RowN xs) : Txt.split (rowS xs) " " = xs.map istr := by
  have := h.lo
  refine TL.split_join (S := []) tl_sp (by decide +kernel) (fun e => ?_) fun p hp => ?_
  · rw [List.map_eq_nil_iff] at e
    rw [e] at this; simp at this
  · obtain ⟨i, hi, rfl⟩ := List.mem_map.mp hp
    exact (istr_ok (h.ok i hi)).1.sp
theorem text_split {rs : List (List Int)} (h : TabN rs) : Txt.split (textOf rs) "\n" = rs.map rowS := by
  have := h.lo
  refine TL.split_join (S := []) tl_nl (by decide +kernel) (fun e => ?_) fun p hp => ?_
  · rw [List.map_eq_nil_iff] at e
    rw [e] at this; simp at this
  · obtain ⟨i, hi, rfl⟩ := List.mem_map.mp hp
    exact (row_chars (h.ok i hi)).1
theorem len_of {x : Str} {n : Nat} (h : (TL.tl x).length ≤ n) : x.length ≤ n := by rw [TL.len_tl]; exact h
theorem sum_le {α : Type} (f : α → Nat) (m : Nat) : ∀ xs : List α, (∀ x ∈ xs, f x ≤ m) → (xs.map f).sum ≤ xs.length * m
  | [], _ => by simp
  | x :: xs, h => by
    have h1 := h x List.mem_cons_self
    have h2 := sum_le f m xs fun y hy => h y (List.mem_cons_of_mem _ hy)
    rw [List.map_cons, List.sum_cons, List.length_cons, Nat.add_mul]
    omega
theorem join_row {xs : List Int} (h : RowN xs) : fJoin " " (.lst (xs.map fun x => .str (istr x))) = some (.str (rowS xs)) := by
  have e : strsOf (xs.map fun x => D.str (istr x)) = some (xs.map istr) := by
    rw [← strs_map (xs.map istr), List.map_map]; rfl
  have q : ((xs.map istr).map (·.length)).sum + (xs.map istr).length * (" " : Str).length ≤ 100000 := by
    rw [List.map_map, List.length_map, TL.len_tl (" " : Str), tl_sp]
    have := sum_le (fun x => (istr x).length) 2 xs fun x hx => len_of (istr_ok (h.ok x hx)).2.1
    have := h.hi
    show (xs.map fun x => (istr x).length).sum + xs.length * 1 ≤ 100000
    omega
  show (strsOf (xs.map fun x => D.str (istr x))).bind _ = _
  rw [e]
  show (if _ then _ else _) = _
  rw [if_pos q]
  rfl
theorem join_text {rs : List (List Int)} (h : TabN rs) : fJoin "\n" (.lst (rs.map fun x => .str (rowS x))) = some (.str (textOf rs)) := by
  have e : strsOf (rs.map fun x => D.str (rowS x)) = some (rs.map rowS) := by
    rw [← strs_map (rs.map rowS), List.map_map]; rfl
  have q : ((rs.map rowS).map (·.length)).sum + (rs.map rowS).length * ("\n" : Str).length ≤ 100000 := by
    rw [List.map_map, List.length_map, TL.len_tl ("\n" : Str), tl_nl]
    have := sum_le (fun x => (rowS x).length) 12 rs fun x hx => len_of (row_chars (h.ok x hx)).2.1
    have := h.hi
    show (rs.map fun x => (rowS x).length).sum + rs.length * 1 ≤ 100000
    omega
  show (strsOf (rs.map fun x => D.str (rowS x))).bind _ = _
  rw [e]
  show (if _ then _ else _) = _
  rw [if_pos q]
  rfl
/-! ### written -/
theorem fStr_i {i : Int} (h : Owed i) : fStr [.int i] = some (.str (istr i)) := by
  have : i.natAbs.log2 < 1920 := Nat.lt_trans (log_of (n := 4) (by decide) h.1 (Int.lt_of_le_of_lt h.2 (by decide))) (by decide)
  exact if_pos this
abbrev linesE : Env → M (List D) := mLcL (mItems (mVar 0)) (.nm 2) mYes (mStr2 fJoin (mCon (.str " ")) (mFrz (mLcL (mItems (mVar 2)) (.nm 1) mYes (mBlt fStr (mCons (mPeek 1) mNil)) [1]))) [2]
theorem rowE_ok {xs : List Int} {x0 x1 : SV} {s : Store} (h : RowN xs) : mStr2 fJoin (mCon (.str " ")) (mFrz (mLcL (mItems (mVar 2)) (.nm 1) mYes (mBlt fStr (mCons (mPeek 1) mNil)) [1])) [x0, x1, .dat (eR xs)] s = .ok (.str (rowS xs)) s := by
  have e : mLcL (mItems (mVar 2)) (.nm 1) mYes (mBlt fStr (mCons (mPeek 1) mNil)) [1] [x0, x1, .dat (eR xs)] s = .ok (xs.map fun x => .str (istr x)) s := by
    rw [mLcL_run]
    show (if (xs.map D.int).length ≤ 100000 then lcGo _ _ _ _ (xs.map D.int) s else .bad) = _
    rw [if_pos (by have := h.hi; rw [List.length_map]; omega)]
    refine run_lcm D.int (fun x => .str (istr x)) xs fun i hi => ⟨[x0, .dat (.int i), .dat (eR xs)], rfl, ?_⟩
    show R.opt (fStr [.int i]) s = _
    rw [fStr_i (h.ok i hi)]
    rfl
  show ((mLcL (mItems (mVar 2)) (.nm 1) mYes (mBlt fStr (mCons (mPeek 1) mNil)) [1] [x0, x1, .dat (eR xs)] s).bind fun ds s1 => .ok (D.lst ds) s1).bind _ = _
  rw [e]
  show R.opt (fJoin " " (.lst (xs.map fun x => .str (istr x)))) s = _
  rw [join_row h]
  rfl
theorem linesE_ok {rs : List (List Int)} {x1 x2 : SV} {s : Store} (h : TabN rs) : linesE [.dat (eDb rs), x1, x2] s = .ok (rs.map fun x => .str (rowS x)) s := by
  rw [linesE, mLcL_run]
  show (if (rs.map eR).length ≤ 100000 then lcGo _ _ _ _ (rs.map eR) s else .bad) = _
  rw [if_pos (by have := h.hi; rw [List.length_map]; omega)]
  exact run_lcm eR (fun x => .str (rowS x)) rs fun xs hx => ⟨[.dat (eDb rs), x1, .dat (eR xs)], rfl, rowE_ok (h.ok xs hx)⟩
theorem ltext_ok {rs : List (List Int)} {s : Store} (h : TabN rs) : m__law_text [eDb rs] s = .ok (.str (textOf rs)) s := by
  show endD ((((linesE [.dat (eDb rs), .nul, .nul] s).bind fun ds s1 => .ok (D.lst ds) s1).bind fun d2 s2 => R.opt (fJoin "\n" d2) s2).bind fun d s1 => .ok (.rt d) s1) = _
  rw [linesE_ok h]
  show endD ((R.opt (fJoin "\n" (.lst (rs.map fun x => .str (rowS x)))) s).bind _) = _
  rw [join_text h]
  rfl
end PD
set_option maxRecDepth 100000
set_option maxHeartbeats 4000000
namespace PD
open PySem PySem.Spec PyProof.Rows L2
/-! ## .. read -/
theorem numbers_fine : D.fine 60 d_NUMBERS = true := by decide +kernel
theorem istr_fine {i : Int} (h : Owed i) : strFine (istr i) = true := fine_of (istr_ok h).1.lo
theorem in_num {i : Int} (h : Owed i) : fIn (.str (istr i)) d_NUMBERS = some (.bl true) := by
  unfold fIn
  rw [numbers_fine, show D.fine 60 (.str (istr i)) = strFine (istr i) by simp only [D.fine], istr_fine h]
  show some (D.bl (D.anyEq (.str (istr i)) (w_NUMBERS.map .str))) = _
  rw [(istr_ok h).2.2.1]
theorem all_true {α : Type} (xs : List α) : fAll [.lst (xs.map fun _ => .bl true)] = some (.bl true) := by
  rw [all_map xs fun _ => true]
  simp
theorem rowin_ok {xs : List Int} {s : Store} (h : RowN xs) : m_row_in [.str (rowS xs)] s = .ok (eR xs) s := by
  have hl := h.lo
  have hh := h.hi
  let ws : List D := xs.map fun x => .str (istr x)
  have wl : ws.length = xs.length := List.length_map ..
  have sp : fSplit (rowS xs) (.str " ") = some (.lst ws) := by
    show (if _ then _ else _) = _
    rw [if_pos ⟨by decide +kernel, Nat.le_trans (len_of (row_chars h).2.1) (by decide)⟩, row_split h, List.map_map]
    rfl
  have c1 : mChain fLe fLe (mCon (.int 2)) (mBlt fLen (mCons (mPeek 1) mNil)) (mCon (.int 4)) [.dat (.str (rowS xs)), .dat (.lst ws), .nul] s = .ok (.bl true) s := by
    rw [le_chain (a := 2) (b := xs.length) (c := 4) rfl (by
      show R.opt (fLen [.lst ws]) s = _
      rw [← wl]; rfl) rfl]
    rw [show (decide ((2 : Int) ≤ xs.length) && decide ((xs.length : Int) ≤ 4)) = true by simp; omega]
  have c2 : mBlt fAll (mCons (mFrz (mLcL (mItems (mVar 1)) (.nm 2) mYes (mOp fIn (mPeek 2) (mCon d_NUMBERS)) [2])) mNil) [.dat (.str (rowS xs)), .dat (.lst ws), .nul] s = .ok (.bl true) s := by
    have e : mLcL (mItems (mVar 1)) (.nm 2) mYes (mOp fIn (mPeek 2) (mCon d_NUMBERS)) [2] [.dat (.str (rowS xs)), .dat (.lst ws), .nul] s = .ok (xs.map fun _ => .bl true) s := by
      rw [mLcL_run]
      show (if ws.length ≤ 100000 then lcGo _ _ _ _ ws s else .bad) = _
      rw [if_pos (by omega)]
      refine run_lcm (fun x => .str (istr x)) (fun _ => .bl true) xs fun i hi => ⟨[.dat (.str (rowS xs)), .dat (.lst ws), .dat (.str (istr i))], rfl, ?_⟩
      show R.opt (fIn (.str (istr i)) d_NUMBERS) s = _
      rw [in_num (h.ok i hi)]
      rfl
    rw [mBlt_run, mCons_run, mFrz_run, e]
    show R.opt (fAll [.lst (xs.map fun _ => .bl true)]) s = _
    rw [all_true]
    rfl
  have c3 : mBlt fTuple (mCons (mFrz (mLcL (mItems (mVar 1)) (.nm 2) mYes (mOp1 (fGIdx w_NUMBERS) (mPeek 2)) [2])) mNil) [.dat (.str (rowS xs)), .dat (.lst ws), .nul] s = .ok (eR xs) s := by
    have e : mLcL (mItems (mVar 1)) (.nm 2) mYes (mOp1 (fGIdx w_NUMBERS) (mPeek 2)) [2] [.dat (.str (rowS xs)), .dat (.lst ws), .nul] s = .ok (xs.map D.int) s := by
      rw [mLcL_run]
      show (if ws.length ≤ 100000 then lcGo _ _ _ _ ws s else .bad) = _
      rw [if_pos (by omega)]
      refine run_lcm (fun x => .str (istr x)) D.int xs fun i hi => ⟨[.dat (.str (rowS xs)), .dat (.lst ws), .dat (.str (istr i))], rfl, ?_⟩
      show R.opt (fGIdx w_NUMBERS (.str (istr i))) s = _
      rw [(istr_ok (h.ok i hi)).2.2.2]
      rfl
    rw [mBlt_run, mCons_run, mFrz_run, e]
    rfl
  unfold m_row_in b_row_in
  rw [mFn_run]
  show endD (mSeq _ _ [.dat (.str (rowS xs)), .nul, .nul] s) = _
  rw [mSeq_run]
  show endD (((((R.opt (fSplit (rowS xs) (.str " ")) s)).bind fun d s1 => (R.ok (.dat d) s1 : R SV)).bind fun x s1 => R.ok (Out.nx ([SV.dat (.str (rowS xs)), .nul, .nul].set 1 x)) s1).bind _) = _
  rw [sp]
  show endD (mSeq _ _ [.dat (.str (rowS xs)), .dat (.lst ws), .nul] s) = _
  rw [mSeq_run, mIf_run, orT_b (p := false) (q := false) (notT_b (p := true) (test_b c1)) fun _ => notT_b (p := true) (test_b c2)]
  show endD (mRet _ [.dat (.str (rowS xs)), .dat (.lst ws), .nul] s) = _
  rw [mRet_run, c3]
  rfl
theorem none_in {xs : List (List Int)} (h : xs.length ≤ 4) (hk : ∀ x ∈ xs, x.length ≤ 4) : fIn .non (.lst (xs.map eR)) = some (.bl false) := by
  have f : D.fine 60 (.lst (xs.map eR)) = true := Gd.fine (L := 4) (n := 2) ⟨by rw [List.length_map]; exact h, fun x hx => by
    obtain ⟨y, hy, rfl⟩ := List.mem_map.mp hx
    exact gd_ints (hk y hy)⟩ (by decide)
  unfold fIn
  rw [f, show D.fine 60 .non = true by simp only [D.fine]]
  show some (D.bl (D.anyEq .non (xs.map eR))) = _
  have : ∀ ys : List (List Int), D.anyEq .non (ys.map eR) = false := fun ys => by
    induction ys with
    | nil => rfl
    | cons y ys ih =>
      show (D.eqv _ _ || D.anyEq .non (ys.map eR)) = false
      rw [ih]
      rfl
  rw [this]
theorem debtsin_ok {rs : List (List Int)} {s : Store} (h : TabN rs) (hd : isDebts (eDb rs) = true) (ht : Ty2 (eDb rs)) : m_debts_in [.str (textOf rs)] s = .ok (eDb rs) s := by
  have hh := h.hi
  have sp : fSplit (textOf rs) (.str "\n") = some (.lst (rs.map fun x => .str (rowS x))) := by
    show (if _ then _ else _) = _
    rw [if_pos ⟨by decide +kernel, Nat.le_trans (len_of (text_chars h).1) (by decide)⟩, text_split h, List.map_map]
    rfl
  have e : mLcL (mItems (mStr2 fSplit (mPeek 0) (mCon (.str "\n")))) (.nm 2) mYes (mCall 1 m_row_in (mCons (mVar 2) mNil)) [2] [.dat (.str (textOf rs)), .nul, .nul] s = .ok (rs.map eR) s := by
    rw [mLcL_run, mItems_run]
    show (((R.opt (fSplit (textOf rs) (.str "\n")) s).bind fun d s1 => R.opt (fItems d) s1).bind _) = _
    rw [sp]
    show (if (rs.map fun x => D.str (rowS x)).length ≤ 100000 then lcGo _ _ _ _ (rs.map fun x => D.str (rowS x)) s else .bad) = _
    rw [if_pos (by rw [List.length_map]; omega)]
    refine run_lcm (fun x => .str (rowS x)) eR rs fun xs hx => ⟨[.dat (.str (textOf rs)), .nul, .dat (.str (rowS xs))], rfl, ?_⟩
    show m_row_in [.str (rowS xs)] s = _
    exact rowin_ok (h.ok xs hx)
  have ni := none_in h.hi fun x hx => (h.ok x hx).hi
  have dk := debts_ok (s := s) ht
  rw [hd] at dk
  unfold m_debts_in b_debts_in
  rw [mFn_run]
  show endD (mSeq _ _ [.dat (.str (textOf rs)), .nul, .nul] s) = _
  rw [mSeq_run, mIf_run, notT_b (p := true) (test_b rfl)]
  show endD (mSeq _ _ [.dat (.str (textOf rs)), .nul, .nul] s) = _
  rw [mSeq_run, mAsg_run, mSd_run, mFrz_run, e]
  show endD (mSeq _ _ [.dat (.str (textOf rs)), .dat (.lst (rs.map eR)), .nul] s) = _
  rw [mSeq_run, mIf_run, test_b (p := false) (by
    show R.opt (fIn .non (.lst (rs.map eR))) s = _
    rw [ni]; rfl)]
  show endD (mSeq _ _ [.dat (.str (textOf rs)), .dat (.lst (rs.map eR)), .nul] s) = _
  rw [mSeq_run, mIf_run, notT_b (p := true) (test_b (by
    show m_are_good_debts [eDb rs] s = _
    exact dk))]
  rfl
theorem rdebts_ok {rs : List (List Int)} {s : Store} (h : TabN rs) (hd : isDebts (eDb rs) = true) (ht : Ty2 (eDb rs)) : m_read_debts [.str (textOf rs)] s = .ok (eDb rs) s := by
  show endD ((m_debts_in [.str (textOf rs)] s).bind fun d s1 => R.ok (Out.rt d) s1) = _
  rw [debtsin_ok h hd ht]
  rfl
/-! ## the law -/
theorem D.eqvL_self_of : ∀ {xs : List D}, (∀ x ∈ xs, D.eqv x x = true) → D.eqvL xs xs = true
  | [], _ => by simp only [D.eqvL]
  | x :: xs, h => by
    simp only [D.eqvL, Bool.and_eq_true]
    exact ⟨h x List.mem_cons_self, D.eqvL_self_of fun y hy => h y (List.mem_cons_of_mem _ hy)⟩
theorem eR_self (xs : List Int) : D.eqv (eR xs) (eR xs) = true := by
  unfold eR
  simp only [D.eqv]
  exact D.eqvL_self_of fun x hx => by
    obtain ⟨i, _, rfl⟩ := List.mem_map.mp hx
    simp [D.eqv]
theorem eDb_self (rs : List (List Int)) : D.eqv (eDb rs) (eDb rs) = true := by
  unfold eDb
  simp only [D.eqv]
  exact D.eqvL_self_of fun x hx => by
    obtain ⟨i, _, rfl⟩ := List.mem_map.mp hx
    exact eR_self i
theorem ne_self {d : D} (f : D.fine 60 d = true) (e : D.eqv d d = true) : fNe d d = some (.bl false) := by
  unfold fNe
  rw [f, e]
  rfl
theorem eq_self' {d : D} (f : D.fine 60 d = true) (e : D.eqv d d = true) : fEq d d = some (.bl true) := by
  unfold fEq
  rw [f, e]
  rfl
theorem tab_of {n : Nat} {rs : List (List Int)} (h : DebtsAre n n rs) (hn : 2 ≤ n ∧ n ≤ 4) : TabN rs := by
  refine ⟨by rw [h.len]; exact hn.1, by rw [h.len]; exact hn.2, fun xs hx => ?_⟩
  obtain ⟨p, hp, rfl⟩ := List.mem_iff_getElem.mp hx
  have r := h.row p _ (List.getElem?_eq_getElem hp)
  exact ⟨by rw [r.len]; exact hn.1, by rw [r.len]; exact hn.2, r.ok⟩
end PD
set_option maxRecDepth 100000
set_option maxHeartbeats 4000000
namespace PD
open PySem PySem.Spec PyProof.Rows L2
/-! ## any text's lines -/
/-- a text of the law -/
structure Tx (n : Nat) (x : Str) : Prop where
  lo : ∀ c ∈ TL.tl x, c < 128
  len : (TL.tl x).length ≤ n
theorem Tx.mono {n m : Nat} {x : Str} (h : Tx n x) (q : n ≤ m) : Tx m x := ⟨h.lo, Nat.le_trans h.len q⟩
theorem joinL_in {S : List Nat} {c : Nat} : ∀ {ps : List (List Nat)}, (∃ p ∈ ps, c ∈ p) → c ∈ TL.joinL S ps
  | [], ⟨p, h, _⟩ => by cases h
  | [q], ⟨p, h, hc⟩ => by
    rcases List.mem_cons.mp h with e | h
    · subst e; exact hc
    · cases h
  | q :: q2 :: r, ⟨p, h, hc⟩ => by
    show c ∈ q ++ (S ++ TL.joinL S (q2 :: r))
    rcases List.mem_cons.mp h with e | h
    · subst e; exact List.mem_append_left _ hc
    · exact List.mem_append_right _ (List.mem_append_right _ (joinL_in ⟨p, h, hc⟩))
theorem joinL_sum {S : List Nat} : ∀ ps : List (List Nat), (ps.map (·.length)).sum + (ps.length - 1) * S.length = (TL.joinL S ps).length
  | [] => by simp [TL.joinL]
  | [p] => by simp [TL.joinL]
  | p :: q :: r => by
    have ih := joinL_sum (S := S) (q :: r)
    show _ = (p ++ (S ++ TL.joinL S (q :: r))).length
    rw [List.length_append, List.length_append, ← ih, List.map_cons, List.sum_cons]
    simp only [List.length_cons, Nat.add_sub_cancel]
    rw [Nat.add_mul]
    omega
theorem cut_mem {α : Type} {xs : List α} {lo hi : Option Int} {x : α} (h : x ∈ cutD xs lo hi) : x ∈ xs := List.mem_of_mem_drop (List.mem_of_mem_take h)
theorem cut_len {α : Type} (xs : List α) (lo hi : Option Int) : (cutD xs lo hi).length ≤ xs.length := by
  unfold cutD
  rw [List.length_take, List.length_drop]
  omega
theorem drop_sum : ∀ (xs : List Nat) (k : Nat), (xs.drop k).sum ≤ xs.sum
  | [], k => by simp
  | x :: xs, 0 => by simp
  | x :: xs, k + 1 => by
    have := drop_sum xs k
    simp only [List.drop_succ_cons, List.sum_cons]
    omega
theorem take_sum : ∀ (xs : List Nat) (k : Nat), (xs.take k).sum ≤ xs.sum
  | [], k => by simp
  | x :: xs, 0 => by simp
  | x :: xs, k + 1 => by
    have := take_sum xs k
    simp only [List.take_succ_cons, List.sum_cons]
    omega
theorem cut_sum {α : Type} (f : α → Nat) (xs : List α) (lo hi : Option Int) : ((cutD xs lo hi).map f).sum ≤ (xs.map f).sum := by
  unfold cutD
  rw [List.map_take, List.map_drop]
  exact Nat.le_trans (take_sum _ _) (drop_sum _ _)
/-- parts of a text -/
structure Pt (n : Nat) (ps : List Str) : Prop where
  lo : ∀ p ∈ ps, ∀ c ∈ TL.tl p, c < 128
  sum : (ps.map (·.length)).sum ≤ n
  num : ps.length ≤ n + 1
theorem split_pt {n : Nat} {x y : Str} (h : Tx n x) (hy : 1 ≤ (TL.tl y).length) : Pt n (Txt.split x y) ∧ Txt.join y (Txt.split x y) = x := by
  have e : Txt.join y (Txt.split x y) = x := by rw [TL.join_eq]; exact PySem.StrLaws.join_split x y
  have q : TL.tl x = TL.joinL (TL.tl y) ((Txt.split x y).map TL.tl) := by
    rw [← tl_joinT, e]
  have s := joinL_sum (S := TL.tl y) ((Txt.split x y).map TL.tl)
  rw [← q, List.map_map, List.length_map] at s
  have hl := h.len
  have m : (Txt.split x y).length - 1 ≤ ((Txt.split x y).length - 1) * (TL.tl y).length := Nat.le_mul_of_pos_right _ hy
  have e2 : ((Txt.split x y).map ((fun z : List Nat => z.length) ∘ TL.tl)) = (Txt.split x y).map (·.length) := List.map_congr_left fun z _ => (TL.len_tl z).symm
  rw [e2] at s
  refine ⟨⟨fun p hp c hc => h.lo c (by rw [q]; exact joinL_in ⟨TL.tl p, List.mem_map_of_mem hp, hc⟩), by omega, by omega⟩, e⟩
theorem split_ne {x y : Str} (hy : 1 ≤ (TL.tl y).length) (h : Txt.split x y = []) : x = "" := by
  have e : Txt.join y (Txt.split x y) = x := by rw [TL.join_eq]; exact PySem.StrLaws.join_split x y
  rw [h] at e
  rw [← e]; rfl
theorem fSplit_ok {n : Nat} {x y : Str} (h : Tx n x) (hn : n ≤ 100000) (hy : (y.length == 0) = false) : fSplit x (.str y) = some (.lst ((Txt.split x y).map D.str)) := if_pos ⟨hy, Nat.le_trans (len_of h.len) hn⟩
/-- a word of NUMBERS -/
def numB (w : Str) : Bool := D.anyEq (.str w) (w_NUMBERS.map .str)
theorem fine_lo {w : Str} (h : ∀ c ∈ TL.tl w, c < 128) : D.fine 60 (.str w) = true := by simp only [D.fine]; exact fine_of h
theorem in_word {w : Str} (h : ∀ c ∈ TL.tl w, c < 128) : fIn (.str w) d_NUMBERS = some (.bl (numB w)) := by
  unfold fIn
  rw [numbers_fine, fine_lo h]
  rfl
theorem num_istr : ∀ k : Fin 13, w_NUMBERS[k.val]? = some (istr (k.val : Int)) := by decide +kernel
theorem anyEq_mem {w : Str} : ∀ {ys : List Str}, D.anyEq (.str w) (ys.map .str) = true → w ∈ ys
  | [], h => by cases h
  | y :: ys, h => by
    have h : (D.eqv (.str y) (.str w) || D.anyEq (.str w) (ys.map .str)) = true := h
    rw [Bool.or_eq_true] at h
    rcases h with h | h
    · simp only [D.eqv] at h
      rw [eq_of_beq h]; exact List.mem_cons_self
    · exact List.mem_cons_of_mem _ (anyEq_mem h)
theorem word_num {w : Str} (h : numB w = true) : ∃ i, Owed i ∧ w = istr i := by
  have m := anyEq_mem h
  obtain ⟨k, hk, e⟩ := List.mem_iff_getElem.mp m
  have hk : k < 13 := hk
  have q := num_istr ⟨k, hk⟩
  rw [List.getElem?_eq_getElem (by exact hk)] at q
  exact ⟨(k : Int), ⟨by omega, by omega⟩, e.symm.trans (Option.some.inj q)⟩
theorem words_row : ∀ {ws : List Str}, ws.all numB = true → ∃ xs : List Int, ws = xs.map istr ∧ ∀ x ∈ xs, Owed x
  | [], _ => ⟨[], rfl, fun x h => by cases h⟩
  | w :: ws, h => by
    rw [List.all_cons, Bool.and_eq_true] at h
    obtain ⟨i, hi, rfl⟩ := word_num h.1
    obtain ⟨xs, rfl, hx⟩ := words_row h.2
    exact ⟨i :: xs, rfl, fun x hx' => (List.mem_cons.mp hx').elim (fun e => e ▸ hi) (hx x)⟩
def goodL (l : Str) : Bool := (decide (2 ≤ (Txt.split l " ").length) && decide ((Txt.split l " ").length ≤ 4)) && (Txt.split l " ").all numB
theorem sp_len : 1 ≤ (TL.tl (" " : Str)).length := by rw [tl_sp]; simp
theorem nl_len : 1 ≤ (TL.tl ("\n" : Str)).length := by rw [tl_nl]; simp
theorem goodL_row {l : Str} (h : goodL l = true) : ∃ xs, RowN xs ∧ l = rowS xs := by
  unfold goodL at h
  simp only [Bool.and_eq_true, decide_eq_true_eq] at h
  obtain ⟨⟨h1, h2⟩, h3⟩ := h
  obtain ⟨xs, e, hx⟩ := words_row h3
  have hl : (Txt.split l " ").length = xs.length := by rw [e, List.length_map]
  refine ⟨xs, ⟨by omega, by omega, hx⟩, ?_⟩
  unfold rowS
  rw [← e, TL.join_eq]
  exact (PySem.StrLaws.join_split l " ").symm
theorem row_good {xs : List Int} (h : RowN xs) : goodL (rowS xs) = true := by
  unfold goodL
  rw [row_split h, List.length_map]
  have := h.lo
  have := h.hi
  simp only [Bool.and_eq_true, decide_eq_true_eq]
  refine ⟨⟨by omega, by omega⟩, List.all_eq_true.mpr fun w hw => ?_⟩
  obtain ⟨i, hi, rfl⟩ := List.mem_map.mp hw
  exact (istr_ok (h.ok i hi)).2.2.1
theorem all_map' {α : Type} (xs : List α) (f : α → Bool) : fAll [.lst (xs.map fun d => .bl (f d))] = some (.bl (xs.all f)) := all_map xs f
/-- the program's row of a bad line -/
theorem rowin_bad {n : Nat} {l : Str} {s : Store} (h : Tx n l) (hn : n ≤ 9000) (hb : goodL l = false) : m_row_in [.str l] s = .ok .non s := by
  obtain ⟨pt, _⟩ := split_pt h sp_len
  let W := Txt.split l " "
  let ws : List D := W.map D.str
  have wl : ws.length = W.length := List.length_map ..
  have hnum : W.length ≤ 9001 := Nat.le_trans pt.num (by omega)
  have sp : fSplit l (.str " ") = some (.lst ws) := fSplit_ok h (by omega) (by decide +kernel)
  have c1 : mChain fLe fLe (mCon (.int 2)) (mBlt fLen (mCons (mPeek 1) mNil)) (mCon (.int 4)) [.dat (.str l), .dat (.lst ws), .nul] s = .ok (.bl (decide ((2 : Int) ≤ W.length) && decide ((W.length : Int) ≤ 4))) s := le_chain rfl (by
    show R.opt (fLen [.lst ws]) s = _
    rw [← wl]; rfl) rfl
  have c2 : mBlt fAll (mCons (mFrz (mLcL (mItems (mVar 1)) (.nm 2) mYes (mOp fIn (mPeek 2) (mCon d_NUMBERS)) [2])) mNil) [.dat (.str l), .dat (.lst ws), .nul] s = .ok (.bl (W.all numB)) s := by
    have e : mLcL (mItems (mVar 1)) (.nm 2) mYes (mOp fIn (mPeek 2) (mCon d_NUMBERS)) [2] [.dat (.str l), .dat (.lst ws), .nul] s = .ok (W.map fun w => .bl (numB w)) s := by
      rw [mLcL_run]
      show (if ws.length ≤ 100000 then lcGo _ _ _ _ ws s else .bad) = _
      rw [if_pos (by omega)]
      refine run_lcm D.str (fun w => .bl (numB w)) W fun w hw => ⟨[.dat (.str l), .dat (.lst ws), .dat (.str w)], rfl, ?_⟩
      show R.opt (fIn (.str w) d_NUMBERS) s = _
      rw [in_word (pt.lo w hw)]
      rfl
    rw [mBlt_run, mCons_run, mFrz_run, e]
    show R.opt (fAll [.lst (W.map fun w => .bl (numB w))]) s = _
    rw [all_map' W numB]
    rfl
  unfold m_row_in b_row_in
  rw [mFn_run]
  show endD (mSeq _ _ [.dat (.str l), .nul, .nul] s) = _
  rw [mSeq_run]
  show endD (((((R.opt (fSplit l (.str " ")) s)).bind fun d s1 => (R.ok (.dat d) s1 : R SV)).bind fun x s1 => R.ok (Out.nx ([SV.dat (.str l), .nul, .nul].set 1 x)) s1).bind _) = _
  rw [sp]
  show endD (mSeq _ _ [.dat (.str l), .dat (.lst ws), .nul] s) = _
  rw [mSeq_run, mIf_run, orT_b (q := !(W.all numB)) (notT_b (test_b c1)) fun _ => notT_b (test_b c2)]
  have e : ((!(decide ((2 : Int) ≤ W.length) && decide ((W.length : Int) ≤ 4))) || !(W.all numB)) = true := by
    have hb : ((decide (2 ≤ W.length) && decide (W.length ≤ 4)) && W.all numB) = false := hb
    cases h1 : W.all numB with
    | false => simp
    | true =>
      rw [h1, Bool.and_true] at hb
      have : (decide ((2 : Int) ≤ W.length) && decide ((W.length : Int) ≤ 4)) = (decide (2 ≤ W.length) && decide (W.length ≤ 4)) := by
        congr 1 <;> simp only [decide_eq_decide] <;> omega
      rw [this, hb]; rfl
  rw [e]
  rfl
/-- the law's reading of a line -/
theorem isline_ok {n : Nat} {l : Str} {s : Store} (h : Tx n l) (hn : n ≤ 9000) : m__law_is_line [.str l] s = .ok (.bl (goodL l)) s := by
  obtain ⟨pt, _⟩ := split_pt h sp_len
  let W := Txt.split l " "
  let ws : List D := W.map D.str
  have wl : ws.length = W.length := List.length_map ..
  have hnum : W.length ≤ 9001 := Nat.le_trans pt.num (by omega)
  have sp : fSplit l (.str " ") = some (.lst ws) := fSplit_ok h (by omega) (by decide +kernel)
  let ns : List D := w_NUMBERS.map .str
  have e13 : (List.range 13).map (fun (k : Nat) => D.str (istr (k : Int))) = ns := by
    have q : (List.range 13).map (fun (k : Nat) => istr (k : Int)) = w_NUMBERS := by decide +kernel
    show _ = w_NUMBERS.map D.str
    rw [← q, List.map_map]; rfl
  have g : mFrz (mLcL (mRng fRng1 (mCons (mCon (.int 13)) mNil)) (.nm 3) mYes (mBlt fStr (mCons (mPeek 3) mNil)) [3]) [.dat (.str l), .dat (.lst ws), .nul, .nul, .nul] s = .ok (.lst ns) s := by
    rw [mFrz_run, mLcL_run]
    have r13 : fRng1 [.int 13] = some ((List.range 13).map fun (k : Nat) => D.int (k : Int)) := fRng1_nat (n := 13) (by decide)
    show ((R.opt (fRng1 [.int 13]) s).bind _).bind _ = _
    rw [r13, R.opt_some, R.bind_ok]
    show ((if ((List.range 13).map fun (k : Nat) => D.int (k : Int)).length ≤ 100000 then lcGo _ _ _ _ ((List.range 13).map fun (k : Nat) => D.int (k : Int)) s else .bad)).bind _ = _
    rw [if_pos (by decide), run_lcm (fun (k : Nat) => D.int (k : Int)) (fun (k : Nat) => D.str (istr (k : Int))) (List.range 13) fun k hk => ⟨[.dat (.str l), .dat (.lst ws), .nul, .dat (.int k), .nul], rfl, by
      have hk := List.mem_range.mp hk
      show R.opt (fStr [.int (k : Int)]) s = _
      rw [fStr_i ⟨by omega, by omega⟩]
      rfl⟩, e13]
    rfl
  have c1 : mChain fLe fLe (mCon (.int 2)) (mBlt fLen (mCons (mPeek 1) mNil)) (mCon (.int 4)) [.dat (.str l), .dat (.lst ws), .dat (.lst ns), .nul, .nul] s = .ok (.bl (decide ((2 : Int) ≤ W.length) && decide ((W.length : Int) ≤ 4))) s := le_chain rfl (by
    show R.opt (fLen [.lst ws]) s = _
    rw [← wl]; rfl) rfl
  let t : D → Bool := fun d => match d with | .str w => !numB w | _ => false
  have nf : D.fine 60 (.lst ns) = true := by decide +kernel
  have wf : ∀ xs : List D, (∀ x ∈ xs, x ∈ ws) → D.fineL 59 xs = true := fun xs => by
    induction xs with
    | nil => intro _; simp only [D.fineL]
    | cons x xs ih =>
      intro hx
      simp only [D.fineL, Bool.and_eq_true]
      refine ⟨?_, ih fun y hy => hx y (List.mem_cons_of_mem _ hy)⟩
      obtain ⟨w, hw, rfl⟩ := List.mem_map.mp (hx x List.mem_cons_self)
      simp only [D.fine]
      exact fine_of (pt.lo w hw)
  have e : mLcL (mItems (mVar 1)) (.nm 4) (mTest (mOp fNotIn (mPeek 4) (mPeek 2))) (mVar 4) [4] [.dat (.str l), .dat (.lst ws), .dat (.lst ns), .nul, .nul] s = .ok ((ws.filter t).map id) s := by
    rw [mLcL_run]
    show (if ws.length ≤ 100000 then lcGo _ _ _ _ ws s else .bad) = _
    rw [if_pos (by omega)]
    refine run_lcf t id ws fun d hd => ?_
    obtain ⟨w, hw, rfl⟩ := List.mem_map.mp hd
    refine ⟨[.dat (.str l), .dat (.lst ws), .dat (.lst ns), .nul, .dat (.str w)], rfl, test_b ?_, fun _ => rfl⟩
    show R.opt (fNotIn (.str w) (.lst ns)) s = _
    have : fNotIn (.str w) (.lst ns) = some (.bl (!numB w)) := by
      unfold fNotIn
      rw [nf, fine_lo (pt.lo w hw)]
      rfl
    rw [this]
    rfl
  rw [List.map_id] at e
  have c2 : mOp fEq (mFrz (mLcL (mItems (mVar 1)) (.nm 4) (mTest (mOp fNotIn (mPeek 4) (mPeek 2))) (mVar 4) [4])) (mLst mNil) [.dat (.str l), .dat (.lst ws), .dat (.lst ns), .nul, .nul] s = .ok (.bl (W.all numB)) s := by
    rw [mOp_run, mFrz_run, e]
    show R.opt (fEq (.lst (ws.filter t)) (.lst [])) s = _
    rw [fEq_emp (wf _ fun x hx => (List.mem_filter.mp hx).1)]
    show R.ok (D.bl (ws.filter t).isEmpty) s = _
    have : (ws.filter t).isEmpty = W.all numB := by
      have : ∀ V : List Str, ((V.map D.str).filter t).isEmpty = V.all numB := fun V => by
        induction V with
        | nil => rfl
        | cons v V ih =>
          rw [List.map_cons, List.filter_cons, List.all_cons]
          cases hv : numB v with
          | true =>
            have : t (.str v) = false := by show (!numB v) = false; rw [hv]; rfl
            rw [this, Bool.true_and]
            exact ih
          | false =>
            have : t (.str v) = true := by show (!numB v) = true; rw [hv]; rfl
            rw [this]
            rfl
      exact this W
    rw [this]
  unfold m__law_is_line b__law_is_line
  rw [mFn_run]
  show endD (mSeq _ _ [.dat (.str l), .nul, .nul, .nul, .nul] s) = _
  rw [mSeq_run]
  show endD (((((R.opt (fSplit l (.str " ")) s)).bind fun d s1 => (R.ok (.dat d) s1 : R SV)).bind fun x s1 => R.ok (Out.nx ([SV.dat (.str l), .nul, .nul, .nul, .nul].set 1 x)) s1).bind _) = _
  rw [sp, R.opt_some, R.bind_ok, R.bind_ok, R.bind_ok]
  show endD (mSeq _ _ [.dat (.str l), .dat (.lst ws), .nul, .nul, .nul] s) = _
  rw [mSeq_run, mAsg_run, mSd_run, g]
  show endD (mRet _ [.dat (.str l), .dat (.lst ws), .dat (.lst ns), .nul, .nul] s) = _
  rw [mRet_run, and_b c1 fun _ => c2]
  have : (decide ((2 : Int) ≤ W.length) && decide ((W.length : Int) ≤ 4)) = (decide (2 ≤ W.length) && decide (W.length ≤ 4)) := by
    congr 1 <;> simp only [decide_eq_decide] <;> omega
  rw [this]
  rfl
end PD
set_option maxRecDepth 100000
set_option maxHeartbeats 4000000
namespace PD
open PySem PySem.Spec PyProof.Rows L2
/-! ## reading any text -/
def wordD (w : Str) : D := match idxB w with
  | some j => .int (j : Nat)
  | none => .non
def rowD (l : Str) : D := if goodL l = true then .tup ((Txt.split l " ").map wordD) else .non
theorem wordD_ok {i : Int} (h : Owed i) : wordD (istr i) = .int i := by
  have q := (istr_ok h).2.2.2
  have q : (idxB (istr i)).map (fun j => D.int (j : Nat)) = some (.int i) := q
  unfold wordD
  cases e : idxB (istr i) with
  | none => rw [e] at q; cases q
  | some j =>
    rw [e] at q
    exact Option.some.inj q
theorem rowD_row {xs : List Int} (h : RowN xs) : rowD (rowS xs) = eR xs := by
  unfold rowD
  rw [if_pos (row_good h), row_split h, List.map_map]
  unfold eR
  congr 1
  exact List.map_congr_left fun i hi => wordD_ok (h.ok i hi)
theorem rowD_bad {l : Str} (h : goodL l = false) : rowD l = .non := by unfold rowD; rw [h]; rfl
theorem row_any {n : Nat} {l : Str} {s : Store} (h : Tx n l) (hn : n ≤ 9000) : m_row_in [.str l] s = .ok (rowD l) s := by
  cases hg : goodL l with
  | false => rw [rowD_bad hg]; exact rowin_bad h hn hg
  | true =>
    obtain ⟨xs, hx, rfl⟩ := goodL_row hg
    rw [rowD_row hx]
    exact rowin_ok hx
def bIx : List Str → Option Nat
  | [] => none
  | l :: ls => if goodL l = true then (bIx ls).map (· + 1) else some 0
theorem bIx_cons (l : Str) (ls : List Str) : bIx (l :: ls) = if goodL l = true then (bIx ls).map (· + 1) else some 0 := rfl
theorem bIx_none : ∀ {ls : List Str}, bIx ls = none → ∃ rs : List (List Int), ls = rs.map rowS ∧ ∀ xs ∈ rs, RowN xs
  | [], _ => ⟨[], rfl, fun x h => by cases h⟩
  | l :: ls, h => by
    unfold bIx at h
    split at h
    · rename_i hg
      cases e : bIx ls with
      | some j => rw [e] at h; cases h
      | none =>
        obtain ⟨xs, hx, rfl⟩ := goodL_row hg
        obtain ⟨rs, rfl, hr⟩ := bIx_none e
        exact ⟨xs :: rs, rfl, fun y hy => (List.mem_cons.mp hy).elim (fun q => q ▸ hx) (hr y)⟩
    · cases h
theorem rowD_non (l : Str) : D.eqv (rowD l) .non = !goodL l := by
  cases h : goodL l with
  | false => rw [rowD_bad h]; rfl
  | true =>
    unfold rowD
    rw [h]
    rfl
theorem idx_bad : ∀ ls : List Str, idxOf (fun z => D.eqv z .non) (ls.map rowD) = bIx ls
  | [] => rfl
  | l :: ls => by
    show (if D.eqv (rowD l) .non then some 0 else (idxOf _ (ls.map rowD)).map (· + 1)) = _
    rw [idx_bad ls, rowD_non, bIx_cons]
    cases goodL l <;> rfl
theorem any_bad : ∀ ls : List Str, D.anyEq .non (ls.map rowD) = (bIx ls).isSome
  | [] => rfl
  | l :: ls => by
    show (D.eqv (rowD l) .non || D.anyEq .non (ls.map rowD)) = _
    rw [any_bad ls, rowD_non, bIx_cons]
    cases goodL l
    · rfl
    · cases bIx ls <;> rfl
theorem rowD_fine {l : Str} : D.fine 59 (rowD l) = true := by
  cases h : goodL l with
  | false => rw [rowD_bad h]; simp only [D.fine]
  | true =>
    obtain ⟨xs, hx, rfl⟩ := goodL_row h
    rw [rowD_row hx]
    exact Gd.fine (L := 4) (n := 1) (gd_ints hx.hi) (by decide)
theorem rows_fine : ∀ ls : List Str, D.fineL 59 (ls.map rowD) = true
  | [] => by simp only [List.map_nil, D.fineL]
  | l :: ls => by
    rw [List.map_cons]
    simp only [D.fineL, Bool.and_eq_true]
    exact ⟨rowD_fine, rows_fine ls⟩
theorem rows_fine60 (ls : List Str) : D.fine 60 (.lst (ls.map rowD)) = true := by
  simp only [D.fine]
  rw [rows_fine ls]; rfl
theorem non_fine : D.fine 60 .non = true := by simp only [D.fine]
def firstB (ls : List Str) : Int := match bIx ls with
  | some j => (j : Int) + 1
  | none => (ls.length : Int) + 1
theorem lines_tx {n : Nat} {x : Str} (h : Tx n x) : ∀ l ∈ Txt.split x "\n", Tx n l := fun l hl => by
  obtain ⟨pt, _⟩ := split_pt h nl_len
  refine ⟨pt.lo l hl, ?_⟩
  have := pt.sum
  have q : ∀ ls : List Str, l ∈ ls → l.length ≤ (ls.map (·.length)).sum := fun ls => by
    induction ls with
    | nil => intro h; cases h
    | cons a as ih =>
      intro h
      rw [List.map_cons, List.sum_cons]
      rcases List.mem_cons.mp h with e | h
      · subst e; omega
      · have := ih h; omega
  have := q _ hl
  rw [← TL.len_tl]; omega
/-- all that reading does -/
theorem din {n : Nat} {x : Str} {s : Store} (h : Tx n x) (hn : n ≤ 9000) :
    (∃ rs, m_debts_in [.str x] s = .ok (eDb rs) s ∧ TabN rs ∧ isDebts (eDb rs) = true ∧ x = textOf rs ∧ bIx (Txt.split x "\n") = none) ∨
    m_debts_in [.str x] s = .er ⟨"InvalidText", some ("line", .int (firstB (Txt.split x "\n")))⟩ s := by
  obtain ⟨pt, ej⟩ := split_pt h nl_len
  let ls := Txt.split x "\n"
  have hnum : ls.length ≤ 9001 := Nat.le_trans pt.num (by omega)
  have sp : fSplit x (.str "\n") = some (.lst (ls.map D.str)) := fSplit_ok h (by omega) (by decide +kernel)
  have ltx := lines_tx h
  have e : mLcL (mItems (mStr2 fSplit (mPeek 0) (mCon (.str "\n")))) (.nm 2) mYes (mCall 1 m_row_in (mCons (mVar 2) mNil)) [2] [.dat (.str x), .nul, .nul] s = .ok (ls.map rowD) s := by
    rw [mLcL_run, mItems_run]
    show (((R.opt (fSplit x (.str "\n")) s).bind fun d s1 => R.opt (fItems d) s1).bind _) = _
    rw [sp]
    show (if (ls.map D.str).length ≤ 100000 then lcGo _ _ _ _ (ls.map D.str) s else .bad) = _
    rw [if_pos (by rw [List.length_map]; omega)]
    refine run_lcm D.str rowD ls fun l hl => ⟨[.dat (.str x), .nul, .dat (.str l)], rfl, ?_⟩
    show m_row_in [.str l] s = _
    exact row_any (ltx l hl) hn
  have ni : fIn .non (.lst (ls.map rowD)) = some (.bl (bIx ls).isSome) := by
    unfold fIn
    rw [rows_fine60, non_fine]
    show some (D.bl (D.anyEq .non (ls.map rowD))) = _
    rw [any_bad]
  have run : m_debts_in [.str x] s = endD ((mSeq (mIf (mTest (mOp fIn (mCon .non) (mPeek 1))) (mRaise "InvalidText" "line" (mCons (mOp fAdd (mXIdx (mPeek 1) (mCon .non)) (mCon (.int 1))) mNil)) mNext)
      (mSeq (mIf (mNotT (mTest (mCall 1 m_are_good_debts (mCons (mBlt fTuple (mCons (mPeek 1) mNil)) mNil)))) (mRaise "InvalidText" "line" (mCons (mOp fAdd (mBlt fLen (mCons (mPeek 1) mNil)) (mCon (.int 1))) mNil)) mNext)
      (mRet (mBlt fTuple (mCons (mPeek 1) mNil))))) [.dat (.str x), .dat (.lst (ls.map rowD)), .nul] s) := by
    unfold m_debts_in b_debts_in
    rw [mFn_run]
    show endD (mSeq _ _ [.dat (.str x), .nul, .nul] s) = _
    rw [mSeq_run, mIf_run, notT_b (p := true) (test_b rfl)]
    show endD (mSeq _ _ [.dat (.str x), .nul, .nul] s) = _
    rw [mSeq_run, mAsg_run, mSd_run, mFrz_run, e]
    rfl
  rw [run, mSeq_run, mIf_run, test_b (p := (bIx ls).isSome) (by
    show R.opt (fIn .non (.lst (ls.map rowD))) s = _
    rw [ni]; rfl)]
  cases hb : bIx ls with
  | some j =>
    right
    have fi : fXIdx (.lst (ls.map rowD)) .non = some (.int (j : Nat)) := by
      show (if D.fine 60 (.lst (ls.map rowD)) && D.fine 60 .non then _ else _) = _
      rw [rows_fine60, non_fine, idx_bad, hb]
      rfl
    have hf : firstB (Txt.split x "\n") = (j : Int) + 1 := by
      unfold firstB
      rw [show bIx (Txt.split x "\n") = some j from hb]
    rw [hf]
    show endD ((mRaise "InvalidText" "line" (mCons (mOp fAdd (mXIdx (mPeek 1) (mCon .non)) (mCon (.int 1))) mNil) [.dat (.str x), .dat (.lst (ls.map rowD)), .nul] s).bind _) = _
    have er : mRaise "InvalidText" "line" (mCons (mOp fAdd (mXIdx (mPeek 1) (mCon .non)) (mCon (.int 1))) mNil) [.dat (.str x), .dat (.lst (ls.map rowD)), .nul] s = .er ⟨"InvalidText", some ("line", .int ((j : Int) + 1))⟩ s := by
      have a : mXIdx (mPeek 1) (mCon .non) [.dat (.str x), .dat (.lst (ls.map rowD)), .nul] s = .ok (.int (j : Nat)) s := by
        show R.opt (fXIdx (.lst (ls.map rowD)) .non) s = _
        rw [fi]; rfl
      unfold mRaise
      rw [mCons_run, mOp_run, a]
      rfl
    rw [er]
    rfl
  | none =>
    obtain ⟨rs, hrs, hr⟩ := bIx_none hb
    have hrl : ls.length = rs.length := by rw [hrs, List.length_map]
    have er : ls.map rowD = rs.map eR := by
      rw [hrs, List.map_map]
      exact List.map_congr_left fun xs hx => rowD_row (hr xs hx)
    rw [er]
    have gd : Gd 9001 2 (eDb rs) := ⟨by rw [List.length_map]; omega, fun y hy => by
      obtain ⟨xs, hx, rfl⟩ := List.mem_map.mp hy
      exact gd_ints (by have := (hr xs hx).hi; omega)⟩
    have dk := debts_ok (s := s) gd.ty2
    show (∃ rs', endD (mSeq _ _ [.dat (.str x), .dat (.lst (rs.map eR)), .nul] s) = _ ∧ _) ∨ endD (mSeq _ _ [.dat (.str x), .dat (.lst (rs.map eR)), .nul] s) = _
    rw [mSeq_run, mIf_run, notT_b (p := isDebts (eDb rs)) (test_b (by
      show m_are_good_debts [eDb rs] s = _
      exact dk))]
    cases hd : isDebts (eDb rs) with
    | true =>
      left
      have tb : TabN rs := by
        have hd2 := hd
        unfold isDebts at hd2
        rw [Bool.and_eq_true] at hd2
        obtain ⟨xs, ex, h1, h2⟩ := isTup_len hd2.1
        have ex : rs.map eR = xs := by
          unfold eDb at ex
          exact D.tup.inj ex
        have : xs.length = rs.length := by rw [← ex, List.length_map]
        exact ⟨by omega, by omega, hr⟩
      refine ⟨rs, rfl, tb, hd, ?_, by first | exact hb | rfl⟩
      have : Txt.join "\n" ls = x := ej
      rw [← this, hrs]
      rfl
    | false =>
      right
      have hf : firstB (Txt.split x "\n") = (rs.length : Int) + 1 := by
        unfold firstB
        rw [show bIx (Txt.split x "\n") = none from hb]
        show ((ls.length : Nat) : Int) + 1 = _
        rw [hrl]
      rw [hf]
      show endD ((mRaise "InvalidText" "line" (mCons (mOp fAdd (mBlt fLen (mCons (mPeek 1) mNil)) (mCon (.int 1))) mNil) [.dat (.str x), .dat (.lst (rs.map eR)), .nul] s).bind _) = _
      have er : mRaise "InvalidText" "line" (mCons (mOp fAdd (mBlt fLen (mCons (mPeek 1) mNil)) (mCon (.int 1))) mNil) [.dat (.str x), .dat (.lst (rs.map eR)), .nul] s = .er ⟨"InvalidText", some ("line", .int ((rs.length : Int) + 1))⟩ s := by
        have a : mBlt fLen (mCons (mPeek 1) mNil) [.dat (.str x), .dat (.lst (rs.map eR)), .nul] s = .ok (.int (rs.length : Int)) s := by
          show R.ok (D.int ((rs.map eR).length : Int)) s = _
          rw [List.length_map]
        unfold mRaise
        rw [mCons_run, mOp_run, a]
        rfl
      rw [er]
      rfl
/-- the law's reading -/
theorem lread_ok {n : Nat} {x : Str} {s : Store} (h : Tx n x) (hn : n ≤ 9000) :
    (∃ rs, m__law_read [.str x] s = .ok (.tup [eDb rs, .non]) s ∧ TabN rs ∧ isDebts (eDb rs) = true ∧ x = textOf rs ∧ bIx (Txt.split x "\n") = none) ∨
    m__law_read [.str x] s = .ok (.tup [.non, .int (firstB (Txt.split x "\n"))]) s := by
  rcases din (s := s) h hn with ⟨rs, e, h1, h2, h3, h4⟩ | e
  · left
    refine ⟨rs, ?_, h1, h2, h3, h4⟩
    have b : b__law_read (startE 2 [.str x]) s = .ok (.rt (.tup [eDb rs, .non])) s := by
      show (((endD ((m_debts_in [.str x] s).bind fun d s1 => R.ok (Out.rt d) s1)).bind fun d s1 => (R.ok [D.non] s1).bind fun ds s2 => R.ok (d :: ds) s2).bind fun ds s1 => R.opt (few .tup ds) s1).bind (fun d s1 => R.ok (Out.rt d) s1) = _
      rw [e]
      rfl
    unfold m__law_read mTryR
    rw [b]
    rfl
  · right
    have b : b__law_read (startE 2 [.str x]) s = .er ⟨"InvalidText", some ("line", .int (firstB (Txt.split x "\n")))⟩ s := by
      show (((endD ((m_debts_in [.str x] s).bind fun d s1 => R.ok (Out.rt d) s1)).bind fun d s1 => (R.ok [D.non] s1).bind fun ds s2 => R.ok (d :: ds) s2).bind fun ds s1 => R.opt (few .tup ds) s1).bind (fun d s1 => R.ok (Out.rt d) s1) = _
      rw [e]
      rfl
    unfold m__law_read mTryR
    rw [b]
    rfl
/-- what is no text -/
theorem lread_no {d : D} {s : Store} (h : fIsi "str" d = some (.bl false)) : m__law_read [d] s = .ok (.tup [.non, .int 0]) s := by
  have e : m_debts_in [d] s = .er ⟨"InvalidText", some ("line", .int 0)⟩ s := by
    unfold m_debts_in b_debts_in
    rw [mFn_run]
    show endD (mSeq _ _ [.dat d, .nul, .nul] s) = _
    rw [mSeq_run, mIf_run, notT_b (p := false) (test_b (by
      show R.opt (fIsi "str" d) s = _
      rw [h]; rfl))]
    rfl
  have b : b__law_read (startE 2 [d]) s = .er ⟨"InvalidText", some ("line", .int 0)⟩ s := by
    show (((endD ((m_debts_in [d] s).bind fun d s1 => R.ok (Out.rt d) s1)).bind fun d s1 => (R.ok [D.non] s1).bind fun ds s2 => R.ok (d :: ds) s2).bind fun ds s1 => R.opt (few .tup ds) s1).bind (fun d s1 => R.ok (Out.rt d) s1) = _
    rw [e]
    rfl
  unfold m__law_read mTryR
  rw [b]
  rfl
end PD
set_option maxRecDepth 100000
set_option maxHeartbeats 4000000
namespace PD
open PySem PySem.Spec PyProof.Rows L2
/-! ## a text spoilt -/
def cutS (x : Str) (lo hi : Option Int) : Str := ⟨(cutD x.cps.toList lo hi).toArray⟩
theorem cut_tx {n : Nat} {x : Str} (h : Tx n x) (hn : n ≤ 100000) (lo hi : Option Int) : fSl (.str x) lo hi = some (.str (cutS x lo hi)) ∧ Tx n (cutS x lo hi) := by
  refine ⟨if_pos (Nat.le_trans (len_of h.len) hn), fun c hc => h.lo c (cut_mem (lo := lo) (hi := hi) hc), Nat.le_trans (cut_len _ lo hi) h.len⟩
theorem app_tx {n m : Nat} {x y : Str} (hx : Tx n x) (hy : Tx m y) (hn : n + m ≤ 100000) : fAdd (.str x) (.str y) = some (.str (x ++ y)) ∧ Tx (n + m) (x ++ y) := by
  have h1 := len_of hx.len
  have h2 := len_of hy.len
  refine ⟨if_pos (by omega), fun c hc => ?_, ?_⟩
  · rw [TL.tl_append] at hc
    exact (List.mem_append.mp hc).elim (hx.lo c) (hy.lo c)
  · rw [TL.tl_append, List.length_append]
    have := hx.len
    have := hy.len
    omega
def sg1 : List Str := ["", " ", "0", "1"]
def sg2 : List Str := ["4", "-", "\n"]
def sg3 : List Str := ["\n0 0", "12", "13"]
def sg4 : List Str := ["01", "a", " 0", "\n0 0 0"]
def sg : List Str := sg1 ++ (sg2 ++ (sg3 ++ sg4))
theorem sg_tx : ∀ z ∈ sg, Tx 10 z := fun z hz => by
  have h : sg.all (fun z => (TL.tl z).all (fun c => decide (c < 128)) && decide ((TL.tl z).length ≤ 10)) = true := by decide +kernel
  have q := List.all_eq_true.mp h z hz
  rw [Bool.and_eq_true] at q
  exact ⟨fun c hc => of_decide_eq_true (List.all_eq_true.mp q.1 c hc), of_decide_eq_true q.2⟩
theorem cut_map {α β : Type} (f : α → β) (xs : List α) (lo hi : Option Int) : cutD (xs.map f) lo hi = (cutD xs lo hi).map f := by
  unfold cutD
  rw [List.length_map, List.map_take, List.map_drop]
theorem Pt.cut {n : Nat} {ps : List Str} (h : Pt n ps) (lo hi : Option Int) : Pt n (cutD ps lo hi) :=
  ⟨fun p hp => h.lo p (cut_mem hp), Nat.le_trans (cut_sum (fun p : Str => p.length) ps lo hi) h.sum, Nat.le_trans (cut_len ps lo hi) h.num⟩
theorem join_pt {ps : List Str} {n k : Nat} (lo : ∀ p ∈ ps, ∀ c ∈ TL.tl p, c < 128) (sum : (ps.map (·.length)).sum ≤ n) (num : ps.length ≤ k) (hn : n + k ≤ 100000) : fJoin "\n" (.lst (ps.map D.str)) = some (.str (Txt.join "\n" ps)) ∧ Tx (n + k) (Txt.join "\n" ps) := by
  refine ⟨?_, fun c hc => ?_, ?_⟩
  · show (strsOf (ps.map D.str)).bind _ = _
    rw [strs_map]
    show (if _ then _ else _) = _
    rw [if_pos (by rw [TL.len_tl ("\n" : Str), tl_nl]; simp only [List.length_cons, List.length_nil]; omega)]
  · rw [tl_joinT, tl_nl] at hc
    rcases joinL_mem hc with h1 | ⟨p, hp, h1⟩
    · simp at h1; omega
    · obtain ⟨q, hq, rfl⟩ := List.mem_map.mp hp
      exact lo q hq c h1
  · rw [tl_joinT, tl_nl, ← joinL_sum, List.map_map, List.length_map]
    have e2 : (ps.map ((fun z : List Nat => z.length) ∘ TL.tl)) = ps.map (·.length) := List.map_congr_left fun z _ => (TL.len_tl z).symm
    rw [e2]
    simp only [List.length_cons, List.length_nil]
    omega
theorem fLen_tx {n : Nat} {x : Str} (h : Tx n x) (hn : n ≤ 100000) : fLen [.str x] = some (.int x.length) := if_pos (Nat.le_trans (len_of h.len) hn)
theorem add_ll {xs ys : List D} (h : xs.length + ys.length ≤ 100000) : fAdd (.lst xs) (.lst ys) = some (.lst (xs ++ ys)) := if_pos h
theorem split_nil : Txt.split ("" : Str) "\n" ≠ [] := by decide +kernel
theorem spoil_ok {x : Str} {s : Store} {i : Nat} (h : Tx 1700 x) (hs : Src s i) : ∃ y s', m__law_spoilt [.cel i, .str x] s = .ok (.str y) s' ∧ Tx 20000 y ∧ Src s' i := by
  obtain ⟨a, s1, a0, a1, hs1, _, _, e1⟩ := draw_ok (n := (x.length : Int) + 1) hs (by omega) (by have := len_of h.len; omega)
  obtain ⟨m, s2, m0, m1, hs2, _, _, e2⟩ := draw_ok (n := 3) hs1 (by decide) (by decide)
  have p1 : mPar [2, 3] (mRcons (mSd (mCall 2 m__law_draw (mCons (mVar 0) (mCons (mOp fAdd (mBlt fLen (mCons (mPeek 1) mNil)) (mCon (.int 1))) mNil)))) (mRcons (mSd (mCall 2 m__law_draw (mCons (mVar 0) (mCons (mCon (.int 3)) mNil)))) mRnil)) [.dat (.cel i), .dat (.str x), .nul, .nul, .nul, .nul, .nul, .nul] s = .ok (.nx [.dat (.cel i), .dat (.str x), .dat (.int a), .dat (.int m), .nul, .nul, .nul, .nul]) s2 := by
    have q1 : mCall 2 m__law_draw (mCons (mVar 0) (mCons (mOp fAdd (mBlt fLen (mCons (mPeek 1) mNil)) (mCon (.int 1))) mNil)) [.dat (.cel i), .dat (.str x), .nul, .nul, .nul, .nul, .nul, .nul] s = .ok (.int a) s1 := by
      have q : mOp fAdd (mBlt fLen (mCons (mPeek 1) mNil)) (mCon (.int 1)) [.dat (.cel i), .dat (.str x), .nul, .nul, .nul, .nul, .nul, .nul] s = .ok (.int ((x.length : Int) + 1)) s := by
        rw [mOp_run, mBlt_run]
        show ((R.opt (fLen [.str x]) s).bind _) = _
        rw [fLen_tx h (by decide)]
        rfl
      simp only [mCall_run, mCons_run, mVar_run, List.getElem?_cons_zero, R.bind_ok, q, mNil_run, List.length_cons, List.length_nil, Nat.reduceAdd, if_true]
      exact e1
    have q2 : mCall 2 m__law_draw (mCons (mVar 0) (mCons (mCon (.int 3)) mNil)) [.dat (.cel i), .dat (.str x), .nul, .nul, .nul, .nul, .nul, .nul] s1 = .ok (.int m) s2 := e2
    rw [mPar_run, mRcons_run, mSd_run, q1]
    simp only [R.bind_ok, mRcons_run, mSd_run, q2, mRnil_run]
    rfl
  let sd : List D := sg.map D.str
  have p2 : ∀ t : Store, mLst (mCons (mCon (.str "")) (mCons (mCon (.str " ")) (mCons (mCon (.str "0")) (mCons (mCon (.str "1")) (mCons (mCon (.str "4")) (mCons (mCon (.str "-")) (mCons (mCon (.str "\n")) (mCons (mCon (.str "\n0 0")) (mCons (mCon (.str "12")) (mCons (mCon (.str "13")) (mCons (mCon (.str "01")) (mCons (mCon (.str "a")) (mCons (mCon (.str " 0")) (mCons (mCon (.str "\n0 0 0")) mNil)))))))))))))) [.dat (.cel i), .dat (.str x), .dat (.int a), .dat (.int m), .nul, .nul, .nul, .nul] t = .ok (.lst sd) t := fun t => rfl
  unfold m__law_spoilt b__law_spoilt
  rw [mFn_run]
  show ∃ y s', endD (mSeq _ _ [.dat (.cel i), .dat (.str x), .nul, .nul, .nul, .nul, .nul, .nul] s) = .ok (.str y) s' ∧ _
  rw [mSeq_run, p1]
  simp only [R.bind_ok]
  rw [mSeq_run, mAsg_run, mSd_run, p2]
  simp only [R.bind_ok, List.set_cons_succ, List.set_cons_zero]
  rw [mSeq_run, mIf_run, test_b (p := (m == 2)) (by
    rw [mOp_run]
    show R.opt (fEq (.int m) (.int 2)) s2 = _
    rw [fEq_ii]; rfl)]
  simp only [R.bind_ok]
  cases hm : (m == 2) with
  | true =>
    obtain ⟨pt, ej⟩ := split_pt h nl_len
    let ls := Txt.split x "\n"
    have sp : fSplit x (.str "\n") = some (.lst (ls.map D.str)) := fSplit_ok h (by decide) (by decide +kernel)
    have pos : 0 < ls.length := by
      cases hl : ls with
      | nil =>
        have := split_ne nl_len (show Txt.split x "\n" = [] from hl)
        subst this
        exact absurd hl split_nil
      | cons _ _ => simp
    have hnum : ls.length ≤ 1701 := pt.num
    obtain ⟨c, s3, c0, c1, hs3, _, _, e3⟩ := draw_ok (n := (ls.length : Int)) hs2 (by omega) (by omega)
    obtain ⟨r, s4, r0, r1, hs4, _, _, e4⟩ := draw_ok (n := 3) hs3 (by decide) (by decide)
    let A := cutD ls none (some c)
    let B := cutD ls (some (c + 1)) none
    let C := cutD ls (some c) (some (c + r))
    have pA := pt.cut none (some c)
    have pB := pt.cut (some (c + 1)) none
    have pC := pt.cut (some c) (some (c + r))
    obtain ⟨j1, j2⟩ := join_pt (ps := A ++ B ++ C) (n := 5100) (k := 5103) (fun p hp => by
      rcases List.mem_append.mp hp with hp | hp
      · rcases List.mem_append.mp hp with hp | hp
        · exact pA.lo p hp
        · exact pB.lo p hp
      · exact pC.lo p hp) (by
      rw [List.map_append, List.map_append, List.sum_append, List.sum_append]
      have := pA.sum
      have := pB.sum
      have := pC.sum
      show (A.map (·.length)).sum + (B.map (·.length)).sum + (C.map (·.length)).sum ≤ 5100
      have h1 : (A.map (·.length)).sum ≤ 1700 := pA.sum
      have h2 : (B.map (·.length)).sum ≤ 1700 := pB.sum
      have h3 : (C.map (·.length)).sum ≤ 1700 := pC.sum
      omega) (by
      rw [List.length_append, List.length_append]
      have h1 : A.length ≤ 1701 := pA.num
      have h2 : B.length ≤ 1701 := pB.num
      have h3 : C.length ≤ 1701 := pC.num
      omega) (by decide)
    refine ⟨_, s4, ?_, j2.mono (by decide), hs4⟩
    have g1 : ∀ x6 x7 : SV, mStr2 fSplit (mPeek 1) (mCon (.str "\n")) [.dat (.cel i), .dat (.str x), .dat (.int a), .dat (.int m), .dat (.lst sd), .nul, x6, x7] s2 = .ok (.lst (ls.map D.str)) s2 := fun x6 x7 => by
      show R.opt (fSplit x (.str "\n")) s2 = _
      rw [sp]; rfl
    have g2 : mCall 2 m__law_draw (mCons (mVar 0) (mCons (mBlt fLen (mCons (mPeek 5) mNil)) mNil)) [.dat (.cel i), .dat (.str x), .dat (.int a), .dat (.int m), .dat (.lst sd), .dat (.lst (ls.map D.str)), .nul, .nul] s2 = .ok (.int c) s3 := by
      have q : mBlt fLen (mCons (mPeek 5) mNil) [.dat (.cel i), .dat (.str x), .dat (.int a), .dat (.int m), .dat (.lst sd), .dat (.lst (ls.map D.str)), .nul, .nul] s2 = .ok (.int (ls.length : Int)) s2 := by
        show R.ok (D.int ((ls.map D.str).length : Int)) s2 = _
        rw [List.length_map]
      simp only [mCall_run, mCons_run, mVar_run, List.getElem?_cons_zero, R.bind_ok, q, mNil_run, List.length_cons, List.length_nil, Nat.reduceAdd, if_true]
      exact e3
    have g3 : mSl (mPeek 5) (mPart (mVar 6)) (mPart (mOp fAdd (mPeek 6) (mCall 2 m__law_draw (mCons (mVar 0) (mCons (mCon (.int 3)) mNil))))) [.dat (.cel i), .dat (.str x), .dat (.int a), .dat (.int m), .dat (.lst sd), .dat (.lst (ls.map D.str)), .dat (.int c), .nul] s3 = .ok (.lst (C.map D.str)) s4 := by
      have q : mCall 2 m__law_draw (mCons (mVar 0) (mCons (mCon (.int 3)) mNil)) [.dat (.cel i), .dat (.str x), .dat (.int a), .dat (.int m), .dat (.lst sd), .dat (.lst (ls.map D.str)), .dat (.int c), .nul] s3 = .ok (.int r) s4 := e4
      simp only [mSl_run, mPart_run, mOp_run, mPeek_run, mVar_run, List.getElem?_cons_succ, List.getElem?_cons_zero, R.bind_ok, toI_int, q, fAdd_ii, R.opt_some]
      show R.ok (D.lst (cutD (ls.map D.str) (some c) (some (c + r)))) s4 = _
      rw [cut_map]
    have g4 : mOp fAdd (mOp fAdd (mSl (mPeek 5) mNoPart (mPart (mVar 6))) (mSl (mPeek 5) (mPart (mOp fAdd (mPeek 6) (mCon (.int 1)))) mNoPart)) (mPeek 7) [.dat (.cel i), .dat (.str x), .dat (.int a), .dat (.int m), .dat (.lst sd), .dat (.lst (ls.map D.str)), .dat (.int c), .dat (.lst (C.map D.str))] s4 = .ok (.lst ((A ++ B ++ C).map D.str)) s4 := by
      have h1 : A.length ≤ 1701 := pA.num
      have h2 : B.length ≤ 1701 := pB.num
      have h3 : C.length ≤ 1701 := pC.num
      have q1 : mSl (mPeek 5) mNoPart (mPart (mVar 6)) [.dat (.cel i), .dat (.str x), .dat (.int a), .dat (.int m), .dat (.lst sd), .dat (.lst (ls.map D.str)), .dat (.int c), .dat (.lst (C.map D.str))] s4 = .ok (.lst (A.map D.str)) s4 := by
        show R.ok (D.lst (cutD (ls.map D.str) none (some c))) s4 = _
        rw [cut_map]
      have q2 : mSl (mPeek 5) (mPart (mOp fAdd (mPeek 6) (mCon (.int 1)))) mNoPart [.dat (.cel i), .dat (.str x), .dat (.int a), .dat (.int m), .dat (.lst sd), .dat (.lst (ls.map D.str)), .dat (.int c), .dat (.lst (C.map D.str))] s4 = .ok (.lst (B.map D.str)) s4 := by
        show R.ok (D.lst (cutD (ls.map D.str) (some (c + 1)) none)) s4 = _
        rw [cut_map]
      rw [mOp_run, mOp_run, q1]
      simp only [R.bind_ok, q2]
      rw [add_ll (by rw [List.length_map, List.length_map]; omega)]
      show R.opt (fAdd (.lst (A.map D.str ++ B.map D.str)) (.lst (C.map D.str))) s4 = _
      rw [add_ll (by rw [List.length_append, List.length_map, List.length_map, List.length_map]; omega), List.map_append, List.map_append]
      rfl
    simp only [mSeq_run, mAsg_run, mSd_run, g1, R.bind_ok, List.set_cons_succ, List.set_cons_zero, g2, g3, mRet_run]
    show endD (((mStr2 fJoin (mCon (.str "\n")) _ [.dat (.cel i), .dat (.str x), .dat (.int a), .dat (.int m), .dat (.lst sd), .dat (.lst (ls.map D.str)), .dat (.int c), .dat (.lst (C.map D.str))] s4).bind fun d s1 => R.ok (Out.rt d) s1).bind _) = _
    unfold mStr2
    simp only [mCon_run, R.bind_ok, g4, j1, R.opt_some, endD_rt]
  | false =>
    obtain ⟨z0, s3, hz0, hs3, e3⟩ := of_ok (items := sd) hs2 (by decide) (by decide)
    obtain ⟨z, hz, rfl⟩ := List.mem_map.mp hz0
    have tz := sg_tx z hz
    obtain ⟨k1, t1⟩ := cut_tx h (by decide) none (some a)
    obtain ⟨k2, t2⟩ := cut_tx h (by decide) (some (a + m)) none
    obtain ⟨k3, t3⟩ := app_tx t1 tz (by decide)
    obtain ⟨k4, t4⟩ := app_tx t3 t2 (by decide)
    refine ⟨_, s3, ?_, t4.mono (by decide), hs3⟩
    have q1 : mSl (mPeek 1) mNoPart (mPart (mVar 2)) [.dat (.cel i), .dat (.str x), .dat (.int a), .dat (.int m), .dat (.lst sd), .nul, .nul, .nul] s2 = .ok (.str (cutS x none (some a))) s2 := by
      show R.opt (fSl (.str x) none (some a)) s2 = _
      rw [k1]; rfl
    have q2 : mCall 2 m__law_of (mCons (mVar 0) (mCons (mVar 4) mNil)) [.dat (.cel i), .dat (.str x), .dat (.int a), .dat (.int m), .dat (.lst sd), .nul, .nul, .nul] s2 = .ok (.str z) s3 := e3
    have q3 : mSl (mPeek 1) (mPart (mOp fAdd (mPeek 2) (mPeek 3))) mNoPart [.dat (.cel i), .dat (.str x), .dat (.int a), .dat (.int m), .dat (.lst sd), .nul, .nul, .nul] s3 = .ok (.str (cutS x (some (a + m)) none)) s3 := by
      show R.opt (fSl (.str x) (some (a + m)) none) s3 = _
      rw [k2]; rfl
    show endD (mRet _ [.dat (.cel i), .dat (.str x), .dat (.int a), .dat (.int m), .dat (.lst sd), .nul, .nul, .nul] s2) = _
    rw [mRet_run, mOp_run, mOp_run]
    simp only [q1, R.bind_ok, q2, k3, R.opt_some, q3, k4, endD_rt]
end PD
set_option maxRecDepth 100000
set_option maxHeartbeats 4000000
namespace PD
open PySem PySem.Spec PyProof.Rows L2
/-! ## the law -/
def badD : Nat → List Str → List D
  | _, [] => []
  | k, l :: ls => if goodL l = true then badD (k + 1) ls else .int ((k : Int) + 1) :: badD (k + 1) ls
theorem badD_len : ∀ (ls : List Str) (k : Nat), (badD k ls).length ≤ ls.length
  | [], _ => Nat.le_refl _
  | l :: ls, k => by
    have := badD_len ls (k + 1)
    unfold badD
    split
    · rw [List.length_cons]; omega
    · rw [List.length_cons, List.length_cons]; omega
abbrev badB : MS := (mAsg 9 (mSd (mOp fAdd (mPeek 9) (mIte (mTest (mCall 1 m__law_is_line (mCons (mVar 11) mNil))) (mLst mNil) (mLst (mCons (mOp fAdd (mPeek 10) (mCon (.int 1))) mNil))))))
theorem badB_ok {x0 x1 x2 x3 x4 x5 x6 x7 x8 x12 : SV} {n : Nat} {s : Store} {l : Str} {k : Nat} {bad : List D} (h : Tx n l) (hn : n ≤ 9000) (hb : bad.length ≤ 99990) :
    badB [x0, x1, x2, x3, x4, x5, x6, x7, x8, .dat (.lst bad), .dat (.int (k : Int)), .dat (.str l), x12] s = .ok (.nx [x0, x1, x2, x3, x4, x5, x6, x7, x8, .dat (.lst (bad ++ if goodL l = true then [] else [.int ((k : Int) + 1)])), .dat (.int (k : Int)), .dat (.str l), x12]) s := by
  have t : mTest (mCall 1 m__law_is_line (mCons (mVar 11) mNil)) [x0, x1, x2, x3, x4, x5, x6, x7, x8, .dat (.lst bad), .dat (.int (k : Int)), .dat (.str l), x12] s = .ok (goodL l) s := test_b (by
    show m__law_is_line [.str l] s = _
    exact isline_ok h hn)
  have e : mOp fAdd (mPeek 9) (mIte (mTest (mCall 1 m__law_is_line (mCons (mVar 11) mNil))) (mLst mNil) (mLst (mCons (mOp fAdd (mPeek 10) (mCon (.int 1))) mNil))) [x0, x1, x2, x3, x4, x5, x6, x7, x8, .dat (.lst bad), .dat (.int (k : Int)), .dat (.str l), x12] s = .ok (.lst (bad ++ if goodL l = true then [] else [.int ((k : Int) + 1)])) s := by
    rw [mOp_run]
    show (R.ok (D.lst bad) s).bind _ = _
    rw [R.bind_ok, mIte_run, t, R.bind_ok]
    cases goodL l with
    | true =>
      show R.opt (fAdd (.lst bad) (.lst [])) s = _
      rw [add_ll (by simp; omega)]
      rfl
    | false =>
      show R.opt (fAdd (.lst bad) (.lst [.int ((k : Int) + 1)])) s = _
      rw [add_ll (by simp; omega)]
      rfl
  rw [badB, mAsg_run, mSd_run, e]
  rfl
theorem bad_loop {x0 x1 x2 x3 x4 x5 x6 x7 x8 x12 : SV} {n : Nat} {s : Store} (hn : n ≤ 9000) : ∀ (ls : List Str) (k : Nat) (bad : List D) (x10 x11 : SV), (∀ l ∈ ls, Tx n l) → bad.length + ls.length ≤ 99990 →
    ∃ y10 y11, forGo (.tp [.nm 10, .nm 11]) badB (enumD k (ls.map D.str)) [x0, x1, x2, x3, x4, x5, x6, x7, x8, .dat (.lst bad), x10, x11, x12] s = .ok (.nx [x0, x1, x2, x3, x4, x5, x6, x7, x8, .dat (.lst (bad ++ badD k ls)), y10, y11, x12]) s
  | [], k, bad, x10, x11, _, _ => ⟨x10, x11, by rw [show badD k [] = [] from rfl, List.append_nil]; rfl⟩
  | l :: ls, k, bad, x10, x11, h, hl => by
    rw [List.length_cons] at hl
    have b := badB_ok (x0 := x0) (x1 := x1) (x2 := x2) (x3 := x3) (x4 := x4) (x5 := x5) (x6 := x6) (x7 := x7) (x8 := x8) (x12 := x12) (s := s) (k := k) (bad := bad) (h l List.mem_cons_self) hn (by omega)
    obtain ⟨y10, y11, ih⟩ := bad_loop (x0 := x0) (x1 := x1) (x2 := x2) (x3 := x3) (x4 := x4) (x5 := x5) (x6 := x6) (x7 := x7) (x8 := x8) (x12 := x12) (s := s) hn ls (k + 1) (bad ++ if goodL l = true then [] else [.int ((k : Int) + 1)]) (.dat (.int (k : Int))) (.dat (.str l)) (fun l' h' => h l' (List.mem_cons_of_mem _ h')) (by
      rw [List.length_append]
      split
      · simp; omega
      · simp; omega)
    refine ⟨y10, y11, ?_⟩
    have e : bad ++ badD k (l :: ls) = (bad ++ if goodL l = true then [] else [.int ((k : Int) + 1)]) ++ badD (k + 1) ls := by
      rw [List.append_assoc]
      congr 1
      show (if goodL l = true then badD (k + 1) ls else .int ((k : Int) + 1) :: badD (k + 1) ls) = _
      split <;> rfl
    rw [e, ← ih]
    show (badB [x0, x1, x2, x3, x4, x5, x6, x7, x8, .dat (.lst bad), .dat (.int (k : Int)), .dat (.str l), x12] s).bind _ = _
    rw [b]
    rfl
theorem badD_none : ∀ (ls : List Str) (k : Nat), bIx ls = none → badD k ls = []
  | [], _, _ => rfl
  | l :: ls, k, h => by
    rw [bIx_cons] at h
    split at h
    · rename_i hg
      cases e : bIx ls with
      | some j => rw [e] at h; cases h
      | none =>
        show (if goodL l = true then badD (k + 1) ls else _) = []
        rw [if_pos hg]
        exact badD_none ls (k + 1) e
    · cases h
theorem badD_first : ∀ (ls : List Str) (k : Nat) (z : Int), (badD k ls ++ [.int z])[0]? = some (.int (match bIx ls with | some j => (k : Int) + (j : Int) + 1 | none => z))
  | [], _, _ => rfl
  | l :: ls, k, z => by
    show ((if goodL l = true then badD (k + 1) ls else .int ((k : Int) + 1) :: badD (k + 1) ls) ++ [.int z])[0]? = _
    rw [bIx_cons]
    split
    · rw [badD_first ls (k + 1) z]
      cases bIx ls with
      | none => rfl
      | some j =>
        show some (D.int (((k + 1 : Nat) : Int) + (j : Int) + 1)) = some (D.int ((k : Int) + ((j + 1 : Nat) : Int) + 1))
        congr 2
        omega
    · show some (D.int ((k : Int) + 1)) = some (D.int ((k : Int) + ((0 : Nat) : Int) + 1))
      congr 2
theorem bIx_rows : ∀ {rs : List (List Int)}, (∀ xs ∈ rs, RowN xs) → bIx (rs.map rowS) = none
  | [], _ => rfl
  | xs :: rs, h => by
    rw [List.map_cons, bIx_cons, row_good (h xs List.mem_cons_self), bIx_rows fun y hy => h y (List.mem_cons_of_mem _ hy)]
    rfl
theorem lread_text {rs : List (List Int)} {s : Store} (h : TabN rs) (hd : isDebts (eDb rs) = true) (ht : Ty2 (eDb rs)) : m__law_read [.str (textOf rs)] s = .ok (.tup [eDb rs, .non]) s := by
  have e := debtsin_ok (s := s) h hd ht
  have b : b__law_read (startE 2 [.str (textOf rs)]) s = .ok (.rt (.tup [eDb rs, .non])) s := by
    show (((endD ((m_debts_in [.str (textOf rs)] s).bind fun d s1 => R.ok (Out.rt d) s1)).bind fun d s1 => (R.ok [D.non] s1).bind fun ds s2 => R.ok (d :: ds) s2).bind fun ds s1 => R.opt (few .tup ds) s1).bind (fun d s1 => R.ok (Out.rt d) s1) = _
    rw [e]
    rfl
  unfold m__law_read mTryR
  rw [b]
  rfl
theorem ty2_tab {rs : List (List Int)} (h : TabN rs) : Gd 9001 2 (eDb rs) := ⟨by rw [List.length_map]; have := h.hi; omega, fun y hy => by
  obtain ⟨xs, hx, rfl⟩ := List.mem_map.mp hy
  exact gd_ints (by have := (h.ok xs hx).hi; omega)⟩
/-- what reading tells in a turn -/
theorem read_turn {x : Str} {j : Nat} {rs0 : List (List Int)} {s : Store} (h : Tx 1700 x) (h0 : j = 0 → x = textOf rs0) (tb : TabN rs0) (hd : isDebts (eDb rs0) = true) :
    (∃ rs, m__law_read [.str x] s = .ok (.tup [eDb rs, .non]) s ∧ TabN rs ∧ isDebts (eDb rs) = true ∧ x = textOf rs ∧ bIx (Txt.split x "\n") = none ∧ (j = 0 → rs = rs0)) ∨
    (m__law_read [.str x] s = .ok (.tup [.non, .int (firstB (Txt.split x "\n"))]) s ∧ j ≠ 0) := by
  by_cases hj : j = 0
  · have hx := h0 hj
    subst hx
    refine .inl ⟨rs0, lread_text tb hd (ty2_tab tb).ty2, tb, hd, rfl, ?_, fun _ => rfl⟩
    rw [text_split tb]
    exact bIx_rows tb.ok
  · rcases lread_ok (s := s) h (by decide) with ⟨rs, e, h1, h2, h3, h4⟩ | e
    · exact .inl ⟨rs, e, h1, h2, h3, h4, fun z => absurd z hj⟩
    · exact .inr ⟨e, hj⟩
abbrev c1 : Env → M Bool := (mAndT (mTest (mOp fIs (mPeek 6) (mCon .non))) (mTest (mOp fNe (mPeek 7) (mIx (mOp fAdd (mPeek 9) (mLst (mCons (mOp fAdd (mBlt fLen (mCons (mPeek 8) mNil)) (mCon (.int 1))) mNil))) (mCon (.int 0))))))
abbrev c2 : Env → M Bool := (mAndT (mTest (mOp fNotIs (mPeek 6) (mCon .non))) (mOrT (mTest (mOp fNe (mPeek 9) (mLst mNil))) (mNotT (mTest (mCall 1 m_is_debts (mCons (mVar 6) mNil))))))
abbrev c3 : Env → M Bool := (mAndT (mTest (mOp fNotIs (mPeek 6) (mCon .non))) (mTest (mOp fNe (mCall 1 m__law_text (mCons (mVar 6) mNil)) (mPeek 4))))
abbrev c4 : Env → M Bool := (mAndT (mTest (mOp fEq (mPeek 5) (mCon (.int 0)))) (mTest (mOp fNe (mPeek 6) (mPeek 3))))
abbrev no : MS := mRet (mCon (.bl false))
abbrev turnB : MS := (mSeq (mUnp (.tp [(.nm 6), (.nm 7)]) (mCall 1 m__law_read (mCons (mVar 4) mNil)))
  (mSeq (mPar [8, 9] (mRcons (mSd (mStr2 fSplit (mPeek 4) (mCon (.str "\n")))) (mRcons (mSd (mLst mNil)) mRnil)))
  (mSeq (mFor (mRng fEnum (mCons (mVar 8) mNil)) (.tp [(.nm 10), (.nm 11)]) badB)
  (mSeq (mIf c1 no mNext)
  (mSeq (mIf c2 no mNext)
  (mSeq (mIf c3 no mNext)
  (mSeq (mIf c4 no mNext)
  (mAsg 4 (mSd (mSl (mCall 2 m__law_spoilt (mCons (mVar 2) (mCons (mVar 4) mNil))) mNoPart (mPart (mCon (.int 1600))))))))))))) 
/-- the four looks: none of them fails -/
theorem looks_ok {x0 x1 x2 y10 y11 x12 : SV} {x : Str} {j : Nat} {rs0 : List (List Int)} {f ln : D} {s : Store} (h : Tx 1700 x) (tb : TabN rs0)
    (hc : (∃ rs, f = eDb rs ∧ ln = .non ∧ TabN rs ∧ isDebts (eDb rs) = true ∧ x = textOf rs ∧ bIx (Txt.split x "\n") = none ∧ (j = 0 → rs = rs0)) ∨ (f = .non ∧ ln = .int (firstB (Txt.split x "\n")) ∧ j ≠ 0)) :
    let Γ : Env := [x0, x1, x2, .dat (eDb rs0), .dat (.str x), .dat (.int (j : Int)), .dat f, .dat ln, .dat (.lst ((Txt.split x "\n").map D.str)), .dat (.lst (badD 0 (Txt.split x "\n"))), y10, y11, x12]
    c1 Γ s = .ok false s ∧ c2 Γ s = .ok false s ∧ c3 Γ s = .ok false s ∧ c4 Γ s = .ok false s := by
  intro Γ
  obtain ⟨pt, _⟩ := split_pt h nl_len
  have hnum : (Txt.split x "\n").length ≤ 1701 := pt.num
  have hbl := badD_len (Txt.split x "\n") 0
  have t4 : mTest (mOp fEq (mPeek 5) (mCon (.int 0))) Γ s = .ok ((j : Int) == 0) s := test_b (by
    show R.opt (fEq (.int (j : Int)) (.int 0)) s = _
    rw [fEq_ii]; rfl)
  rcases hc with ⟨rs, rfl, rfl, tr, hd, hx, hb, h0⟩ | ⟨rfl, rfl, h0⟩
  · have ti : mTest (mOp fIs (mPeek 6) (mCon .non)) Γ s = .ok false s := rfl
    have tn : mTest (mOp fNotIs (mPeek 6) (mCon .non)) Γ s = .ok true s := rfl
    refine ⟨andT_b (q := false) ti (fun z => nomatch z), ?_, ?_, ?_⟩
    · refine andT_b (p := true) (q := false) tn fun _ => orT_b (p := false) (q := false) (test_b ?_) fun _ => notT_b (p := true) (test_b ?_)
      · show R.opt (fNe (.lst (badD 0 (Txt.split x "\n"))) (.lst [])) s = _
        rw [badD_none _ 0 hb]
        rfl
      · show m_is_debts [eDb rs] s = _
        rw [isdebts_ok (ty2_tab tr).ty2, hd]
    · refine andT_b (p := true) (q := false) tn fun _ => test_b ?_
      have ft : D.fine 60 (.str (textOf rs)) = true := by
        simp only [D.fine]
        exact fine_of (text_chars tr).2
      show (m__law_text [eDb rs] s).bind _ = _
      rw [ltext_ok tr]
      show R.opt (fNe (.str (textOf rs)) (.str x)) s = _
      rw [hx, ne_self ft (by simp [D.eqv])]
      rfl
    · have : c4 Γ s = .ok (((j : Int) == 0) && false) s := andT_b t4 fun hj => test_b (by
        have hj : j = 0 := by simpa using hj
        have := h0 hj
        subst this
        show R.opt (fNe (eDb rs) (eDb rs)) s = _
        rw [ne_self (Gd.fine (ty2_tab tr) (by decide)) (eDb_self rs)]
        rfl)
      rw [this, Bool.and_false]
  · have ti : mTest (mOp fIs (mPeek 6) (mCon .non)) Γ s = .ok true s := rfl
    have tn : mTest (mOp fNotIs (mPeek 6) (mCon .non)) Γ s = .ok false s := rfl
    refine ⟨andT_b (p := true) (q := false) ti fun _ => test_b ?_, andT_b (q := false) tn (fun z => nomatch z), andT_b (q := false) tn (fun z => nomatch z), ?_⟩
    · have a : mOp fAdd (mPeek 9) (mLst (mCons (mOp fAdd (mBlt fLen (mCons (mPeek 8) mNil)) (mCon (.int 1))) mNil)) Γ s = .ok (.lst (badD 0 (Txt.split x "\n") ++ [.int (((Txt.split x "\n").length : Int) + 1)])) s := by
        show R.opt (fAdd (.lst (badD 0 (Txt.split x "\n"))) (.lst [.int ((((Txt.split x "\n").map D.str).length : Int) + 1)])) s = _
        rw [List.length_map, add_ll (by simp; omega)]
        rfl
      have b : mIx (mOp fAdd (mPeek 9) (mLst (mCons (mOp fAdd (mBlt fLen (mCons (mPeek 8) mNil)) (mCon (.int 1))) mNil))) (mCon (.int 0)) Γ s = .ok (.int (firstB (Txt.split x "\n"))) s := by
        rw [mIx_run, a]
        show R.opt (atI (badD 0 (Txt.split x "\n") ++ [.int (((Txt.split x "\n").length : Int) + 1)]) 0) s = _
        have q := badD_first (Txt.split x "\n") 0 (((Txt.split x "\n").length : Int) + 1)
        have e : (match bIx (Txt.split x "\n") with | some j => ((0 : Nat) : Int) + (j : Int) + 1 | none => ((Txt.split x "\n").length : Int) + 1) = firstB (Txt.split x "\n") := by
          unfold firstB
          cases bIx (Txt.split x "\n") with
          | none => rfl
          | some j => show ((0 : Nat) : Int) + (j : Int) + 1 = (j : Int) + 1; omega
        rw [e] at q
        have : atI (badD 0 (Txt.split x "\n") ++ [.int (((Txt.split x "\n").length : Int) + 1)]) 0 = some (.int (firstB (Txt.split x "\n"))) := by
          have hl : 0 < (badD 0 (Txt.split x "\n") ++ [D.int (((Txt.split x "\n").length : Int) + 1)]).length := by simp
          rw [List.getElem?_eq_getElem hl] at q
          have := atI_nat (xs := badD 0 (Txt.split x "\n") ++ [D.int (((Txt.split x "\n").length : Int) + 1)]) (k := 0) hl
          rw [q] at this
          exact this
        rw [this]
        rfl
      rw [mOp_run]
      show (R.ok (D.int (firstB (Txt.split x "\n"))) s).bind _ = _
      rw [R.bind_ok, b, R.bind_ok, fNe_ii]
      simp
    · have : c4 Γ s = .ok (((j : Int) == 0) && false) s := andT_b t4 fun hj => absurd (by simpa using hj) h0
      rw [this, Bool.and_false]
end PD
set_option maxRecDepth 100000
set_option maxHeartbeats 4000000
namespace PD
open PySem PySem.Spec PyProof.Rows L2
theorem turn_ok {x0 x1 x6 x7 x8 x9 x10 x11 x12 : SV} {x : Str} {i j : Nat} {rs0 : List (List Int)} {s : Store} (h : Tx 1700 x) (hs : Src s i) (h0 : j = 0 → x = textOf rs0) (tb : TabN rs0) (hd : isDebts (eDb rs0) = true) :
    ∃ (y : Str) (y6 y7 y8 y9 y10 y11 : SV) (s' : Store), turnB [x0, x1, .dat (.cel i), .dat (eDb rs0), .dat (.str x), .dat (.int (j : Int)), x6, x7, x8, x9, x10, x11, x12] s = .ok (.nx [x0, x1, .dat (.cel i), .dat (eDb rs0), .dat (.str y), .dat (.int (j : Int)), y6, y7, y8, y9, y10, y11, x12]) s' ∧ Tx 1700 y ∧ Src s' i := by
  obtain ⟨f, ln, er, hc⟩ : ∃ f ln, m__law_read [.str x] s = .ok (.tup [f, ln]) s ∧ ((∃ rs, f = eDb rs ∧ ln = .non ∧ TabN rs ∧ isDebts (eDb rs) = true ∧ x = textOf rs ∧ bIx (Txt.split x "\n") = none ∧ (j = 0 → rs = rs0)) ∨ (f = .non ∧ ln = .int (firstB (Txt.split x "\n")) ∧ j ≠ 0)) := by
    rcases read_turn (s := s) h h0 tb hd with ⟨rs, e, h1, h2, h3, h4, h5⟩ | ⟨e, hj⟩
    · exact ⟨_, _, e, .inl ⟨rs, rfl, rfl, h1, h2, h3, h4, h5⟩⟩
    · exact ⟨_, _, e, .inr ⟨rfl, rfl, hj⟩⟩
  obtain ⟨pt, _⟩ := split_pt h nl_len
  have hnum : (Txt.split x "\n").length ≤ 1701 := pt.num
  have sp : fSplit x (.str "\n") = some (.lst ((Txt.split x "\n").map D.str)) := fSplit_ok h (by decide) (by decide +kernel)
  obtain ⟨y10, y11, lp⟩ := bad_loop (x0 := x0) (x1 := x1) (x2 := .dat (.cel i)) (x3 := .dat (eDb rs0)) (x4 := .dat (.str x)) (x5 := .dat (.int (j : Int))) (x6 := .dat f) (x7 := .dat ln) (x8 := .dat (.lst ((Txt.split x "\n").map D.str))) (x12 := x12) (n := 1700) (s := s) (by decide) (Txt.split x "\n") 0 [] x10 x11 (lines_tx h) (by simp; omega)
  rw [List.nil_append] at lp
  obtain ⟨l1, l2, l3, l4⟩ := looks_ok (x0 := x0) (x1 := x1) (x2 := .dat (.cel i)) (y10 := y10) (y11 := y11) (x12 := x12) (s := s) h tb hc
  obtain ⟨z, s', es, tz, hs'⟩ := spoil_ok h hs
  obtain ⟨k1, t1⟩ := cut_tx tz (by decide) none (some 1600)
  have t2 : Tx 1700 (cutS z none (some 1600)) := ⟨t1.lo, by
    show (cutD z.cps.toList none (some ((1600 : Nat) : Int))).length ≤ 1700
    rw [cut_toN, List.length_take]
    omega⟩
  refine ⟨cutS z none (some 1600), .dat f, .dat ln, .dat (.lst ((Txt.split x "\n").map D.str)), .dat (.lst (badD 0 (Txt.split x "\n"))), y10, y11, s', ?_, t2, hs'⟩
  have g1 : mUnp (.tp [(.nm 6), (.nm 7)]) (mCall 1 m__law_read (mCons (mVar 4) mNil)) [x0, x1, .dat (.cel i), .dat (eDb rs0), .dat (.str x), .dat (.int (j : Int)), x6, x7, x8, x9, x10, x11, x12] s = .ok (.nx [x0, x1, .dat (.cel i), .dat (eDb rs0), .dat (.str x), .dat (.int (j : Int)), .dat f, .dat ln, x8, x9, x10, x11, x12]) s := by
    have q : mCall 1 m__law_read (mCons (mVar 4) mNil) [x0, x1, .dat (.cel i), .dat (eDb rs0), .dat (.str x), .dat (.int (j : Int)), x6, x7, x8, x9, x10, x11, x12] s = .ok (.tup [f, ln]) s := er
    rw [mUnp_run, q]
    rfl
  have g2 : mPar [8, 9] (mRcons (mSd (mStr2 fSplit (mPeek 4) (mCon (.str "\n")))) (mRcons (mSd (mLst mNil)) mRnil)) [x0, x1, .dat (.cel i), .dat (eDb rs0), .dat (.str x), .dat (.int (j : Int)), .dat f, .dat ln, x8, x9, x10, x11, x12] s = .ok (.nx [x0, x1, .dat (.cel i), .dat (eDb rs0), .dat (.str x), .dat (.int (j : Int)), .dat f, .dat ln, .dat (.lst ((Txt.split x "\n").map D.str)), .dat (.lst []), x10, x11, x12]) s := by
    have q : mStr2 fSplit (mPeek 4) (mCon (.str "\n")) [x0, x1, .dat (.cel i), .dat (eDb rs0), .dat (.str x), .dat (.int (j : Int)), .dat f, .dat ln, x8, x9, x10, x11, x12] s = .ok (.lst ((Txt.split x "\n").map D.str)) s := by
      show R.opt (fSplit x (.str "\n")) s = _
      rw [sp]; rfl
    rw [mPar_run, mRcons_run, mSd_run, q]
    rfl
  have g3 : mFor (mRng fEnum (mCons (mVar 8) mNil)) (.tp [(.nm 10), (.nm 11)]) badB [x0, x1, .dat (.cel i), .dat (eDb rs0), .dat (.str x), .dat (.int (j : Int)), .dat f, .dat ln, .dat (.lst ((Txt.split x "\n").map D.str)), .dat (.lst []), x10, x11, x12] s = .ok (.nx [x0, x1, .dat (.cel i), .dat (eDb rs0), .dat (.str x), .dat (.int (j : Int)), .dat f, .dat ln, .dat (.lst ((Txt.split x "\n").map D.str)), .dat (.lst (badD 0 (Txt.split x "\n"))), y10, y11, x12]) s := lp
  have g4 : mSl (mCall 2 m__law_spoilt (mCons (mVar 2) (mCons (mVar 4) mNil))) mNoPart (mPart (mCon (.int 1600))) [x0, x1, .dat (.cel i), .dat (eDb rs0), .dat (.str x), .dat (.int (j : Int)), .dat f, .dat ln, .dat (.lst ((Txt.split x "\n").map D.str)), .dat (.lst (badD 0 (Txt.split x "\n"))), y10, y11, x12] s = .ok (.str (cutS z none (some 1600))) s' := by
    have q : mCall 2 m__law_spoilt (mCons (mVar 2) (mCons (mVar 4) mNil)) [x0, x1, .dat (.cel i), .dat (eDb rs0), .dat (.str x), .dat (.int (j : Int)), .dat f, .dat ln, .dat (.lst ((Txt.split x "\n").map D.str)), .dat (.lst (badD 0 (Txt.split x "\n"))), y10, y11, x12] s = .ok (.str z) s' := es
    rw [mSl_run, q]
    show R.opt (fSl (.str z) none (some 1600)) s' = _
    rw [k1]; rfl
  rw [turnB, mSeq_run, g1, R.bind_ok]
  show mSeq _ _ _ s = _
  rw [mSeq_run, g2, R.bind_ok]
  show mSeq _ _ _ s = _
  rw [mSeq_run, g3, R.bind_ok]
  show mSeq _ _ _ s = _
  rw [mSeq_run, mIf_run, l1]
  show mSeq _ _ _ s = _
  rw [mSeq_run, mIf_run, l2]
  show mSeq _ _ _ s = _
  rw [mSeq_run, mIf_run, l3]
  show mSeq _ _ _ s = _
  rw [mSeq_run, mIf_run, l4]
  show mAsg _ _ _ s = _
  rw [mAsg_run, mSd_run, g4]
  rfl
abbrev restB : MS := (mIf (mTest (mOp fNe (mCall 1 m__law_read (mCons (mCall 2 m__law_of (mCons (mVar 2) (mCons (mLst (mCons (mCon .non) (mCons (mCon (.int 5)) (mCons (mCon (.bl true)) (mCons (mLst mNil) (mCons (mTup (mCons (mCon (.str "0 1")) mNil)) (mCons (mVar 3) mNil))))))) mNil))) mNil)) (mTup (mCons (mCon .non) (mCons (mCon (.int 0)) mNil))))) (mRet (mCon (.bl false))) mNext)
theorem rest_ok {x0 x1 x4 x5 x6 x7 x8 x9 x10 x11 x12 : SV} {i : Nat} {rs0 : List (List Int)} {s : Store} (hs : Src s i) : ∃ s', restB [x0, x1, .dat (.cel i), .dat (eDb rs0), x4, x5, x6, x7, x8, x9, x10, x11, x12] s = .ok (.nx [x0, x1, .dat (.cel i), .dat (eDb rs0), x4, x5, x6, x7, x8, x9, x10, x11, x12]) s' := by
  let items : List D := [.non, .int 5, .bl true, .lst [], .tup [.str "0 1"], eDb rs0]
  obtain ⟨d, s', hd, hs', e⟩ := of_ok (items := items) hs (show 0 < 6 by decide) (show 6 ≤ 1000 by decide)
  have hn : fIsi "str" d = some (.bl false) := by
    simp only [items, List.mem_cons, List.not_mem_nil, or_false] at hd
    rcases hd with rfl | rfl | rfl | rfl | rfl | rfl <;> rfl
  have r := lread_no (s := s') hn
  refine ⟨s', ?_⟩
  have q1 : mCall 2 m__law_of (mCons (mVar 2) (mCons (mLst (mCons (mCon .non) (mCons (mCon (.int 5)) (mCons (mCon (.bl true)) (mCons (mLst mNil) (mCons (mTup (mCons (mCon (.str "0 1")) mNil)) (mCons (mVar 3) mNil))))))) mNil)) [x0, x1, .dat (.cel i), .dat (eDb rs0), x4, x5, x6, x7, x8, x9, x10, x11, x12] s = .ok d s' := e
  have q2 : mCall 1 m__law_read (mCons (mCall 2 m__law_of (mCons (mVar 2) (mCons (mLst (mCons (mCon .non) (mCons (mCon (.int 5)) (mCons (mCon (.bl true)) (mCons (mLst mNil) (mCons (mTup (mCons (mCon (.str "0 1")) mNil)) (mCons (mVar 3) mNil))))))) mNil))) mNil) [x0, x1, .dat (.cel i), .dat (eDb rs0), x4, x5, x6, x7, x8, x9, x10, x11, x12] s = .ok (.tup [.non, .int 0]) s' := by
    rw [mCall_run, mCons_run, q1]
    exact r
  rw [restB, mIf_run, mTest_run, mOp_run, q2, R.bind_ok]
  rfl
abbrev cellM : MS := mSeq (mCell 2 (mCallO 2 m__law_source (mCons (mVar 0) (mCons (mVar 1) mNil)))) (mSeq (mAsg 3 (mSd (mCall 2 m__law_debts (mCons (mVar 2) (mCons (mCon (.int 4)) mNil))))) (mSeq (mAsg 4 (mSd (mCall 1 m__law_text (mCons (mVar 3) mNil)))) (mSeq (mFor (mRng fRng1 (mCons (mCon (.int 6)) mNil)) (.nm 5) turnB) restB)))
theorem cell_ok {ns : List Int} {k : Nat} {x2 x3 x4 x5 x6 x7 x8 x9 x10 x11 x12 : SV} {s : Store} (hk : k ≤ 1000) : ∃ (y2 y3 y4 y5 y6 y7 y8 y9 y10 y11 y12 : SV) (s' : Store), cellM [.dat (.scr ns), .dat (.int k), x2, x3, x4, x5, x6, x7, x8, x9, x10, x11, x12] s = .ok (.nx [.dat (.scr ns), .dat (.int k), y2, y3, y4, y5, y6, y7, y8, y9, y10, y11, y12]) s' := by
  obtain ⟨c, z, c0, z0, z1, e⟩ := source_ok ns k hk s
  have hs := Src.app (s := s) c0 z0 z1
  obtain ⟨n, rs, s1, e1, hs1, n0, n1, da⟩ := debts_draw (most := 4) hs (by omega)
  have e1 : m__law_debts [.cel s.length, .int 4] (s ++ [.lst [.int c, .int z]]) = .ok (eDb rs) s1 := e1
  obtain ⟨dg, dl, dG⟩ := debts_are da ⟨n0, n1⟩
  have tb := tab_of da ⟨n0, n1⟩
  have tc := text_chars tb
  have tx : Tx 1700 (textOf rs) := ⟨tc.2, Nat.le_trans tc.1 (by decide)⟩
  obtain ⟨Γ', s', ⟨x, y5, y6, y7, y8, y9, y10, y11, y12, rfl, _, hs', _⟩, h2⟩ := for_ix (.nm 5) turnB (fun j Γ s' => ∃ (x : Str) (y5 y6 y7 y8 y9 y10 y11 y12 : SV), Γ = [.dat (.scr ns), .dat (.int k), .dat (.cel s.length), .dat (eDb rs), .dat (.str x), y5, y6, y7, y8, y9, y10, y11, y12] ∧ Tx 1700 x ∧ Src s' s.length ∧ (j = 0 → x = textOf rs)) 6 0
    [.dat (.scr ns), .dat (.int k), .dat (.cel s.length), .dat (eDb rs), .dat (.str (textOf rs)), x5, x6, x7, x8, x9, x10, x11, x12] s1 ⟨textOf rs, _, _, _, _, _, _, _, _, rfl, tx, hs1, fun _ => rfl⟩ fun j hj0 hj1 Γ s' hI => by
    obtain ⟨x, y5, y6, y7, y8, y9, y10, y11, y12, rfl, hx, hs', h0⟩ := hI
    obtain ⟨y, z6, z7, z8, z9, z10, z11, s'', e, hy, hs''⟩ := turn_ok (x0 := .dat (.scr ns)) (x1 := .dat (.int k)) (x6 := y6) (x7 := y7) (x8 := y8) (x9 := y9) (x10 := y10) (x11 := y11) (x12 := y12) (j := j) hx hs' h0 tb dg
    exact ⟨_, _, _, by rw [bindT_nm]; rfl, e, y, _, _, _, _, _, _, _, _, rfl, hy, hs'', fun z => by omega⟩
  obtain ⟨s3, e3⟩ := rest_ok (x0 := .dat (.scr ns)) (x1 := .dat (.int k)) (x4 := .dat (.str x)) (x5 := y5) (x6 := y6) (x7 := y7) (x8 := y8) (x9 := y9) (x10 := y10) (x11 := y11) (x12 := y12) (rs0 := rs) hs'
  refine ⟨.dat (.cel s.length), .dat (eDb rs), .dat (.str x), y5, y6, y7, y8, y9, y10, y11, y12, s3, ?_⟩
  have g1 : mCell 2 (mCallO 2 m__law_source (mCons (mVar 0) (mCons (mVar 1) mNil))) [.dat (.scr ns), .dat (.int k), x2, x3, x4, x5, x6, x7, x8, x9, x10, x11, x12] s = .ok (.nx [.dat (.scr ns), .dat (.int k), .dat (.cel s.length), x3, x4, x5, x6, x7, x8, x9, x10, x11, x12]) (s ++ [.lst [.int c, .int z]]) := by
    have q : mCallO 2 m__law_source (mCons (mVar 0) (mCons (mVar 1) mNil)) [.dat (.scr ns), .dat (.int k), x2, x3, x4, x5, x6, x7, x8, x9, x10, x11, x12] s = .ok [.int c, .int z] s := e
    rw [mCell_run, q]
    rfl
  have g2 : mAsg 3 (mSd (mCall 2 m__law_debts (mCons (mVar 2) (mCons (mCon (.int 4)) mNil)))) [.dat (.scr ns), .dat (.int k), .dat (.cel s.length), x3, x4, x5, x6, x7, x8, x9, x10, x11, x12] (s ++ [.lst [.int c, .int z]]) = .ok (.nx [.dat (.scr ns), .dat (.int k), .dat (.cel s.length), .dat (eDb rs), x4, x5, x6, x7, x8, x9, x10, x11, x12]) s1 := by
    have q : mCall 2 m__law_debts (mCons (mVar 2) (mCons (mCon (.int 4)) mNil)) [.dat (.scr ns), .dat (.int k), .dat (.cel s.length), x3, x4, x5, x6, x7, x8, x9, x10, x11, x12] (s ++ [.lst [.int c, .int z]]) = .ok (eDb rs) s1 := e1
    rw [mAsg_run, mSd_run, q]
    rfl
  have g3 : mAsg 4 (mSd (mCall 1 m__law_text (mCons (mVar 3) mNil))) [.dat (.scr ns), .dat (.int k), .dat (.cel s.length), .dat (eDb rs), x4, x5, x6, x7, x8, x9, x10, x11, x12] s1 = .ok (.nx [.dat (.scr ns), .dat (.int k), .dat (.cel s.length), .dat (eDb rs), .dat (.str (textOf rs)), x5, x6, x7, x8, x9, x10, x11, x12]) s1 := by
    have q : mCall 1 m__law_text (mCons (mVar 3) mNil) [.dat (.scr ns), .dat (.int k), .dat (.cel s.length), .dat (eDb rs), x4, x5, x6, x7, x8, x9, x10, x11, x12] s1 = .ok (.str (textOf rs)) s1 := ltext_ok tb
    rw [mAsg_run, mSd_run, q]
    rfl
  have g4 : mFor (mRng fRng1 (mCons (mCon (.int 6)) mNil)) (.nm 5) turnB [.dat (.scr ns), .dat (.int k), .dat (.cel s.length), .dat (eDb rs), .dat (.str (textOf rs)), x5, x6, x7, x8, x9, x10, x11, x12] s1 = .ok (.nx [.dat (.scr ns), .dat (.int k), .dat (.cel s.length), .dat (eDb rs), .dat (.str x), y5, y6, y7, y8, y9, y10, y11, y12]) s' := by
    have q : fRng1 [.int 6] = some ((List.range' 0 6).map fun (j : Nat) => D.int (j : Int)) := fRng1_ix (n := 6) (by decide)
    rw [mFor_run, mRng_run]
    show ((R.opt (fRng1 [.int 6]) s1).bind _) = _
    rw [q, R.opt_some, R.bind_ok]
    exact h2
  rw [cellM, mSeq_run, g1, R.bind_ok]
  show mSeq _ _ _ _ = _
  rw [mSeq_run, g2, R.bind_ok]
  show mSeq _ _ _ _ = _
  rw [mSeq_run, g3, R.bind_ok]
  show mSeq _ _ _ _ = _
  rw [mSeq_run, g4, R.bind_ok]
  exact e3
abbrev tailB : MS := (mSeq (mAsg 12 (mSd (mLst (mCons (mCon (.str "")) (mCons (mCon (.str "0 1")) (mCons (mCon (.str "0 1\n0 0")) (mCons (mCon (.str "0 1\n0 1")) (mCons (mCon (.str "0 1\n0")) (mCons (mCon (.str "0 13\n0 0")) (mCons (mCon (.str "0 1\n0 0\n")) (mCons (mCon (.str "0 1 0\n0 0 0")) (mCons (mCon (.str "00 1\n0 0")) mNil))))))))))))
  (mRet (mOp fEq (mFrz (mLcL (mItems (mVar 12)) (.nm 4) mYes (mIx (mCall 1 m__law_read (mCons (mVar 4) mNil)) (mCon (.int 1))) [4])) (mLst (mCons (mCon (.int 1)) (mCons (mCon (.int 2)) (mCons (mCon .non) (mCons (mCon (.int 3)) (mCons (mCon (.int 2)) (mCons (mCon (.int 1)) (mCons (mCon (.int 3)) (mCons (mCon (.int 3)) (mCons (mCon (.int 1)) mNil)))))))))))))
theorem tail_ok {x0 x1 x2 x3 x4 x5 x6 x7 x8 x9 x10 x11 x12 : SV} {s : Store} : tailB [x0, x1, x2, x3, x4, x5, x6, x7, x8, x9, x10, x11, x12] s = .ok (.rt (.bl true)) s := by kernel_rfl
theorem law_ok : ∀ ns : List Int, ns.length ≤ 63 → ∃ s, m_law [.scr ns] [] = .ok (.bl true) s := fun ns h => by
  obtain ⟨Γ', s', ⟨x1, x2, x3, x4, x5, x6, x7, x8, x9, x10, x11, x12, rfl⟩, h2⟩ := for_inv (.nm 1) cellM (fun Γ _ => ∃ x1 x2 x3 x4 x5 x6 x7 x8 x9 x10 x11 x12, Γ = [.dat (.scr ns), x1, x2, x3, x4, x5, x6, x7, x8, x9, x10, x11, x12]) ((List.range (1 + min ns.length 10)).map fun (k : Nat) => D.int (k : Int)) [.dat (.scr ns), .nul, .nul, .nul, .nul, .nul, .nul, .nul, .nul, .nul, .nul, .nul, .nul] [] ⟨.nul, .nul, .nul, .nul, .nul, .nul, .nul, .nul, .nul, .nul, .nul, .nul, rfl⟩ fun d hd Γ s hI => by
    obtain ⟨x1, x2, x3, x4, x5, x6, x7, x8, x9, x10, x11, x12, rfl⟩ := hI
    obtain ⟨k, hk, rfl⟩ := List.mem_map.mp hd
    have hk := List.mem_range.mp hk
    obtain ⟨y2, y3, y4, y5, y6, y7, y8, y9, y10, y11, y12, s', e⟩ := cell_ok (ns := ns) (k := k) (x2 := x2) (x3 := x3) (x4 := x4) (x5 := x5) (x6 := x6) (x7 := x7) (x8 := x8) (x9 := x9) (x10 := x10) (x11 := x11) (x12 := x12) (s := s) (by omega)
    exact ⟨[.dat (.scr ns), .dat (.int k), x2, x3, x4, x5, x6, x7, x8, x9, x10, x11, x12], _, s', rfl, e, _, _, _, _, _, _, _, _, _, _, _, _, rfl⟩
  refine ⟨s', ?_⟩
  have e1 : fLen [.scr ns] = some (.int ns.length) := rfl
  have e2 : fMin [.int ns.length, .int 10] = some (.int ((min ns.length 10 : Nat) : Int)) := by
    show some (D.int (if (10 : Int) < ns.length then 10 else ns.length)) = _
    congr 2
    split <;> omega
  have e3 : fRng1 [.int (1 + ((min ns.length 10 : Nat) : Int))] = some ((List.range (1 + min ns.length 10)).map fun (k : Nat) => D.int (k : Int)) := by
    rw [show (1 + ((min ns.length 10 : Nat) : Int)) = ((1 + min ns.length 10 : Nat) : Int) by omega]
    exact fRng1_nat (by omega)
  show endD (mSeq (mFor (mRng fRng1 (mCons (mOp fAdd (mCon (.int 1)) (mBlt fMin (mCons (mBlt fLen (mCons (mPeek 0) mNil)) (mCons (mCon (.int 10)) mNil)))) mNil)) (.nm 1) cellM) tailB [.dat (.scr ns), .nul, .nul, .nul, .nul, .nul, .nul, .nul, .nul, .nul, .nul, .nul, .nul] []) = _
  rw [mSeq_run, mFor_run]
  simp only [mRng_run, mCons_run, mOp_run, mCon_run, mBlt_run, mPeek_run, mNil_run, R.bind_ok, List.getElem?_cons_zero, e1, e2, R.opt_some, fAdd_ii, e3, h2]
  show endD (tailB _ s') = _
  rw [tail_ok]
  rfl
end PD
namespace PD
end PD
set_option maxRecDepth 100000
set_option maxHeartbeats 0
namespace PD
open PySem PySem.Spec PyProof.Rows L2
section
variable {P : Program} {w : World} {K : PySem.W.Frag} {mg : Str → Option Value} {base : Heap}
theorem T0_ok {h : Heap} (X : K.In h) (G : h.Ns mainGlobals mg) (c : SaysL hfa hfn (exS mf hfs hex) K) (e : hex K = true) (ee : EntOk P w K mg base 2 (.exc "InvalidText" "line")) : TOk P w K mg base 2 T_0 := by
  have g := He.glo_ok X G (c.mem (List.mem_of_getElem? (i := 35) (a := He.Fa.glo "NUMBERS") rfl))
  obtain ⟨e1, e⟩ := He.ba e
  obtain ⟨e2, e⟩ := He.ba e
  obtain ⟨e3, e⟩ := He.ba e
  obtain ⟨o, h1, h2, h3⟩ := tupN_ok e2
  exact .cons ee (.cons ⟨.ref (He.ga K "NUMBERS"), _, g, rfl, fun W => .tup (vs := w_NUMBERS.map V.str) (tupD_ok e1 W.F) (repL_strs _)⟩ (.cons ⟨_, o, g, h1, h2, h3, fun H => He.tupB_ok e3 H⟩ fun e he => nomatch he))
def P_is_number : List Str := ["value", "least", "most"]
theorem s_is_number : scB N_is_number P_is_number (defScope (top 4)) = true := by kernel_rfl
theorem a_is_number : BindF "is_number" (top 4) P_is_number := fun _ _ _ _ _ _ us hl => match us, hl with | [_, _, _], _ => by kernel_rfl
theorem c_0 {k : Nat} (ok : TOk P w K mg base k T_0) (F : FunA K "is_number" "is_number" (top 4)) (g : mg "is_number" = some (.ref (He.ga K "is_number"))) (hf : ∀ x ∈ BB, mg x = none) : TOk P w K mg base (k + 1) T_1 := add_d ok F g hf s_is_number rfl rfl a_is_number (t_is_number k)
def P_is_tuple : List Str := ["value", "least", "most"]
theorem s_is_tuple : scB N_is_tuple P_is_tuple (defScope (top 5)) = true := by kernel_rfl
theorem a_is_tuple : BindF "is_tuple" (top 5) P_is_tuple := fun _ _ _ _ _ _ us hl => match us, hl with | [_, _, _], _ => by kernel_rfl
theorem c_1 {k : Nat} (ok : TOk P w K mg base k T_1) (F : FunA K "is_tuple" "is_tuple" (top 5)) (g : mg "is_tuple" = some (.ref (He.ga K "is_tuple"))) (hf : ∀ x ∈ BB, mg x = none) : TOk P w K mg base (k + 1) T_2 := add_d ok F g hf s_is_tuple rfl rfl a_is_tuple (t_is_tuple k)
def P_is_row : List Str := ["value", "many"]
theorem s_is_row : scB N_is_row P_is_row (defScope (top 6)) = true := by kernel_rfl
theorem a_is_row : BindF "is_row" (top 6) P_is_row := fun _ _ _ _ _ _ us hl => match us, hl with | [_, _], _ => by kernel_rfl
theorem c_2 {k : Nat} (ok : TOk P w K mg base k T_2) (F : FunA K "is_row" "is_row" (top 6)) (g : mg "is_row" = some (.ref (He.ga K "is_row"))) (hf : ∀ x ∈ BB, mg x = none) : TOk P w K mg base (k + 1) T_3 := add_d ok F g hf s_is_row rfl rfl a_is_row (t_is_row k)
def P_are_good_debts : List Str := ["value"]
theorem s_are_good_debts : scB N_are_good_debts P_are_good_debts (defScope (top 7)) = true := by kernel_rfl
theorem a_are_good_debts : BindF "are_good_debts" (top 7) P_are_good_debts := fun _ _ _ _ _ _ us hl => match us, hl with | [_], _ => by kernel_rfl
theorem c_3 {k : Nat} (ok : TOk P w K mg base k T_3) (F : FunA K "are_good_debts" "are_good_debts" (top 7)) (g : mg "are_good_debts" = some (.ref (He.ga K "are_good_debts"))) (hf : ∀ x ∈ BB, mg x = none) : TOk P w K mg base (k + 1) T_4 := add_d ok F g hf s_are_good_debts rfl rfl a_are_good_debts (t_are_good_debts k)
def P_is_debts : List Str := ["value"]
theorem s_is_debts : scB N_is_debts P_is_debts (defScope (top 8)) = true := by kernel_rfl
theorem a_is_debts : BindF "is_debts" (top 8) P_is_debts := fun _ _ _ _ _ _ us hl => match us, hl with | [_], _ => by kernel_rfl
theorem c_4 {k : Nat} (ok : TOk P w K mg base k T_4) (F : FunA K "is_debts" "is_debts" (top 8)) (g : mg "is_debts" = some (.ref (He.ga K "is_debts"))) (hf : ∀ x ∈ BB, mg x = none) : TOk P w K mg base (k + 1) T_5 := add_d ok F g hf s_is_debts rfl rfl a_is_debts (t_is_debts k)
def P_row_in : List Str := ["line"]
theorem s_row_in : scB N_row_in P_row_in (defScope (top 11)) = true := by kernel_rfl
theorem a_row_in : BindF "row_in" (top 11) P_row_in := fun _ _ _ _ _ _ us hl => match us, hl with | [_], _ => by kernel_rfl
theorem c_5 {k : Nat} (ok : TOk P w K mg base k T_5) (F : FunA K "row_in" "row_in" (top 11)) (g : mg "row_in" = some (.ref (He.ga K "row_in"))) (hf : ∀ x ∈ BB, mg x = none) : TOk P w K mg base (k + 1) T_6 := add_d ok F g hf s_row_in rfl rfl a_row_in (t_row_in k)
def P_debts_in : List Str := ["value"]
theorem s_debts_in : scB N_debts_in P_debts_in (defScope (top 12)) = true := by kernel_rfl
theorem a_debts_in : BindF "debts_in" (top 12) P_debts_in := fun _ _ _ _ _ _ us hl => match us, hl with | [_], _ => by kernel_rfl
theorem c_6 {k : Nat} (ok : TOk P w K mg base k T_6) (F : FunA K "debts_in" "debts_in" (top 12)) (g : mg "debts_in" = some (.ref (He.ga K "debts_in"))) (hf : ∀ x ∈ BB, mg x = none) : TOk P w K mg base (k + 1) T_7 := add_d ok F g hf s_debts_in rfl rfl a_debts_in (t_debts_in k)
def P_read_debts : List Str := ["value"]
theorem s_read_debts : scB N_read_debts P_read_debts (defScope (top 13)) = true := by kernel_rfl
theorem a_read_debts : BindF "read_debts" (top 13) P_read_debts := fun _ _ _ _ _ _ us hl => match us, hl with | [_], _ => by kernel_rfl
theorem c_7 {k : Nat} (ok : TOk P w K mg base k T_7) (F : FunA K "read_debts" "read_debts" (top 13)) (g : mg "read_debts" = some (.ref (He.ga K "read_debts"))) (hf : ∀ x ∈ BB, mg x = none) : TOk P w K mg base (k + 1) T_8 := add_d ok F g hf s_read_debts rfl rfl a_read_debts (t_read_debts k)
def P__law_source : List Str := ["script", "k"]
theorem s__law_source : scB N__law_source P__law_source (defScope (top 15)) = true := by kernel_rfl
theorem a__law_source : BindF "_law_source" (top 15) P__law_source := fun _ _ _ _ _ _ us hl => match us, hl with | [_, _], _ => by kernel_rfl
theorem c_8 {k : Nat} (ok : TOk P w K mg base k T_8) (F : FunA K "_law_source" "_law_source" (top 15)) (g : mg "_law_source" = some (.ref (He.ga K "_law_source"))) (hf : ∀ x ∈ BB, mg x = none) : TOk P w K mg base (k + 1) T_9 := add_o ok F g hf s__law_source rfl rfl a__law_source (t__law_source k)
def P__law_draw : List Str := ["source", "many"]
theorem s__law_draw : scB N__law_draw P__law_draw (defScope (top 16)) = true := by kernel_rfl
theorem a__law_draw : BindF "_law_draw" (top 16) P__law_draw := fun _ _ _ _ _ _ us hl => match us, hl with | [_, _], _ => by kernel_rfl
theorem c_9 {k : Nat} (ok : TOk P w K mg base k T_9) (F : FunA K "_law_draw" "_law_draw" (top 16)) (g : mg "_law_draw" = some (.ref (He.ga K "_law_draw"))) (hf : ∀ x ∈ BB, mg x = none) : TOk P w K mg base (k + 1) T_10 := add_d ok F g hf s__law_draw rfl rfl a__law_draw (t__law_draw k)
def P__law_of : List Str := ["source", "items"]
theorem s__law_of : scB N__law_of P__law_of (defScope (top 17)) = true := by kernel_rfl
theorem a__law_of : BindF "_law_of" (top 17) P__law_of := fun _ _ _ _ _ _ us hl => match us, hl with | [_, _], _ => by kernel_rfl
theorem c_10 {k : Nat} (ok : TOk P w K mg base k T_10) (F : FunA K "_law_of" "_law_of" (top 17)) (g : mg "_law_of" = some (.ref (He.ga K "_law_of"))) (hf : ∀ x ∈ BB, mg x = none) : TOk P w K mg base (k + 1) T_11 := add_d ok F g hf s__law_of rfl rfl a__law_of (t__law_of k)
def P__law_debts : List Str := ["source", "most"]
theorem s__law_debts : scB N__law_debts P__law_debts (defScope (top 18)) = true := by kernel_rfl
theorem a__law_debts : BindF "_law_debts" (top 18) P__law_debts := fun _ _ _ _ _ _ us hl => match us, hl with | [_, _], _ => by kernel_rfl
theorem c_11 {k : Nat} (ok : TOk P w K mg base k T_11) (F : FunA K "_law_debts" "_law_debts" (top 18)) (g : mg "_law_debts" = some (.ref (He.ga K "_law_debts"))) (hf : ∀ x ∈ BB, mg x = none) : TOk P w K mg base (k + 1) T_12 := add_d ok F g hf s__law_debts rfl rfl a__law_debts (t__law_debts k)
def P__law_text : List Str := ["debts"]
theorem s__law_text : scB N__law_text P__law_text (defScope (top 19)) = true := by kernel_rfl
theorem a__law_text : BindF "_law_text" (top 19) P__law_text := fun _ _ _ _ _ _ us hl => match us, hl with | [_], _ => by kernel_rfl
theorem c_12 {k : Nat} (ok : TOk P w K mg base k T_12) (F : FunA K "_law_text" "_law_text" (top 19)) (g : mg "_law_text" = some (.ref (He.ga K "_law_text"))) (hf : ∀ x ∈ BB, mg x = none) : TOk P w K mg base (k + 1) T_13 := add_d ok F g hf s__law_text rfl rfl a__law_text (t__law_text k)
def P__law_read : List Str := ["text"]
theorem s__law_read : scB N__law_read P__law_read (defScope (top 20)) = true := by kernel_rfl
theorem a__law_read : BindF "_law_read" (top 20) P__law_read := fun _ _ _ _ _ _ us hl => match us, hl with | [_], _ => by kernel_rfl
theorem c_13 {k : Nat} (ok : TOk P w K mg base k T_13) (F : FunA K "_law_read" "_law_read" (top 20)) (g : mg "_law_read" = some (.ref (He.ga K "_law_read"))) (hf : ∀ x ∈ BB, mg x = none) (hC : mg "InvalidText" = some (.ref (He.ga K "InvalidText"))) (hO : mg "OweError" = some (.ref (He.ga K "OweError"))) (TC : TryC K (He.ga K "InvalidText") (He.ga K "OweError") "line") : TOk P w K mg base (k + 1) T_14 := add_try ok F g hf s__law_read a__law_read (t__law_read k) (v__law_read k) l__law_read hC hO (hf "isinstance" (by decide)) TC
def P__law_is_line : List Str := ["line"]
theorem s__law_is_line : scB N__law_is_line P__law_is_line (defScope (top 21)) = true := by kernel_rfl
theorem a__law_is_line : BindF "_law_is_line" (top 21) P__law_is_line := fun _ _ _ _ _ _ us hl => match us, hl with | [_], _ => by kernel_rfl
theorem c_14 {k : Nat} (ok : TOk P w K mg base k T_14) (F : FunA K "_law_is_line" "_law_is_line" (top 21)) (g : mg "_law_is_line" = some (.ref (He.ga K "_law_is_line"))) (hf : ∀ x ∈ BB, mg x = none) : TOk P w K mg base (k + 1) T_15 := add_d ok F g hf s__law_is_line rfl rfl a__law_is_line (t__law_is_line k)
def P__law_spoilt : List Str := ["source", "text"]
theorem s__law_spoilt : scB N__law_spoilt P__law_spoilt (defScope (top 22)) = true := by kernel_rfl
theorem a__law_spoilt : BindF "_law_spoilt" (top 22) P__law_spoilt := fun _ _ _ _ _ _ us hl => match us, hl with | [_, _], _ => by kernel_rfl
theorem c_15 {k : Nat} (ok : TOk P w K mg base k T_15) (F : FunA K "_law_spoilt" "_law_spoilt" (top 22)) (g : mg "_law_spoilt" = some (.ref (He.ga K "_law_spoilt"))) (hf : ∀ x ∈ BB, mg x = none) : TOk P w K mg base (k + 1) T_16 := add_d ok F g hf s__law_spoilt rfl rfl a__law_spoilt (t__law_spoilt k)
def P_law : List Str := ["script"]
theorem s_law : scB N_law P_law (defScope (top 23)) = true := by kernel_rfl
theorem a_law : BindF "law" (top 23) P_law := fun _ _ _ _ _ _ us hl => match us, hl with | [_], _ => by kernel_rfl
theorem c_16 {k : Nat} (ok : TOk P w K mg base k T_16) (F : FunA K "law" "law" (top 23)) (g : mg "law" = some (.ref (He.ga K "law"))) (hf : ∀ x ∈ BB, mg x = none) : TOk P w K mg base (k + 1) T_17 := add_d ok F g hf s_law rfl rfl a_law (t_law k)
end
theorem hfn_at (K : PySem.W.Frag) (c : SaysL hfa hfn (exS mf hfs hex) K) (i : Nat) (x y : Str) (j : Nat) (h : hfn[i]? = some ⟨(x, none), y, y, defArgs (top j), defBody (top j), defScope (top j), [], []⟩) : FunA K x y (top j) := c.def_ i h
theorem fa_at {x : He.Fa} (i : Nat) (h : hfa[i]? = some x) : x ∈ hfa := List.mem_of_getElem? h
theorem free_in (x : Str) (hx : x ∈ BB) : He.Fa.free x ∈ hfa := by
  have h : BB.all (fun x => hfa.any fun f => match f with | .free y => decide (y = x) | _ => false) = true := by kernel_rfl
  have h2 := List.any_eq_true.mp (List.all_eq_true.mp h x hx)
  obtain ⟨f, hf, e⟩ := h2
  cases f with
  | free y => have e : decide (y = x) = true := e; rw [← of_decide_eq_true e]; exact hf
  | _ => cases e
theorem facts {P : Program} {w : World} {K : PySem.W.Frag} {h : Heap} {mg : Str → Option Value} {f : Addr} (X : K.In h) (G : h.Ns mainGlobals mg) (hfa : mg ("law" : Str) = some (.ref f)) (cm : SaysS mf PD.hfa hfn hfs hex K) (hPf : (P.main.file : Str) = mf) (hPt : (P.main.scope.names.lookup ("super" : Str)).isSome = false) :
    ∃ fd : FuncData, (∀ (s : Shared) (v : Value), BindsTo s fd ⟨[v], []⟩ [("script", v)]) ∧ ∀ base : Heap, FnOk P w K mg base CX0 19 f fd ["script"] (Spec0 K 1 m_law) := by
  have c := cm.l
  have gl : ∀ x, He.Fa.glo x ∈ PD.hfa → mg x = some (.ref (He.ga K x)) := fun x hx => He.glo_ok X G (c.mem hx)
  have hf : ∀ x ∈ BB, mg x = none := fun x hx => He.free_ok X G (c.mem (free_in x hx))
  obtain ⟨fd, F⟩ := hfn_at K c 16 "law" "law" 23 rfl
  have e := hfa.symm.trans (gl "law" (fa_at 16 rfl))
  cases e
  refine ⟨fd, fun s v => F.bindsA (ps := ["script"]) a_law s [v] rfl, fun base => ?_⟩
  obtain ⟨_, x⟩ := He.ba cm.ext
  obtain ⟨_, x⟩ := He.ba x
  obtain ⟨_, xt⟩ := He.ba x
  have gC := gl "InvalidText" (fa_at 36 rfl)
  have gO := gl "OweError" (fa_at 37 rfl)
  have gs : mg "super" = none := He.free_ok X G (c.mem (fa_at (x := He.Fa.free "super") 38 rfl))
  obtain ⟨es1, es2⟩ := cm.at_ 0 rfl
  have ee : EntOk P w K mg base 2 (.exc "InvalidText" "line") := exc_ent es1 es2 gC gs hPf hPt h_ini s_ini a_ini (Nat.le_refl _)
  have k0 : TOk P w K mg base 2 T_0 := T0_ok X G c cm.ext ee
  have k1 := c_0 k0 (hfn_at K c 0 "is_number" "is_number" 4 rfl) (gl "is_number" (fa_at 0 rfl)) hf
  have k2 := c_1 k1 (hfn_at K c 1 "is_tuple" "is_tuple" 5 rfl) (gl "is_tuple" (fa_at 1 rfl)) hf
  have k3 := c_2 k2 (hfn_at K c 2 "is_row" "is_row" 6 rfl) (gl "is_row" (fa_at 2 rfl)) hf
  have k4 := c_3 k3 (hfn_at K c 3 "are_good_debts" "are_good_debts" 7 rfl) (gl "are_good_debts" (fa_at 3 rfl)) hf
  have k5 := c_4 k4 (hfn_at K c 4 "is_debts" "is_debts" 8 rfl) (gl "is_debts" (fa_at 4 rfl)) hf
  have k6 := c_5 k5 (hfn_at K c 5 "row_in" "row_in" 11 rfl) (gl "row_in" (fa_at 5 rfl)) hf
  have k7 := c_6 k6 (hfn_at K c 6 "debts_in" "debts_in" 12 rfl) (gl "debts_in" (fa_at 6 rfl)) hf
  have k8 := c_7 k7 (hfn_at K c 7 "read_debts" "read_debts" 13 rfl) (gl "read_debts" (fa_at 7 rfl)) hf
  have k9 := c_8 k8 (hfn_at K c 8 "_law_source" "_law_source" 15 rfl) (gl "_law_source" (fa_at 8 rfl)) hf
  have k10 := c_9 k9 (hfn_at K c 9 "_law_draw" "_law_draw" 16 rfl) (gl "_law_draw" (fa_at 9 rfl)) hf
  have k11 := c_10 k10 (hfn_at K c 10 "_law_of" "_law_of" 17 rfl) (gl "_law_of" (fa_at 10 rfl)) hf
  have k12 := c_11 k11 (hfn_at K c 11 "_law_debts" "_law_debts" 18 rfl) (gl "_law_debts" (fa_at 11 rfl)) hf
  have k13 := c_12 k12 (hfn_at K c 12 "_law_text" "_law_text" 19 rfl) (gl "_law_text" (fa_at 12 rfl)) hf
  have k14 := c_13 k13 (hfn_at K c 13 "_law_read" "_law_read" 20 rfl) (gl "_law_read" (fa_at 13 rfl)) hf gC gO (tryB_ok xt)
  have k15 := c_14 k14 (hfn_at K c 14 "_law_is_line" "_law_is_line" 21 rfl) (gl "_law_is_line" (fa_at 14 rfl)) hf
  have k16 := c_15 k15 (hfn_at K c 15 "_law_spoilt" "_law_spoilt" 22 rfl) (gl "_law_spoilt" (fa_at 15 rfl)) hf
  exact fn_d0 k16 F hf s_law rfl rfl (t_law _)
end PD
set_option maxRecDepth 100000
set_option maxHeartbeats 0
open PySem PySem.W PySem.Calls PyProof.Rows
theorem PySem.Challenge.cw_handsowing_k15_texts_spoilt_holds : PySem.Challenge.rw_handsowing_k15_texts_spoilt.Holds := by
  w_on; o_law
  refine HandSHeadRun.head_any (r := OpenLaw.row PySem.Challenge.rw_handsowing_k15_texts_spoilt) (q := view (OpenLaw.row PySem.Challenge.rw_handsowing_k15_texts_spoilt).prog [23]) (H := PD.hk) (ob := PD.ob) (M := 20000) (loose := PD.loose) (d := HandSHeadRun.topDef (OpenLaw.row PySem.Challenge.rw_handsowing_k15_texts_spoilt).prog 23) (kwd := []) PD.ob_eq
    (by kernel_rfl) (fun s => by kernel_rfl) PD.run (by kernel_rfl) (by kernel_rfl) (by kernel_rfl) (by rfl) (by first | assumption | decide +kernel) (by decide +kernel) ⟨rfl, rfl, rfl, rfl, rfl, by decide +kernel⟩ ?hw ?hc
  case hw => w_witness2
  case hc =>
    refine L2.walk_ofE (l := PySem.Challenge.rw_handsowing_k15_texts_spoilt) (n := 63) (k := 19) (x := "script") (CX := L2.CX0) rfl (by decide) (by kernel_rfl) ⟨rfl, by decide, by decide⟩ ?F (fun _ _ _ _ z => z)
    intro w mg fa h Y G hmg0
    obtain ⟨K, KX, c⟩ := Y
    have hmg : mg ("law" : PySem.Str) = some (.ref fa) := by
      have e : (HandSHeadRun.topDef (OpenLaw.row PySem.Challenge.rw_handsowing_k15_texts_spoilt).prog 23).name = ("law" : PySem.Str) := by kernel_rfl
      rw [← e]
      exact hmg0
    obtain ⟨fd, hb, hF⟩ := PD.facts (P := (PySem.Challenge.rw_handsowing_k15_texts_spoilt).prog) (w := w) KX G hmg c (by kernel_rfl) (by kernel_rfl)
    exact ⟨K, fd, PD.Spec0 K 1 PD.m_law, KX, hb, fun H a ns hl _ hS => PD.law_sp PD.law_ok hl hS, fun base _ _ => hF base⟩
