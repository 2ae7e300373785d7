import PyProof.Rows.All
import Wide.All
import OpenK.AllK
import Wide.FinOn
import HandS.ForMost
import HandS.TupAny
import HandS.TupMul
import HandS.Conv
import HandS.Evl
import HandS.HeadHook2
import HandS.Wide
import HandS.Deep
import HandS.Style
import HandS.Zip
import KE.GoesEnum
import HandS.IsInst
import HandS.Strs
import HandS.SetFor
import HandS.Text
import HandS.Dict
import KE.KTupSum
import KE.SortData
import PyProof.P3In
import HandS.Words
import HandS.WordsExc
import KE.KStateDown
import HandS.Base
import HandS.Call
import HandS.Ends
import HandS.More
import HandS.Defaults
import HandS.Head0
import HandS.Head1
import HandS.Head2
import HandS.HeadEnd
import HandS.HeadHook1
import PySem.Challenge.RW_handsowing_k01_values_recognized
set_option Elab.async false
set_option linter.all false
set_option maxRecDepth 100000
set_option maxHeartbeats 4000000
namespace PD
open PySem PySem.Spec PyProof.Rows L2

/-! ## tuples that are known as objects -/
/-- a tuple's own object -/
structure TOb (o : Obj) : Prop where
  cls : o.cls = .type "tuple"
  dict : o.dict = none
abbrev tuO (its : List Value) : Obj := { cls := .type "tuple", data := .seq its.toArray }
theorem tuO_ok (its : List Value) : TOb (tuO its) := ⟨rfl, rfl⟩
/-- it stands there, and its object is known -/
def SqD (K : PySem.W.Frag) (H : Hp) (a : Addr) (xs : List V) : Prop :=
  (∃ o, TOb o ∧ H a = some (.frz o (.tup xs))) ∨ ∃ (o : Obj) (its : Array Value) (n : Nat), TOb o ∧ K.lookup a = some o ∧ o.data = .seq its n ∧ its.size ≤ sizeLine ∧ Vals xs its.toList
theorem SqD.t {K : PySem.W.Frag} {H : Hp} {a : Addr} {xs : List V} (h : SqD K H a xs) : SqT K H a xs := by
  rcases h with ⟨o, _, h⟩ | ⟨o, its, n, t, h1, h2, h3, h4⟩
  · exact .inl (.inr ⟨o, h⟩)
  · exact .inr ⟨o, its, n, h1, t.cls, h2, h3, h4⟩
theorem SqD.ex {K : PySem.W.Frag} {H H' : Hp} {a : Addr} {xs : List V} (e : ∀ a o, H a = some o → H' a = some o) (h : SqD K H a xs) : SqD K H' a xs := by
  rcases h with ⟨o, t, h⟩ | h
  · exact .inl ⟨o, t, e _ _ h⟩
  · exact .inr h
theorem SqD.upd {K : PySem.W.Frag} {H : Hp} {p : Addr} {o : Obj} {xs : List V} (t : TOb o) : SqD K (upd H p (.frz o (.tup xs))) p xs := .inl ⟨o, t, upd_same⟩
/-- what is wanted of a new tuple -/
def NT (xs : List V) (H : Hp) (Q : VK) : Prop := ∀ p o, TOb o → H p = none → Q (.ref p) (upd H p (.frz o (.tup xs)))
section
variable {X : Cx} {pins : List (Addr × Obj)} {σ : L2.St} {H : Hp} {s : Shared} {xs : List V} {its : List Value}
theorem laidT {h' : Heap} {p : Addr} {t' : Nat} (I : Inv X pins σ H s) (k : ∀ b u, s.heap.get? b = some u → h'.get? b = some u) (hp : s.heap.objs.size ≤ p) (r : Vals xs its) (hz : xs.length ≤ sizeLine) (e : h'.get? p = some (tuO its)) {Q : VK} (q : NT xs H Q) : EP X pins σ Q (.ref p) { s with heap := h', toks := t' } := by
  have ob : ObjOk X.prog X.w (upd H p (.frz (tuO its) (.tup xs))) h' p (.frz (tuO its) (.tup xs)) := ⟨e, hz, its, r, ⟨_, e, rfl, 0, rfl⟩⟩
  exact ⟨.ref p, _, I.laid (t' := t') k hp ob, rfl, q p _ (tuO_ok its) (I.hok.fresh hp)⟩
/-- a tuple display -/
def tTupF (t : TA) : TE := fun σ H Q => t σ H fun xs H1 => xs.length ≤ sizeLine ∧ NT xs H1 Q
theorem pe_tupF {es : List Expr} {pos : Pos} {x1} {t : TA} (h : PA X es t) : PE X (.Tuple es x1 pos) (tTupF t) := ⟨fun pins s σ H Q I hq =>
  wpAny_Tuple_spliced (thn (h.run pos pins s σ H _ I hq) fun us s1 ⟨xs, H1, I1, r, z, q⟩ => ⟨by rw [← r.length]; exact z,
    laidT (t' := s1.toks) I1 (fun b u e => Heap.get?_push_of_some _ e) (Nat.le_refl _) r z (Heap.get?_push_size _ rfl) q⟩)⟩
/-- t + u -/
def rCatF (K : PySem.W.Frag) : R2 := fun x y H Q => ∃ a b xs ys, x = .ref a ∧ y = .ref b ∧ SqT K H a xs ∧ SqT K H b ys ∧ xs.length + ys.length ≤ sizeLine ∧
  (xs = [] → Q (.ref b) H) ∧ (xs ≠ [] → ys = [] → Q (.ref a) H) ∧ (xs ≠ [] → ys ≠ [] → NT (xs ++ ys) H Q)
theorem op_catF : OpR X (binaryOp .Add) (rCatF X.K) := by
  intro pins s σ H x y v u Q I rx ry h
  obtain ⟨a, b, xs, ys, rfl, rfl, ha, hb, hz, q0, q1, q2⟩ := h
  cases rx; cases ry
  obtain ⟨its, r1, p1, _⟩ := I.tuple ha
  obtain ⟨its2, r2, p2, _⟩ := I.tuple hb
  by_cases hx : xs = []
  · subst hx
    cases r1
    exact cat_tup0 p1 p2 ⟨.ref b, H, I, rfl, q0 rfl⟩
  · exact HT.cat_tup p1 p2 (fun z => hx (r1.nil_iff.mp z)) (fun z => ⟨.ref a, H, I, rfl, q1 hx (r2.nil_iff.mp z)⟩)
      (fun z => laidT (t' := s.toks) I (fun b ob q => Heap.get?_push_of_some _ q) (Nat.le_refl _) (r1.append r2) (by rw [List.length_append]; exact hz) (Heap.get?_push_size _ rfl) (q2 hx (fun w => z (r2.nil_iff.mpr w))))
      (by rw [← r1.length, ← r2.length]; exact hz)
/-- t[lo:hi] -/
def rSlF (K : PySem.W.Frag) : V → Option Int → Option Int → Hp → VK → Prop := fun x lo hi H Q => ∃ a xs, x = .ref a ∧ SqT K H a xs ∧
  (HT.sIx xs.length 0 lo = 0 ∧ HT.sIx xs.length xs.length hi = xs.length → Q (.ref a) H) ∧ (¬ (HT.sIx xs.length 0 lo = 0 ∧ HT.sIx xs.length xs.length hi = xs.length) → NT (cutV xs lo hi) H Q)
theorem sl_tupF : SlR X (rSlF X.K) := by
  intro pins s σ H x v vl vu lo hi sl Q I rx hs pl pu h
  obtain ⟨a, xs, rfl, hx, q1, q2⟩ := h
  cases rx
  obtain ⟨its, r, ht, hz⟩ := I.tuple hx
  have hlen : its.toArray.size = xs.length := by rw [List.size_toArray]; exact r.length.symm
  refine ⟨"tuple", _, PyProof.Rows.slot_tuple_getitem.lookup, ht.typeIs, ?_⟩
  by_cases hw : HT.sIx xs.length 0 lo = 0 ∧ HT.sIx xs.length xs.length hi = xs.length
  · exact getItem_tuple_whole ht hs pl pu (by rw [hlen]; exact hw) ⟨.ref a, H, I, rfl, q1 hw⟩
  · refine HT.getItem_tuple_cut ht hs pl pu (by rw [hlen]; exact hw) ?_ (by rw [hlen]; exact hz)
    rw [hlen]
    exact laidT (t' := s.toks) I (fun b ob q => Heap.get?_push_of_some _ q) (Nat.le_refl _) ((r.drop (HT.sIx xs.length 0 lo)).take (HT.sIx xs.length xs.length hi - HT.sIx xs.length 0 lo)) (Nat.le_trans (cutV_length xs lo hi) hz) (Heap.get?_push_size _ rfl) (q2 hw)
/-- tuple(x) -/
def rTupF (K : PySem.W.Frag) : List V → Hp → VK → Prop := fun vs H Q => ∃ p ys, vs = [.ref p] ∧ ((SqL K H p ys ∧ NT ys H Q) ∨ (SqT K H p ys ∧ Q (.ref p) H))
theorem call_tupF : CallR X (.type "tuple") (rTupF X.K) := by
  intro pins s σ H vs us Q I r h
  obtain ⟨p, ys, rfl, h⟩ := h
  obtain ⟨u, rfl, rx⟩ := vals1 r
  cases rx
  rcases h with ⟨hq, q⟩ | ⟨hq, q⟩
  · obtain ⟨its, r', pl, hz⟩ := I.list hq
    have hlen := r'.length
    refine call_tuple_list pl.isList (fun h' kp => ?_) (by simp only [List.size_toArray] <;> omega)
    have I1 : Inv X pins σ H { s with heap := h' } := I.kept (t' := s.toks) kp
    exact laidT (t' := s.toks) I1 (fun b o e => Heap.get?_push_of_some _ e) (Nat.le_refl _) r' hz (Heap.get?_push_size _ rfl) q
  · obtain ⟨its, r', pl, hz⟩ := I.tuple hq
    exact call_tuple_same pl ⟨.ref p, H, I, rfl, q⟩
/-- tuple(range(..)) -/
def tTrF (te : L2.St → Hp → (Int → Int → Hp → Prop) → Prop) : TE := fun σ H Q => te σ H fun a b H1 => RgOk a b ∧ NT (rgV a b) H1 Q
theorem pe_trF {e : Expr} {te : L2.St → Hp → (Int → Int → Hp → Prop) → Prop} {p pos : Pos} (hc : X.calm = true) (hg : Gl X "tuple") (hm : X.mg "tuple" = none) (he : PRg X e te) (na : starEach [e] X.env = (false, eval e X.env) :: starEach [] X.env) : PE X (.Call (.Name "tuple" p) [e] [] pos) (tTrF te) := by
  refine ⟨fun pins s σ H Q I h => ?_⟩
  refine Call_ (ld_blt I hg hm boot_tuple (PyProof.Rows.callWith_type1 (args_cons (thn (he pins s σ H _ I h) fun x s1 ⟨r, a, b, t, u, v, H1, ex, hr, I1, ok, q⟩ => args_nil ?_) na) na))
  subst ex
  obtain ⟨b1, b2, b3, b4, b5⟩ := ok
  refine call_tuple_range (n := (b - a).toNat) (I1.ok.hd hc) hr (small_one b1 b2 b3 b4) (rangeSize_nat a b) b5 fun h' tk acc hk hi => ?_
  have I2 : Inv X pins σ H1 { s1 with heap := h', toks := tk } := I1.kept hk
  exact laidT (t' := tk) (its := acc.toList) I2 (fun c o e => Heap.get?_push_of_some _ e) (Nat.le_refl _) (vals_rg hi) (by rw [rgV_length, sizeLine_eq]; omega) (by rw [show tuO acc.toList = { cls := .type "tuple", data := .seq acc } by simp]; exact Heap.get?_push_size _ rfl) q
/-- t * n -/
def rRepF (K : PySem.W.Frag) : R2 := fun x y H Q => ∃ l k xs, x = .ref l ∧ y = .int k ∧ SqT K H l xs ∧ xs ≠ [] ∧ 2 ≤ k ∧ k ≤ 1000 ∧ xs.length ≤ 1000 ∧ NT (List.replicate k.toNat xs).flatten H Q
theorem op_repF : OpR X (binaryOp .Mult) (rRepF X.K) := by
  intro pins s σ H x y v u Q I rx ry h
  obtain ⟨l, k, xs, rfl, rfl, hT, hne, h1, h2, hz, q⟩ := h
  cases rx
  obtain ⟨t, rfl⟩ := ry
  obtain ⟨its, r, ⟨⟨cls, dd, data, sl⟩, ho, hc, n, hd⟩, hs⟩ := I.tuple hT
  simp only at hc hd
  subst hc hd
  have hle : its.length = xs.length := r.length.symm
  have hpos : 0 < xs.length := List.length_pos_iff.mpr hne
  have hi : its.toArray.isEmpty = false := by
    cases its with
    | nil => simp at hle; omega
    | cons a b => rfl
  have hm : ((its.toArray.size : Nat) : Int) * k ≤ 1000000 := by
    rw [List.size_toArray, hle]
    have := Int.mul_le_mul_of_nonneg_right (show ((xs.length : Nat) : Int) ≤ 1000 by omega) (show 0 ≤ k by omega)
    omega
  have fl : (List.replicate k.toNat its).flatten.length ≤ 1000000 := by
    rw [PyProof.Rows.lm_len_rep_flat, hle]
    exact Nat.le_trans (Nat.mul_le_mul (show k.toNat ≤ 1000 by omega) hz) (by decide)
  have c0 : (decide (k < -(2 ^ 63)) || decide (k ≥ 2 ^ 63)) = false := by simp; omega
  have c1 : (its.toArray.isEmpty || k == 1) = false := by rw [hi]; simp; omega
  have c2 : (decide (k ≤ 0) || its.toArray.isEmpty) = false := by rw [hi]; simp; omega
  have c4 : Builtin.Tuple.tupleTooMany (((its.toArray.size : Nat) : Int) * k) = false := by
    unfold Builtin.Tuple.tupleTooMany
    have := sizeLine_eq
    exact decide_eq_false (by omega)
  have fz : (List.replicate k.toNat its).flatten.length ≤ sizeLine := Nat.le_trans fl (by decide)
  refine wpAny_binaryOp_repeat_ref (T := "tuple") (U := "int") (by decide) ⟨_, ho, rfl⟩ (fun s' => typeIs_int s' k t) noFill_tuple_mul F.fills_int_mul F.slot_int_rmul repeat_tuple F.slot_int_index.lookup
    (call_meets F.slot_int_rmul (typeIs_int s k t) F.entry_int_rmul (F.args_int_rmul_2 _ _) (int_rmul_tuple k t l its.toArray n dd sl)
      ⟨ho, rfl, ⟨_, ho, rfl⟩, call_meets F.slot_tuple_mul ⟨_, ho, rfl⟩ F.entry_tuple_mul (F.args_tuple_mul_2 _ _) (tuple_mulW l its.toArray n dd sl k t c0 c1 c2 (by omega) c4 (by rw [size_rep, List.size_toArray]; exact fz)) ⟨ho, ?_⟩⟩)
  rw [size_rep]
  exact laidT (t' := s.toks) I (fun b ob q => Heap.get?_push_of_some _ q) (Nat.le_refl _) (r.rep k.toNat) (by rw [(r.rep k.toNat).length]; exact fz) (Heap.get?_push_size _ rfl) q
end
end PD
set_option maxRecDepth 100000
set_option maxHeartbeats 4000000
namespace PD
open PySem PySem.Spec PyProof.Rows L2

/-! ## data, store, world -/
inductive D where
  | non | bl (b : Bool) | int (i : Int) | str (x : Str) | lst (xs : List D) | tup (xs : List D) | cel (i : Nat) | scr (ns : List Int) | dki (ks : List Int) (ds : List D)
inductive Cell where
  | lst (ds : List D)
abbrev Store := List Cell
inductive SV where
  | nul | dat (d : D) | own (ds : List D)
abbrev Env := List SV
structure Er where
  cls : Str
  fld : Option (Str × D)
inductive R (α : Type) where
  | ok (a : α) (s : Store) | er (e : Er) (s : Store) | bad
abbrev M (α : Type) := Store → R α
def R.bind {α β : Type} : R α → (α → Store → R β) → R β
  | .ok a s, f => f a s
  | .er e s, _ => .er e s
  | .bad, _ => .bad
/-- a pure value or none -/
def R.opt {α : Type} (o : Option α) (s : Store) : R α := match o with
  | some a => .ok a s
  | none => .bad

structure Wd where
  F : Hp
  H : Hp
  A : List Addr
  sub : ∀ a o, F a = some o → H a = some o

mutual
inductive Rep (K : PySem.W.Frag) (W : Wd) : D → V → Prop where
  | non : Rep K W .non .non
  | bl (b : Bool) : Rep K W (.bl b) (.bl b)
  | int (i : Int) : Rep K W (.int i) (.int i)
  | str (x : Str) : Rep K W (.str x) (.str x)
  | lst {a : Addr} {vs : List V} {ds : List D} (h : W.F a = some (.lst vs)) (r : RepL K W ds vs) : Rep K W (.lst ds) (.ref a)
  | scr {a : Addr} {ns : List Int} (h : SqL K W.F a (ns.map V.int)) : Rep K W (.scr ns) (.ref a)
  | dki {a : Addr} {ks : List Int} {vs : List V} {ds : List D} (h : W.F a = some (.dK (List.zipWith (fun k v => (Sum.inl k, v)) ks vs))) (hl : ks.length = ds.length) (r : RepL K W ds vs) : Rep K W (.dki ks ds) (.ref a)
  | tup {a : Addr} {vs : List V} {ds : List D} (h : SqD K W.F a vs) (r : RepL K W ds vs) : Rep K W (.tup ds) (.ref a)
  | cel {i : Nat} {a : Addr} (h : W.A[i]? = some a) : Rep K W (.cel i) (.ref a)
inductive RepL (K : PySem.W.Frag) (W : Wd) : List D → List V → Prop where
  | nil : RepL K W [] []
  | cons {d : D} {v : V} {ds : List D} {vs : List V} (h : Rep K W d v) (t : RepL K W ds vs) : RepL K W (d :: ds) (v :: vs)
end

structure Grow (W W' : Wd) : Prop where
  f : ∀ a o, W.F a = some o → W'.F a = some o
  h : ∀ a o, a ∉ W.A → W.H a = some o → W'.H a = some o
  n : ∀ a, W.F a = none → W.H a ≠ none → W'.F a = none
  t : ∀ a, W.H a ≠ none → W'.H a ≠ none
  p : ∃ B, W'.A = W.A ++ B
  q : ∀ a, a ∈ W'.A → a ∈ W.A ∨ W.H a = none

theorem Grow.refl (W : Wd) : Grow W W := ⟨fun _ _ h => h, fun _ _ _ h => h, fun _ h _ => h, fun _ h => h, ⟨[], by simp⟩, fun _ h => .inl h⟩
theorem Grow.notA {W W' : Wd} (g : Grow W W') {a : Addr} (h : a ∉ W.A) (e : W.H a ≠ none) : a ∉ W'.A := fun m => (g.q a m).elim h e
theorem Grow.trans {W W1 W2 : Wd} (a : Grow W W1) (b : Grow W1 W2) : Grow W W2 where
  f := fun x o h => b.f x o (a.f x o h)
  h := fun x o n h => b.h x o (a.notA n (by rw [h]; simp)) (a.h x o n h)
  n := fun x h e => b.n x (a.n x h e) (a.t x e)
  t := fun x h => b.t x (a.t x h)
  p := by
    obtain ⟨B, e⟩ := a.p
    obtain ⟨C, e'⟩ := b.p
    exact ⟨B ++ C, by rw [e', e, List.append_assoc]⟩
  q := fun x h => by
    rcases b.q x h with h | h
    · exact a.q x h
    · right
      cases e : W.H x with
      | none => rfl
      | some o => exact absurd h (a.t x (by rw [e]; simp))
theorem Grow.ix {W W' : Wd} (g : Grow W W') {i : Nat} {a : Addr} (h : W.A[i]? = some a) : W'.A[i]? = some a := by
  obtain ⟨B, e⟩ := g.p
  rw [e, List.getElem?_append_left (List.getElem?_eq_some_iff.mp h).1]
  exact h

mutual
theorem Rep.of {K : PySem.W.Frag} {W W' : Wd} (hF : ∀ a o, W.F a = some o → W'.F a = some o) (hA : ∀ (i : Nat) (a : Addr), W.A[i]? = some a → W'.A[i]? = some a) : ∀ {d : D} {v : V}, Rep K W d v → Rep K W' d v
  | _, _, .non => .non
  | _, _, .bl b => .bl b
  | _, _, .int i => .int i
  | _, _, .str x => .str x
  | _, _, .lst h r => .lst (hF _ _ h) (RepL.of hF hA r)
  | _, _, .scr h => .scr (Evl.ex_l hF h)
  | _, _, .dki h hl r => .dki (hF _ _ h) hl (RepL.of hF hA r)
  | _, _, .tup h r => .tup (h.ex hF) (RepL.of hF hA r)
  | _, _, .cel h => .cel (hA _ _ h)
theorem RepL.of {K : PySem.W.Frag} {W W' : Wd} (hF : ∀ a o, W.F a = some o → W'.F a = some o) (hA : ∀ (i : Nat) (a : Addr), W.A[i]? = some a → W'.A[i]? = some a) : ∀ {ds : List D} {vs : List V}, RepL K W ds vs → RepL K W' ds vs
  | _, _, .nil => .nil
  | _, _, .cons h t => .cons (Rep.of hF hA h) (RepL.of hF hA t)
end
theorem Rep.grow {K : PySem.W.Frag} {W W' : Wd} (g : Grow W W') {d : D} {v : V} (h : Rep K W d v) : Rep K W' d v := Rep.of g.f (fun _ _ => g.ix) h
theorem RepL.grow {K : PySem.W.Frag} {W W' : Wd} (g : Grow W W') {d : List D} {v : List V} (h : RepL K W d v) : RepL K W' d v := RepL.of g.f (fun _ _ => g.ix) h
theorem RepL.len {K : PySem.W.Frag} {W : Wd} : ∀ {ds : List D} {vs : List V}, RepL K W ds vs → ds.length = vs.length
  | _, _, .nil => rfl
  | _, _, .cons _ t => congrArg (· + 1) (RepL.len t)
theorem RepL.get {K : PySem.W.Frag} {W : Wd} : ∀ {ds : List D} {vs : List V} {i : Nat} {d : D}, RepL K W ds vs → ds[i]? = some d → ∃ v, vs[i]? = some v ∧ Rep K W d v
  | _, _, _, _, .nil, e => by simp at e
  | _, _, 0, _, .cons h _, e => by simp at e; subst e; exact ⟨_, rfl, h⟩
  | _, _, i + 1, d, .cons _ t, e => by
    obtain ⟨v, h1, h2⟩ := RepL.get (i := i) (d := d) t (by simpa using e)
    exact ⟨v, by simpa using h1, h2⟩
theorem RepL.getV {K : PySem.W.Frag} {W : Wd} : ∀ {ds : List D} {vs : List V} {i : Nat} {v : V}, RepL K W ds vs → vs[i]? = some v → ∃ d, ds[i]? = some d ∧ Rep K W d v
  | _, _, _, _, .nil, e => by simp at e
  | _, _, 0, _, .cons h _, e => by simp at e; subst e; exact ⟨_, rfl, h⟩
  | _, _, i + 1, v, .cons _ t, e => by
    obtain ⟨d, h1, h2⟩ := RepL.getV (i := i) (v := v) t (by simpa using e)
    exact ⟨d, by simpa using h1, h2⟩
theorem RepL.app {K : PySem.W.Frag} {W : Wd} : ∀ {ds es : List D} {vs us : List V}, RepL K W ds vs → RepL K W es us → RepL K W (ds ++ es) (vs ++ us)
  | _, _, _, _, .nil, s => s
  | _, _, _, _, .cons h t, s => .cons h (RepL.app t s)
theorem RepL.take {K : PySem.W.Frag} {W : Wd} : ∀ {ds : List D} {vs : List V} (n : Nat), RepL K W ds vs → RepL K W (ds.take n) (vs.take n)
  | _, _, 0, _ => .nil
  | _, _, _ + 1, .nil => .nil
  | _, _, n + 1, .cons h t => .cons h (RepL.take n t)
theorem RepL.drop {K : PySem.W.Frag} {W : Wd} : ∀ {ds : List D} {vs : List V} (n : Nat), RepL K W ds vs → RepL K W (ds.drop n) (vs.drop n)
  | _, _, 0, h => h
  | _, _, _ + 1, .nil => .nil
  | _, _, n + 1, .cons _ t => RepL.drop n t
theorem RepL.set {K : PySem.W.Frag} {W : Wd} {d : D} {v : V} (h : Rep K W d v) : ∀ {ds : List D} {vs : List V} (n : Nat), RepL K W ds vs → RepL K W (ds.set n d) (vs.set n v)
  | _, _, _, .nil => .nil
  | _, _, 0, .cons _ t => .cons h t
  | _, _, n + 1, .cons q t => .cons q (RepL.set h n t)

/-! ## the store, the slots -/
def CellRep (K : PySem.W.Frag) (W : Wd) (a : Addr) : Cell → Prop
  | .lst ds => ∃ vs, W.H a = some (.lst vs) ∧ RepL K W ds vs
structure SRep (K : PySem.W.Frag) (W : Wd) (s : Store) : Prop where
  len : W.A.length = s.length
  nd : W.A.Nodup
  at_ : ∀ (i : Nat) (a : Addr) (c : Cell), W.A[i]? = some a → s[i]? = some c → W.F a = none ∧ CellRep K W a c

/-- one slot; B: the heap at the def's entry -/
def SlotOk (K : PySem.W.Frag) (B : Hp) (W : Wd) : SV → Option V → Prop
  | .nul, _ => True
  | .dat d, o => ∃ v, o = some v ∧ Rep K W d v
  | .own ds, o => ∃ p vs, o = some (.ref p) ∧ W.H p = some (.lst vs) ∧ W.F p = none ∧ p ∉ W.A ∧ B p = none ∧ RepL K W ds vs
def isOwn : SV → Bool
  | .own _ => true
  | _ => false
structure Sat (K : PySem.W.Frag) (B : Hp) (W : Wd) (Γ : Env) (σ : L2.St) : Prop where
  len : σ.length = Γ.length
  at_ : ∀ (i : Nat) (x : SV) (o : Option V), Γ[i]? = some x → σ[i]? = some o → SlotOk K B W x o
  sep : ∀ (i j : Nat) (x y : SV) (o : Option V), Γ[i]? = some x → Γ[j]? = some y → isOwn x = true → isOwn y = true → σ[i]? = some o → σ[j]? = some o → i = j
theorem SlotOk.grow {K : PySem.W.Frag} {B : Hp} {W W' : Wd} (g : Grow W W') {x : SV} {o : Option V} (h : SlotOk K B W x o) : SlotOk K B W' x o := by
  cases x with
  | nul => trivial
  | dat d => obtain ⟨v, e, r⟩ := h; exact ⟨v, e, r.grow g⟩
  | own ds =>
    obtain ⟨p, vs, e, h1, h2, h3, h4, r⟩ := h
    have ne : W.H p ≠ none := by rw [h1]; simp
    exact ⟨p, vs, e, g.h p _ h3 h1, g.n p h2 ne, g.notA h3 ne, h4, r.grow g⟩
theorem Sat.grow {K : PySem.W.Frag} {B : Hp} {W W' : Wd} (g : Grow W W') {Γ : Env} {σ : L2.St} (h : Sat K B W Γ σ) : Sat K B W' Γ σ := ⟨h.len, fun i x o e1 e2 => (h.at_ i x o e1 e2).grow g, h.sep⟩
theorem Sat.slot {K : PySem.W.Frag} {B : Hp} {W : Wd} {Γ : Env} {σ : L2.St} (h : Sat K B W Γ σ) {i : Nat} {x : SV} (e : Γ[i]? = some x) : ∃ o, σ[i]? = some o ∧ SlotOk K B W x o := by
  have hl : i < σ.length := by rw [h.len]; exact (List.getElem?_eq_some_iff.mp e).1
  exact ⟨σ[i], by simp [hl], h.at_ i x _ e (by simp [hl])⟩
theorem Sat.dat {K : PySem.W.Frag} {B : Hp} {W : Wd} {Γ : Env} {σ : L2.St} (h : Sat K B W Γ σ) {i : Nat} {d : D} (e : Γ[i]? = some (.dat d)) : ∃ v, σ[i]? = some (some v) ∧ Rep K W d v := by
  obtain ⟨o, h1, v, h2, h3⟩ := h.slot e
  exact ⟨v, by rw [h1, h2], h3⟩
/-- a slot is stored with plain data -/
theorem Sat.set {K : PySem.W.Frag} {B : Hp} {W : Wd} {Γ : Env} {σ : L2.St} (h : Sat K B W Γ σ) {i : Nat} {d : D} {v : V} (r : Rep K W d v) : Sat K B W (Γ.set i (.dat d)) (σ.set i (some v)) := by
  refine ⟨by simp [h.len], fun j x o e1 e2 => ?_, fun j k x y o e1 e2 ox oy e3 e4 => ?_⟩
  · by_cases hj : i = j
    · subst hj
      have hl : i < Γ.length := by simpa using (List.getElem?_eq_some_iff.mp e1).1
      have hl2 : i < σ.length := by rw [h.len]; exact hl
      rw [List.getElem?_set_self hl] at e1
      rw [List.getElem?_set_self hl2] at e2
      cases e1; cases e2
      exact ⟨v, rfl, r⟩
    · rw [List.getElem?_set_ne hj] at e1 e2
      exact h.at_ j x o e1 e2
  · have nj : i ≠ j := fun e => by
      subst e
      have hl : i < Γ.length := by simpa using (List.getElem?_eq_some_iff.mp e1).1
      rw [List.getElem?_set_self hl] at e1
      cases e1; cases ox
    have nk : i ≠ k := fun e => by
      subst e
      have hl : i < Γ.length := by simpa using (List.getElem?_eq_some_iff.mp e2).1
      rw [List.getElem?_set_self hl] at e2
      cases e2; cases oy
    rw [List.getElem?_set_ne nj] at e1 e3
    rw [List.getElem?_set_ne nk] at e2 e4
    exact h.sep j k x y o e1 e2 ox oy e3 e4
/-- slots forgotten -/
def wipeE (Γ : Env) : List Nat → Env
  | [] => Γ
  | v :: vs => (wipeE Γ vs).set v .nul
theorem Sat.nul1 {K : PySem.W.Frag} {B : Hp} {W : Wd} {Γ : Env} {σ : L2.St} (h : Sat K B W Γ σ) (i : Nat) (o' : Option V) : Sat K B W (Γ.set i .nul) (σ.set i o') := by
  refine ⟨by simp [h.len], fun j x o e1 e2 => ?_, fun j k x y o e1 e2 ox oy e3 e4 => ?_⟩
  · by_cases hj : i = j
    · subst hj
      have hl : i < Γ.length := by simpa using (List.getElem?_eq_some_iff.mp e1).1
      rw [List.getElem?_set_self hl] at e1
      cases e1
      trivial
    · rw [List.getElem?_set_ne hj] at e1 e2
      exact h.at_ j x o e1 e2
  · have nj : i ≠ j := fun e => by
      subst e
      have hl : i < Γ.length := by simpa using (List.getElem?_eq_some_iff.mp e1).1
      rw [List.getElem?_set_self hl] at e1
      cases e1; cases ox
    have nk : i ≠ k := fun e => by
      subst e
      have hl : i < Γ.length := by simpa using (List.getElem?_eq_some_iff.mp e2).1
      rw [List.getElem?_set_self hl] at e2
      cases e2; cases oy
    rw [List.getElem?_set_ne nj] at e1 e3
    rw [List.getElem?_set_ne nk] at e2 e4
    exact h.sep j k x y o e1 e2 ox oy e3 e4
theorem Sat.wipe {K : PySem.W.Frag} {B : Hp} {W : Wd} {Γ : Env} {σ : L2.St} (h : Sat K B W Γ σ) : ∀ vs : List Nat, Sat K B W (wipeE Γ vs) (L2.wipe σ vs)
  | [] => h
  | v :: vs => (Sat.wipe h vs).nul1 v none

/-! ## what is wanted behind an expression -/
def ErRep (K : PySem.W.Frag) (W : Wd) (e : Er) (c : Value) (d : Option Addr) : Prop :=
  c = .ref (He.ga K e.cls) ∧ match e.fld with
    | none => d = none
    | some (f, x) => ∃ dd v, d = some dd ∧ W.H dd = some (.xd [(f, v)]) ∧ Rep K W x v
def Post {α : Type} (K : PySem.W.Frag) (EX : XK) (W : Wd) (r : R α) (T : Wd → Store → α → Prop) : Prop := match r with
  | .ok a s => ∀ W', Grow W W' → SRep K W' s → T W' s a
  | .er e s => ∀ W' c d, Grow W W' → SRep K W' s → ErRep K W' e c d → EX c d W'.H
  | .bad => False
section
variable {α β : Type} {K : PySem.W.Frag} {EX : XK} {W W1 : Wd} {r : R α} {T : Wd → Store → α → Prop}
theorem Post.grow (g : Grow W W1) (h : Post K EX W r T) : Post K EX W1 r T := by
  cases r with
  | ok a s => exact fun W' g' sr => h W' (g.trans g') sr
  | er e s => exact fun W' c d g' sr q => h W' c d (g.trans g') sr q
  | bad => exact h
theorem Post.bind {f : α → Store → R β} {U : Wd → Store → β → Prop} (h : Post K EX W (r.bind f) U) (step : ∀ a s1 W1, r = .ok a s1 → Grow W W1 → SRep K W1 s1 → Post K EX W1 (f a s1) U → T W1 s1 a) : Post K EX W r T := by
  cases r with
  | ok a s => exact fun W' g sr => step a s W' rfl g sr (Post.grow g h)
  | er e s => exact h
  | bad => exact h
theorem Post.mono {U : Wd → Store → α → Prop} (h : Post K EX W r U) (f : ∀ W1 s1 a, r = .ok a s1 → Grow W W1 → SRep K W1 s1 → U W1 s1 a → T W1 s1 a) : Post K EX W r T := by
  cases r with
  | ok a s => exact fun W' g sr => f W' s a rfl g sr (h W' g sr)
  | er e s => exact h
  | bad => exact h
theorem Post.opt {o : Option α} {s : Store} {U : Wd → Store → α → Prop} (h : Post K EX W (R.opt o s) U) : ∃ a, o = some a ∧ ∀ W', Grow W W' → SRep K W' s → U W' s a := by
  cases o with
  | none => exact h.elim
  | some a => exact ⟨a, rfl, h⟩
end

/-! ## data as the library's data -/
mutual
def D.py : D → PyData
  | .non => .none | .bl b => .bool b | .int i => .int i | .str x => .str x | .lst xs => .list (D.pyL xs) | .tup xs => .tuple (D.pyL xs) | .cel _ => .dict [] | .scr _ => .dict [] | .dki _ _ => .dict []
def D.pyL : List D → List PyData
  | [] => []
  | d :: ds => D.py d :: D.pyL ds
end
/-- small, and of plain data alone -/
def strFine (x : Str) : Bool := x.cps.toList.all fun c => decide (c < 1114112)
mutual
def D.fine : Nat → D → Bool
  | _, .non => true | _, .bl _ => true | _, .int _ => true | _, .str x => strFine x
  | n, .lst xs => n != 0 && D.fineL (n - 1) xs
  | n, .tup xs => n != 0 && D.fineL (n - 1) xs
  | _, .cel _ => false | _, .scr _ => false | _, .dki _ _ => false
def D.fineL : Nat → List D → Bool
  | _, [] => true
  | n, d :: ds => D.fine n d && D.fineL n ds
end
mutual
def D.eqv : D → D → Bool
  | .non, .non => true
  | .bl a, .bl b => a == b
  | .bl a, .int j => (if a then 1 else 0) == j
  | .int i, .bl b => i == (if b then 1 else 0)
  | .int i, .int j => i == j
  | .str x, .str y => x == y
  | .lst xs, .lst ys => D.eqvL xs ys
  | .tup xs, .tup ys => D.eqvL xs ys
  | _, _ => false
def D.eqvL : List D → List D → Bool
  | [], [] => true
  | x :: xs, y :: ys => D.eqv x y && D.eqvL xs ys
  | _, _ => false
end
theorem strFine_ok {x : Str} (h : strFine x = true) : PyData.strOk x = true := by
  unfold strFine at h
  unfold PyData.strOk
  rw [← Array.all_toList]
  exact h
mutual
theorem D.fine_lay : ∀ (n : Nat) (d : D), D.fine n d = true → d.py.canLay0 = true
  | _, .non, _ => by simp only [D.py, PyData.canLay0]
  | _, .bl _, _ => by simp only [D.py, PyData.canLay0]
  | _, .int _, _ => by simp only [D.py, PyData.canLay0]
  | _, .str x, h => by
    simp only [D.fine] at h
    simp only [D.py, PyData.canLay0]
    exact strFine_ok h
  | n, .lst xs, h => by
    simp only [D.fine, Bool.and_eq_true] at h
    simp only [D.py, PyData.canLay0]
    exact D.fineL_lay _ xs h.2
  | n, .tup xs, h => by
    simp only [D.fine, Bool.and_eq_true] at h
    simp only [D.py, PyData.canLay0]
    exact D.fineL_lay _ xs h.2
  | _, .cel _, h => by simp [D.fine] at h
  | _, .scr _, h => by simp [D.fine] at h
  | _, .dki _ _, h => by simp [D.fine] at h
theorem D.fineL_lay : ∀ (n : Nat) (ds : List D), D.fineL n ds = true → PyData.canLayAll0 (D.pyL ds) = true
  | _, [], _ => by simp only [D.pyL, PyData.canLayAll0]
  | n, d :: ds, h => by
    simp only [D.fineL, Bool.and_eq_true] at h
    simp only [D.pyL, PyData.canLayAll0, Bool.and_eq_true]
    exact ⟨D.fine_lay n d h.1, D.fineL_lay n ds h.2⟩
end
mutual
theorem D.fine_dep : ∀ (n : Nat) (d : D), D.fine n d = true → d.py.depth ≤ n
  | _, .non, _ => by simp [D.py, PyData.depth]
  | _, .bl _, _ => by simp [D.py, PyData.depth]
  | _, .int _, _ => by simp [D.py, PyData.depth]
  | _, .str _, _ => by simp [D.py, PyData.depth]
  | n, .lst xs, h => by
    simp only [D.fine, Bool.and_eq_true, bne_iff_ne] at h
    have q := D.fineL_dep _ xs h.2
    simp only [D.py, PyData.depth]
    omega
  | n, .tup xs, h => by
    simp only [D.fine, Bool.and_eq_true, bne_iff_ne] at h
    have q := D.fineL_dep _ xs h.2
    simp only [D.py, PyData.depth]
    omega
  | _, .cel _, h => by simp [D.fine] at h
  | _, .scr _, h => by simp [D.fine] at h
  | _, .dki _ _, h => by simp [D.fine] at h
theorem D.fineL_dep : ∀ (n : Nat) (ds : List D), D.fineL n ds = true → PyData.depthAll (D.pyL ds) ≤ n
  | _, [], _ => by simp [D.pyL, PyData.depthAll]
  | n, d :: ds, h => by
    simp only [D.fineL, Bool.and_eq_true] at h
    have q1 := D.fine_dep n d h.1
    have q2 := D.fineL_dep n ds h.2
    simp only [D.pyL, PyData.depthAll]
    omega
end
theorem D.fine_shaped {d : D} (h : D.fine 60 d = true) : SeqAt.shaped d.py = true := by
  unfold SeqAt.shaped
  rw [D.fine_lay 60 d h, Bool.true_and, decide_eq_true_eq]
  exact Nat.le_trans (D.fine_dep 60 d h) (by decide)
mutual
theorem D.eqv_py : ∀ (a b : D) (n m : Nat), D.fine n a = true → D.fine m b = true → PyData.eqv a.py b.py = D.eqv a b
  | .lst xs, .lst ys, n, m, h, h' => by
    simp only [D.fine, Bool.and_eq_true] at h h'
    simp only [D.py, PyData.eqv, D.eqv]
    exact D.eqvL_py xs ys _ _ h.2 h'.2
  | .tup xs, .tup ys, n, m, h, h' => by
    simp only [D.fine, Bool.and_eq_true] at h h'
    simp only [D.py, PyData.eqv, D.eqv]
    exact D.eqvL_py xs ys _ _ h.2 h'.2
  | .non, b, _, _, _, _ => by cases b <;> simp [D.py, PyData.eqv, D.eqv]
  | .bl _, b, _, _, _, _ => by cases b <;> simp [D.py, PyData.eqv, D.eqv]
  | .int _, b, _, _, _, _ => by cases b <;> simp [D.py, PyData.eqv, D.eqv]
  | .str _, b, _, _, _, _ => by cases b <;> simp [D.py, PyData.eqv, D.eqv]
  | .lst _, .non, _, _, _, _ => by simp [D.py, PyData.eqv, D.eqv]
  | .lst _, .bl _, _, _, _, _ => by simp [D.py, PyData.eqv, D.eqv]
  | .lst _, .int _, _, _, _, _ => by simp [D.py, PyData.eqv, D.eqv]
  | .lst _, .str _, _, _, _, _ => by simp [D.py, PyData.eqv, D.eqv]
  | .lst _, .tup _, _, _, _, _ => by simp [D.py, PyData.eqv, D.eqv]
  | .lst _, .cel _, _, _, _, _ => by simp [D.py, PyData.eqv, D.eqv]
  | .lst _, .scr _, _, _, _, _ => by simp [D.py, PyData.eqv, D.eqv]
  | .lst _, .dki _ _, _, _, _, _ => by simp [D.py, PyData.eqv, D.eqv]
  | .tup _, .non, _, _, _, _ => by simp [D.py, PyData.eqv, D.eqv]
  | .tup _, .bl _, _, _, _, _ => by simp [D.py, PyData.eqv, D.eqv]
  | .tup _, .int _, _, _, _, _ => by simp [D.py, PyData.eqv, D.eqv]
  | .tup _, .str _, _, _, _, _ => by simp [D.py, PyData.eqv, D.eqv]
  | .tup _, .lst _, _, _, _, _ => by simp [D.py, PyData.eqv, D.eqv]
  | .tup _, .cel _, _, _, _, _ => by simp [D.py, PyData.eqv, D.eqv]
  | .tup _, .scr _, _, _, _, _ => by simp [D.py, PyData.eqv, D.eqv]
  | .tup _, .dki _ _, _, _, _, _ => by simp [D.py, PyData.eqv, D.eqv]
  | .cel _, _, _, _, h, _ => by simp [D.fine] at h
  | .scr _, _, _, _, h, _ => by simp [D.fine] at h
  | .dki _ _, _, _, _, h, _ => by simp [D.fine] at h
theorem D.eqvL_py : ∀ (a b : List D) (n m : Nat), D.fineL n a = true → D.fineL m b = true → PyData.eqvAll (D.pyL a) (D.pyL b) = D.eqvL a b
  | [], [], _, _, _, _ => by simp [D.pyL, PyData.eqvAll, D.eqvL]
  | [], _ :: _, _, _, _, _ => by simp [D.pyL, PyData.eqvAll, D.eqvL]
  | _ :: _, [], _, _, _, _ => by simp [D.pyL, PyData.eqvAll, D.eqvL]
  | x :: xs, y :: ys, n, m, h, h' => by
    simp only [D.fineL, Bool.and_eq_true] at h h'
    simp only [D.pyL, PyData.eqvAll, D.eqvL]
    rw [D.eqv_py x y n m h.1 h'.1, D.eqvL_py xs ys n m h.2 h'.2]
end

/-! ## views: plain data, or a list of the def's own -/
inductive RepV (K : PySem.W.Frag) (W : Wd) : D → V → Prop where
  | of {d : D} {v : V} (h : Rep K W d v) : RepV K W d v
  | own {a : Addr} {vs : List V} {ds : List D} (n : a ∉ W.A) (h : W.H a = some (.lst vs)) (r : RepL K W ds vs) : RepV K W (.lst ds) (.ref a)
theorem RepV.grow {K : PySem.W.Frag} {W W' : Wd} (g : Grow W W') {d : D} {v : V} (h : RepV K W d v) : RepV K W' d v := by
  cases h with
  | of h => exact .of (h.grow g)
  | own n h r => exact .own (g.notA n (by rw [h]; simp)) (g.h _ _ n h) (r.grow g)
theorem RepV.lst {K : PySem.W.Frag} {W : Wd} {ds : List D} {v : V} (h : RepV K W (.lst ds) v) : ∃ a vs, v = .ref a ∧ W.H a = some (.lst vs) ∧ RepL K W ds vs := by
  cases h with
  | of h => cases h with | lst h r => exact ⟨_, _, rfl, W.sub _ _ h, r⟩
  | own n h r => exact ⟨_, _, rfl, h, r⟩
theorem RepV.tup {K : PySem.W.Frag} {W : Wd} {ds : List D} {v : V} (h : RepV K W (.tup ds) v) : ∃ a vs, v = .ref a ∧ SqT K W.H a vs ∧ RepL K W ds vs := by
  cases h with
  | of h => cases h with | tup h r => exact ⟨_, _, rfl, (h.ex W.sub).t, r⟩
theorem RepV.int {K : PySem.W.Frag} {W : Wd} {i : Int} {v : V} (h : RepV K W (.int i) v) : v = .int i := by
  cases h with | of h => cases h; rfl
theorem RepV.bl {K : PySem.W.Frag} {W : Wd} {i : Bool} {v : V} (h : RepV K W (.bl i) v) : v = .bl i := by
  cases h with | of h => cases h; rfl
theorem RepV.str {K : PySem.W.Frag} {W : Wd} {i : Str} {v : V} (h : RepV K W (.str i) v) : v = .str i := by
  cases h with | of h => cases h; rfl
theorem RepV.non {K : PySem.W.Frag} {W : Wd} {v : V} (h : RepV K W .non v) : v = .non := by
  cases h with | of h => cases h; rfl
mutual
theorem Rep.dp {K : PySem.W.Frag} {W : Wd} : ∀ {n : Nat} {d : D} {v : V}, D.fine n d = true → Rep K W d v → Dp K W.H v d.py
  | _, _, _, _, .non => by simp only [D.py]; exact .non
  | _, _, _, _, .bl b => by simp only [D.py]; exact .bl b
  | _, _, _, _, .int i => by simp only [D.py]; exact .int i
  | _, _, _, _, .str x => by simp only [D.py]; exact .str x
  | n, _, _, f, .lst h r => by
    simp only [D.fine, Bool.and_eq_true] at f
    simp only [D.py]
    exact .lst (.inl (.inl (W.sub _ _ h))) (RepL.dp f.2 r)
  | n, _, _, f, .tup h r => by
    simp only [D.fine, Bool.and_eq_true] at f
    simp only [D.py]
    exact .tup (h.ex W.sub).t (RepL.dp f.2 r)
  | _, _, _, f, .cel _ => by simp [D.fine] at f
  | _, _, _, f, .scr _ => by simp [D.fine] at f
  | _, _, _, f, .dki _ _ _ => by simp [D.fine] at f
theorem RepL.dp {K : PySem.W.Frag} {W : Wd} : ∀ {n : Nat} {ds : List D} {vs : List V}, D.fineL n ds = true → RepL K W ds vs → DpAll K W.H vs (D.pyL ds)
  | _, _, _, _, .nil => by simp only [D.pyL]; exact .nil
  | n, _, _, f, .cons h t => by
    simp only [D.fineL, Bool.and_eq_true] at f
    simp only [D.pyL]
    exact .cons (Rep.dp f.1 h) (RepL.dp f.2 t)
end
theorem RepV.dp {K : PySem.W.Frag} {W : Wd} {n : Nat} {d : D} {v : V} (f : D.fine n d = true) (h : RepV K W d v) : Dp K W.H v d.py := by
  cases h with
  | of h => exact h.dp f
  | own n h r =>
    simp only [D.fine, Bool.and_eq_true] at f
    simp only [D.py]
    exact .lst (.inl (.inl h)) (r.dp f.2)
end PD
set_option maxRecDepth 100000
set_option maxHeartbeats 4000000
namespace PD
open PySem PySem.Spec PyProof.Rows L2

/-! ## a new object is data -/
/-- H, F both get o at p -/
def Wd.new (W : Wd) (p : Addr) (o : HO) : Wd where
  F := upd W.F p o
  H := upd W.H p o
  A := W.A
  sub := fun a u h => by
    by_cases e : a = p
    · subst e; rw [upd_same] at h ⊢; exact h
    · rw [upd_ne e] at h ⊢; exact W.sub a u h
theorem Wd.fnone {W : Wd} {p : Addr} (h : W.H p = none) : W.F p = none := by
  cases e : W.F p with
  | none => rfl
  | some o => rw [W.sub p o e] at h; cases h
theorem SRep.there {K : PySem.W.Frag} {W : Wd} {s : Store} (sr : SRep K W s) {a : Addr} (h : a ∈ W.A) : W.H a ≠ none := by
  obtain ⟨i, hi, e⟩ := List.mem_iff_getElem.mp h
  have h1 : W.A[i]? = some a := by rw [List.getElem?_eq_getElem hi, e]
  have hl : i < s.length := by rw [← sr.len]; exact hi
  obtain ⟨_, c⟩ := sr.at_ i a s[i] h1 (by simp [hl])
  cases hc : s[i] with
  | lst ds => rw [hc] at c; obtain ⟨vs, e1, _⟩ := c; rw [e1]; simp
theorem Grow.new {K : PySem.W.Frag} {W : Wd} {p : Addr} {o : HO} {s : Store} (hp : W.H p = none) (sr : SRep K W s) : Grow W (W.new p o) where
  f := fun a u h => by
    have : a ≠ p := fun e => by subst e; rw [Wd.fnone hp] at h; cases h
    show upd W.F p o a = _
    rw [upd_ne this]; exact h
  h := fun a u _ h => by
    have : a ≠ p := fun e => by subst e; rw [hp] at h; cases h
    show upd W.H p o a = _
    rw [upd_ne this]; exact h
  n := fun a h e => by
    have : a ≠ p := fun q => by subst q; exact e hp
    show upd W.F p o a = _
    rw [upd_ne this]; exact h
  t := fun a e => by
    show upd W.H p o a ≠ none
    by_cases h : a = p
    · subst h; rw [upd_same]; simp
    · rw [upd_ne h]; exact e
  p := ⟨[], by simp [Wd.new]⟩
  q := fun a h => .inl h
theorem CellRep.grow {K : PySem.W.Frag} {W W' : Wd} (hF : ∀ a o, W.F a = some o → W'.F a = some o) (hA : ∀ (i : Nat) (a : Addr), W.A[i]? = some a → W'.A[i]? = some a) {a : Addr} (e : W'.H a = W.H a) {c : Cell} (h : CellRep K W a c) : CellRep K W' a c := by
  cases c with
  | lst ds =>
    obtain ⟨vs, h1, r⟩ := h
    exact ⟨vs, e.trans h1, r.of hF hA⟩
theorem SRep.new {K : PySem.W.Frag} {W : Wd} {p : Addr} {o : HO} {s : Store} (hp : W.H p = none) (sr : SRep K W s) : SRep K (W.new p o) s := by
  refine ⟨sr.len, sr.nd, fun i a c h1 h2 => ?_⟩
  obtain ⟨h3, h4⟩ := sr.at_ i a c h1 h2
  have ne : a ≠ p := fun e => by subst e; exact sr.there (List.mem_of_getElem? h1) hp
  refine ⟨?_, h4.grow (Grow.new (o := o) hp sr).f (fun _ _ h => h) ?_⟩
  · show upd W.F p o a = none
    rw [upd_ne ne]; exact h3
  · show upd W.H p o a = _
    rw [upd_ne ne]

/-! ## the judgements -/
abbrev Want (K : PySem.W.Frag) (Q : VK) : Wd → Store → D → Prop := fun W' _ d => ∀ v, Rep K W' d v → Q v W'.H
abbrev WantV (K : PySem.W.Frag) (Q : VK) : Wd → Store → D → Prop := fun W' _ d => ∀ v, RepV K W' d v → Q v W'.H
abbrev WantL (K : PySem.W.Frag) (Q : List V → Hp → Prop) : Wd → Store → List D → Prop := fun W' _ ds => ∀ vs, RepL K W' ds vs → Q vs W'.H
abbrev WantB (Q : Bool → Hp → Prop) : Wd → Store → Bool → Prop := fun W' _ b => Q b W'.H
/-- an expression gives data -/
def PEd (X : Cx) (EX : XK) (e : Expr) (m : Env → M D) : Prop := ∃ t, PE X e t ∧
  ∀ B W Γ σ s Q, Sat X.K B W Γ σ → SRep X.K W s → Post X.K EX W (m Γ s) (Want X.K Q) → t σ W.H Q
/-- .. or a view -/
def PVd (X : Cx) (EX : XK) (e : Expr) (m : Env → M D) : Prop := ∃ t, PE X e t ∧
  ∀ B W Γ σ s Q, Sat X.K B W Γ σ → SRep X.K W s → Post X.K EX W (m Γ s) (WantV X.K Q) → t σ W.H Q
def PAd (X : Cx) (EX : XK) (es : List Expr) (m : Env → M (List D)) : Prop := ∃ t, PA X es t ∧
  ∀ B W Γ σ s Q, Sat X.K B W Γ σ → SRep X.K W s → Post X.K EX W (m Γ s) (WantL X.K Q) → t σ W.H Q
def PTd (X : Cx) (EX : XK) (e : Expr) (m : Env → M Bool) : Prop := ∃ t, PT X e t ∧
  ∀ B W Γ σ s Q, Sat X.K B W Γ σ → SRep X.K W s → Post X.K EX W (m Γ s) (WantB Q) → t σ W.H Q
def PWd (X : Cx) (EX : XK) (e : Expr) (m : Env → M Bool) : Prop := ∃ t, PW X e t ∧
  ∀ B W Γ σ s Q, Sat X.K B W Γ σ → SRep X.K W s → Post X.K EX W (m Γ s) (WantB Q) → t σ W.H Q
section
variable {X : Cx} {EX : XK} {a b c e : Expr} {pos : Pos}
theorem PEd.v {m : Env → M D} (h : PEd X EX e m) : PVd X EX e m := by
  obtain ⟨t, ht, q⟩ := h
  exact ⟨t, ht, fun B W Γ σ s Q sat sr p => q B W Γ σ s Q sat sr (p.mono fun _ _ _ _ _ _ w v r => w v (.of r))⟩
theorem PWd.t {m : Env → M Bool} (h : PWd X EX e m) : PTd X EX e m := by
  obtain ⟨t, ht, q⟩ := h
  exact ⟨t, ht.pt, q⟩

/-! ### names, constants -/
def mVar (i : Nat) : Env → M D := fun Γ s => match Γ[i]? with
  | some (.dat d) => .ok d s
  | _ => .bad
/-- looked at, not handed on -/
def mPeek (i : Nat) : Env → M D := fun Γ s => match Γ[i]? with
  | some (.dat d) => .ok d s
  | some (.own ds) => .ok (.lst ds) s
  | _ => .bad
def mCon (d : D) : Env → M D := fun _ s => .ok d s
theorem de_var {i : Nat} {x : Str} (hN : X.N[i]? = some x) (hv : Vis X.env.scope x) (hd : (x == ("__debug__" : Str)) = false) (hcd : (x == ("__classdict__" : Str)) = false) : PEd X EX (.Name x pos) (mVar i) := by
  refine ⟨tVar i, pe_var hN hv hd hcd, fun B W Γ σ s Q sat sr p => ?_⟩
  unfold mVar at p
  split at p
  · rename_i d e
    obtain ⟨v, h1, r⟩ := sat.dat e
    exact ⟨v, h1, p W (Grow.refl W) sr v r⟩
  · exact p.elim
theorem dv_peek {i : Nat} {x : Str} (hN : X.N[i]? = some x) (hv : Vis X.env.scope x) (hd : (x == ("__debug__" : Str)) = false) (hcd : (x == ("__classdict__" : Str)) = false) : PVd X EX (.Name x pos) (mPeek i) := by
  refine ⟨tVar i, pe_var hN hv hd hcd, fun B W Γ σ s Q sat sr p => ?_⟩
  unfold mPeek at p
  split at p
  · rename_i d e
    obtain ⟨v, h1, r⟩ := sat.dat e
    exact ⟨v, h1, p W (Grow.refl W) sr v (.of r)⟩
  · rename_i ds e
    obtain ⟨o, h1, q, vs, h2, h3, h4, h5, h6, r⟩ := sat.slot e
    exact ⟨.ref q, by rw [h1, h2], p W (Grow.refl W) sr _ (.own h5 h3 r)⟩
  · exact p.elim
theorem de_con {d : D} {v : V} (h : PE X e (tC v)) (r : ∀ W, Rep X.K W d v) : PEd X EX e (mCon d) :=
  ⟨_, h, fun B W Γ σ s Q sat sr p => p W (Grow.refl W) sr v (r W)⟩
theorem de_int {i : Int} {k : Nat} : PEd X EX (.Constant (.int i) k pos) (mCon (.int i)) := de_con pe_int fun _ => .int i
theorem de_bl {i : Bool} {k : Nat} : PEd X EX (.Constant (.bool i) k pos) (mCon (.bl i)) := de_con pe_bl fun _ => .bl i
theorem de_str {i : Str} {k : Nat} : PEd X EX (.Constant (.str i) k pos) (mCon (.str i)) := de_con pe_str fun _ => .str i
theorem de_non {k : Nat} : PEd X EX (.Constant .none k pos) (mCon .non) := de_con pe_non fun _ => .non

/-! ### two operands -/
/-- a value operation is f on data -/
def OpD (K : PySem.W.Frag) (r : R2) (f : D → D → Option D) : Prop := ∀ (W : Wd) (s : Store) (d1 d2 d : D) (x y : V) (Q : VK), RepV K W d1 x → RepV K W d2 y → SRep K W s → f d1 d2 = some d →
  (∀ W' v, Grow W W' → SRep K W' s → Rep K W' d v → Q v W'.H) → r x y W.H Q
def mOp (f : D → D → Option D) (ma mb : Env → M D) : Env → M D := fun Γ s => (ma Γ s).bind fun d1 s1 => (mb Γ s1).bind fun d2 s2 => R.opt (f d1 d2) s2
theorem op_run {r : R2} {f : D → D → Option D} {ta tb : TE} {ma mb : Env → M D}
    (qa : ∀ B W Γ σ s Q, Sat X.K B W Γ σ → SRep X.K W s → Post X.K EX W (ma Γ s) (WantV X.K Q) → ta σ W.H Q) (qb : ∀ B W Γ σ s Q, Sat X.K B W Γ σ → SRep X.K W s → Post X.K EX W (mb Γ s) (WantV X.K Q) → tb σ W.H Q)
    (hr : OpD X.K r f) : ∀ B W Γ σ s Q, Sat X.K B W Γ σ → SRep X.K W s → Post X.K EX W (mOp f ma mb Γ s) (Want X.K Q) → tOp r ta tb σ W.H Q := fun B W Γ σ s Q sat sr p => by
  refine qa B W Γ σ s _ sat sr (Post.bind p fun d1 s1 W1 _ g1 sr1 p1 x rx => ?_)
  refine qb B W1 Γ σ s1 _ (sat.grow g1) sr1 (Post.bind p1 fun d2 s2 W2 _ g2 sr2 p2 y ry => ?_)
  obtain ⟨d, e, q⟩ := p2.opt
  exact hr W2 s2 d1 d2 d x y Q (rx.grow g2) ry sr2 e fun W' v g s' r => q W' g s' v r
theorem de_bin {op : Operator} {r : R2} {f : D → D → Option D} {ma mb : Env → M D} (ho : OpR X (binaryOp op) r) (hr : OpD X.K r f) (ha : PVd X EX a ma) (hb : PVd X EX b mb) : PEd X EX (.BinOp a op b pos) (mOp f ma mb) := by
  obtain ⟨ta, pa, qa⟩ := ha
  obtain ⟨tb, pb, qb⟩ := hb
  exact ⟨_, pe_op ho pa pb, op_run qa qb hr⟩
theorem de_cmp {op : CmpOp} {r : R2} {f : D → D → Option D} {ma mb : Env → M D} (ho : OpR X (compareOp op) r) (hr : OpD X.K r f) (hm : behindInMarks op b = false) (ha : PVd X EX a ma) (hb : PVd X EX b mb) : PEd X EX (.Compare a [op] [b] pos) (mOp f ma mb) := by
  obtain ⟨ta, pa, qa⟩ := ha
  obtain ⟨tb, pb, qb⟩ := hb
  exact ⟨_, pe_cmpR ho pa pb hm, op_run qa qb hr⟩
/-- one operand -/
def OpU (K : PySem.W.Frag) (r : V → Hp → VK → Prop) (f : D → Option D) : Prop := ∀ (W : Wd) (s : Store) (d1 d : D) (x : V) (Q : VK), RepV K W d1 x → SRep K W s → f d1 = some d →
  (∀ W' v, Grow W W' → SRep K W' s → Rep K W' d v → Q v W'.H) → r x W.H Q
def mOp1 (f : D → Option D) (ma : Env → M D) : Env → M D := fun Γ s => (ma Γ s).bind fun d1 s1 => R.opt (f d1) s1
theorem de_un {op : UnaryOp} {r : V → Hp → VK → Prop} {f : D → Option D} {ma : Env → M D} (ho : UnR X (unaryOp op) r) (hr : OpU X.K r f) (ha : PVd X EX a ma) : PEd X EX (.UnaryOp op a pos) (mOp1 f ma) := by
  obtain ⟨ta, pa, qa⟩ := ha
  refine ⟨_, pe_un ho pa, fun B W Γ σ s Q sat sr p => ?_⟩
  refine qa B W Γ σ s _ sat sr (Post.bind p fun d1 s1 W1 _ g1 sr1 p1 x rx => ?_)
  obtain ⟨d, e, q⟩ := p1.opt
  exact hr W1 s1 d1 d x Q rx sr1 e fun W' v g s' r => q W' g s' v r

/-! ### the operations -/
def fAdd : D → D → Option D
  | .int i, .int j => some (.int (i + j))
  | .bl b, .int j => some (.int (b2i b + j))
  | .str x, .str y => if x.length + y.length ≤ 100000 then some (.str (x ++ y)) else none
  | .lst xs, .lst ys => if xs.length + ys.length ≤ 100000 then some (.lst (xs ++ ys)) else none
  | .tup xs, .tup ys => if xs.length + ys.length ≤ 100000 then some (.tup (xs ++ ys)) else none
  | _, _ => none
def fSub : D → D → Option D
  | .int i, .int j => some (.int (i - j))
  | _, _ => none
def fMul : D → D → Option D
  | .int i, .int j => if i.natAbs.log2 + j.natAbs.log2 < 1000000 then some (.int (i * j)) else none
  | .lst xs, .int k => if -1000 ≤ k ∧ k ≤ 1000 ∧ xs.length ≤ 100 then some (.lst (List.replicate k.toNat xs).flatten) else none
  | .tup xs, .int k => if xs ≠ [] ∧ 2 ≤ k ∧ k ≤ 1000 ∧ xs.length ≤ 100 then some (.tup (List.replicate k.toNat xs).flatten) else none
  | _, _ => none
def fDiv : D → D → Option D
  | .int i, .int j => if 0 < j ∧ j.natAbs.log2 < 9000 then some (.int (i / j)) else if j ≠ 0 ∧ j.natAbs < 1073741824 then some (.int (i.fdiv j)) else none
  | _, _ => none
def fMod : D → D → Option D
  | .int i, .int j => if 0 < j then some (.int (i % j)) else if j ≠ 0 then some (.int (i.fmod j)) else none
  | _, _ => none
def fPow : D → D → Option D
  | .int i, .int j => if 0 ≤ j ∧ j ≤ 1000000 ∧ i.natAbs < 18446744073709551616 then some (.int (i ^ j.toNat)) else none
  | _, _ => none
end
theorem two_lst {K : PySem.W.Frag} {W : Wd} {s : Store} {xs : List D} {vs : List V} {p : Addr} (hp : W.H p = none) (sr : SRep K W s) (r : RepL K W xs vs) : Rep K (W.new p (.lst vs)) (.lst xs) (.ref p) :=
  .lst (show upd W.F p _ p = _ from upd_same) (r.grow (Grow.new hp sr))
theorem two_tup {K : PySem.W.Frag} {W : Wd} {s : Store} {xs : List D} {vs : List V} {p : Addr} {o : Obj} (to : TOb o) (hp : W.H p = none) (sr : SRep K W s) (r : RepL K W xs vs) : Rep K (W.new p (.frz o (.tup vs))) (.tup xs) (.ref p) :=
  .tup (.inl ⟨o, to, show upd W.F p _ p = _ from upd_same⟩) (r.grow (Grow.new hp sr))
theorem RepL.rep {K : PySem.W.Frag} {W : Wd} {xs : List D} {vs : List V} (r : RepL K W xs vs) : ∀ n : Nat, RepL K W (List.replicate n xs).flatten (List.replicate n vs).flatten
  | 0 => .nil
  | n + 1 => by
    rw [List.replicate_succ, List.replicate_succ, List.flatten_cons, List.flatten_cons]
    exact r.app (RepL.rep r n)
theorem RepL.nil_iff {K : PySem.W.Frag} {W : Wd} {xs : List D} {vs : List V} (r : RepL K W xs vs) : xs = [] ↔ vs = [] := by
  cases r <;> simp
section
variable {X : Cx}
theorem op_add_bi : OpR X (binaryOp .Add) (fun x y H Q => ∃ k i, x = .bl k ∧ y = .int i ∧ Q (.int (b2i k + i)) H) := by
  intro pins s σ H x y v u Q I rx ry h
  obtain ⟨k, i, rfl, rfl, q⟩ := h
  cases rx
  obtain ⟨t, rfl⟩ := ry
  exact PySem.IntBool.add_bool_int ⟨.int (b2i k + i), H, I.tok _, ⟨_, rfl⟩, q⟩
def rAddD (K : PySem.W.Frag) : R2 := fun x y H Q => (∃ k i, x = .bl k ∧ y = .int i ∧ Q (.int (b2i k + i)) H) ∨ rI0 (fun i j => .int (i + j)) x y H Q ∨ (∃ i j, x = .str i ∧ y = .str j ∧ i.length + j.length ≤ sizeLine ∧ Q (.str (i ++ j)) H) ∨ rCat x y H Q ∨ rCatF K x y H Q
theorem op_addD : OpR X (binaryOp .Add) (rAddD X.K) := op_add_bi.or (op_add.or (op_add_str.or (op_cat.or op_catF)))
theorem od_add (K : PySem.W.Frag) : OpD K (rAddD K) fAdd := fun W s d1 d2 d x y Q r1 r2 sr e q => by
  unfold fAdd at e
  split at e
  · cases e
    exact .inr (.inl ⟨_, _, r1.int, r2.int, q W _ (Grow.refl W) sr (.int _)⟩)
  · cases e
    exact .inl ⟨_, _, r1.bl, r2.int, q W _ (Grow.refl W) sr (.int _)⟩
  · split at e
    · cases e
      exact .inr (.inr (.inl ⟨_, _, r1.str, r2.str, Evl.sz_of (by assumption), q W _ (Grow.refl W) sr (.str _)⟩))
    · cases e
  · split at e
    · rename_i hl
      cases e
      obtain ⟨a1, v1, e1, h1, l1⟩ := r1.lst
      obtain ⟨a2, v2, e2, h2, l2⟩ := r2.lst
      have := l1.len
      have := l2.len
      exact .inr (.inr (.inr (.inl ⟨a1, a2, v1, v2, e1, e2, h1, h2, Evl.sz_of (by omega), fun p hp => q (W.new p (.lst (v1 ++ v2))) _ (Grow.new hp sr) (sr.new hp) (two_lst hp sr (l1.app l2))⟩)))
    · cases e
  · split at e
    · rename_i xs ys hl
      cases e
      obtain ⟨a1, v1, e1, h1, l1⟩ := r1.tup
      obtain ⟨a2, v2, e2, h2, l2⟩ := r2.tup
      have := l1.len
      have := l2.len
      refine .inr (.inr (.inr (.inr ⟨a1, a2, v1, v2, e1, e2, h1, h2, Evl.sz_of (by omega), fun z => ?_, fun _ z => ?_, fun _ _ p o to hp => q (W.new p (.frz o (.tup (v1 ++ v2)))) _ (Grow.new hp sr) (sr.new hp) (two_tup to hp sr (l1.app l2))⟩)))
      · have z1 := l1.nil_iff.mpr z
        subst z1
        cases r2 with
        | of r2 =>
          rw [← e2]
          rw [List.nil_append] at q
          exact q W y (Grow.refl W) sr r2
      · have z1 := l2.nil_iff.mpr z
        subst z1
        cases r1 with
        | of r1 =>
          rw [← e1]
          rw [List.append_nil] at q
          exact q W x (Grow.refl W) sr r1
    · cases e
  · cases e
theorem od_sub (K : PySem.W.Frag) : OpD K (rI0 fun i j => .int (i - j)) fSub := fun W s d1 d2 d x y Q r1 r2 sr e q => by
  unfold fSub at e
  split at e
  · cases e
    exact ⟨_, _, r1.int, r2.int, q W _ (Grow.refl W) sr (.int _)⟩
  · cases e
def rMulD (K : PySem.W.Frag) : R2 := fun x y H Q => rI CMulW (fun i j => .int (i * j)) x y H Q ∨ rRep x y H Q ∨ rRepF K x y H Q
theorem op_mulD : OpR X (binaryOp .Mult) (rMulD X.K) := op_mulW.or (op_rep.or op_repF)
theorem od_mul (K : PySem.W.Frag) : OpD K (rMulD K) fMul := fun W s d1 d2 d x y Q r1 r2 sr e q => by
  unfold fMul at e
  split at e
  · split at e
    · rename_i h
      cases e
      exact .inl ⟨_, _, r1.int, r2.int, h, q W _ (Grow.refl W) sr (.int _)⟩
    · cases e
  · split at e
    · rename_i xs k h
      cases e
      obtain ⟨a1, v1, e1, h1, l1⟩ := r1.lst
      have ll := l1.len
      refine .inr (.inl ⟨a1, k, v1, e1, r2.int, h1, by omega, by omega, Evl.sz_of ?_, fun p hp => q (W.new p (.lst (List.replicate k.toNat v1).flatten)) _ (Grow.new hp sr) (sr.new hp) (two_lst hp sr (l1.rep _))⟩)
      rw [← ll]
      exact Nat.le_trans (Nat.mul_le_mul h.2.2 (show k.toNat ≤ 1000 by omega)) (by decide)
    · cases e
  · split at e
    · rename_i xs k h
      cases e
      obtain ⟨a1, v1, e1, h1, l1⟩ := r1.tup
      have ll := l1.len
      exact .inr (.inr ⟨a1, k, v1, e1, r2.int, h1, fun z => h.1 (l1.nil_iff.mpr z), h.2.1, h.2.2.1, by omega, fun p o to hp => q (W.new p (.frz o (.tup (List.replicate k.toNat v1).flatten))) _ (Grow.new hp sr) (sr.new hp) (two_tup to hp sr (l1.rep _))⟩)
    · cases e
  · cases e
def rDivD : R2 := fun x y H Q => rI CDivW (fun i j => .int (i / j)) x y H Q ∨ rI CDivN (fun i j => .int (i.fdiv j)) x y H Q
theorem op_divD : OpR X (binaryOp .FloorDiv) rDivD := op_fdivW.or op_fdivN
theorem od_div (K : PySem.W.Frag) : OpD K rDivD fDiv := fun W s d1 d2 d x y Q r1 r2 sr e q => by
  unfold fDiv at e
  split at e
  · split at e
    · rename_i h
      cases e
      exact .inl ⟨_, _, r1.int, r2.int, h, q W _ (Grow.refl W) sr (.int _)⟩
    · split at e
      · rename_i h
        cases e
        exact .inr ⟨_, _, r1.int, r2.int, h, q W _ (Grow.refl W) sr (.int _)⟩
      · cases e
  · cases e
def rModD : R2 := fun x y H Q => rI (fun _ j => 0 < j) (fun i j => .int (i % j)) x y H Q ∨ rI (fun _ j => j ≠ 0) (fun i j => .int (i.fmod j)) x y H Q
theorem op_modD : OpR X (binaryOp .Mod) rModD := op_mod.or op_modN
theorem od_mod (K : PySem.W.Frag) : OpD K rModD fMod := fun W s d1 d2 d x y Q r1 r2 sr e q => by
  unfold fMod at e
  split at e
  · split at e
    · rename_i h
      cases e
      exact .inl ⟨_, _, r1.int, r2.int, h, q W _ (Grow.refl W) sr (.int _)⟩
    · split at e
      · rename_i h
        cases e
        exact .inr ⟨_, _, r1.int, r2.int, h, q W _ (Grow.refl W) sr (.int _)⟩
      · cases e
  · cases e
theorem od_pow (K : PySem.W.Frag) : OpD K (rI CPow fun i j => .int (i ^ j.toNat)) fPow := fun W s d1 d2 d x y Q r1 r2 sr e q => by
  unfold fPow at e
  split at e
  · split at e
    · rename_i h
      cases e
      exact ⟨_, _, r1.int, r2.int, h, q W _ (Grow.refl W) sr (.int _)⟩
    · cases e
  · cases e
def fNeg : D → Option D
  | .int i => some (.int (-i))
  | _ => none
theorem od_neg (K : PySem.W.Frag) : OpU K (rU fun i => .int (-i)) fNeg := fun W s d1 d x Q r1 sr e q => by
  unfold fNeg at e
  split at e
  · cases e
    exact ⟨_, r1.int, q W _ (Grow.refl W) sr (.int _)⟩
  · cases e

/-! ### comparisons -/
def fLt : D → D → Option D
  | .int i, .int j => some (.bl (decide (i < j)))
  | _, _ => none
def fLe : D → D → Option D
  | .int i, .int j => some (.bl (decide (i ≤ j)))
  | _, _ => none
def fGt : D → D → Option D
  | .int i, .int j => some (.bl (decide (j < i)))
  | _, _ => none
def fGe : D → D → Option D
  | .int i, .int j => some (.bl (decide (j ≤ i)))
  | _, _ => none
def fEq (a b : D) : Option D := if D.fine 60 a && D.fine 60 b then some (.bl (D.eqv a b)) else none
def fNe (a b : D) : Option D := if D.fine 60 a && D.fine 60 b then some (.bl (!D.eqv a b)) else none
def D.isN : D → Bool
  | .non => true
  | _ => false
def fIsN (a b : D) : Option D := match b with
  | .non => some (.bl a.isN)
  | _ => none
def fNotN (a b : D) : Option D := match b with
  | .non => some (.bl (!a.isN))
  | _ => none
theorem od_lt (K : PySem.W.Frag) : OpD K (rI0 fun i j => .bl (decide (i < j))) fLt := fun W s d1 d2 d x y Q r1 r2 sr e q => by
  unfold fLt at e
  split at e
  · cases e; exact ⟨_, _, r1.int, r2.int, q W _ (Grow.refl W) sr (.bl _)⟩
  · cases e
theorem od_le (K : PySem.W.Frag) : OpD K (rI0 fun i j => .bl (decide (i ≤ j))) fLe := fun W s d1 d2 d x y Q r1 r2 sr e q => by
  unfold fLe at e
  split at e
  · cases e; exact ⟨_, _, r1.int, r2.int, q W _ (Grow.refl W) sr (.bl _)⟩
  · cases e
theorem od_gt (K : PySem.W.Frag) : OpD K (rI0 fun i j => .bl (decide (j < i))) fGt := fun W s d1 d2 d x y Q r1 r2 sr e q => by
  unfold fGt at e
  split at e
  · cases e; exact ⟨_, _, r1.int, r2.int, q W _ (Grow.refl W) sr (.bl _)⟩
  · cases e
theorem od_ge (K : PySem.W.Frag) : OpD K (rI0 fun i j => .bl (decide (j ≤ i))) fGe := fun W s d1 d2 d x y Q r1 r2 sr e q => by
  unfold fGe at e
  split at e
  · cases e; exact ⟨_, _, r1.int, r2.int, q W _ (Grow.refl W) sr (.bl _)⟩
  · cases e
theorem od_eq (K : PySem.W.Frag) : OpD K (rEqD K) fEq := fun W s d1 d2 d x y Q r1 r2 sr e q => by
  unfold fEq at e
  split at e
  · rename_i h
    rw [Bool.and_eq_true] at h
    cases e
    refine ⟨_, _, r1.dp h.1, r2.dp h.2, D.fine_shaped h.1, D.fine_shaped h.2, ?_⟩
    rw [D.eqv_py _ _ _ _ h.1 h.2]
    exact q W _ (Grow.refl W) sr (.bl _)
  · cases e
theorem od_ne (K : PySem.W.Frag) : OpD K (rNeD K) fNe := fun W s d1 d2 d x y Q r1 r2 sr e q => by
  unfold fNe at e
  split at e
  · rename_i h
    rw [Bool.and_eq_true] at h
    cases e
    refine ⟨_, _, r1.dp h.1, r2.dp h.2, D.fine_shaped h.1, D.fine_shaped h.2, ?_⟩
    rw [D.eqv_py _ _ _ _ h.1 h.2]
    exact q W _ (Grow.refl W) sr (.bl _)
  · cases e
theorem rep_non {K : PySem.W.Frag} {W : Wd} {d : D} {v : V} (h : RepV K W d v) : decide (v = V.non) = d.isN := by
  cases h with
  | of h => cases h <;> simp [D.isN]
  | own _ _ _ => simp [D.isN]
theorem od_isN (K : PySem.W.Frag) : OpD K (fun x y H Q => y = .non ∧ Q (.bl (decide (x = .non))) H) fIsN := fun W s d1 d2 d x y Q r1 r2 sr e q => by
  unfold fIsN at e
  split at e
  · cases e
    refine ⟨r2.non, ?_⟩
    rw [rep_non r1]
    exact q W _ (Grow.refl W) sr (.bl _)
  · cases e
theorem od_notN (K : PySem.W.Frag) : OpD K (fun x y H Q => y = .non ∧ Q (.bl (!decide (x = .non))) H) fNotN := fun W s d1 d2 d x y Q r1 r2 sr e q => by
  unfold fNotN at e
  split at e
  · cases e
    refine ⟨r2.non, ?_⟩
    rw [rep_non r1]
    exact q W _ (Grow.refl W) sr (.bl _)
  · cases e
end
end PD
set_option maxRecDepth 100000
set_option maxHeartbeats 4000000
namespace PD
open PySem PySem.Spec PyProof.Rows L2

/-! ## lists and tuples alike -/
def SqB (l : Bool) (K : PySem.W.Frag) (H : Hp) (a : Addr) (xs : List V) : Prop := match l with
  | true => SqL K H a xs
  | false => SqT K H a xs
def IsSeqB (l : Bool) (h : Heap) (a : Addr) (items : Array Value) : Prop := match l with
  | true => h.IsList a items
  | false => h.IsTuple a items
def IterB (l : Bool) (h : Heap) (it a : Addr) (i : Nat) : Prop := match l with
  | true => h.IsListIter it a i
  | false => h.IsTupleIter it a i
theorem IterB.there {l : Bool} {h : Heap} {it a : Addr} {i : Nat} (x : IterB l h it a i) : ∃ o, h.get? it = some o ∧ ∀ v, o.data ≠ .cell v := by
  cases l with
  | true => obtain ⟨o, e, _, d⟩ := x; exact ⟨o, e, fun v q => by rw [d] at q; cases q⟩
  | false => obtain ⟨o, e, _, d⟩ := x; exact ⟨o, e, fun v q => by rw [d] at q; cases q⟩
theorem IterB.at' {l : Bool} {h h' : Heap} {it a : Addr} {i : Nat} (x : IterB l h it a i) (k : ∀ o, h.get? it = some o → h'.get? it = some o) : IterB l h' it a i := by
  cases l with
  | true => exact Heap.IsListIter.at x k
  | false => exact Heap.IsTupleIter.at x k
theorem inv_seq {l : Bool} {X : Cx} {pins : List (Addr × Obj)} {σ : L2.St} {H : Hp} {s : Shared} {a : Addr} {xs : List V} (I : Inv X pins σ H s) (h : SqB l X.K H a xs) : ∃ its : List Value, Vals xs its ∧ IsSeqB l s.heap a its.toArray := by
  cases l with
  | true => obtain ⟨its, r, p, _⟩ := I.list h; exact ⟨its, r, p.isList⟩
  | false => obtain ⟨its, r, p, _⟩ := I.tuple h; exact ⟨its, r, p⟩
theorem seq_inj {l : Bool} {X : Cx} {pins : List (Addr × Obj)} {σ : L2.St} {H : Hp} {s : Shared} {a : Addr} {xs ys : List V} (I : Inv X pins σ H s) (h : SqB l X.K H a xs) (h' : SqB l X.K H a ys) : xs = ys := by
  cases l with
  | true => exact I.list_inj h h'
  | false => exact I.tuple_inj h h'
theorem IsSeqB.lt {l : Bool} {h : Heap} {a : Addr} {items : Array Value} (x : IsSeqB l h a items) : a < h.objs.size := by
  cases l with
  | true => obtain ⟨o, e, _⟩ := x; exact Heap.lt_size e
  | false => obtain ⟨o, e, _⟩ := x; exact Heap.lt_size e
abbrev StB (l : Bool) (it a : Addr) (items : Array Value) : Nat → Heap → Prop := fun i h => IterB l h it a i ∧ IsSeqB l h a items
theorem draws_seq {prog : Program} {w : World} {A : Around} (l : Bool) (hh : A.handled = none) (it a : Addr) (hne : a ≠ it) (items : Array Value) :
    Draws prog w A it [it, a] items.size (fun i v => items[i]? = some v) (StB l it a items) := by
  cases l with
  | true => exact Draws.list hh it a hne items
  | false => exact Draws.tuple hh it a hne items
def objB (l : Bool) (a : Addr) : Obj := match l with
  | true => { cls := .type "list_iterator", data := .fields #[.ref a, .int 0 0] }
  | false => { cls := .type "tuple_iterator", data := .fields #[.ref a, .int 0 0] }
theorem begins_seq (l : Bool) (a : Addr) (items : Array Value) : Begins (.ref a) (objB l a) fun h => IsSeqB l h a items := by
  cases l with
  | true => exact begins_list a items
  | false => exact begins_tuple a items
theorem iter0 {l : Bool} {h : Heap} {it a : Addr} (e : h.get? it = some (objB l a)) : IterB l h it a 0 := by
  cases l with
  | true => exact ⟨_, e, rfl, rfl⟩
  | false => exact ⟨_, e, rfl, rfl⟩

/-! ## zip of two, any mix -/
def ItzB (l1 l2 : Bool) (K : PySem.W.Frag) (a b : Addr) : It :=
  ⟨fun i H => ∃ (xs ys : List V) (x y : V), SqB l1 K H a xs ∧ SqB l2 K H b ys ∧ xs[i]? = some x ∧ ys[i]? = some y,
    fun i H v H' => ∃ T x y ob, v = .ref T ∧ H T = none ∧ TOb ob ∧ H' = upd H T (.frz ob (.tup [x, y])) ∧ (∀ xs, SqB l1 K H a xs → xs[i]? = some x) ∧ ∀ ys, SqB l2 K H b ys → ys[i]? = some y,
    fun i H => ∃ xs ys : List V, SqB l1 K H a xs ∧ SqB l2 K H b ys ∧ i ≤ xs.length ∧ i ≤ ys.length ∧ (xs.length = i ∨ ys.length = i)⟩
theorem turn_zipB {P : Program} {w : World} {K : PySem.W.Frag} {elts : List Expr} {kk : Nat} {tpos : Pos} {l1 l2 : Bool} {a b z TI TO i1 i2 : Addr} (S : ZipSep2 z TI TO i1 i2 [i1, a] [i2, b]) (na : a ≠ i1) (nb : b ≠ i2) :
    Turn P w K (.Tuple elts kk tpos) (ItzB l1 l2 K a b) [z, TI, TO, i1, i2] z (fun i h => IsZip h z TI TO .none ∧ IsTupOf2 h TI (.ref i1) (.ref i2) ∧ (∃ x y, IsTupOf2 h TO x y) ∧ IterB l1 h i1 a i ∧ IterB l2 h i2 b i) where
  mem := by simp
  obj := fun i h st c hc => by
    obtain ⟨hz, hTI, ⟨x, y, hTO⟩, h1, h2⟩ := st
    have e' : c = z ∨ c = TI ∨ c = TO ∨ c = i1 ∨ c = i2 := by simpa using hc
    rcases e' with q | q | q | q | q
    · rw [q]; exact ⟨_, hz, fun v q => nomatch q⟩
    · rw [q]; exact ⟨_, hTI, fun v q => nomatch q⟩
    · rw [q]; exact ⟨_, hTO, fun v q => nomatch q⟩
    · rw [q]; exact h1.there
    · rw [q]; exact h2.there
  keep := fun i h h' st k => by
    obtain ⟨hz, hTI, ⟨x, y, hTO⟩, h1, h2⟩ := st
    exact ⟨k z (by simp) _ hz, k TI (by simp) _ hTI, ⟨x, y, k TO (by simp) _ hTO⟩, h1.at' fun o q => k i1 (by simp) o q, h2.at' fun o q => k i2 (by simp) o q⟩
  item := by
    intro X hP hw hK hc i pins s σ H E I hf st hg
    subst hP hw hK
    obtain ⟨hz, hTI, ⟨x0, y0, hTO⟩, h1, h2⟩ := st
    obtain ⟨xs, ys, x, y, hqx, hqy, hx, hy⟩ := hg
    obtain ⟨its, rv, p⟩ := inv_seq I hqx
    obtain ⟨its2, rv2, p2⟩ := inv_seq I hqy
    have hzl : z < s.heap.objs.size := Heap.lt_size hz
    have n1 : i < its.toArray.size := by rw [List.size_toArray, ← rv.length]; exact (List.getElem?_eq_some_iff.mp hx).1
    have n2 : i < its2.toArray.size := by rw [List.size_toArray, ← rv2.length]; exact (List.getElem?_eq_some_iff.mp hy).1
    have hh : X.A.handled = none := I.ok.hd hc
    refine wpAny_pyNext_zipD2_item S (draws_seq l1 (show X.A.in1.handled = none from hh) i1 a na its.toArray) (draws_seq l2 (show X.A.in1.handled = none from hh) i2 b nb its2.toArray) hz hTI hTO ⟨h1, p⟩ ⟨h2, p2⟩ n1 n2
      fun u u2 h' tk hu hu2 z' TO' st1 st2 hT hsz hk => ?_
    have hu : its[i]? = some u := by simpa using hu
    have hu2 : its2[i]? = some u2 := by simpa using hu2
    obtain ⟨u', q1, ru⟩ := rv.get hx
    obtain ⟨u2', q2, ru2⟩ := rv2.get hy
    rw [hu] at q1; cases q1
    rw [hu2] at q2; cases q2
    refine ⟨_, rfl, wpAny_letOwnedTupleGo_zip (s := { s with heap := h', toks := tk }) z' fun h'' z'' sb => ?_⟩
    have hT2 : h''.get? s.heap.objs.size = some { cls := .type "tuple", data := .seq #[u, u2] } := (sb.2 _ (Nat.ne_of_gt hzl)).trans hT
    have new : ObjOk X.prog X.w (upd H s.heap.objs.size (.frz (tuO [u, u2]) (.tup [x, y]))) h'' s.heap.objs.size (.frz (tuO [u, u2]) (.tup [x, y])) :=
      ⟨hT2, by show 2 ≤ sizeLine; decide, [u, u2], .cons ru (.cons ru2 .nil), ⟨_, hT2, rfl, _, rfl⟩⟩
    have I1 : Inv X pins σ (upd H s.heap.objs.size (.frz (tuO [u, u2]) (.tup [x, y]))) { s with heap := h'', toks := tk } :=
      I.turnedNew (t' := tk) (ch := [z, TI, TO, i1, i2]) (fun c o hb q => (sb.2 c (fun q' => hb (by simp [q']))).trans (hk c o (fun q' => hb (by simp [q'])) (fun q' => hb (by simp [q'])) (fun q' => hb (by simp [q'])) (fun q' => hb (by simp [q'])) q)) hf (Nat.le_refl _) new
    refine ⟨.ref s.heap.objs.size, _, I1, rfl, ⟨_, x, y, _, rfl, I.hok.fresh (Nat.le_refl _), tuO_ok _, rfl, fun l hl => by rw [seq_inj I hl hqx]; exact hx, fun l hl => by rw [seq_inj I hl hqy]; exact hy⟩, ⟨z'', ?_, ⟨u, u2, ?_⟩, ?_, ?_⟩, fun c hcm => ?_⟩
    · exact (sb.2 _ S.TIz).trans (hk _ _ S.TIz S.TITO S.TIi1 S.TIi2 hTI)
    · exact (sb.2 _ S.TOz).trans TO'
    · exact st1.1.at' fun o q => (sb.2 _ S.zi1.symm).trans q
    · exact st2.1.at' fun o q => (sb.2 _ S.zi2.symm).trans q
    · have hlt : c < s.heap.objs.size := by
        have e' : c = z ∨ c = TI ∨ c = TO ∨ c = i1 ∨ c = i2 := by simpa using hcm
        rcases e' with q | q | q | q | q
        · rw [q]; exact hzl
        · rw [q]; exact Heap.lt_size hTI
        · rw [q]; exact Heap.lt_size hTO
        · rw [q]; obtain ⟨_, e1, _⟩ := h1.there; exact Heap.lt_size e1
        · rw [q]; obtain ⟨_, e2, _⟩ := h2.there; exact Heap.lt_size e2
      rw [upd_ne (Nat.ne_of_lt hlt)]
      exact (hf c hcm).1
  done := by
    intro X hP hw hK hc i pins s σ H E I hf st hg
    subst hP hw hK
    obtain ⟨hz, hTI, ⟨x0, y0, hTO⟩, h1, h2⟩ := st
    obtain ⟨xs, ys, hqx, hqy, hle1, hle2, hend⟩ := hg
    obtain ⟨its, rv, p⟩ := inv_seq I hqx
    obtain ⟨its2, rv2, p2⟩ := inv_seq I hqy
    have hl1 := rv.length
    have hl2 := rv2.length
    have hh : X.A.handled = none := I.ok.hd hc
    refine wpAny_pyNext_zipD2_end S (draws_seq l1 (show X.A.in1.handled = none from hh) i1 a na its.toArray) (draws_seq l2 (show X.A.in1.handled = none from hh) i2 b nb its2.toArray) hz hTI hTO ⟨h1, p⟩ ⟨h2, p2⟩
      (by rw [List.size_toArray]; omega) (by rw [List.size_toArray]; omega) (by rw [List.size_toArray, List.size_toArray]; omega)
      fun h' tk hk => ⟨rfl, I.turnedL (t' := tk) (ch := [z, TI, TO, i1, i2]) (fun c o hb q =>
      hk c o (fun q' => hb (by simp [q'])) (fun q' => hb (by simp [q'])) (fun q' => hb (by simp [q'])) (fun q' => hb (by simp [q'])) q) hf⟩
  self := fun A i s Q E st h => wpAny_pyIter_zip st.1 h
def iZipB (K : PySem.W.Frag) (ta : TA) : TI := fun σ H R => ta σ H fun vs H1 => ∃ l1 l2 a b xs ys, vs = [.ref a, .ref b] ∧ SqB l1 K H1 a xs ∧ SqB l2 K H1 b ys ∧ R (ItzB l1 l2 K a b) H1
theorem pi_zipB {X : Cx} {e e2 : Expr} {ta : TA} {p pos tpos : Pos} {elts : List Expr} {kk : Nat} (hg : Gl X "zip") (hm : X.mg "zip" = none) (ha : PA X [e, e2] ta)
    (hs : starEach [e, e2] X.env = (false, eval e X.env) :: starEach [e2] X.env := by rfl) (hpl : (backTo pos (starEach [e2] X.env)).any (·.1) = false := by rfl) :
    PI X (.Tuple elts kk tpos) (.Call (.Name "zip" p) [e, e2] [] pos) (iZipB X.K ta) := by
  refine ⟨fun pins s σ H R I h => ?_⟩
  refine Call_ (ld_blt I hg hm PyProof.Rows.boot_zip (PyProof.Rows.callWith_type1 (thn (ha.run pos pins s σ H _ I h) fun us s1 ⟨vs, H1, I1, r1, q1⟩ => ?_) hs hpl))
  obtain ⟨l1, l2, a, b, xs, ys, ex, hqx, hqy, q⟩ := q1
  subst ex
  cases r1 with
  | cons r rr =>
    cases rr with
    | cons r' rr =>
      cases rr
      cases r
      cases r'
      obtain ⟨its, rv, p1⟩ := inv_seq I1 hqx
      obtain ⟨its2, rv2, p2⟩ := inv_seq I1 hqy
      have la := p1.lt
      have lb := p2.lt
      refine zip_begins2 (begins_seq l1 a its.toArray) (begins_seq l2 b its2.toArray) p1 p2 fun h' hz hTI hTO g1 g2 hsz hk => wpAny_pyIter_zip hz ?_
      have I2 : Inv X pins σ H1 { s1 with heap := h' } := I1.kept (t' := s1.toks) hk
      refine ⟨s1.heap.objs.size + 4, [s1.heap.objs.size + 4, s1.heap.objs.size + 2, s1.heap.objs.size + 3, s1.heap.objs.size, s1.heap.objs.size + 1], _, _, H1, rfl, I2,
        turn_zipB (l1 := l1) (l2 := l2) (a := a) (b := b) (zip_sep2 (N := s1.heap.objs.size) (fp1 := [a]) (fp2 := [b]) (fun c hc => by rw [List.mem_singleton.mp hc]; exact la) (fun c hc => by rw [List.mem_singleton.mp hc]; exact lb)) (Nat.ne_of_lt la) (Nat.ne_of_lt (Nat.lt_succ_of_lt lb)), ⟨hz, hTI, ⟨_, _, hTO⟩, iter0 g1, iter0 g2⟩, fun c hcm => ?_, q⟩
      have e' : c = s1.heap.objs.size + 4 ∨ c = s1.heap.objs.size + 2 ∨ c = s1.heap.objs.size + 3 ∨ c = s1.heap.objs.size ∨ c = s1.heap.objs.size + 1 := by simpa using hcm
      have hle : s1.heap.objs.size ≤ c := by
        rcases e' with z | z | z | z | z
        · rw [z]; exact Nat.le_add_right _ _
        · rw [z]; exact Nat.le_add_right _ _
        · rw [z]; exact Nat.le_add_right _ _
        · rw [z]; exact Nat.le_refl _
        · rw [z]; exact Nat.le_add_right _ _
      exact I1.fpOk hle (I1.hok.fresh hle)

/-! ## enumerate of a list or a tuple -/
def IteB (l : Bool) (K : PySem.W.Frag) (a : Addr) : It :=
  ⟨fun i H => ∃ (xs : List V) (x : V), SqB l K H a xs ∧ xs[i]? = some x, fun i H v H' => ∃ T x ob, v = .ref T ∧ H T = none ∧ TOb ob ∧ H' = upd H T (.frz ob (.tup [.int (i : Nat), x])) ∧ ∀ xs, SqB l K H a xs → xs[i]? = some x, fun i H => ∃ xs : List V, SqB l K H a xs ∧ xs.length = i⟩
theorem turn_enumB {P : Program} {w : World} {K : PySem.W.Frag} {elts : List Expr} {kk : Nat} {tpos : Pos} {l : Bool} (a e it : Addr) (na : a ≠ it) (ne : a ≠ e) :
    Turn P w K (.Tuple elts kk tpos) (IteB l K a) [e, it] e (fun i h => (∃ old, IsEnum h e it ((i : Nat) : Int) old) ∧ IterB l h it a i ∧ e ≠ it) where
  mem := by simp
  obj := fun i h st b hb => by
    obtain ⟨⟨old, he⟩, h1, _⟩ := st
    have e' : b = e ∨ b = it := by simpa using hb
    rcases e' with z | z
    · rw [z]; exact ⟨_, he, fun v q => nomatch q⟩
    · rw [z]; exact h1.there
  keep := fun i h h' st k => let ⟨⟨old, he⟩, hi, hne⟩ := st; ⟨⟨old, k e (by simp) _ he⟩, hi.at' fun o q => k it (by simp) o q, hne⟩
  item := by
    intro X hP hw hK hc i pins s σ H E I hf st hg
    subst hP hw hK
    obtain ⟨⟨old, he⟩, hit, hne⟩ := st
    obtain ⟨xs, x, hq, hx⟩ := hg
    obtain ⟨its, rv, p⟩ := inv_seq I hq
    have hel : e < s.heap.objs.size := Heap.lt_size he
    have hil : it < s.heap.objs.size := by obtain ⟨_, q, _⟩ := hit.there; exact Heap.lt_size q
    have n1 : i < its.toArray.size := by rw [List.size_toArray, ← rv.length]; exact (List.getElem?_eq_some_iff.mp hx).1
    have hh : X.A.handled = none := I.ok.hd hc
    refine wpAny_pyNext_enum_itemD (draws_seq l (show X.A.in1.handled = none from hh) it a na its.toArray) he ⟨hit, p⟩ n1 hne (by simp [hne, ne.symm]) fun u h' tk hu ho st' hT hsz hk => ?_
    have hu : its[i]? = some u := by simpa using hu
    obtain ⟨u', q1, ru⟩ := rv.get hx
    rw [hu] at q1; cases q1
    refine ⟨_, rfl, wpAny_letOwnedTupleGo_enum (s := { s with heap := h', toks := tk + 1 }) ho fun h'' he' sb => ?_⟩
    have hT2 : h''.get? s.heap.objs.size = some { cls := .type "tuple", data := .seq #[.int i tk, u] } := (sb.2 _ (Nat.ne_of_gt hel)).trans hT
    have new : ObjOk X.prog X.w (upd H s.heap.objs.size (.frz (tuO [.int i tk, u]) (.tup [.int (i : Nat), x]))) h'' s.heap.objs.size (.frz (tuO [.int i tk, u]) (.tup [.int (i : Nat), x])) :=
      ⟨hT2, by show 2 ≤ sizeLine; decide, [.int i tk, u], .cons ⟨_, rfl⟩ (.cons ru .nil), ⟨_, hT2, rfl, _, rfl⟩⟩
    have I1 : Inv X pins σ (upd H s.heap.objs.size (.frz (tuO [.int i tk, u]) (.tup [.int (i : Nat), x]))) { s with heap := h'', toks := tk + 1 } :=
      I.turnedNew (ch := [e, it]) (fun b ob hb q => (sb.2 b (fun z => hb (by simp [z]))).trans (hk b ob (fun z => hb (by simp [z])) (fun z => hb (by simp [z])) q)) hf (Nat.le_refl _) new
    refine ⟨.ref s.heap.objs.size, _, I1, rfl, ⟨_, x, _, rfl, I.hok.fresh (Nat.le_refl _), tuO_ok _, rfl, fun ys hy => by rw [seq_inj I hy hq]; exact hx⟩, ⟨⟨u, ?_⟩, st'.1.at' fun o q => (sb.2 it (Ne.symm hne)).trans q, hne⟩, fun b hb => ?_⟩
    · have e1 : ((i + 1 : Nat) : Int) = (i : Int) + 1 := by omega
      rw [e1]; exact he'
    · have hb' : b < s.heap.objs.size := by
        have e' : b = e ∨ b = it := by simpa using hb
        rcases e' with z | z
        · rw [z]; exact hel
        · rw [z]; exact hil
      rw [upd_ne (Nat.ne_of_lt hb')]
      exact (hf b hb).1
  done := by
    intro X hP hw hK hc i pins s σ H E I hf st hg
    subst hP hw hK
    obtain ⟨⟨old, he⟩, hit, hne⟩ := st
    obtain ⟨xs, hq, hx⟩ := hg
    obtain ⟨its, rv, p⟩ := inv_seq I hq
    obtain ⟨f0, f1, f2, f3, f4, f5⟩ := hf it (by simp)
    have hl := rv.length
    have hh : X.A.handled = none := I.ok.hd hc
    have en : i = its.toArray.size := by rw [List.size_toArray]; omega
    subst en
    exact wpAny_pyNext_enum_endD (draws_seq l (show X.A.in1.handled = none from hh) it a na its.toArray) he ⟨hit, p⟩ fun h' eb => ⟨rfl, I.turned (t' := s.toks) (fun b o hb q => eb b o hb q) f0 f1 f3 f4 f5⟩
  self := fun A i s Q E st h => let ⟨⟨_, he⟩, _⟩ := st; wpAny_pyIter_enum he h
set_option maxHeartbeats 1000000 in
theorem meets_enumerate_newB1 {v : Value} {o : Obj} {H : Heap → Prop} (B : Begins v o H) :
    Meets (Builtin.«enumerate.__new__» ⟨[.type "enumerate", v], []⟩) (fun _ R s => H s.heap ∧
      R (.ok (.ret (.ref (s.heap.push o).objs.size))) { s with heap := (s.heap.push o).push { cls := .type "enumerate", data := .fields #[.none, .bool false, .ref s.heap.objs.size, rawInt 0, .none, .none] } }) :=
  .of_wp fun prog w A R s h => by
    obtain ⟨hp, g, d, tk, os⟩ := s; obtain ⟨h1, h⟩ := h
    have hsub := sub_enumerate
    have q1 : ∀ {A' : Around} {E : Value → Shared → Prop} {Q : Value → Shared → Prop}, Q (.ref hp.objs.size) ⟨hp.push o, g, d, tk, os⟩ → wpAny (model prog w) A' (pyIter v) Q E ⟨hp, g, d, tk, os⟩ :=
      fun q => B.iter prog w _ _ ⟨hp, g, d, tk, os⟩ _ h1 q
    wp_walk using q1
    refine wpAny_stack_any fun st => wpAny_pure ?_
    split
    · rename_i c _ _ _ _ _
      cases (c == Value.type "enumerate")
      · wp_walk using q1
        exact ⟨_, rfl, h⟩
      · wp_walk using q1
        exact ⟨_, rfl, h⟩
    · wp_walk using q1
      exact ⟨_, rfl, h⟩
theorem enum_begins1 {prog : Program} {w : World} {A : Around} {E : Value → Shared → Prop} {s : Shared} {v : Value} {o : Obj} {H : Heap → Prop} {Q : Value → Shared → Prop} (B : Begins v o H) (h1 : H s.heap)
    (h : ∀ h', IsEnum h' (s.heap.objs.size + 1) s.heap.objs.size 0 .none → h'.get? s.heap.objs.size = some o → h'.objs.size = s.heap.objs.size + 2 →
      (∀ b o, s.heap.get? b = some o → h'.get? b = some o) → Q (.ref (s.heap.objs.size + 1)) { s with heap := h' }) :
    wpAny (model prog w) A (call (.type "enumerate") [v]) Q E s := by
  refine callType_new F.called_enumerate (by decide) (F.typeCall_enumerate_1 _) (F.newCall_enumerate_1 _) (fun obj => F.args_object_init_2 obj _) F.entry_enumerate_new
    (meets_enumerate_newB1 B) ⟨h1, ?_⟩
  have hz : (s.heap.push o).objs.size = s.heap.objs.size + 1 := Heap.size_push ..
  show _ ∧ _
  rw [hz]
  have he : IsEnum ((s.heap.push o).push { cls := .type "enumerate", data := .fields #[.none, .bool false, .ref s.heap.objs.size, rawInt 0, .none, .none] }) (s.heap.objs.size + 1) s.heap.objs.size 0 .none := by
    have := Heap.get?_push_size (s.heap.push o) (o := { cls := .type "enumerate", data := .fields #[.none, .bool false, .ref s.heap.objs.size, rawInt 0, .none, .none] }) rfl
    rw [hz] at this; exact this
  refine ⟨⟨_, he, rfl⟩, h _ he (Heap.get?_push_of_some _ (Heap.get?_push_size _ B.free)) (by rw [Heap.size_push, hz]) fun b o x => Heap.get?_push_of_some _ (Heap.get?_push_of_some _ x)⟩
def iEnumB (K : PySem.W.Frag) (ta : TA) : TI := fun σ H R => ta σ H fun vs H1 => ∃ l a xs, vs = [.ref a] ∧ SqB l K H1 a xs ∧ R (IteB l K a) H1
theorem pi_enumB {X : Cx} {e : Expr} {ta : TA} {p pos tpos : Pos} {elts : List Expr} {kk : Nat} (hg : Gl X "enumerate") (hm : X.mg "enumerate" = none) (ha : PA X [e] ta) (hs : starEach [e] X.env = [(false, eval e X.env)] := by rfl) :
    PI X (.Tuple elts kk tpos) (.Call (.Name "enumerate" p) [e] [] pos) (iEnumB X.K ta) := by
  refine ⟨fun pins s σ H R I h => ?_⟩
  refine Call_ (ld_blt I hg hm boot_enumerate (PyProof.Rows.callWith_type1 (thn (ha.run pos pins s σ H _ I h) fun us s1 ⟨vs, H1, I1, r1, q1⟩ => ?_) hs rfl))
  obtain ⟨l, a, xs, ex, hq, q⟩ := q1
  subst ex
  cases r1 with
  | cons r rr =>
    cases rr
    cases r
    obtain ⟨its, rv, p'⟩ := inv_seq I1 hq
    have la := p'.lt
    refine enum_begins1 (begins_seq l a its.toArray) p' fun h' he g1 hsz hk => wpAny_pyIter_enum he ?_
    have I2 : Inv X pins σ H1 { s1 with heap := h' } := I1.kept (t' := s1.toks) hk
    refine ⟨s1.heap.objs.size + 1, [s1.heap.objs.size + 1, s1.heap.objs.size], _, _, H1, rfl, I2, turn_enumB (l := l) a (s1.heap.objs.size + 1) s1.heap.objs.size (Nat.ne_of_lt la) (Nat.ne_of_lt (Nat.lt_succ_of_lt la)), ⟨⟨.none, he⟩, iter0 g1, Nat.succ_ne_self _⟩, fun b hb => ?_, q⟩
    have e' : b = s1.heap.objs.size + 1 ∨ b = s1.heap.objs.size := by simpa using hb
    have hle : s1.heap.objs.size ≤ b := by
      rcases e' with z | z
      · rw [z]; exact Nat.le_add_right _ _
      · rw [z]; exact Nat.le_refl _
    exact I1.fpOk hle (I1.hok.fresh hle)
end PD
set_option maxRecDepth 100000
set_option maxHeartbeats 4000000
namespace PD
open PySem PySem.Spec PyProof.Rows L2
section
variable {X : Cx} {EX : XK} {a b c e : Expr} {pos : Pos} {rest es : List Expr}

/-! ### tests -/
def toB : D → Store → R Bool
  | .bl b, s => .ok b s
  | _, _ => .bad
def mTest (m : Env → M D) : Env → M Bool := fun Γ s => (m Γ s).bind toB
def mNotT (m : Env → M Bool) : Env → M Bool := fun Γ s => (m Γ s).bind fun b s1 => .ok (!b) s1
def mAndT (m n : Env → M Bool) : Env → M Bool := fun Γ s => (m Γ s).bind fun b s1 => match b with
  | true => n Γ s1
  | false => .ok false s1
def mOrT (m n : Env → M Bool) : Env → M Bool := fun Γ s => (m Γ s).bind fun b s1 => match b with
  | true => .ok true s1
  | false => n Γ s1
theorem test_run {t : TE} {m : Env → M D} (q : ∀ B W Γ σ s Q, Sat X.K B W Γ σ → SRep X.K W s → Post X.K EX W (m Γ s) (Want X.K Q) → t σ W.H Q) :
    ∀ B W Γ σ s Q, Sat X.K B W Γ σ → SRep X.K W s → Post X.K EX W (mTest m Γ s) (WantB Q) → tB t σ W.H Q := fun B W Γ σ s Q sat sr p => by
  refine q B W Γ σ s _ sat sr (Post.bind p fun d s1 W1 _ g sr1 p1 v r => ?_)
  cases d with
  | bl b =>
    cases r
    exact ⟨b, rfl, p1 W1 (Grow.refl W1) sr1⟩
  | _ => exact p1.elim
theorem dt_cmp {op : CmpOp} {r : R2} {f : D → D → Option D} {ma mb : Env → M D} (ho : OpR X (compareOp op) r) (hr : OpD X.K r f) (hm : behindInMarks op b = false) (ha : PVd X EX a ma) (hb : PVd X EX b mb) : PTd X EX (.Compare a [op] [b] pos) (mTest (mOp f ma mb)) := by
  obtain ⟨ta, pa, qa⟩ := ha
  obtain ⟨tb, pb, qb⟩ := hb
  exact ⟨_, pt_cmpR ho pa pb hm, test_run (op_run qa qb hr)⟩
theorem dt_val {m : Env → M D} (h : PEd X EX e m) (he : ∀ whole, isTrue e X.env whole = (do let v ← whole; standAt e.pos; holding [v] (truthy v))) : PTd X EX e (mTest m) := by
  obtain ⟨t, p, q⟩ := h
  exact ⟨_, pt_val p he, test_run q⟩
theorem dt_not {m : Env → M Bool} (h : PTd X EX a m) : PTd X EX (.UnaryOp .Not a pos) (mNotT m) := by
  obtain ⟨t, p, q⟩ := h
  exact ⟨_, pt_not p, fun B W Γ σ s Q sat sr pp => q B W Γ σ s _ sat sr (Post.bind pp fun b s1 W1 _ g sr1 p1 => p1 W1 (Grow.refl W1) sr1)⟩
theorem dw_and1 {m : Env → M Bool} (h : PTd X EX a m) : PWd X EX (.BoolOp .And [a] pos) m := by
  obtain ⟨t, p, q⟩ := h
  exact ⟨_, pw_and1 p, q⟩
theorem dw_or1 {m : Env → M Bool} (h : PTd X EX a m) : PWd X EX (.BoolOp .Or [a] pos) m := by
  obtain ⟨t, p, q⟩ := h
  exact ⟨_, pw_or1 p, q⟩
theorem dw_and {m n : Env → M Bool} (h : PTd X EX a m) (h2 : PWd X EX (.BoolOp .And (b :: rest) pos) n) : PWd X EX (.BoolOp .And (a :: b :: rest) pos) (mAndT m n) := by
  obtain ⟨t, p, q⟩ := h
  obtain ⟨t2, p2, q2⟩ := h2
  refine ⟨_, pw_and p p2, fun B W Γ σ s Q sat sr pp => q B W Γ σ s _ sat sr (Post.bind pp fun b s1 W1 _ g sr1 p1 => ?_)⟩
  cases b with
  | true => exact q2 B W1 Γ σ s1 Q (sat.grow g) sr1 p1
  | false => exact p1 W1 (Grow.refl W1) sr1
theorem dw_or {m n : Env → M Bool} (h : PTd X EX a m) (h2 : PWd X EX (.BoolOp .Or (b :: rest) pos) n) : PWd X EX (.BoolOp .Or (a :: b :: rest) pos) (mOrT m n) := by
  obtain ⟨t, p, q⟩ := h
  obtain ⟨t2, p2, q2⟩ := h2
  refine ⟨_, pw_or p p2, fun B W Γ σ s Q sat sr pp => q B W Γ σ s _ sat sr (Post.bind pp fun b s1 W1 _ g sr1 p1 => ?_)⟩
  cases b with
  | false => exact q2 B W1 Γ σ s1 Q (sat.grow g) sr1 p1
  | true => exact p1 W1 (Grow.refl W1) sr1

/-! ### truth values, conditional expressions -/
def mAndV (m n : Env → M D) : Env → M D := fun Γ s => (m Γ s).bind fun d s1 => match d with
  | .bl true => n Γ s1
  | .bl false => .ok (.bl false) s1
  | _ => .bad
def mOrV (m n : Env → M D) : Env → M D := fun Γ s => (m Γ s).bind fun d s1 => match d with
  | .bl false => n Γ s1
  | .bl true => .ok (.bl true) s1
  | _ => .bad
def mNotV (m : Env → M D) : Env → M D := fun Γ s => (m Γ s).bind fun d s1 => match d with
  | .bl b => .ok (.bl (!b)) s1
  | _ => .bad
def mIte (c : Env → M Bool) (m n : Env → M D) : Env → M D := fun Γ s => (c Γ s).bind fun b s1 => match b with
  | true => m Γ s1
  | false => n Γ s1
theorem de_one {op : BoolOp} {m : Env → M D} (h : PEd X EX a m) : PEd X EX (.BoolOp op [a] pos) m := by
  obtain ⟨t, p, q⟩ := h
  exact ⟨_, pe_one p, q⟩
theorem de_and {m n : Env → M D} (h : PEd X EX a m) (h2 : PEd X EX (.BoolOp .And (b :: rest) pos) n) : PEd X EX (.BoolOp .And (a :: b :: rest) pos) (mAndV m n) := by
  obtain ⟨t, p, q⟩ := h
  obtain ⟨t2, p2, q2⟩ := h2
  refine ⟨_, pe_and p p2, fun B W Γ σ s Q sat sr pp => q B W Γ σ s _ sat sr (Post.bind pp fun d s1 W1 _ g sr1 p1 v r => ?_)⟩
  cases d with
  | bl b =>
    cases r
    cases b with
    | true => exact ⟨true, rfl, q2 B W1 Γ σ s1 Q (sat.grow g) sr1 p1⟩
    | false => exact ⟨false, rfl, p1 W1 (Grow.refl W1) sr1 _ (.bl _)⟩
  | _ => exact p1.elim
theorem de_or {m n : Env → M D} (h : PEd X EX a m) (h2 : PEd X EX (.BoolOp .Or (b :: rest) pos) n) : PEd X EX (.BoolOp .Or (a :: b :: rest) pos) (mOrV m n) := by
  obtain ⟨t, p, q⟩ := h
  obtain ⟨t2, p2, q2⟩ := h2
  refine ⟨_, pe_or p p2, fun B W Γ σ s Q sat sr pp => q B W Γ σ s _ sat sr (Post.bind pp fun d s1 W1 _ g sr1 p1 v r => ?_)⟩
  cases d with
  | bl b =>
    cases r
    cases b with
    | false => exact ⟨false, rfl, q2 B W1 Γ σ s1 Q (sat.grow g) sr1 p1⟩
    | true => exact ⟨true, rfl, p1 W1 (Grow.refl W1) sr1 _ (.bl _)⟩
  | _ => exact p1.elim
theorem de_not {m : Env → M D} (h : PEd X EX a m) : PEd X EX (.UnaryOp .Not a pos) (mNotV m) := by
  obtain ⟨t, p, q⟩ := h
  refine ⟨_, pe_not p, fun B W Γ σ s Q sat sr pp => q B W Γ σ s _ sat sr (Post.bind pp fun d s1 W1 _ g sr1 p1 v r => ?_)⟩
  cases d with
  | bl b =>
    cases r
    exact ⟨b, rfl, p1 W1 (Grow.refl W1) sr1 _ (.bl _)⟩
  | _ => exact p1.elim
theorem de_ite {mc : Env → M Bool} {m n : Env → M D} (hc : PTd X EX c mc) (ha : PEd X EX a m) (hb : PEd X EX b n) : PEd X EX (.IfExp c a b pos) (mIte mc m n) := by
  obtain ⟨t, p, q⟩ := hc
  obtain ⟨ta, pa, qa⟩ := ha
  obtain ⟨tb, pb, qb⟩ := hb
  refine ⟨_, pe_ifExp p pa pb, fun B W Γ σ s Q sat sr pp => q B W Γ σ s _ sat sr (Post.bind pp fun b s1 W1 _ g sr1 p1 => ?_)⟩
  cases b with
  | true => exact qa B W1 Γ σ s1 Q (sat.grow g) sr1 p1
  | false => exact qb B W1 Γ σ s1 Q (sat.grow g) sr1 p1
theorem dv_ite {mc : Env → M Bool} {m n : Env → M D} (hc : PTd X EX c mc) (ha : PVd X EX a m) (hb : PVd X EX b n) : PVd X EX (.IfExp c a b pos) (mIte mc m n) := by
  obtain ⟨t, p, q⟩ := hc
  obtain ⟨ta, pa, qa⟩ := ha
  obtain ⟨tb, pb, qb⟩ := hb
  refine ⟨_, pe_ifExp p pa pb, fun B W Γ σ s Q sat sr pp => q B W Γ σ s _ sat sr (Post.bind pp fun b s1 W1 _ g sr1 p1 => ?_)⟩
  cases b with
  | true => exact qa B W1 Γ σ s1 Q (sat.grow g) sr1 p1
  | false => exact qb B W1 Γ σ s1 Q (sat.grow g) sr1 p1
/-- a < b < c -/
def mChain (f f' : D → D → Option D) (ma mb mc : Env → M D) : Env → M D := fun Γ s => (ma Γ s).bind fun d1 s1 => (mb Γ s1).bind fun d2 s2 => match f d1 d2 with
  | some (.bl true) => (mc Γ s2).bind fun d3 s3 => R.opt (f' d2 d3) s3
  | some (.bl false) => .ok (.bl false) s2
  | _ => .bad
theorem chain_run {r r' : R2} {f f' : D → D → Option D} {ta tb tc : TE} {ma mb mc : Env → M D}
    (qa : ∀ B W Γ σ s Q, Sat X.K B W Γ σ → SRep X.K W s → Post X.K EX W (ma Γ s) (WantV X.K Q) → ta σ W.H Q) (qb : ∀ B W Γ σ s Q, Sat X.K B W Γ σ → SRep X.K W s → Post X.K EX W (mb Γ s) (WantV X.K Q) → tb σ W.H Q)
    (qc : ∀ B W Γ σ s Q, Sat X.K B W Γ σ → SRep X.K W s → Post X.K EX W (mc Γ s) (WantV X.K Q) → tc σ W.H Q)
    (hr : OpD X.K r f) (hr' : OpD X.K r' f') : ∀ B W Γ σ s Q, Sat X.K B W Γ σ → SRep X.K W s → Post X.K EX W (mChain f f' ma mb mc Γ s) (Want X.K Q) → tChain r r' ta tb tc σ W.H Q := fun B W Γ σ s Q sat sr p => by
  refine qa B W Γ σ s _ sat sr (Post.bind p fun d1 s1 W1 _ g1 sr1 p1 x rx => ?_)
  refine qb B W1 Γ σ s1 _ (sat.grow g1) sr1 (Post.bind p1 fun d2 s2 W2 _ g2 sr2 p2 y ry => ?_)
  cases hf : f d1 d2 with
  | none => rw [hf] at p2; exact p2.elim
  | some d =>
    rw [hf] at p2
    refine hr W2 s2 d1 d2 d x y _ (rx.grow g2) ry sr2 hf fun W3 v g3 sr3 rv => ?_
    cases d with
    | bl k =>
      cases rv
      cases k with
      | true =>
        refine ⟨true, rfl, ?_⟩
        show tc σ W3.H _
        refine qc B W3 Γ σ s2 _ (((sat.grow g1).grow g2).grow g3) sr3 (Post.bind (Post.grow g3 p2) fun d3 s3 W4 _ g4 sr4 p3 z rz => ?_)
        obtain ⟨d', e', q⟩ := p3.opt
        exact hr' W4 s3 d2 d3 d' y z Q ((ry.grow g3).grow g4) rz sr4 e' fun W' v g s' r => q W' g s' v r
      | false => exact ⟨false, rfl, p2 W3 g3 sr3 _ (.bl _)⟩
    | _ => exact p2.elim
theorem de_chain {op op' : CmpOp} {r r' : R2} {f f' : D → D → Option D} {ma mb mc : Env → M D} (ho : OpR X (compareOp op) r) (ho' : OpR X (compareOp op') r') (hr : OpD X.K r f) (hr' : OpD X.K r' f')
    (ha : PVd X EX a ma) (hb : PVd X EX b mb) (hc : PVd X EX c mc) (hm : lastMarks [op, op'] [b, c] = false) : PEd X EX (.Compare a [op, op'] [b, c] pos) (mChain f f' ma mb mc) := by
  obtain ⟨ta, pa, qa⟩ := ha
  obtain ⟨tb, pb, qb⟩ := hb
  obtain ⟨tc, pc, qc⟩ := hc
  exact ⟨_, pe_chain ho ho' pa pb pc (hm := hm), chain_run qa qb qc hr hr'⟩
theorem dt_chain {op op' : CmpOp} {r r' : R2} {f f' : D → D → Option D} {ma mb mc : Env → M D} (ho : OpR X (compareOp op) r) (ho' : OpR X (compareOp op') r') (hr : OpD X.K r f) (hr' : OpD X.K r' f')
    (ha : PVd X EX a ma) (hb : PVd X EX b mb) (hc : PVd X EX c mc) (hm : lastMarks [op, op'] [b, c] = false) : PTd X EX (.Compare a [op, op'] [b, c] pos) (mTest (mChain f f' ma mb mc)) := by
  obtain ⟨ta, pa, qa⟩ := ha
  obtain ⟨tb, pb, qb⟩ := hb
  obtain ⟨tc, pc, qc⟩ := hc
  exact ⟨_, pt_chain ho ho' pa pb pc (hm := hm), test_run (chain_run qa qb qc hr hr')⟩

/-! ### arguments, displays -/
def mNil : Env → M (List D) := fun _ s => .ok [] s
def mCons (m : Env → M D) (ms : Env → M (List D)) : Env → M (List D) := fun Γ s => (m Γ s).bind fun d s1 => (ms Γ s1).bind fun ds s2 => .ok (d :: ds) s2
theorem da_nil : PAd X EX [] mNil := ⟨_, pa_nil, fun B W Γ σ s Q sat sr p => p W (Grow.refl W) sr [] .nil⟩
theorem da_cons {m : Env → M D} {ms : Env → M (List D)} (h : PEd X EX e m) (hs : PAd X EX es ms) (hst : starEach (e :: es) X.env = (false, eval e X.env) :: starEach es X.env) : PAd X EX (e :: es) (mCons m ms) := by
  obtain ⟨t, p, q⟩ := h
  obtain ⟨t2, p2, q2⟩ := hs
  refine ⟨_, pa_cons p p2 hst, fun B W Γ σ s Q sat sr pp => q B W Γ σ s _ sat sr (Post.bind pp fun d s1 W1 _ g1 sr1 p1 v r => ?_)⟩
  exact q2 B W1 Γ σ s1 _ (sat.grow g1) sr1 (Post.bind p1 fun ds s2 W2 _ g2 sr2 pp2 vs rs => pp2 W2 (Grow.refl W2) sr2 _ (.cons (r.grow g2) rs))
def few (f : List D → D) (ds : List D) : Option D := if ds.length ≤ 100000 then some (f ds) else none
def mTup (ms : Env → M (List D)) : Env → M D := fun Γ s => (ms Γ s).bind fun ds s1 => R.opt (few .tup ds) s1
def mLst (ms : Env → M (List D)) : Env → M D := fun Γ s => (ms Γ s).bind fun ds s1 => R.opt (few .lst ds) s1
theorem few_some {f : List D → D} {ds : List D} {d : D} (h : few f ds = some d) : ds.length ≤ 100000 ∧ d = f ds := by
  unfold few at h
  split at h
  · cases h; exact ⟨by assumption, rfl⟩
  · cases h
theorem de_tup {ms : Env → M (List D)} {k : Nat} (h : PAd X EX es ms) : PEd X EX (.Tuple es k pos) (mTup ms) := by
  obtain ⟨t, p, q⟩ := h
  refine ⟨_, pe_tupF p, fun B W Γ σ s Q sat sr pp => q B W Γ σ s _ sat sr (Post.bind pp fun ds s1 W1 _ g1 sr1 p1 vs rs => ?_)⟩
  obtain ⟨d, e, w⟩ := p1.opt
  obtain ⟨hl, rfl⟩ := few_some e
  exact ⟨Evl.sz_of (by rw [← rs.len]; exact hl), fun p o to hp => w (W1.new p (.frz o (.tup vs))) (Grow.new hp sr1) (sr1.new hp) _ (two_tup to hp sr1 rs)⟩
theorem de_lst {ms : Env → M (List D)} (h : PAd X EX es ms) : PEd X EX (.List es pos) (mLst ms) := by
  obtain ⟨t, p, q⟩ := h
  refine ⟨_, pe_lst p, fun B W Γ σ s Q sat sr pp => q B W Γ σ s _ sat sr (Post.bind pp fun ds s1 W1 _ g1 sr1 p1 vs rs => ?_)⟩
  obtain ⟨d, e, w⟩ := p1.opt
  obtain ⟨hl, rfl⟩ := few_some e
  exact ⟨Evl.sz_of (by rw [← rs.len]; exact hl), fun p hp => w (W1.new p (.lst vs)) (Grow.new hp sr1) (sr1.new hp) _ (two_lst hp sr1 rs)⟩

/-! ### subscripts, slices -/
/-- a list that lies in the store -/
def Store.lstAt (s : Store) (i : Nat) : D := match s[i]? with
  | some (.lst ds) => .lst ds
  | _ => .cel i
def Store.deref (s : Store) : D → D
  | .cel i => s.lstAt i
  | d => d
def fIx (a b : D) : Option D := match b with
  | .int i => (match a with
    | .lst xs => atI xs i
    | .tup xs => atI xs i
    | .scr ns => (atI ns i).map D.int
    | .str z => if z.length ≤ 100000 then (atI z.cps.toList i).map fun c => .str ⟨#[c]⟩ else none
    | _ => none)
  | _ => none
def mIx (ma mb : Env → M D) : Env → M D := fun Γ s => (ma Γ s).bind fun d1 s1 => (mb Γ s1).bind fun d2 s2 => R.opt (fIx (s2.deref d1) d2) s2
theorem atI_rep {K : PySem.W.Frag} {W : Wd} {ds : List D} {vs : List V} {i : Int} {d : D} (r : RepL K W ds vs) (h : atI ds i = some d) : ∃ v, atI vs i = some v ∧ Rep K W d v := by
  unfold atI at h ⊢
  rw [← r.len]
  cases e : ixN ds.length i with
  | none => rw [e] at h; cases h
  | some j =>
    rw [e] at h
    exact r.get h
theorem ix_at {K : PySem.W.Frag} {W : Wd} {s : Store} {d1 d : D} {i : Int} {x : V} {Q : VK} (r : RepV K W d1 x) (sr : SRep K W s) (e : fIx (s.deref d1) (.int i) = some d) (q : ∀ v, Rep K W d v → Q v W.H) : rIx K x (.int i) W.H Q := by
  have at_l : ∀ {a : Addr} {vs : List V} {ds : List D}, W.H a = some (.lst vs) → RepL K W ds vs → atI ds i = some d → rIx K (.ref a) (.int i) W.H Q := fun {a vs ds} h rl e => by
    obtain ⟨v, e1, r1⟩ := atI_rep rl e
    exact .inl ⟨a, vs, i, v, rfl, rfl, .inl (.inl h), e1, q v r1⟩
  cases d1 with
  | lst xs =>
    obtain ⟨a, vs, rfl, h, rl⟩ := r.lst
    exact at_l h rl e
  | tup xs =>
    obtain ⟨a, vs, rfl, h, rl⟩ := r.tup
    obtain ⟨v, e1, r1⟩ := atI_rep rl e
    exact .inr (.inl ⟨a, vs, i, v, rfl, rfl, h, e1, q v r1⟩)
  | str z =>
    have hx := r.str
    subst hx
    have e' : (if z.length ≤ 100000 then (atI z.cps.toList i).map (fun c => D.str ⟨#[c]⟩) else none) = some d := e
    split at e'
    · rename_i hl
      cases hc : atI z.cps.toList i with
      | none => rw [hc] at e'; cases e'
      | some c =>
        rw [hc] at e'
        cases e'
        exact .inr (.inr ⟨z, i, c, rfl, rfl, Evl.sz_of hl, hc, q _ (.str _)⟩)
    · cases e'
  | scr ns =>
    cases r with
    | of r =>
      cases r with
      | scr h =>
        rename_i a
        have e' : (atI ns i).map D.int = some d := e
        cases hc : atI ns i with
        | none => rw [hc] at e'; cases e'
        | some n =>
          rw [hc] at e'
          cases e'
          have e2 : atI (ns.map V.int) i = some (.int n) := by
            unfold atI at hc ⊢
            rw [List.length_map]
            cases hj : ixN ns.length i with
            | none => rw [hj] at hc; cases hc
            | some j =>
              rw [hj] at hc
              have hc : ns[j]? = some n := hc
              show (ns.map V.int)[j]? = _
              rw [List.getElem?_map, hc]; rfl
          exact .inl ⟨a, ns.map V.int, i, _, rfl, rfl, Evl.ex_l W.sub h, e2, q _ (.int _)⟩
  | cel j =>
    cases r with
    | of r =>
      cases r with
      | cel h =>
        rename_i a
        have hl : j < s.length := by rw [← sr.len]; exact (List.getElem?_eq_some_iff.mp h).1
        obtain ⟨hf, hc⟩ := sr.at_ j a s[j] h (by simp [hl])
        have e : fIx (s.lstAt j) (.int i) = some d := e
        unfold Store.lstAt at e
        rw [show s[j]? = some s[j] by simp [hl]] at e
        cases hsj : s[j] with
        | lst ds =>
          rw [hsj] at hc e
          obtain ⟨vs, h1, rl⟩ := hc
          exact at_l h1 rl e
  | _ => exact nomatch e
theorem de_ix {ma mb : Env → M D} (ha : PVd X EX a ma) (hb : PEd X EX b mb) (hs : PlainIx b) : PEd X EX (.Subscript a b pos) (mIx ma mb) := by
  obtain ⟨ta, pa, qa⟩ := ha
  obtain ⟨tb, pb, qb⟩ := hb
  refine ⟨_, pe_ix ix_seq pa pb hs, fun B W Γ σ s Q sat sr p => ?_⟩
  refine qa B W Γ σ s _ sat sr (Post.bind p fun d1 s1 W1 _ g1 sr1 p1 x rx => ?_)
  refine qb B W1 Γ σ s1 _ (sat.grow g1) sr1 (Post.bind p1 fun d2 s2 W2 _ g2 sr2 p2 y ry => ?_)
  obtain ⟨d, e, w⟩ := p2.opt
  cases d2 with
  | int i =>
    cases ry
    exact ix_at (rx.grow g2) sr2 e fun v r => w W2 (Grow.refl W2) sr2 v r
  | _ => exact nomatch e
/-- a part of a slice -/
def PPd (X : Cx) (EX : XK) (e : Option Expr) (m : Env → M (Option Int)) : Prop := ∃ t, PO X e t ∧
  ∀ B W Γ σ s Q, Sat X.K B W Γ σ → SRep X.K W s → Post X.K EX W (m Γ s) (fun W' _ o => Q o W'.H) → t σ W.H Q
def mNoPart : Env → M (Option Int) := fun _ s => .ok none s
def toI : D → Store → R (Option Int)
  | .int i, s => .ok (some i) s
  | _, _ => .bad
def mPart (m : Env → M D) : Env → M (Option Int) := fun Γ s => (m Γ s).bind toI
theorem dp_none : PPd X EX none mNoPart := ⟨_, po_none, fun B W Γ σ s Q sat sr p => p W (Grow.refl W) sr⟩
theorem dp_some {m : Env → M D} (h : PEd X EX e m) : PPd X EX (some e) (mPart m) := by
  obtain ⟨t, p, q⟩ := h
  refine ⟨_, po_some p, fun B W Γ σ s Q sat sr pp => q B W Γ σ s _ sat sr (Post.bind pp fun d s1 W1 _ g sr1 p1 v r => ?_)⟩
  cases d with
  | int i =>
    cases r
    exact ⟨i, rfl, p1 W1 (Grow.refl W1) sr1⟩
  | _ => exact p1.elim
def cutD {α : Type} (xs : List α) (lo hi : Option Int) : List α := (xs.drop (HT.sIx xs.length 0 lo)).take (HT.sIx xs.length xs.length hi - HT.sIx xs.length 0 lo)
def fSl (d : D) (lo hi : Option Int) : Option D := match d with
  | .lst xs => some (.lst (cutD xs lo hi))
  | .tup xs => some (.tup (cutD xs lo hi))
  | .str z => if z.length ≤ 100000 then some (.str ⟨(cutD z.cps.toList lo hi).toArray⟩) else none
  | _ => none
def mSl (m : Env → M D) (ml mh : Env → M (Option Int)) : Env → M D := fun Γ s => (m Γ s).bind fun d s1 => (ml Γ s1).bind fun lo s2 => (mh Γ s2).bind fun hi s3 => R.opt (fSl d lo hi) s3
def rSlD (K : PySem.W.Frag) : V → Option Int → Option Int → Hp → VK → Prop := fun x lo hi H Q => rSlL K x lo hi H Q ∨ rSlF K x lo hi H Q ∨ rSlS x lo hi H Q
theorem sl_D : SlR X (rSlD X.K) := sl_list.or (sl_tupF.or sl_str)
theorem cut_rep {K : PySem.W.Frag} {W : Wd} {ds : List D} {vs : List V} (r : RepL K W ds vs) (lo hi : Option Int) : RepL K W (cutD ds lo hi) (cutV vs lo hi) := by
  unfold cutD cutV
  rw [r.len]
  exact (r.drop _).take _
theorem de_sl {p2 : Pos} {lo hi : Option Expr} {m : Env → M D} {ml mh : Env → M (Option Int)} (h : PVd X EX e m) (hl : PPd X EX lo ml) (hh : PPd X EX hi mh) : PEd X EX (.Subscript e (.Slice lo hi none p2) pos) (mSl m ml mh) := by
  obtain ⟨t, p, q⟩ := h
  obtain ⟨tl, pl, ql⟩ := hl
  obtain ⟨th, ph, qh⟩ := hh
  refine ⟨_, pe_slice sl_D p pl ph, fun B W Γ σ s Q sat sr pp => ?_⟩
  refine q B W Γ σ s _ sat sr (Post.bind pp fun d s1 W1 _ g1 sr1 p1 x rx => ?_)
  refine ql B W1 Γ σ s1 _ (sat.grow g1) sr1 (Post.bind p1 fun lo s2 W2 _ g2 sr2 p2 => ?_)
  refine qh B W2 Γ σ s2 _ ((sat.grow g1).grow g2) sr2 (Post.bind p2 fun hi s3 W3 _ g3 sr3 p3 => ?_)
  obtain ⟨d', e', w⟩ := p3.opt
  have rx := (rx.grow g2).grow g3
  cases d with
  | lst xs =>
    cases e'
    obtain ⟨a, vs, rfl, h, rl⟩ := rx.lst
    exact .inl ⟨a, vs, rfl, .inl (.inl h), fun p hp => w (W3.new p (.lst (cutV vs lo hi))) (Grow.new hp sr3) (sr3.new hp) _ (two_lst hp sr3 (cut_rep rl lo hi))⟩
  | tup xs =>
    cases e'
    obtain ⟨a, vs, e2, h, rl⟩ := rx.tup
    refine .inr (.inl ⟨a, vs, e2, h, fun z => ?_, fun _ p o to hp => w (W3.new p (.frz o (.tup (cutV vs lo hi)))) (Grow.new hp sr3) (sr3.new hp) _ (two_tup to hp sr3 (cut_rep rl lo hi))⟩)
    have e3 : cutD xs lo hi = xs := by
      unfold cutD
      rw [rl.len, z.1, z.2, List.drop_zero, Nat.sub_zero]
      exact List.take_of_length_le (by rw [rl.len]; exact Nat.le_refl _)
    rw [e3] at w
    cases rx with
    | of rx =>
      rw [← e2]
      exact w W3 (Grow.refl W3) sr3 _ rx
  | str z =>
    have e' : (if z.length ≤ 100000 then some (D.str ⟨(cutD z.cps.toList lo hi).toArray⟩) else none) = some d' := e'
    split at e'
    · rename_i hl
      cases e'
      refine .inr (.inr ⟨z, rx.str, Evl.sz_of hl, ?_⟩)
      have ez : cutS z lo hi = ⟨(cutD z.cps.toList lo hi).toArray⟩ := by
        unfold cutS cutD
        rw [show z.cps.toList.length = z.length from Array.length_toList]
      rw [ez]
      exact w W3 (Grow.refl W3) sr3 _ (.str _)
    · cases e'
  | _ => exact nomatch e'
end
end PD
set_option maxRecDepth 100000
set_option maxHeartbeats 4000000
namespace PD
open PySem PySem.Spec PyProof.Rows L2

/-! ## worlds: an own list put, frozen -/
def Wd.put (W : Wd) (p : Addr) (o : HO) (h : W.F p = none) : Wd where
  F := W.F
  H := upd W.H p o
  A := W.A
  sub := fun a u e => by
    have : a ≠ p := fun q => by subst q; rw [h] at e; cases e
    rw [upd_ne this]; exact W.sub a u e
def Wd.frz (W : Wd) (p : Addr) (o : HO) (h : W.H p = some o) : Wd where
  F := upd W.F p o
  H := W.H
  A := W.A
  sub := fun a u e => by
    by_cases q : a = p
    · subst q; rw [upd_same] at e; rw [← e]; exact h
    · rw [upd_ne q] at e; exact W.sub a u e
section
variable {K : PySem.W.Frag} {W W1 : Wd} {p : Addr} {o : HO} {s : Store}
theorem Grow.put (g : Grow W1 W) (h : W.F p = none) (hp : W1.H p = none) : Grow W1 (W.put p o h) where
  f := g.f
  h := fun a u n e => by
    have : a ≠ p := fun q => by subst q; rw [hp] at e; cases e
    show upd W.H p o a = _
    rw [upd_ne this]; exact g.h a u n e
  n := g.n
  t := fun a e => by
    show upd W.H p o a ≠ none
    by_cases q : a = p
    · subst q; rw [upd_same]; simp
    · rw [upd_ne q]; exact g.t a e
  p := g.p
  q := g.q
theorem Grow.frz (g : Grow W1 W) (h : W.H p = some o) (hp : W1.H p = none) (hf : W.F p = none) : Grow W1 (W.frz p o h) where
  f := fun a u e => by
    have : a ≠ p := fun q => by subst q; rw [Wd.fnone hp] at e; cases e
    show upd W.F p o a = _
    rw [upd_ne this]; exact g.f a u e
  h := g.h
  n := fun a e n => by
    have : a ≠ p := fun q => by subst q; exact n hp
    show upd W.F p o a = none
    rw [upd_ne this]; exact g.n a e n
  t := g.t
  p := g.p
  q := g.q
theorem Rep.put (h : W.F p = none) {d : D} {v : V} (r : Rep K W d v) : Rep K (W.put p o h) d v := Rep.of (W := W) (W' := W.put p o h) (fun _ _ e => e) (fun _ _ e => e) r
theorem RepL.put (h : W.F p = none) {d : List D} {v : List V} (r : RepL K W d v) : RepL K (W.put p o h) d v := RepL.of (W := W) (W' := W.put p o h) (fun _ _ e => e) (fun _ _ e => e) r
theorem frz_sub (h : W.H p = some o) (hf : W.F p = none) : ∀ a u, W.F a = some u → (W.frz p o h).F a = some u := fun a u e => by
  have : a ≠ p := fun q => by subst q; rw [hf] at e; cases e
  show upd W.F p o a = _
  rw [upd_ne this]; exact e
theorem RepL.frz (h : W.H p = some o) (hf : W.F p = none) {d : List D} {v : List V} (r : RepL K W d v) : RepL K (W.frz p o h) d v := r.of (frz_sub h hf) (fun _ _ e => e)
theorem SRep.put (sr : SRep K W s) (h : W.F p = none) (n : p ∉ W.A) : SRep K (W.put p o h) s := by
  refine ⟨sr.len, sr.nd, fun i a c h1 h2 => ?_⟩
  obtain ⟨h3, h4⟩ := sr.at_ i a c h1 h2
  have ne : a ≠ p := fun e => by subst e; exact n (List.mem_of_getElem? h1)
  exact ⟨h3, CellRep.grow (W := W) (W' := W.put p o h) (fun _ _ e => e) (fun _ _ e => e) (show upd W.H p o a = W.H a by rw [upd_ne ne]) h4⟩
theorem SRep.frz (sr : SRep K W s) (h : W.H p = some o) (hf : W.F p = none) (n : p ∉ W.A) : SRep K (W.frz p o h) s := by
  refine ⟨sr.len, sr.nd, fun i a c h1 h2 => ?_⟩
  obtain ⟨h3, h4⟩ := sr.at_ i a c h1 h2
  have ne : a ≠ p := fun e => by subst e; exact n (List.mem_of_getElem? h1)
  refine ⟨?_, h4.grow (W' := W.frz p o h) (frz_sub h hf) (fun _ _ e => e) rfl⟩
  show upd W.F p o a = none
  rw [upd_ne ne]; exact h3
theorem SRep.notA (sr : SRep K W s) (h : W.H p = none) : p ∉ W.A := fun m => sr.there m h
end

/-! ## targets -/
inductive Tg where
  | nm (i : Nat) | tp (ts : List Tg)
mutual
def bindT : Tg → D → Env → Option Env
  | .nm i, d, Γ => some (Γ.set i (.dat d))
  | .tp ts, .tup ds, Γ => bindTs ts ds Γ
  | .tp _, _, _ => none
def bindTs : List Tg → List D → Env → Option Env
  | [], [], Γ => some Γ
  | t :: ts, d :: ds, Γ => (bindT t d Γ).bind fun Γ1 => bindTs ts ds Γ1
  | _, _, _ => none
end
mutual
def Tg.slots : Tg → List Nat
  | .nm i => [i]
  | .tp ts => Tg.slotsL ts
def Tg.slotsL : List Tg → List Nat
  | [] => []
  | t :: ts => t.slots ++ Tg.slotsL ts
end
theorem wipe_get {σ : L2.St} {j : Nat} : ∀ {vs : List Nat}, (L2.wipe σ vs)[j]? = if j ∈ vs then (if j < σ.length then some none else none) else σ[j]?
  | [] => by simp [L2.wipe]
  | v :: vs => by
    unfold L2.wipe
    by_cases e : v = j
    · subst e
      by_cases hl : v < σ.length
      · rw [List.getElem?_set_self (by rw [wipe_length]; exact hl)]
        simp [hl]
      · rw [List.getElem?_eq_none (by rw [List.length_set, wipe_length]; omega)]
        simp [hl]
    · rw [List.getElem?_set_ne e, wipe_get]
      simp only [List.mem_cons]
      by_cases h : j ∈ vs
      · simp [h]
      · have : ¬ (j = v) := fun z => e z.symm
        simp [h, this]
theorem wipe_set {σ : L2.St} {i : Nat} {o : Option V} {vs : List Nat} (h : i ∈ vs) : L2.wipe (σ.set i o) vs = L2.wipe σ vs := by
  apply List.ext_getElem?
  intro j
  rw [wipe_get, wipe_get, List.length_set]
  by_cases hj : j ∈ vs
  · simp [hj]
  · have : i ≠ j := fun e => hj (e ▸ h)
    simp [hj, List.getElem?_set_ne this]
/-- a target binds as bindT -/
def PGd (X : Cx) (tg : Expr) (t : Tg) : Prop := ∃ g, PG X tg g ∧ ∀ (B : Hp) (W : Wd) (Γ Γ' : Env) (σ : L2.St) (d : D) (v : V) (Q : L2.St → Hp → Prop), Sat X.K B W Γ σ → Rep X.K W d v → bindT t d Γ = some Γ' →
  (∀ σ', Sat X.K B W Γ' σ' → (∀ vs : List Nat, (∀ i ∈ t.slots, i ∈ vs) → L2.wipe σ' vs = L2.wipe σ vs) → Q σ' W.H) → g v σ W.H Q
def PGsd (X : Cx) (tgs : List Expr) (ts : List Tg) : Prop := ∃ g, PGs X tgs g ∧ (assignEach tgs X.env).length = ts.length ∧ (assignEach tgs X.env).findIdx? (·.1) = none ∧ ∀ (B : Hp) (W : Wd) (Γ Γ' : Env) (σ : L2.St) (ds : List D) (us : List V) (Q : L2.St → Hp → Prop), Sat X.K B W Γ σ → RepL X.K W ds us → bindTs ts ds Γ = some Γ' →
  (∀ σ', Sat X.K B W Γ' σ' → (∀ vs : List Nat, (∀ i ∈ Tg.slotsL ts, i ∈ vs) → L2.wipe σ' vs = L2.wipe σ vs) → Q σ' W.H) → g us σ W.H Q
section
variable {X : Cx} {EX : XK} {a b c e : Expr} {pos : Pos} {rest es : List Expr}
theorem dg_nm {i : Nat} {x : Str} (hN : X.N.Nodup) (hi : X.N[i]? = some x) (hx : Loc X.env.scope x) (hf : X.fn x = true ∨ X.env.scope.names.lookup x = some .local) : PGd X (.Name x pos) (.nm i) := by
  refine ⟨_, pg_name hN hi hx hf, fun B W Γ Γ' σ d v Q sat r hb q => ?_⟩
  simp only [bindT, Option.some.injEq] at hb
  subst hb
  exact q _ (sat.set r) fun vs h => wipe_set (h i (by simp [Tg.slots]))
theorem dgs_nil : PGsd X [] [] := by
  refine ⟨_, pgs_nil, rfl, rfl, fun B W Γ Γ' σ ds us Q sat r hb q => ?_⟩
  cases r with
  | nil =>
    simp only [bindTs, Option.some.injEq] at hb
    subst hb
    exact ⟨rfl, q σ sat fun _ _ => rfl⟩
  | cons _ _ => simp [bindTs] at hb
theorem dgs_cons {t : Tg} {ts : List Tg} (h : PGd X e t) (hs : PGsd X es ts) (he : assignEach (e :: es) X.env = (false, assign e X.env) :: assignEach es X.env) : PGsd X (e :: es) (t :: ts) := by
  obtain ⟨g, p, q⟩ := h
  obtain ⟨g2, p2, l2, f2, q2⟩ := hs
  refine ⟨_, pgs_cons p p2 (by rw [he]; rfl), by rw [he, List.length_cons, l2, List.length_cons], by rw [he, List.findIdx?_cons, f2]; rfl, fun B W Γ Γ' σ ds us Q sat r hb w => ?_⟩
  cases r with
  | nil => simp [bindTs] at hb
  | cons r rr =>
    simp only [bindTs] at hb
    rename_i d v ds vs
    cases h1 : bindT t d Γ with
    | none => rw [h1] at hb; cases hb
    | some Γ1 =>
      rw [h1] at hb
      refine ⟨v, vs, rfl, q B W Γ Γ1 σ d v _ sat r h1 fun σ1 sat1 w1 => ?_⟩
      refine q2 B W Γ1 Γ' σ1 ds vs Q sat1 rr hb fun σ2 sat2 w2 => w σ2 sat2 fun vs hv => ?_
      rw [w2 vs fun i hi => hv i (by simp [Tg.slotsL, hi]), w1 vs fun i hi => hv i (by simp [Tg.slotsL, hi])]
theorem bindTs_len : ∀ {ts : List Tg} {ds : List D} {Γ Γ' : Env}, bindTs ts ds Γ = some Γ' → ds.length = ts.length
  | [], [], _, _, _ => rfl
  | [], _ :: _, _, _, h => by simp [bindTs] at h
  | _ :: _, [], _, _, h => by simp [bindTs] at h
  | t :: ts, d :: ds, Γ, Γ', h => by
    simp only [bindTs] at h
    cases h1 : bindT t d Γ with
    | none => rw [h1] at h; cases h
    | some Γ1 =>
      rw [h1] at h
      rw [List.length_cons, List.length_cons, bindTs_len (show bindTs ts ds Γ1 = some Γ' from h)]
theorem dg_tup {ts : List Tg} {k : Nat} (hc : X.calm = true) (h : PGsd X es ts) : PGd X (.Tuple es k pos) (.tp ts) := by
  obtain ⟨g, p, l, f, q⟩ := h
  refine ⟨_, pg_tup hc p l f, fun B W Γ Γ' σ d v Q sat r hb w => ?_⟩
  cases r with
  | tup hT rl =>
    rename_i a vs ds
    simp only [bindT] at hb
    have hl : ds.length = ts.length := bindTs_len hb
    exact ⟨a, vs, rfl, (hT.ex W.sub).t, by rw [← rl.len]; exact hl, q B W Γ Γ' σ ds vs Q sat rl hb w⟩
  | _ => simp [bindT] at hb
end
end PD
set_option maxRecDepth 100000
set_option maxHeartbeats 4000000
namespace PD
open PySem PySem.Spec PyProof.Rows L2

/-! ## what is walked -/
/-- from the world W1 on the iterator yields these data -/
def IterV (K : PySem.W.Frag) (W1 : Wd) (J : It) (ds : List D) : Prop := ∀ (i : Nat) (W : Wd), (∀ a o, W1.F a = some o → W.F a = some o) → (∀ (i : Nat) (a : Addr), W1.A[i]? = some a → W.A[i]? = some a) →
  (∀ d, ds[i]? = some d → J.go i W.H ∧ ∀ x H', J.yld i W.H x H' → ∀ s, SRep K W s → ∃ W', Grow W W' ∧ SRep K W' s ∧ W'.H = H' ∧ Rep K W' d x) ∧ (i = ds.length → J.stop i W.H)
def PId (X : Cx) (EX : XK) (tg iter : Expr) (m : Env → M (List D)) : Prop := ∃ wi, PI X tg iter wi ∧
  ∀ B W Γ σ s R, Sat X.K B W Γ σ → SRep X.K W s → Post X.K EX W (m Γ s) (fun W' _ ds => ∀ J, IterV X.K W' J ds → R J W'.H) → wi σ W.H R
def fItems : D → Option (List D)
  | .lst ds => some ds
  | .tup ds => some ds
  | _ => none
def mItems (m : Env → M D) : Env → M (List D) := fun Γ s => (m Γ s).bind fun d s1 => R.opt (fItems d) s1
theorem repL_inj {K : PySem.W.Frag} {W W' : Wd} {ds : List D} {vs : List V} (r : RepL K W ds vs) {i : Nat} {d : D} {x : V} (h : ds[i]? = some d) (hx : vs[i]? = some x) : Rep K W d x := by
  obtain ⟨v, e, q⟩ := r.get h
  rw [hx] at e
  cases e
  exact q
section
variable {X : Cx} {EX : XK} {a b c e tg : Expr} {pos p : Pos} {rest es : List Expr}
/-- a list or a tuple walked -/
def iSeq (K : PySem.W.Frag) (tl : TE) : TI := fun σ H R => tl σ H fun x H1 => ∃ a, x = .ref a ∧ (((∃ xs, SqL K H1 a xs) ∧ R (Itl K a) H1) ∨ ((∃ xs, SqT K H1 a xs) ∧ R (Itt K a) H1))
theorem pi_seq {l : Expr} {tl : TE} (hl : PE X l tl) : PI X tg l (iSeq X.K tl) := by
  refine ⟨fun pins s σ H R I h => ?_⟩
  refine thn (hl.run pins s σ H _ I h) fun v s1 ⟨x, H1, I1, r1, q1⟩ => ?_
  obtain ⟨a, e, q1⟩ := q1
  subst e
  cases r1
  rcases q1 with ⟨⟨xs, hq⟩, q⟩ | ⟨⟨xs, hq⟩, q⟩
  · obtain ⟨its, rv, p, hz⟩ := I1.list hq
    refine wpAny_pyIter_list p.isList ?_
    refine ⟨s1.heap.objs.size, [s1.heap.objs.size], _, _, H1, rfl, I1.kept (t' := s1.toks) fun b o e => Heap.get?_push_of_some _ e, turn_list a _, ⟨_, Heap.get?_push_size _ rfl, rfl, rfl⟩, fun b hb => ?_, q⟩
    have e : b = s1.heap.objs.size := by simpa using hb
    subst e
    exact I1.fpOk (Nat.le_refl _) (I1.hok.fresh (Nat.le_refl _))
  · obtain ⟨its, rv, p, hz⟩ := I1.tuple hq
    refine wpAny_pyIter_tuple (show s1.heap.IsTuple a its.toArray from p) ?_
    refine ⟨s1.heap.objs.size, [s1.heap.objs.size], _, _, H1, rfl, I1.kept (t' := s1.toks) fun b o e => Heap.get?_push_of_some _ e, turn_tuple a _, ⟨_, Heap.get?_push_size _ rfl, rfl, rfl⟩, fun b hb => ?_, q⟩
    have e : b = s1.heap.objs.size := by simpa using hb
    subst e
    exact I1.fpOk (Nat.le_refl _) (I1.hok.fresh (Nat.le_refl _))
theorem rep_at {K : PySem.W.Frag} {W1 W : Wd} (hF : ∀ a o, W1.F a = some o → W.F a = some o) (hA : ∀ (i : Nat) (a : Addr), W1.A[i]? = some a → W.A[i]? = some a) {ds : List D} {vs : List V} (r : RepL K W1 ds vs) {i : Nat} {d : D} {x : V} (h : ds[i]? = some d) (hx : vs[i]? = some x) : Rep K W d x :=
  (repL_inj (W' := W1) r h hx).of hF hA
theorem iv_list {K : PySem.W.Frag} {W1 : Wd} {a : Addr} {vs : List V} {ds : List D} (h : W1.F a = some (.lst vs)) (r : RepL K W1 ds vs) : IterV K W1 (Itl K a) ds := fun i W hF hA => by
  have hq : SqL K W.H a vs := .inl (.inl (W.sub _ _ (hF _ _ h)))
  refine ⟨fun d hd => ?_, fun e => ⟨vs, hq, by rw [e, r.len]; exact Nat.le_refl _⟩⟩
  obtain ⟨v, hv, _⟩ := r.get hd
  exact ⟨⟨vs, v, hq, hv⟩, fun x H' ⟨e, y⟩ s sr => ⟨W, Grow.refl W, sr, e.symm, rep_at hF hA r hd (y vs hq)⟩⟩
theorem iv_tup {K : PySem.W.Frag} {W1 : Wd} {a : Addr} {vs : List V} {ds : List D} (h : SqD K W1.F a vs) (r : RepL K W1 ds vs) : IterV K W1 (Itt K a) ds := fun i W hF hA => by
  have hq : SqT K W.H a vs := ((h.ex hF).ex W.sub).t
  refine ⟨fun d hd => ?_, fun e => ⟨vs, hq, by rw [e, r.len]; exact Nat.le_refl _⟩⟩
  obtain ⟨v, hv, _⟩ := r.get hd
  exact ⟨⟨vs, v, hq, hv⟩, fun x H' ⟨e, y⟩ s sr => ⟨W, Grow.refl W, sr, e.symm, rep_at hF hA r hd (y vs hq)⟩⟩
theorem di_seq {m : Env → M D} (h : PEd X EX e m) : PId X EX tg e (mItems m) := by
  obtain ⟨t, p, q⟩ := h
  refine ⟨_, pi_seq p, fun B W Γ σ s R sat sr pp => q B W Γ σ s _ sat sr (Post.bind pp fun d s1 W1 _ g sr1 p1 v r => ?_)⟩
  obtain ⟨ds, e, w⟩ := p1.opt
  have w := w W1 (Grow.refl W1) sr1
  cases r with
  | lst h rl =>
    cases e
    exact ⟨_, rfl, .inl ⟨⟨_, .inl (.inl (W1.sub _ _ h))⟩, w _ (iv_list h rl)⟩⟩
  | tup h rl =>
    cases e
    exact ⟨_, rfl, .inr ⟨⟨_, (h.ex W1.sub).t⟩, w _ (iv_tup h rl)⟩⟩
  | _ => cases e

/-! ### ranges -/
def rangeD (lo : Int) (n : Nat) : List D := (List.range n).map fun (i : Nat) => D.int (lo + i)
def fRng1 : List D → Option (List D)
  | [.int j] => if -100000 ≤ j ∧ j ≤ 100000 then some (rangeD 0 j.toNat) else none
  | _ => none
def fRng2 : List D → Option (List D)
  | [.int i, .int j] => if -100000 ≤ i ∧ i ≤ 100000 ∧ -100000 ≤ j ∧ j ≤ 100000 then some (rangeD i (j - i).toNat) else none
  | _ => none
def fRngD : List D → Option (List D)
  | [.int i, .int j, .int (-1)] => if -100000 ≤ i ∧ i ≤ 100000 ∧ -100000 ≤ j ∧ j ≤ 100000 then some ((List.range (i - j).toNat).map fun (k : Nat) => D.int (i - k)) else none
  | _ => none
def mRng (f : List D → Option (List D)) (ms : Env → M (List D)) : Env → M (List D) := fun Γ s => (ms Γ s).bind fun ds s1 => R.opt (f ds) s1
theorem iv_range {K : PySem.W.Frag} {W1 : Wd} {lo : Int} {n : Nat} : IterV K W1 (Itr lo n) (rangeD lo n) := fun i W hF hA => by
  unfold rangeD
  refine ⟨fun d hd => ?_, fun e => ?_⟩
  · have hi : i < n := by
      have := (List.getElem?_eq_some_iff.mp hd).1
      simpa using this
    rw [List.getElem?_map, List.getElem?_range hi] at hd
    cases hd
    exact ⟨hi, fun x H' ⟨e, y⟩ s sr => ⟨W, Grow.refl W, sr, e.symm, by rw [y]; exact .int _⟩⟩
  · show n ≤ i
    rw [e]; simp
theorem di_rng1 {ms : Env → M (List D)} (hg : Gl X "range") (hm : X.mg "range" = none) (ha : PAd X EX [a] ms) (hs : starEach [a] X.env = [(false, eval a X.env)]) : PId X EX tg (.Call (.Name "range" p) [a] [] pos) (mRng fRng1 ms) := by
  obtain ⟨t, pt, q⟩ := ha
  refine ⟨_, pi_range1 hg hm pt hs, fun B W Γ σ s R sat sr pp => q B W Γ σ s _ sat sr (Post.bind pp fun ds s1 W1 _ g sr1 p1 vs rl => ?_)⟩
  obtain ⟨is, e, w⟩ := p1.opt
  unfold fRng1 at e
  split at e
  · split at e
    · cases e
      cases rl with
      | cons r t => cases r; cases t; exact ⟨_, rfl, by omega, by omega, w W1 (Grow.refl W1) sr1 _ iv_range⟩
    · cases e
  · cases e
theorem di_rng2 {ms : Env → M (List D)} (hg : Gl X "range") (hm : X.mg "range" = none) (ha : PAd X EX [a, b] ms) (hs : starEach [a, b] X.env = [(false, eval a X.env), (false, eval b X.env)]) (hs2 : starEach [b] X.env = [(false, eval b X.env)]) : PId X EX tg (.Call (.Name "range" p) [a, b] [] pos) (mRng fRng2 ms) := by
  obtain ⟨t, pt, q⟩ := ha
  refine ⟨_, pi_range2 hg hm pt hs hs2, fun B W Γ σ s R sat sr pp => q B W Γ σ s _ sat sr (Post.bind pp fun ds s1 W1 _ g sr1 p1 vs rl => ?_)⟩
  obtain ⟨is, e, w⟩ := p1.opt
  unfold fRng2 at e
  split at e
  · split at e
    · cases e
      cases rl with
      | cons r t => cases t with
        | cons r2 t2 => cases r; cases r2; cases t2; exact ⟨_, _, rfl, by omega, w W1 (Grow.refl W1) sr1 _ iv_range⟩
    · cases e
  · cases e
theorem iv_rangeC {K : PySem.W.Frag} {W1 : Wd} {lo : Int} {n : Nat} : IterV K W1 (Itc lo (-1) n) ((List.range n).map fun (k : Nat) => D.int (lo - k)) := fun i W hF hA => by
  refine ⟨fun d hd => ?_, fun e => ?_⟩
  · have hi : i < n := by
      have := (List.getElem?_eq_some_iff.mp hd).1
      simpa using this
    rw [List.getElem?_map, List.getElem?_range hi] at hd
    cases hd
    exact ⟨hi, fun x H' ⟨e, y⟩ s sr => ⟨W, Grow.refl W, sr, e.symm, by rw [y, show lo + (i : Nat) * (-1 : Int) = lo - i by omega]; exact .int _⟩⟩
  · show n ≤ i
    rw [e]; simp
theorem di_rng3 {ms : Env → M (List D)} (hg : Gl X "range") (hm : X.mg "range" = none) (ha : PAd X EX [a, b, c] ms) (hs : starEach [a, b, c] X.env = (false, eval a X.env) :: starEach [b, c] X.env) (hpl : (backTo pos (starEach [b, c] X.env)).any (·.1) = false) : PId X EX tg (.Call (.Name "range" p) [a, b, c] [] pos) (mRng fRngD ms) := by
  obtain ⟨t, pt, q⟩ := ha
  refine ⟨_, pi_range3 hg hm pt hs hpl, fun B W Γ σ s R sat sr pp => q B W Γ σ s _ sat sr (Post.bind pp fun ds s1 W1 _ g sr1 p1 vs rl => ?_)⟩
  obtain ⟨is, e, w⟩ := p1.opt
  unfold fRngD at e
  split at e
  · split at e
    · cases e
      cases rl with
      | cons r t => cases t with
        | cons r2 t2 => cases t2 with
          | cons r3 t3 => cases r; cases r2; cases r3; cases t3; exact ⟨_, _, -1, _, rfl, RgC.neg (by omega) (by omega) (by omega) (by omega), w W1 (Grow.refl W1) sr1 _ iv_rangeC⟩
    · cases e
  · cases e

/-! ### zip, enumerate -/
theorem rep_seq {K : PySem.W.Frag} {W : Wd} {d : D} {v : V} {ds : List D} (r : Rep K W d v) (h : fItems d = some ds) : ∃ l a vs, v = .ref a ∧ (∀ W' : Wd, (∀ a o, W.F a = some o → W'.F a = some o) → SqB l K W'.H a vs) ∧ RepL K W ds vs := by
  cases r with
  | lst h' rl => cases h; exact ⟨true, _, _, rfl, fun W' hF => .inl (.inl (W'.sub _ _ (hF _ _ h'))), rl⟩
  | tup h' rl => cases h; exact ⟨false, _, _, rfl, fun W' hF => ((h'.ex hF).ex W'.sub).t, rl⟩
  | _ => cases h
def zipD : List D → List D → List D
  | x :: xs, y :: ys => .tup [x, y] :: zipD xs ys
  | _, _ => []
theorem zipD_get : ∀ {xs ys : List D} {i : Nat} {d : D}, (zipD xs ys)[i]? = some d → ∃ x y, xs[i]? = some x ∧ ys[i]? = some y ∧ d = .tup [x, y]
  | [], _, _, _, h => by simp [zipD] at h
  | _ :: _, [], _, _, h => by simp [zipD] at h
  | x :: xs, y :: ys, 0, d, h => by simp [zipD] at h; exact ⟨x, y, rfl, rfl, h.symm⟩
  | x :: xs, y :: ys, i + 1, d, h => zipD_get (xs := xs) (ys := ys) (i := i) (by simpa [zipD] using h)
theorem zipD_len : ∀ {xs ys : List D}, (zipD xs ys).length = min xs.length ys.length
  | [], ys => by simp [zipD]
  | _ :: _, [] => by simp [zipD]
  | x :: xs, y :: ys => by
    simp only [zipD, List.length_cons]
    rw [zipD_len]
    omega
def fZip : List D → Option (List D)
  | [x, y] => (fItems x).bind fun xs => (fItems y).bind fun ys => some (zipD xs ys)
  | _ => none
theorem iv_zip {K : PySem.W.Frag} {W1 : Wd} {l1 l2 : Bool} {a b : Addr} {vs us : List V} {xs ys : List D} (h1 : ∀ W' : Wd, (∀ a o, W1.F a = some o → W'.F a = some o) → SqB l1 K W'.H a vs) (h2 : ∀ W' : Wd, (∀ a o, W1.F a = some o → W'.F a = some o) → SqB l2 K W'.H b us)
    (r1 : RepL K W1 xs vs) (r2 : RepL K W1 ys us) : IterV K W1 (ItzB l1 l2 K a b) (zipD xs ys) := fun i W hF hA => by
  have q1 := h1 W hF
  have q2 := h2 W hF
  refine ⟨fun d hd => ?_, fun e => ?_⟩
  · obtain ⟨x, y, hx, hy, rfl⟩ := zipD_get hd
    obtain ⟨v, hv, _⟩ := r1.get hx
    obtain ⟨u, hu, _⟩ := r2.get hy
    refine ⟨⟨vs, us, v, u, q1, q2, hv, hu⟩, fun z H' ⟨T, v', u', ob, ez, hT, hob, eH, f1, f2⟩ s sr => ?_⟩
    subst ez eH
    refine ⟨W.new T (.frz ob (.tup [v', u'])), Grow.new hT sr, sr.new hT, rfl, two_tup hob hT sr ?_⟩
    exact .cons (rep_at hF hA r1 hx (f1 vs q1)) (.cons (rep_at hF hA r2 hy (f2 us q2)) .nil)
  · rw [zipD_len] at e
    exact ⟨vs, us, q1, q2, by rw [← r1.len]; omega, by rw [← r2.len]; omega, by rw [← r1.len, ← r2.len]; omega⟩
theorem di_zip {ts : List Expr} {kk : Nat} {tpos : Pos} {ms : Env → M (List D)} (hg : Gl X "zip") (hm : X.mg "zip" = none) (ha : PAd X EX [a, b] ms) (hs : starEach [a, b] X.env = (false, eval a X.env) :: starEach [b] X.env) (hpl : (backTo pos (starEach [b] X.env)).any (·.1) = false) :
    PId X EX (.Tuple ts kk tpos) (.Call (.Name "zip" p) [a, b] [] pos) (mRng fZip ms) := by
  obtain ⟨t, pt, q⟩ := ha
  refine ⟨_, pi_zipB hg hm pt hs hpl, fun B W Γ σ s R sat sr pp => q B W Γ σ s _ sat sr (Post.bind pp fun ds s1 W1 _ g sr1 p1 vs rl => ?_)⟩
  obtain ⟨is, e, w⟩ := p1.opt
  unfold fZip at e
  split at e
  · rename_i x y _
    cases ex : fItems x with
    | none => rw [ex] at e; cases e
    | some xs =>
      rw [ex] at e
      cases ey : fItems y with
      | none => rw [ey] at e; cases e
      | some ys =>
        rw [ey] at e
        cases e
        cases rl with
        | cons r t => cases t with
          | cons r2 t2 =>
            cases t2
            obtain ⟨l1, a1, vs1, rfl, s1', rl1⟩ := rep_seq r ex
            obtain ⟨l2, a2, vs2, rfl, s2', rl2⟩ := rep_seq r2 ey
            exact ⟨l1, l2, a1, a2, vs1, vs2, rfl, s1' W1 (fun _ _ h => h), s2' W1 (fun _ _ h => h), w W1 (Grow.refl W1) sr1 _ (iv_zip s1' s2' rl1 rl2)⟩
  · cases e
def enumD : Nat → List D → List D
  | _, [] => []
  | n, x :: xs => .tup [.int n, x] :: enumD (n + 1) xs
theorem enumD_get : ∀ {xs : List D} {n i : Nat} {d : D}, (enumD n xs)[i]? = some d → ∃ x, xs[i]? = some x ∧ d = .tup [.int ((n + i : Nat) : Int), x]
  | [], _, _, _, h => by simp [enumD] at h
  | x :: xs, n, 0, d, h => by simp [enumD] at h; exact ⟨x, rfl, h.symm⟩
  | x :: xs, n, i + 1, d, h => by
    obtain ⟨y, h1, h2⟩ := enumD_get (xs := xs) (n := n + 1) (i := i) (d := d) (by simpa [enumD] using h)
    exact ⟨y, by simpa using h1, by rw [h2, show n + 1 + i = n + (i + 1) by omega]⟩
theorem enumD_len : ∀ {xs : List D} {n : Nat}, (enumD n xs).length = xs.length
  | [], _ => rfl
  | x :: xs, n => by simp only [enumD, List.length_cons]; rw [enumD_len]
def fEnum : List D → Option (List D)
  | [x] => (fItems x).bind fun xs => some (enumD 0 xs)
  | _ => none
theorem iv_enum {K : PySem.W.Frag} {W1 : Wd} {l : Bool} {a : Addr} {vs : List V} {xs : List D} (h1 : ∀ W' : Wd, (∀ a o, W1.F a = some o → W'.F a = some o) → SqB l K W'.H a vs) (r1 : RepL K W1 xs vs) : IterV K W1 (IteB l K a) (enumD 0 xs) := fun i W hF hA => by
  have q1 := h1 W hF
  refine ⟨fun d hd => ?_, fun e => ?_⟩
  · obtain ⟨x, hx, rfl⟩ := enumD_get hd
    obtain ⟨v, hv, _⟩ := r1.get hx
    refine ⟨⟨vs, v, q1, hv⟩, fun z H' ⟨T, v', ob, ez, hT, hob, eH, f1⟩ s sr => ?_⟩
    subst ez eH
    refine ⟨W.new T (.frz ob (.tup [.int (i : Nat), v'])), Grow.new hT sr, sr.new hT, rfl, two_tup hob hT sr ?_⟩
    rw [Nat.zero_add]
    exact .cons (.int _) (.cons (rep_at hF hA r1 hx (f1 vs q1)) .nil)
  · rw [enumD_len] at e
    exact ⟨vs, q1, by rw [← r1.len]; exact e.symm⟩
theorem di_enum {ts : List Expr} {kk : Nat} {tpos : Pos} {ms : Env → M (List D)} (hg : Gl X "enumerate") (hm : X.mg "enumerate" = none) (ha : PAd X EX [a] ms) (hs : starEach [a] X.env = [(false, eval a X.env)]) :
    PId X EX (.Tuple ts kk tpos) (.Call (.Name "enumerate" p) [a] [] pos) (mRng fEnum ms) := by
  obtain ⟨t, pt, q⟩ := ha
  refine ⟨_, pi_enumB hg hm pt hs, fun B W Γ σ s R sat sr pp => q B W Γ σ s _ sat sr (Post.bind pp fun ds s1 W1 _ g sr1 p1 vs rl => ?_)⟩
  obtain ⟨is, e, w⟩ := p1.opt
  unfold fEnum at e
  split at e
  · rename_i x _
    cases ex : fItems x with
    | none => rw [ex] at e; cases e
    | some xs =>
      rw [ex] at e
      cases e
      cases rl with
      | cons r t =>
        cases t
        obtain ⟨l1, a1, vs1, rfl, s1', rl1⟩ := rep_seq r ex
        exact ⟨l1, a1, vs1, rfl, s1' W1 (fun _ _ h => h), w W1 (Grow.refl W1) sr1 _ (iv_enum s1' rl1)⟩
  · cases e

/-! ### list comprehensions -/
/-- nothing may be raised -/
def R.nox {α : Type} : R α → R α
  | .ok a s => .ok a s
  | _ => .bad
abbrev noEX : XK := fun _ _ _ => False
theorem Post.nox {α β : Type} {K : PySem.W.Frag} {W : Wd} {r : R α} {f : α → Store → R β} {T : Wd → Store → β → Prop} (h : Post K EX W (r.nox.bind f) T) {U : Wd → Store → α → Prop}
    (step : ∀ a s1 W1, r = .ok a s1 → Grow W W1 → SRep K W1 s1 → Post K EX W1 (f a s1) T → U W1 s1 a) : Post K noEX W r U := by
  cases r with
  | ok a s => exact fun W' g sr => step a s W' rfl g sr (Post.grow g h)
  | er e s => exact h.elim
  | bad => exact h.elim
def lcGo (tg : Tg) (mc : Env → M Bool) (me : Env → M D) (Γ : Env) : List D → Store → R (List D)
  | [], s => .ok [] s
  | d :: ds, s => match bindT tg d Γ with
    | none => .bad
    | some Γ1 => (mc Γ1 s).nox.bind fun b s1 => match b with
      | true => (me Γ1 s1).nox.bind fun y s2 => (lcGo tg mc me Γ ds s2).bind fun ys s3 => .ok (y :: ys) s3
      | false => lcGo tg mc me Γ ds s1
def mLcL (mi : Env → M (List D)) (tg : Tg) (mc : Env → M Bool) (me : Env → M D) (own : List Nat) : Env → M (List D) := fun Γ s => (mi Γ s).bind fun ds s1 =>
  if ds.length ≤ 100000 then lcGo tg mc me (wipeE Γ own) ds s1 else .bad
/-- a new list, as data -/
def mFrz (m : Env → M (List D)) : Env → M D := fun Γ s => (m Γ s).bind fun ds s1 => .ok (.lst ds) s1
def mYes : Env → M Bool := fun _ s => .ok true s
/-- what a list maker gives: a new list, not yet data -/
abbrev WantO (K : PySem.W.Frag) (W : Wd) (Q : VK) : Wd → Store → List D → Prop := fun W' _ ds => ∀ p vs, W.H p = none → W'.H p = some (.lst vs) → W'.F p = none → p ∉ W'.A → RepL K W' ds vs → Q (.ref p) W'.H
def POd (X : Cx) (EX : XK) (e : Expr) (m : Env → M (List D)) : Prop := ∃ t, PE X e t ∧
  ∀ B W Γ σ s Q, Sat X.K B W Γ σ → SRep X.K W s → Post X.K EX W (m Γ s) (WantO X.K W Q) → t σ W.H Q
theorem lc_turns {K : PySem.W.Frag} {J : It} {tg : Tg} {mc : Env → M Bool} {me : Env → M D} {own : List Nat} {g : TG} {tt : TT} {te : TE} {B : Hp} {W0 W1 : Wd} {Γ : Env} {σ : L2.St} {Q : VK} {items : List D} {s1 : Store} {p : Addr}
    (hg : ∀ (B : Hp) (W : Wd) (Γ Γ' : Env) (σ : L2.St) (d : D) (v : V) (Q : L2.St → Hp → Prop), Sat K B W Γ σ → Rep K W d v → bindT tg d Γ = some Γ' → (∀ σ', Sat K B W Γ' σ' → (∀ vs : List Nat, (∀ i ∈ tg.slots, i ∈ vs) → L2.wipe σ' vs = L2.wipe σ vs) → Q σ' W.H) → g v σ W.H Q)
    (hsl : ∀ i ∈ tg.slots, i ∈ own)
    (ht : ∀ B W Γ σ s Q, Sat K B W Γ σ → SRep K W s → Post K noEX W (mc Γ s) (WantB Q) → tt σ W.H Q) (he : ∀ B W Γ σ s Q, Sat K B W Γ σ → SRep K W s → Post K noEX W (me Γ s) (Want K Q) → te σ W.H Q)
    (iv : IterV K W1 J items) (sat : Sat K B W1 Γ σ) (g01 : Grow W0 W1) (sr1 : SRep K W1 s1) (hp : W1.H p = none) (hz : items.length ≤ 100000)
    (post : Post K EX W1 (lcGo tg mc me (wipeE Γ own) items s1) (WantO K W0 Q)) :
    ∃ Wn : Nat → Nat → Hp → Prop, (∃ m, Wn 0 m (upd W1.H p (.lst []))) ∧ ∀ i m H, Wn i m H →
      (J.stop i H ∧ Q (.ref p) H) ∨ (J.go i H ∧ ∃ Nx : Hp → Prop, (∀ H', Nx H' → ∃ m', m' < m ∧ Wn (i + 1) m' H') ∧ ∀ x H', J.yld i H x H' → g x (L2.wipe σ own) H' fun σ2 H2 => L2.wipe σ2 own = L2.wipe σ own ∧ tt σ2 H2 fun b H3 =>
        if b = true then te σ2 H3 fun y H4 => ∃ acc, H4 p = some (.lst acc) ∧ acc.length < sizeLine ∧ Nx (upd H4 p (.lst (acc ++ [y]))) else Nx H3) := by
  have pA1 := sr1.notA hp
  have pF1 := Wd.fnone hp
  have p0 : W0.H p = none := by
    cases h : W0.H p with
    | none => rfl
    | some o => exact absurd hp (g01.t p (by rw [h]; simp))
  let Inv' : Nat → Hp → Prop := fun i H => ∃ (W : Wd) (s : Store) (acc : List V) (ad : List D), W.H = H ∧ Grow W1 W ∧ SRep K W s ∧ H p = some (.lst acc) ∧ W.F p = none ∧ p ∉ W.A ∧ RepL K W ad acc ∧ ad.length ≤ i ∧
    Post K EX W1 ((lcGo tg mc me (wipeE Γ own) (items.drop i) s).bind fun ys s => .ok (ad ++ ys) s) (WantO K W0 Q)
  refine ⟨fun i m H => m = items.length - i ∧ i ≤ items.length ∧ Inv' i H, ⟨items.length, rfl, Nat.zero_le _, W1.put p (.lst []) pF1, s1, [], [], rfl, (Grow.refl W1).put pF1 hp, sr1.put pF1 pA1, upd_same, pF1, pA1, .nil, Nat.le_refl _, ?_⟩, ?_⟩
  · rw [List.drop_zero]
    revert post
    cases lcGo tg mc me (wipeE Γ own) items s1 with
    | ok a s => exact id
    | er e s => exact id
    | bad => exact id
  · rintro i m H ⟨rfl, hi, W, s, acc, ad, rfl, gW, srW, hacc, hFp, hAp, rl, hal, pst⟩
    obtain ⟨iv1, iv2⟩ := iv i W gW.f (fun i a h => gW.ix h)
    by_cases hlt : i < items.length
    · obtain ⟨go, yld⟩ := iv1 items[i] (by simp [hlt])
      refine .inr ⟨go, Inv' (i + 1), fun H' h' => ⟨items.length - (i + 1), by omega, rfl, hlt, h'⟩, fun x H' y => ?_⟩
      obtain ⟨W2, g2, sr2, rfl, rx⟩ := yld x H' y s srW
      rw [List.drop_eq_getElem_cons hlt] at pst
      unfold lcGo at pst
      cases hb : bindT tg items[i] (wipeE Γ own) with
      | none => rw [hb] at pst; exact pst.elim
      | some Γ1 =>
        rw [hb] at pst
        have sat2 : Sat K B W2 (wipeE Γ own) (L2.wipe σ own) := ((sat.grow gW).grow g2).wipe own
        refine hg B W2 _ Γ1 _ _ x _ sat2 rx hb fun σ2 sat3 wp => ⟨?_, ?_⟩
        · rw [wp own hsl]
          apply List.ext_getElem?
          intro j
          rw [wipe_get, wipe_get, wipe_length]
          by_cases hj : j ∈ own <;> simp [hj]
        · have gW2 : Grow W1 W2 := gW.trans g2
          have pst : Post K EX W1 (((mc Γ1 s).nox.bind fun b s1 => match b with
              | true => (me Γ1 s1).nox.bind fun y s2 => (lcGo tg mc me (wipeE Γ own) (items.drop (i + 1)) s2).bind fun ys s3 => .ok (y :: ys) s3
              | false => lcGo tg mc me (wipeE Γ own) (items.drop (i + 1)) s1).bind fun ys s => .ok (ad ++ ys) s) (WantO K W0 Q) := pst
          have hp2 : W2.H p = some (.lst acc) := g2.h p _ hAp hacc
          have hF2 : W2.F p = none := g2.n p hFp (by rw [hacc]; simp)
          have hA2 : p ∉ W2.A := g2.notA hAp (by rw [hacc]; simp)
          have rl2 := rl.grow g2
          refine ht B W2 Γ1 σ2 s _ sat3 sr2 ?_
          cases hmc : mc Γ1 s with
          | er e s' => rw [hmc] at pst; exact pst.elim
          | bad => rw [hmc] at pst; exact pst.elim
          | ok b s3 =>
            rw [hmc] at pst
            intro W3 g3 sr3
            have hp3 : W3.H p = some (.lst acc) := g3.h p _ hA2 hp2
            have hF3 : W3.F p = none := g3.n p hF2 (by rw [hp2]; simp)
            have hA3 : p ∉ W3.A := g3.notA hA2 (by rw [hp2]; simp)
            cases b with
            | false =>
              show Inv' (i + 1) W3.H
              exact ⟨W3, s3, acc, ad, rfl, gW2.trans g3, sr3, hp3, hF3, hA3, rl2.grow g3, by omega, pst⟩
            | true =>
              show te σ2 W3.H _
              refine he B W3 Γ1 σ2 s3 _ (sat3.grow g3) sr3 ?_
              have pst : Post K EX W1 (((me Γ1 s3).nox.bind fun y s2 => (lcGo tg mc me (wipeE Γ own) (items.drop (i + 1)) s2).bind fun ys s3 => .ok (y :: ys) s3).bind fun ys s => .ok (ad ++ ys) s) (WantO K W0 Q) := pst
              cases hme : me Γ1 s3 with
              | er e s' => rw [hme] at pst; exact pst.elim
              | bad => rw [hme] at pst; exact pst.elim
              | ok y s4 =>
                rw [hme] at pst
                intro W4 g4 sr4 v rv
                have hp4 : W4.H p = some (.lst acc) := g4.h p _ hA3 hp3
                have hF4 : W4.F p = none := g4.n p hF3 (by rw [hp3]; simp)
                have hA4 : p ∉ W4.A := g4.notA hA3 (by rw [hp3]; simp)
                have rl4 : RepL K W4 ad acc := (rl2.grow g3).grow g4
                have gW4 : Grow W1 W4 := (gW2.trans g3).trans g4
                refine ⟨acc, hp4, Nat.lt_of_lt_of_le (show acc.length < 100001 by rw [← rl4.len]; omega) (by decide), W4.put p (.lst (acc ++ [v])) hF4, s4, acc ++ [v], ad ++ [y], rfl, gW4.put hF4 hp, sr4.put hF4 hA4, upd_same, hF4, hA4, RepL.put hF4 (rl4.app (.cons rv .nil)), by rw [List.length_append]; simp; omega, ?_⟩
                have pst : Post K EX W1 (((lcGo tg mc me (wipeE Γ own) (items.drop (i + 1)) s4).bind fun ys s3 => .ok (y :: ys) s3).bind fun ys s => .ok (ad ++ ys) s) (WantO K W0 Q) := pst
                revert pst
                cases lcGo tg mc me (wipeE Γ own) (items.drop (i + 1)) s4 with
                | ok ys s5 =>
                  intro pst
                  show Post K EX W1 (.ok (ad ++ [y] ++ ys) s5) _
                  rw [List.append_assoc]
                  exact pst
                | er e s => exact id
                | bad => exact id
    · have e : i = items.length := by omega
      refine .inl ⟨iv2 e, ?_⟩
      rw [e, List.drop_length] at pst
      have pst : Post K EX W1 (.ok (ad ++ []) s) (WantO K W0 Q) := pst
      rw [List.append_nil] at pst
      exact pst W gW srW p acc p0 hacc hFp hAp rl
theorem do_lc {elt tg iter : Expr} {ifs : List Expr} {scope : Scope} {own : List (Str × Nat)} {mi : Env → M (List D)} {t : Tg} {mc : Env → M Bool} {me : Env → M D} (hc : X.calm = true) (hN : X.N.Nodup) (hi : PId X EX tg iter mi) (ok : BlkOk X.N X.env.scope scope own)
    (hg : ∃ g, (∀ (s : Shared) (H : Hp) (C : Addr) (cl : List (Str × Addr)) (fp : List Addr), PG (X.blk s H scope (compEnvC scope cl C X.env) fp) tg g) ∧ ∀ (B : Hp) (W : Wd) (Γ Γ' : Env) (σ : L2.St) (d : D) (v : V) (Q : L2.St → Hp → Prop), Sat X.K B W Γ σ → Rep X.K W d v → bindT t d Γ = some Γ' → (∀ σ', Sat X.K B W Γ' σ' → (∀ vs : List Nat, (∀ i ∈ t.slots, i ∈ vs) → L2.wipe σ' vs = L2.wipe σ vs) → Q σ' W.H) → g v σ W.H Q)
    (hsl : ∀ i ∈ t.slots, i ∈ own.map (·.2))
    (ht : ∃ tt, (∀ (s : Shared) (H : Hp) (C : Addr) (cl : List (Str × Addr)) (fp : List Addr), PTs (X.blk s H scope (compEnvC scope cl C X.env) fp) ifs tt) ∧ ∀ B W Γ σ s Q, Sat X.K B W Γ σ → SRep X.K W s → Post X.K noEX W (mc Γ s) (WantB Q) → tt σ W.H Q)
    (he : ∃ te, (∀ (s : Shared) (H : Hp) (C : Addr) (cl : List (Str × Addr)) (fp : List Addr), PE (X.blk s H scope (compEnvC scope cl C X.env) fp) elt te) ∧ ∀ B W Γ σ s Q, Sat X.K B W Γ σ → SRep X.K W s → Post X.K noEX W (me Γ s) (Want X.K Q) → te σ W.H Q)
    (hs : ∀ x, foldedSetIterable iter X.env x = pure x) : POd X EX (.ListComp elt [⟨tg, iter, ifs, 0⟩] scope pos) (mLcL mi t mc me (own.map (·.2))) := by
  obtain ⟨wi, pi, qi⟩ := hi
  obtain ⟨g, pg, qg⟩ := hg
  obtain ⟨tt, pt, qt⟩ := ht
  obtain ⟨te, pe, qe⟩ := he
  refine ⟨_, pe_lc hc hN pi ok pg pt pe hs, fun B W Γ σ s Q sat sr pp => ?_⟩
  refine qi B W Γ σ s _ sat sr (Post.bind pp fun ds s1 W1 _ g1 sr1 p1 J iv => fun D hD => ?_)
  split at p1
  · exact lc_turns qg hsl qt qe iv (sat.grow g1) g1 sr1 hD (by assumption) p1
  · exact p1.elim
/-- a new list, as data -/
theorem POd.d {m : Env → M (List D)} (h : POd X EX e m) : PEd X EX e (mFrz m) := by
  obtain ⟨t, p, q⟩ := h
  refine ⟨t, p, fun B W Γ σ s Q sat sr pp => q B W Γ σ s Q sat sr ?_⟩
  have pp : Post X.K EX W ((m Γ s).bind fun ds s1 => .ok (.lst ds) s1) (Want X.K Q) := pp
  revert pp
  cases m Γ s with
  | ok ds s1 =>
    intro pp W1 g1 sr1 p vs h0 h1 h2 h3 r
    exact pp (W1.frz p (.lst vs) h1) (g1.frz h1 h0 h2) (sr1.frz h1 h2 h3) _ (.lst (show upd W1.F p _ p = _ from upd_same) (RepL.frz h1 h2 r))
  | er e s1 => exact id
  | bad => exact id
end
end PD
set_option maxRecDepth 100000
set_option maxHeartbeats 4000000
namespace PD
open PySem PySem.Spec PyProof.Rows L2

/-! ## arguments that are looked at -/
inductive RepVL (K : PySem.W.Frag) (W : Wd) : List D → List V → Prop where
  | nil : RepVL K W [] []
  | cons {d : D} {v : V} {ds : List D} {vs : List V} (h : RepV K W d v) (t : RepVL K W ds vs) : RepVL K W (d :: ds) (v :: vs)
theorem RepVL.grow {K : PySem.W.Frag} {W W' : Wd} (g : Grow W W') : ∀ {ds : List D} {vs : List V}, RepVL K W ds vs → RepVL K W' ds vs
  | _, _, .nil => .nil
  | _, _, .cons h t => .cons (h.grow g) (t.grow g)
theorem RepL.v {K : PySem.W.Frag} {W : Wd} : ∀ {ds : List D} {vs : List V}, RepL K W ds vs → RepVL K W ds vs
  | _, _, .nil => .nil
  | _, _, .cons h t => .cons (.of h) (RepL.v t)
abbrev WantVL (K : PySem.W.Frag) (Q : List V → Hp → Prop) : Wd → Store → List D → Prop := fun W' _ ds => ∀ vs, RepVL K W' ds vs → Q vs W'.H
def PAv (X : Cx) (EX : XK) (es : List Expr) (m : Env → M (List D)) : Prop := ∃ t, PA X es t ∧
  ∀ B W Γ σ s Q, Sat X.K B W Γ σ → SRep X.K W s → Post X.K EX W (m Γ s) (WantVL X.K Q) → t σ W.H Q
section
variable {X : Cx} {EX : XK} {a b c e : Expr} {pos p : Pos} {rest es : List Expr}
theorem dav_nil : PAv X EX [] mNil := ⟨_, pa_nil, fun B W Γ σ s Q sat sr p => p W (Grow.refl W) sr [] .nil⟩
theorem dav_cons {m : Env → M D} {ms : Env → M (List D)} (h : PVd X EX e m) (hs : PAv X EX es ms) (hst : starEach (e :: es) X.env = (false, eval e X.env) :: starEach es X.env) : PAv X EX (e :: es) (mCons m ms) := by
  obtain ⟨t, p, q⟩ := h
  obtain ⟨t2, p2, q2⟩ := hs
  refine ⟨_, pa_cons p p2 hst, fun B W Γ σ s Q sat sr pp => q B W Γ σ s _ sat sr (Post.bind pp fun d s1 W1 _ g1 sr1 p1 v r => ?_)⟩
  exact q2 B W1 Γ σ s1 _ (sat.grow g1) sr1 (Post.bind p1 fun ds s2 W2 _ g2 sr2 pp2 vs rs => pp2 W2 (Grow.refl W2) sr2 _ (.cons (r.grow g2) rs))
/-- a call by values -/
def OpC (K : PySem.W.Frag) (r : List V → Hp → VK → Prop) (f : List D → Option D) : Prop := ∀ (W : Wd) (s : Store) (ds : List D) (d : D) (vs : List V) (Q : VK), RepVL K W ds vs → SRep K W s → f ds = some d →
  (∀ W' v, Grow W W' → SRep K W' s → Rep K W' d v → Q v W'.H) → r vs W.H Q
def mBlt (f : List D → Option D) (ms : Env → M (List D)) : Env → M D := fun Γ s => (ms Γ s).bind fun ds s1 => R.opt (f ds) s1
theorem de_blt {x : Str} {id : String} {r : List V → Hp → VK → Prop} {f : List D → Option D} {ms : Env → M (List D)} (hc : CallR X (.builtin id) r) (hr : OpC X.K r f) (hg : Gl X x) (hm : X.mg x = none) (hv : bootBuiltins x = some (.builtin id))
    (ha : PAv X EX (e :: es) ms) (hn : x ≠ "__name__") (hdb : (x == ("__debug__" : Str)) = false) (he : starEach (e :: es) X.env = (false, eval e X.env) :: starEach es X.env) (hpl : (backTo pos (starEach es X.env)).any (·.1) = false) :
    PEd X EX (.Call (.Name x p) (e :: es) [] pos) (mBlt f ms) := by
  obtain ⟨t, pt, q⟩ := ha
  refine ⟨_, pe_callB hc hg hm hv pt hn hdb he hpl, fun B W Γ σ s Q sat sr pp => q B W Γ σ s _ sat sr (Post.bind pp fun ds s1 W1 _ g1 sr1 p1 vs rs => ?_)⟩
  obtain ⟨d, e', w⟩ := p1.opt
  exact hr W1 s1 ds d vs Q rs sr1 e' fun W' v g s' r => w W' g s' v r
theorem de_bty {x : Str} {T : String} {r : List V → Hp → VK → Prop} {f : List D → Option D} {ms : Env → M (List D)} (hc : CallR X (.type T) r) (hr : OpC X.K r f) (hg : Gl X x) (hm : X.mg x = none) (hv : bootBuiltins x = some (.type T))
    (ha : PAv X EX (e :: es) ms) (hn : x ≠ "__name__") (hdb : (x == ("__debug__" : Str)) = false) (he : starEach (e :: es) X.env = (false, eval e X.env) :: starEach es X.env) (hpl : (backTo pos (starEach es X.env)).any (·.1) = false) :
    PEd X EX (.Call (.Name x p) (e :: es) [] pos) (mBlt f ms) := by
  obtain ⟨t, pt, q⟩ := ha
  refine ⟨_, pe_callTy hc hg hm hv pt hn hdb he hpl, fun B W Γ σ s Q sat sr pp => q B W Γ σ s _ sat sr (Post.bind pp fun ds s1 W1 _ g1 sr1 p1 vs rs => ?_)⟩
  obtain ⟨d, e', w⟩ := p1.opt
  exact hr W1 s1 ds d vs Q rs sr1 e' fun W' v g s' r => w W' g s' v r

/-! ### the built-ins -/
def fLen : List D → Option D
  | [.lst xs] => some (.int xs.length)
  | [.tup xs] => some (.int xs.length)
  | [.scr ns] => some (.int ns.length)
  | [.str z] => if z.length ≤ 100000 then some (.int z.length) else none
  | _ => none
theorem oc_len (K : PySem.W.Frag) : OpC K (fun xs H Q => ∃ x n, xs = [x] ∧ LenV K x H n ∧ Q (.int n) H) fLen := fun W s ds d vs Q r sr e q => by
  unfold fLen at e
  split at e
  · cases e
    cases r with
    | cons r t =>
      cases t
      obtain ⟨a, us, rfl, h, rl⟩ := r.lst
      exact ⟨_, us.length, rfl, .inl ⟨us, .inl (.inl h), rfl⟩, by rw [← rl.len]; exact q W _ (Grow.refl W) sr (.int _)⟩
  · cases e
    cases r with
    | cons r t =>
      cases t
      obtain ⟨a, us, rfl, h, rl⟩ := r.tup
      exact ⟨_, us.length, rfl, .inr ⟨us, h, rfl⟩, by rw [← rl.len]; exact q W _ (Grow.refl W) sr (.int _)⟩
  · cases e
    cases r with
    | cons r t =>
      cases t
      cases r with
      | of r =>
        cases r with
        | scr h => exact ⟨_, _, rfl, .inl ⟨_, Evl.ex_l W.sub h, by rw [List.length_map]⟩, q W _ (Grow.refl W) sr (.int _)⟩
  · split at e
    · rename_i hl
      cases e
      cases r with
      | cons r t =>
        cases t
        have := r.str
        subst this
        exact ⟨_, _, rfl, ⟨Evl.sz_of hl, rfl⟩, q W _ (Grow.refl W) sr (.int _)⟩
    · cases e
  · cases e
def fAbs : List D → Option D
  | [.int i] => some (.int (if i < 0 then -i else i))
  | _ => none
theorem oc_abs (K : PySem.W.Frag) : OpC K (fun xs H Q => ∃ i, xs = [.int i] ∧ Q (.int (if i < 0 then -i else i)) H) fAbs := fun W s ds d vs Q r sr e q => by
  unfold fAbs at e
  split at e
  · cases e
    cases r with
    | cons r t => cases t; rw [r.int]; exact ⟨_, rfl, q W _ (Grow.refl W) sr (.int _)⟩
  · cases e
def fMax : List D → Option D
  | [.int i, .int j] => some (.int (if j > i then j else i))
  | _ => none
def fMin : List D → Option D
  | [.int i, .int j] => some (.int (if j < i then j else i))
  | _ => none
theorem oc_max (K : PySem.W.Frag) : OpC K (fun xs H Q => ∃ i j, xs = [.int i, .int j] ∧ Q (.int (if j > i then j else i)) H) fMax := fun W s ds d vs Q r sr e q => by
  unfold fMax at e
  split at e
  · cases e
    cases r with
    | cons r t => cases t with | cons r2 t2 => cases t2; rw [r.int, r2.int]; exact ⟨_, _, rfl, q W _ (Grow.refl W) sr (.int _)⟩
  · cases e
theorem oc_min (K : PySem.W.Frag) : OpC K (fun xs H Q => ∃ i j, xs = [.int i, .int j] ∧ Q (.int (if j < i then j else i)) H) fMin := fun W s ds d vs Q r sr e q => by
  unfold fMin at e
  split at e
  · cases e
    cases r with
    | cons r t => cases t with | cons r2 t2 => cases t2; rw [r.int, r2.int]; exact ⟨_, _, rfl, q W _ (Grow.refl W) sr (.int _)⟩
  · cases e
def fInt : List D → Option D
  | [.int i] => some (.int i)
  | [.bl b] => some (.int (if b then 1 else 0))
  | _ => none
theorem oc_int (K : PySem.W.Frag) : OpC K (fun xs H Q => (∃ i, xs = [.int i] ∧ Q (.int i) H) ∨ ∃ k, xs = [.bl k] ∧ Q (.int (if k then 1 else 0)) H) fInt := fun W s ds d vs Q r sr e q => by
  unfold fInt at e
  split at e
  · cases e
    cases r with
    | cons r t => cases t; rw [r.int]; exact .inl ⟨_, rfl, q W _ (Grow.refl W) sr (.int _)⟩
  · cases e
    cases r with
    | cons r t => cases t; rw [r.bl]; exact .inr ⟨_, rfl, q W _ (Grow.refl W) sr (.int _)⟩
  · cases e
def fBool : List D → Option D
  | [.int i] => some (.bl (i != 0))
  | [.bl b] => some (.bl b)
  | _ => none
theorem oc_bool (K : PySem.W.Frag) : OpC K (fun xs H Q => (∃ i, xs = [.int i] ∧ Q (.bl (i != 0)) H) ∨ ∃ k, xs = [.bl k] ∧ Q (.bl k) H) fBool := fun W s ds d vs Q r sr e q => by
  unfold fBool at e
  split at e
  · cases e
    cases r with
    | cons r t => cases t; rw [r.int]; exact .inl ⟨_, rfl, q W _ (Grow.refl W) sr (.bl _)⟩
  · cases e
    cases r with
    | cons r t => cases t; rw [r.bl]; exact .inr ⟨_, rfl, q W _ (Grow.refl W) sr (.bl _)⟩
  · cases e
def fStr : List D → Option D
  | [.int i] => if i.natAbs.log2 < 1920 then some (.str (toString i)) else none
  | _ => none
theorem oc_str (K : PySem.W.Frag) : OpC K (fun xs H Q => ∃ i, xs = [.int i] ∧ i.natAbs.log2 < 1920 ∧ Q (.str (toString i)) H) fStr := fun W s ds d vs Q r sr e q => by
  unfold fStr at e
  split at e
  · split at e
    · cases e
      cases r with
      | cons r t => cases t; rw [r.int]; exact ⟨_, rfl, by assumption, q W _ (Grow.refl W) sr (.str _)⟩
    · cases e
  · cases e
/-- all are ints, all are truth values, all are texts -/
def intsOf : List D → Option (List Int)
  | [] => some []
  | .int i :: ds => (intsOf ds).map (i :: ·)
  | _ => none
def blsOf : List D → Option (List Bool)
  | [] => some []
  | .bl i :: ds => (blsOf ds).map (i :: ·)
  | _ => none
def strsOf : List D → Option (List Str)
  | [] => some []
  | .str i :: ds => (strsOf ds).map (i :: ·)
  | _ => none
theorem rep_ints {K : PySem.W.Frag} {W : Wd} : ∀ {ds : List D} {vs : List V} {ns : List Int}, RepL K W ds vs → intsOf ds = some ns → vs = ns.map V.int
  | _, _, _, .nil, e => by cases e; rfl
  | _, _, ns, .cons (d := .int i) (ds := ds) (.int _) t, e => by
    have e' : (intsOf ds).map (i :: ·) = some ns := e
    cases h : intsOf ds with
    | none => rw [h] at e'; cases e'
    | some ms => rw [h] at e'; cases e'; rw [List.map_cons, rep_ints t h]
  | _, _, _, .cons .non _, e => by cases e
  | _, _, _, .cons (.bl _) _, e => by cases e
  | _, _, _, .cons (.str _) _, e => by cases e
  | _, _, _, .cons (.lst _ _) _, e => by cases e
  | _, _, _, .cons (.tup _ _) _, e => by cases e
  | _, _, _, .cons (.cel _) _, e => by cases e
  | _, _, _, .cons (.scr _) _, e => by cases e
  | _, _, _, .cons (.dki _ _ _) _, e => by cases e
theorem rep_bls {K : PySem.W.Frag} {W : Wd} : ∀ {ds : List D} {vs : List V} {ns : List Bool}, RepL K W ds vs → blsOf ds = some ns → vs = ns.map V.bl
  | _, _, _, .nil, e => by cases e; rfl
  | _, _, ns, .cons (d := .bl i) (ds := ds) (.bl _) t, e => by
    have e' : (blsOf ds).map (i :: ·) = some ns := e
    cases h : blsOf ds with
    | none => rw [h] at e'; cases e'
    | some ms => rw [h] at e'; cases e'; rw [List.map_cons, rep_bls t h]
  | _, _, _, .cons .non _, e => by cases e
  | _, _, _, .cons (.int _) _, e => by cases e
  | _, _, _, .cons (.str _) _, e => by cases e
  | _, _, _, .cons (.lst _ _) _, e => by cases e
  | _, _, _, .cons (.tup _ _) _, e => by cases e
  | _, _, _, .cons (.cel _) _, e => by cases e
  | _, _, _, .cons (.scr _) _, e => by cases e
  | _, _, _, .cons (.dki _ _ _) _, e => by cases e
theorem rep_strs {K : PySem.W.Frag} {W : Wd} : ∀ {ds : List D} {vs : List V} {ns : List Str}, RepL K W ds vs → strsOf ds = some ns → vs = ns.map V.str
  | _, _, _, .nil, e => by cases e; rfl
  | _, _, ns, .cons (d := .str i) (ds := ds) (.str _) t, e => by
    have e' : (strsOf ds).map (i :: ·) = some ns := e
    cases h : strsOf ds with
    | none => rw [h] at e'; cases e'
    | some ms => rw [h] at e'; cases e'; rw [List.map_cons, rep_strs t h]
  | _, _, _, .cons .non _, e => by cases e
  | _, _, _, .cons (.int _) _, e => by cases e
  | _, _, _, .cons (.bl _) _, e => by cases e
  | _, _, _, .cons (.lst _ _) _, e => by cases e
  | _, _, _, .cons (.tup _ _) _, e => by cases e
  | _, _, _, .cons (.cel _) _, e => by cases e
  | _, _, _, .cons (.scr _) _, e => by cases e
  | _, _, _, .cons (.dki _ _ _) _, e => by cases e
/-- sum of a tuple of ints -/
def rSumT (K : PySem.W.Frag) : List V → Hp → VK → Prop := fun vs H Q => ∃ (a : Addr) (ns : List Int), vs = [V.ref a] ∧ SqT K H a (ns.map V.int) ∧ Q (.int ns.sum) H
theorem cr_sumT (hc : X.calm = true) : CallR X (.builtin "sum") (rSumT X.K) := by
  intro pins s σ H vs us Q I r h
  obtain ⟨a, ns, rfl, hs, q⟩ := h
  obtain ⟨its, rv, hl, _⟩ := I.tuple hs
  rw [Vals.ref1 r]
  have hi := rv.ints
  obtain ⟨xs, e⟩ := hi.allInts.items
  have hn : numsOf (intItems xs).toList = ns := by rw [← e]; exact hi.numsOf
  rw [nums_intItems] at hn
  have hl' : s.heap.IsTuple a (intItems xs) := by rw [← e]; exact hl
  refine PySem.W.ktm_sumG (I.ok.hd hc) hl' fun h' tk t' hk => ?_
  rw [preSum_eq, List.take_of_length_le (by simp), hn]
  exact ⟨.int _, H, I.kept hk, ⟨_, rfl⟩, q⟩
theorem CallR.or {f : Value} {r r' : List V → Hp → VK → Prop} (h : CallR X f r) (h' : CallR X f r') : CallR X f (fun vs H Q => r vs H Q ∨ r' vs H Q) := by
  intro pins s σ H vs us Q I rr q
  rcases q with q | q
  · exact h pins s σ H vs us Q I rr q
  · exact h' pins s σ H vs us Q I rr q
def fSum : List D → Option D
  | [.lst xs] => (intsOf xs).map fun ns => .int ns.sum
  | [.tup xs] => (intsOf xs).map fun ns => .int ns.sum
  | _ => none
theorem oc_sum (K : PySem.W.Frag) : OpC K (fun vs H Q => rSum K vs H Q ∨ rSumT K vs H Q) fSum := fun W s ds d vs Q r sr e q => by
  unfold fSum at e
  split at e
  · rename_i xs
    cases h : intsOf xs with
    | none => rw [h] at e; cases e
    | some ns =>
      rw [h] at e; cases e
      cases r with
      | cons r t =>
        cases t
        obtain ⟨a, us, rfl, h', rl⟩ := r.lst
        rw [rep_ints rl h] at h'
        exact .inl ⟨a, ns, rfl, .inl (.inl h'), q W _ (Grow.refl W) sr (.int _)⟩
  · rename_i xs
    cases h : intsOf xs with
    | none => rw [h] at e; cases e
    | some ns =>
      rw [h] at e; cases e
      cases r with
      | cons r t =>
        cases t
        obtain ⟨a, us, rfl, h', rl⟩ := r.tup
        rw [rep_ints rl h] at h'
        exact .inr ⟨a, ns, rfl, h', q W _ (Grow.refl W) sr (.int _)⟩
  · cases e
def fAll : List D → Option D
  | [.lst xs] => (blsOf xs).map fun ns => .bl (ns.all id)
  | _ => none
def fAny : List D → Option D
  | [.lst xs] => (blsOf xs).map fun ns => .bl (ns.any id)
  | _ => none
theorem oc_all (K : PySem.W.Frag) : OpC K (rAll K) fAll := fun W s ds d vs Q r sr e q => by
  unfold fAll at e
  split at e
  · rename_i xs
    cases h : blsOf xs with
    | none => rw [h] at e; cases e
    | some ns =>
      rw [h] at e; cases e
      cases r with
      | cons r t =>
        cases t
        obtain ⟨a, us, rfl, h', rl⟩ := r.lst
        rw [rep_bls rl h] at h'
        exact ⟨a, ns, rfl, .inl (.inl h'), q W _ (Grow.refl W) sr (.bl _)⟩
  · cases e
theorem oc_any (K : PySem.W.Frag) : OpC K (rAny K) fAny := fun W s ds d vs Q r sr e q => by
  unfold fAny at e
  split at e
  · rename_i xs
    cases h : blsOf xs with
    | none => rw [h] at e; cases e
    | some ns =>
      rw [h] at e; cases e
      cases r with
      | cons r t =>
        cases t
        obtain ⟨a, us, rfl, h', rl⟩ := r.lst
        rw [rep_bls rl h] at h'
        exact ⟨a, ns, rfl, .inl (.inl h'), q W _ (Grow.refl W) sr (.bl _)⟩
  · cases e
def fTuple : List D → Option D
  | [.lst xs] => some (.tup xs)
  | [.tup xs] => some (.tup xs)
  | _ => none
theorem oc_tuple (K : PySem.W.Frag) : OpC K (fun xs H Q => rTupF K xs H Q) fTuple := fun W s ds d vs Q r sr e q => by
  unfold fTuple at e
  split at e
  · cases e
    cases r with
    | cons r t =>
      cases t
      obtain ⟨a, us, rfl, h, rl⟩ := r.lst
      exact ⟨a, us, rfl, .inl ⟨.inl (.inl h), fun l o to hl => q (W.new l (.frz o (.tup us))) _ (Grow.new hl sr) (sr.new hl) (two_tup to hl sr rl)⟩⟩
  · cases e
    cases r with
    | cons r t =>
      cases t
      obtain ⟨a, us, e', h, rl⟩ := r.tup
      subst e'
      cases r with
      | of r => exact ⟨a, us, rfl, .inr ⟨h, q W _ (Grow.refl W) sr r⟩⟩
  · cases e
def fList : List D → Option D
  | [.lst xs] => some (.lst xs)
  | [.tup xs] => some (.lst xs)
  | _ => none
theorem oc_list (K : PySem.W.Frag) : OpC K (fun xs H Q => ∃ p ys, xs = [.ref p] ∧ (SqL K H p ys ∨ SqT K H p ys) ∧ ∀ l, H l = none → Q (.ref l) (upd H l (.lst ys))) fList := fun W s ds d vs Q r sr e q => by
  unfold fList at e
  split at e
  · cases e
    cases r with
    | cons r t =>
      cases t
      obtain ⟨a, us, rfl, h, rl⟩ := r.lst
      exact ⟨a, us, rfl, .inl (.inl (.inl h)), fun l hl => q (W.new l (.lst us)) _ (Grow.new hl sr) (sr.new hl) (two_lst hl sr rl)⟩
  · cases e
    cases r with
    | cons r t =>
      cases t
      obtain ⟨a, us, rfl, h, rl⟩ := r.tup
      exact ⟨a, us, rfl, .inr h, fun l hl => q (W.new l (.lst us)) _ (Grow.new hl sr) (sr.new hl) (two_lst hl sr rl)⟩
  · cases e

/-! ### in, is -/
def rInT (K : PySem.W.Frag) : R2 := fun x y H Q => ∃ d ds, Dp K H x d ∧ Dp K H y (.tuple ds) ∧ SeqAt.shaped d = true ∧ SeqAt.shaped (.tuple ds) = true ∧ Q (.bl (ds.any fun z => PyData.eqv z d)) H
def rNotInT (K : PySem.W.Frag) : R2 := fun x y H Q => ∃ d ds, Dp K H x d ∧ Dp K H y (.tuple ds) ∧ SeqAt.shaped d = true ∧ SeqAt.shaped (.tuple ds) = true ∧ Q (.bl (!ds.any fun z => PyData.eqv z d)) H
theorem op_inT (hu : X.A.units + 65 < cLine) : OpR X (compareOp .In) (rInT X.K) := by
  intro pins s σ H x y v u Q I rx ry h
  obtain ⟨d, ds, hd, he, sd, se, q⟩ := h
  obtain ⟨as, r1⟩ := Dp.reads I d x v hd rx
  obtain ⟨bs, r2⟩ := Dp.reads I (.tuple ds) y u he ry
  exact SeqAt.in_tuple_reads r2 r1 (SeqAt.canLay_of_shaped se) (SeqAt.canLay_of_shaped sd) (room_in_shaped sd hu) ⟨.bl _, H, I, rfl, q⟩
theorem op_notInT (hu : X.A.units + 65 < cLine) : OpR X (compareOp .NotIn) (rNotInT X.K) := by
  intro pins s σ H x y v u Q I rx ry h
  obtain ⟨d, ds, hd, he, sd, se, q⟩ := h
  obtain ⟨as, r1⟩ := Dp.reads I d x v hd rx
  obtain ⟨bs, r2⟩ := Dp.reads I (.tuple ds) y u he ry
  exact SeqAt.notIn_tuple_reads r2 r1 (SeqAt.canLay_of_shaped se) (SeqAt.canLay_of_shaped sd) (room_in_shaped sd hu) ⟨.bl _, H, I, rfl, q⟩
def D.anyEq (d : D) : List D → Bool
  | [] => false
  | x :: xs => D.eqv x d || D.anyEq d xs
theorem anyEq_py (d : D) (n m : Nat) (hd : D.fine n d = true) : ∀ xs : List D, D.fineL m xs = true → ((D.pyL xs).any fun z => PyData.eqv z d.py) = D.anyEq d xs
  | [], _ => by simp [D.pyL, D.anyEq]
  | x :: xs, h => by
    simp only [D.fineL, Bool.and_eq_true] at h
    simp only [D.pyL, List.any_cons, D.anyEq]
    rw [D.eqv_py x d m n h.1 hd, anyEq_py d n m hd xs h.2]
def fIn (a b : D) : Option D := if D.fine 60 a && D.fine 60 b then (match b with
  | .lst xs => some (.bl (D.anyEq a xs))
  | .tup xs => some (.bl (D.anyEq a xs))
  | _ => none) else none
def fNotIn (a b : D) : Option D := if D.fine 60 a && D.fine 60 b then (match b with
  | .lst xs => some (.bl (!D.anyEq a xs))
  | .tup xs => some (.bl (!D.anyEq a xs))
  | _ => none) else none
theorem od_in (K : PySem.W.Frag) : OpD K (fun x y H Q => rInD K x y H Q ∨ rInT K x y H Q) fIn := fun W s d1 d2 d x y Q r1 r2 sr e q => by
  unfold fIn at e
  split at e
  · rename_i h
    rw [Bool.and_eq_true] at h
    split at e
    · rename_i xs
      cases e
      have hb := h.2
      simp only [D.fine, Bool.and_eq_true] at hb
      refine .inl ⟨_, D.pyL xs, r1.dp h.1, by have := r2.dp h.2; simpa only [D.py] using this, D.fine_shaped h.1, by have := D.fine_shaped h.2; simpa only [D.py] using this, ?_⟩
      rw [anyEq_py d1 60 _ h.1 xs hb.2]
      exact q W _ (Grow.refl W) sr (.bl _)
    · rename_i xs
      cases e
      have hb := h.2
      simp only [D.fine, Bool.and_eq_true] at hb
      refine .inr ⟨_, D.pyL xs, r1.dp h.1, by have := r2.dp h.2; simpa only [D.py] using this, D.fine_shaped h.1, by have := D.fine_shaped h.2; simpa only [D.py] using this, ?_⟩
      rw [anyEq_py d1 60 _ h.1 xs hb.2]
      exact q W _ (Grow.refl W) sr (.bl _)
    · cases e
  · cases e
theorem od_notIn (K : PySem.W.Frag) : OpD K (fun x y H Q => rNotInD K x y H Q ∨ rNotInT K x y H Q) fNotIn := fun W s d1 d2 d x y Q r1 r2 sr e q => by
  unfold fNotIn at e
  split at e
  · rename_i h
    rw [Bool.and_eq_true] at h
    split at e
    · rename_i xs
      cases e
      have hb := h.2
      simp only [D.fine, Bool.and_eq_true] at hb
      refine .inl ⟨_, D.pyL xs, r1.dp h.1, by have := r2.dp h.2; simpa only [D.py] using this, D.fine_shaped h.1, by have := D.fine_shaped h.2; simpa only [D.py] using this, ?_⟩
      rw [anyEq_py d1 60 _ h.1 xs hb.2]
      exact q W _ (Grow.refl W) sr (.bl _)
    · rename_i xs
      cases e
      have hb := h.2
      simp only [D.fine, Bool.and_eq_true] at hb
      refine .inr ⟨_, D.pyL xs, r1.dp h.1, by have := r2.dp h.2; simpa only [D.py] using this, D.fine_shaped h.1, by have := D.fine_shaped h.2; simpa only [D.py] using this, ?_⟩
      rw [anyEq_py d1 60 _ h.1 xs hb.2]
      exact q W _ (Grow.refl W) sr (.bl _)
    · cases e
  · cases e
/-- is True, is False: of truth values, of None -/
theorem op_isNB : OpR X (compareOp .Is) (fun x y H Q => ∃ b, x = .non ∧ y = .bl b ∧ Q (.bl false) H) := by
  intro pins s σ H x y v u Q I rx ry h
  obtain ⟨b, rfl, rfl, q⟩ := h
  cases (show v = Value.none from rx)
  cases (show u = Value.bool b from ry)
  exact wpAny_is_other rfl (fun z => by cases z) ⟨.bl false, H, I, rfl, q⟩
theorem op_notNB : OpR X (compareOp .IsNot) (fun x y H Q => ∃ b, x = .non ∧ y = .bl b ∧ Q (.bl true) H) := by
  intro pins s σ H x y v u Q I rx ry h
  obtain ⟨b, rfl, rfl, q⟩ := h
  cases (show v = Value.none from rx)
  cases (show u = Value.bool b from ry)
  exact wpAny_isNot_other rfl (fun z => by cases z) ⟨.bl true, H, I, rfl, q⟩
def rIsD : R2 := fun x y H Q => rIsB x y H Q ∨ (y = .non ∧ Q (.bl (decide (x = .non))) H) ∨ ∃ b, x = .non ∧ y = .bl b ∧ Q (.bl false) H
def rNotIsD : R2 := fun x y H Q => rNotB x y H Q ∨ (y = .non ∧ Q (.bl (!decide (x = .non))) H) ∨ ∃ b, x = .non ∧ y = .bl b ∧ Q (.bl true) H
theorem op_isD : OpR X (compareOp .Is) rIsD := op_isBl.or (op_isN.or op_isNB)
theorem op_notIsD : OpR X (compareOp .IsNot) rNotIsD := op_notBl.or (op_notN.or op_notNB)
def fIs (a b : D) : Option D := match b with
  | .non => some (.bl a.isN)
  | .bl k => (match a with
    | .bl j => some (.bl (decide (j = k)))
    | .non => some (.bl false)
    | _ => none)
  | _ => none
def fNotIs (a b : D) : Option D := match b with
  | .non => some (.bl (!a.isN))
  | .bl k => (match a with
    | .bl j => some (.bl (!decide (j = k)))
    | .non => some (.bl true)
    | _ => none)
  | _ => none
theorem od_is (K : PySem.W.Frag) : OpD K rIsD fIs := fun W s d1 d2 d x y Q r1 r2 sr e q => by
  unfold fIs at e
  split at e
  · exact .inr (.inl (od_isN K W s d1 _ d x y Q r1 r2 sr e q))
  · split at e
    · cases e
      exact .inl ⟨_, _, r1.bl, r2.bl, q W _ (Grow.refl W) sr (.bl _)⟩
    · cases e
      exact .inr (.inr ⟨_, r1.non, r2.bl, q W _ (Grow.refl W) sr (.bl _)⟩)
    · cases e
  · cases e
theorem od_notIs (K : PySem.W.Frag) : OpD K rNotIsD fNotIs := fun W s d1 d2 d x y Q r1 r2 sr e q => by
  unfold fNotIs at e
  split at e
  · exact .inr (.inl (od_notN K W s d1 _ d x y Q r1 r2 sr e q))
  · split at e
    · cases e
      exact .inl ⟨_, _, r1.bl, r2.bl, q W _ (Grow.refl W) sr (.bl _)⟩
    · cases e
      exact .inr (.inr ⟨_, r1.non, r2.bl, q W _ (Grow.refl W) sr (.bl _)⟩)
    · cases e
  · cases e
end
end PD
set_option maxRecDepth 100000
set_option maxHeartbeats 4000000
namespace PD
open PySem PySem.Spec PyProof.Rows L2
section
variable {X : Cx} {EX : XK} {a b c e : Expr} {pos p p2 : Pos} {rest es : List Expr}

/-! ### isinstance of a built-in class -/
def D.tyName : D → Option String
  | .non => some "NoneType"
  | .bl _ => some "bool"
  | .int _ => some "int"
  | .str _ => some "str"
  | .lst _ => some "list"
  | .tup _ => some "tuple"
  | _ => none
def isiB : String → String → Option Bool
  | "NoneType", _ => some false
  | "bool", "bool" => some true
  | "bool", "int" => some true
  | "int", "int" => some true
  | "str", "str" => some true
  | "list", "list" => some true
  | "tuple", "tuple" => some true
  | _, _ => some false
/-- the classes that are asked for -/
def isiT : List String := ["int", "bool", "str", "tuple", "list"]
theorem isi_ok {a b : String} {r : Bool} (ha : a = "NoneType" ∨ a = "bool" ∨ a = "int" ∨ a = "str" ∨ a = "list" ∨ a = "tuple") (hb : b ∈ isiT) (h : isiB a b = some r) : kitB a b = some r := by
  have hb : b = "int" ∨ b = "bool" ∨ b = "str" ∨ b = "tuple" ∨ b = "list" := by simpa [isiT] using hb
  rw [← h]
  rcases ha with rfl | rfl | rfl | rfl | rfl | rfl <;> rcases hb with rfl | rfl | rfl | rfl | rfl <;> decide +kernel
def fIsi (T : String) (d : D) : Option D := (d.tyName.bind fun t => isiB t T).map .bl
theorem rep_ty {K : PySem.W.Frag} {W : Wd} {d : D} {v : V} {t : String} (r : RepV K W d v) (h : d.tyName = some t) : TyX K W.H v (.type t) ∧ (t = "NoneType" ∨ t = "bool" ∨ t = "int" ∨ t = "str" ∨ t = "list" ∨ t = "tuple") := by
  cases r with
  | of r =>
    cases r with
    | non => cases h; exact ⟨.base .non, by simp⟩
    | bl b => cases h; exact ⟨.base (.bl b), by simp⟩
    | int i => cases h; exact ⟨.base (.int i), by simp⟩
    | str x => cases h; exact ⟨.base (.str x), by simp⟩
    | lst h' _ => cases h; exact ⟨.base (.lst (W.sub _ _ h')), by simp⟩
    | tup h' _ =>
      cases h
      refine ⟨?_, by simp⟩
      rcases h' with ⟨o, _, h'⟩ | ⟨o, its, n, h1, h2, _⟩
      · exact .fTuple (W.sub _ _ h')
      · exact .kTuple h2 h1.cls
    | cel _ => cases h
    | scr _ => cases h
    | dki _ _ _ => cases h
  | own n h' _ => cases h; exact ⟨.base (.lst h'), by simp⟩
theorem de_isi {T : Str} {t : String} {m : Env → M D} (hg : Gl X "isinstance") (hm : X.mg "isinstance" = none) (hgT : Gl X T) (hmT : X.mg T = none) (hvT : bootBuiltins T = some (.type t)) (hT : t ∈ isiT) (hnT : T ≠ "__name__") (hdT : (T == ("__debug__" : Str)) = false)
    (ha : PVd X EX a m) (he : starEach [a, .Name T p2] X.env = (false, eval a X.env) :: starEach [.Name T p2] X.env) (he2 : starEach [.Name T p2] X.env = [(false, eval (.Name T p2) X.env)]) (hpl : (backTo pos (starEach [.Name T p2] X.env)).any (·.1) = false) :
    PEd X EX (.Call (.Name "isinstance" p) [a, .Name T p2] [] pos) (mOp1 (fIsi t) m) := by
  obtain ⟨ta, pa, qa⟩ := ha
  refine ⟨_, pe_callB call_isi hg hm boot_isinstance (pa_cons pa (pa_cons (pe_bltn (v := .ty t) hgT hmT hvT rfl hnT hdT) pa_nil he2) he) (by decide) (by decide) he hpl, fun B W Γ σ s Q sat sr pp => ?_⟩
  refine qa B W Γ σ s _ sat sr (Post.bind pp fun d1 s1 W1 _ g sr1 p1 x r => ?_)
  obtain ⟨d, e, w⟩ := p1.opt
  unfold fIsi at e
  cases ht : d1.tyName with
  | none => rw [ht] at e; cases e
  | some u =>
    rw [ht] at e
    cases hb : isiB u t with
    | none =>
      have e : (isiB u t).map D.bl = some d := e
      rw [hb] at e; cases e
    | some k =>
      have e : (isiB u t).map D.bl = some d := e
      rw [hb] at e; cases e
      obtain ⟨ty, hu⟩ := rep_ty r ht
      exact ⟨x, .ty t, .type u, .type t, k, rfl, .ty t, ty, kit_ty (isi_ok hu hT hb), w W1 (Grow.refl W1) sr1 _ (.bl _)⟩

/-! ### calls of defs -/
def Spec (K : PySem.W.Frag) (n : Nat) (m : List D → Store → R D) : Sp := fun vs H Q E => ∃ (W : Wd) (ds : List D) (s : Store), W.H = H ∧ SRep K W s ∧ RepL K W ds vs ∧ ds.length = n ∧ Post K E W (m ds s) (Want K Q)
def mCall (n : Nat) (m : List D → Store → R D) (ms : Env → M (List D)) : Env → M D := fun Γ s => (ms Γ s).bind fun ds s1 => if ds.length = n then m ds s1 else .bad
theorem de_call {CX : CXT} {k n : Nat} {f : Addr} {fd : FuncData} {ps : List Str} {x : Str} {m : List D → Store → R D} {ms : Env → M (List D)} (F : FnOk X.prog X.w X.K X.mg X.base CX k f fd ps (Spec X.K n m)) (hr : Room k X.A) (hg : Gl X x) (hm : X.mg x = some (.ref f)) (hk : PySem.W.keepIn X.K (.ref f) = true)
    (hb : Binds X.K fd ps []) (hx : Passes CX X EX) (ha : PAd X EX (e :: es) ms) (hdb : (x == ("__debug__" : Str)) = false) (he : starEach (e :: es) X.env = (false, eval e X.env) :: starEach es X.env) (hpl : (backTo pos (starEach es X.env)).any (·.1) = false) :
    PEd X EX (.Call (.Name x p) (e :: es) [] pos) (mCall n m ms) := by
  obtain ⟨t, pt, q⟩ := ha
  refine ⟨_, pe_call F hr hg hm hk hb .nil hx pt hdb he hpl, fun B W Γ σ s Q sat sr pp => q B W Γ σ s _ sat sr (Post.bind pp fun ds s1 W1 _ g1 sr1 p1 vs rs => ?_)⟩
  split at p1
  · rw [List.append_nil]
    exact ⟨W1, ds, s1, rfl, sr1, rs, by assumption, p1⟩
  · exact p1.elim
theorem de_call0 {CX : CXT} {k n : Nat} {f : Addr} {fd : FuncData} {ps : List Str} {x : Str} {m : List D → Store → R D} (F : FnOk X.prog X.w X.K X.mg X.base CX k f fd ps (Spec X.K n m)) (hr : Room k X.A) (hg : Gl X x) (hm : X.mg x = some (.ref f)) (hk : PySem.W.keepIn X.K (.ref f) = true)
    (hb : Binds X.K fd ps []) (hx : Passes CX X EX) (hdb : (x == ("__debug__" : Str)) = false) : PEd X EX (.Call (.Name x p) [] [] pos) (mCall n m mNil) := by
  refine ⟨_, pe_call0 F hr hg hm hk hb .nil hx hdb, fun B W Γ σ s Q sat sr pp => ?_⟩
  have pp : Post X.K EX W (if ([] : List D).length = n then m [] s else .bad) (Want X.K Q) := pp
  split at pp
  · exact ⟨W, [], s, rfl, sr, .nil, by assumption, pp⟩
  · exact pp.elim

/-! ### methods of texts -/
theorem strs_map : ∀ ys : List Str, strsOf (ys.map D.str) = some ys
  | [] => rfl
  | y :: ys => by
    show (strsOf (ys.map D.str)).map (y :: ·) = _
    rw [strs_map ys]; rfl
theorem repL_strs {K : PySem.W.Frag} {W : Wd} : ∀ ys : List Str, RepL K W (ys.map D.str) (ys.map V.str)
  | [] => .nil
  | y :: ys => .cons (.str y) (repL_strs ys)
def mStr2 (f : Str → D → Option D) (ma mb : Env → M D) : Env → M D := fun Γ s => (ma Γ s).bind fun d1 s1 => match d1 with
  | .str z => (mb Γ s1).bind fun d2 s2 => R.opt (f z d2) s2
  | _ => .bad
def fSplit (a : Str) : D → Option D
  | .str b => if (b.length == 0) = false ∧ a.length ≤ 100000 then some (.lst ((Txt.split a b).map D.str)) else none
  | _ => none
def fJoin (a : Str) : D → Option D
  | .lst ds => (strsOf ds).bind fun ys => if (ys.map (·.length)).sum + ys.length * a.length ≤ 100000 then some (.str (Txt.join a ys)) else none
  | _ => none
theorem de_str2 {f : Str → D → Option D} {r : V → List V → Hp → VK → Prop} {ce : Expr} {ta tb : TE} {ma mb : Env → M D} (hpe : PE X ce (tM1 r ta tb))
    (qa : ∀ B W Γ σ s Q, Sat X.K B W Γ σ → SRep X.K W s → Post X.K EX W (ma Γ s) (WantV X.K Q) → ta σ W.H Q) (qb : ∀ B W Γ σ s Q, Sat X.K B W Γ σ → SRep X.K W s → Post X.K EX W (mb Γ s) (WantV X.K Q) → tb σ W.H Q)
    (hr : ∀ (W : Wd) (s : Store) (z : Str) (d2 d : D) (y : V) (Q : VK), RepV X.K W d2 y → SRep X.K W s → f z d2 = some d → (∀ W' v, Grow W W' → SRep X.K W' s → Rep X.K W' d v → Q v W'.H) → r (.str z) [y] W.H Q) :
    PEd X EX ce (mStr2 f ma mb) := by
  refine ⟨_, hpe, fun B W Γ σ s Q sat sr pp => ?_⟩
  refine qa B W Γ σ s _ sat sr (Post.bind pp fun d1 s1 W1 h1 g1 sr1 p1 x rx => ?_)
  split at p1
  · rename_i z
    have := rx.str
    subst this
    refine ⟨⟨_, rfl⟩, qb B W1 Γ σ s1 _ (sat.grow g1) sr1 (Post.bind p1 fun d2 s2 W2 _ g2 sr2 p2 y ry => ?_)⟩
    obtain ⟨d, e', w⟩ := p2.opt
    exact hr W2 s2 z d2 d y Q ry sr2 e' fun W' v g s' r => w W' g s' v r
  · exact p1.elim
theorem de_split {apos : Pos} {ma mb : Env → M D} (ha : PVd X EX a ma) (hb : PVd X EX b mb) (hs : starEach [b] X.env = [(false, eval b X.env)]) (hbase : attributeBase a "split" X.env (eval a X.env) = eval a X.env) (hline : (apos.endLine == pos.line) = true) :
    PEd X EX (.Call (.Attribute a "split" apos) [b] [] pos) (mStr2 fSplit ma mb) := by
  obtain ⟨ta, pa, qa⟩ := ha
  obtain ⟨tb, pb, qb⟩ := hb
  refine de_str2 (pe_split pa pb hs hbase hline) qa qb fun W s z d2 d y Q ry sr e w => ?_
  unfold fSplit at e
  split at e
  · rename_i u
    have := ry.str
    subst this
    split at e
    · rename_i h
      cases e
      exact ⟨_, _, rfl, rfl, h.1, Nat.le_trans (Nat.add_le_add_right h.2 2) (by decide), fun p hp => w (W.new p (.lst ((Txt.split z u).map V.str))) _ (Grow.new hp sr) (sr.new hp) (two_lst hp sr (repL_strs _))⟩
    · cases e
  · cases e
theorem de_join {apos : Pos} {ma mb : Env → M D} (ha : PVd X EX a ma) (hb : PVd X EX b mb) (hs : starEach [b] X.env = [(false, eval b X.env)]) (hbase : attributeBase a "join" X.env (eval a X.env) = eval a X.env) (hline : (apos.endLine == pos.line) = true) :
    PEd X EX (.Call (.Attribute a "join" apos) [b] [] pos) (mStr2 fJoin ma mb) := by
  obtain ⟨ta, pa, qa⟩ := ha
  obtain ⟨tb, pb, qb⟩ := hb
  refine de_str2 (pe_join pa pb hs hbase hline) qa qb fun W s z d2 d y Q ry sr e w => ?_
  unfold fJoin at e
  split at e
  · rename_i ds
    cases hd : strsOf ds with
    | none => rw [hd] at e; cases e
    | some ys =>
      rw [hd] at e
      have e : (if (ys.map (·.length)).sum + ys.length * z.length ≤ 100000 then some (D.str (Txt.join z ys)) else none) = some d := e
      split at e
      · rename_i hz
        cases e
        obtain ⟨p, vs, rfl, hp, rl⟩ := ry.lst
        have := rep_strs rl hd
        subst this
        exact ⟨z, p, ys, rfl, rfl, .inl (SqL.of hp), Nat.le_trans hz (by decide), w W _ (Grow.refl W) sr (.str _)⟩
      · cases e
  · cases e

/-! ### constants of the module -/
theorem de_glob {x : Str} {d : D} {v : V} {u : Value} (hg : Gl X x) (hm : X.mg x = some u) (r : RelV v u) (hd : (x == ("__debug__" : Str)) = false) (rep : ∀ W, Rep X.K W d v) : PEd X EX (.Name x pos) (mCon d) := de_con (pe_glob hg hm r hd) rep
def idxOf (p : D → Bool) : List D → Option Nat
  | [] => none
  | d :: ds => if p d then some 0 else (idxOf p ds).map (· + 1)
theorem idxOf_some {p : D → Bool} : ∀ {ds : List D} {j : Nat}, idxOf p ds = some j → ∃ z, ds[j]? = some z ∧ p z = true ∧ ∀ m z', m < j → ds[m]? = some z' → p z' = false
  | [], j, h => by cases h
  | d :: ds, j, h => by
    unfold idxOf at h
    split at h
    · cases h
      exact ⟨d, rfl, by assumption, fun m z' hm => by omega⟩
    · rename_i hp
      cases hi : idxOf p ds with
      | none => rw [hi] at h; cases h
      | some k =>
        rw [hi] at h
        cases h
        obtain ⟨z, h1, h2, h3⟩ := idxOf_some hi
        refine ⟨z, by simpa using h1, h2, fun m z' hm e => ?_⟩
        cases m with
        | zero =>
          simp at e
          subst e
          simpa using hp
        | succ m => exact h3 m z' (by simp only [] at hm; omega) (by simpa using e)
/-- t.index(x): t a constant of texts -/
def fGIdx (ys : List Str) : D → Option D
  | .str z => (idxOf (fun d => match d with | .str y => y == z | _ => false) (ys.map D.str)).map fun j => .int (j : Nat)
  | _ => none
theorem de_gindex {x : Str} {p2 : Pos} {ys : List Str} {g : Addr} {ma : Env → M D} {apos : Pos} {o : Obj} (hg : Gl X x) (hm : X.mg x = some (.ref g)) (hdb : (x == ("__debug__" : Str)) = false) (hl : X.K.lookup g = some o) (hcl : o.cls = .type "tuple") (hdi : o.dict = none) (hq : ∀ H, SqT X.K H g (ys.map V.str)) (ha : PVd X EX a ma)
    (hs : starEach [a] X.env = [(false, eval a X.env)]) (hbase : attributeBase (.Name x p2) "index" X.env (eval (.Name x p2) X.env) = eval (.Name x p2) X.env) (hline : (apos.endLine == pos.line) = true)
    (hfew : ((backTo pos (starEach [a] X.env)).all (fun x => !x.1) && (backToKw pos (keywordEach [] X.env)).all (fun x => x.1.isSome)
      && decide ([a].length + ([] : List Keyword).length + (if ([] : List Keyword).isEmpty then 0 else 1) < 30)) = true) :
    PEd X EX (.Call (.Attribute (.Name x p2) "index" apos) [a] [] pos) (mOp1 (fGIdx ys) ma) := by
  obtain ⟨ta, pa, qa⟩ := ha
  refine ⟨_, pe_bm PySem.F.plainAttrs_tuple PySem.F.slot_tuple_index PySem.F.type_tuple_index mt_tup_index (pe_glob (v := .ref g) hg hm rfl hdb) (pa_cons pa pa_nil hs) hbase hfew hline hs (by rfl), fun B W Γ σ s Q sat sr pp => ?_⟩
  refine ⟨.inr (.inl ⟨rfl, o, hl, hcl, hdi⟩), qa B W Γ σ s _ sat sr (Post.bind pp fun d1 s1 W1 _ g1 sr1 p1 x r => ?_)⟩
  obtain ⟨d, e, w⟩ := p1.opt
  unfold fGIdx at e
  clear p1
  rename_i hh
  clear hh
  split at e
  · rename_i z
    have := r.str
    subst this
    cases hi : idxOf (fun d => match d with | .str y => y == z | _ => false) (ys.map D.str) with
    | none => rw [hi] at e; cases e
    | some j =>
      rw [hi] at e
      cases e
      obtain ⟨u, h1, h2, h3⟩ := idxOf_some hi
      rw [List.getElem?_map] at h1
      cases hy : ys[j]? with
      | none => rw [hy] at h1; cases h1
      | some y =>
        rw [hy] at h1
        cases h1
        have hyz : y = z := eq_of_beq h2
        subst hyz
        refine ⟨g, ys, y, j, rfl, rfl, hq _, hy, fun m hm e => ?_, w W1 (Grow.refl _) sr1 _ (.int _)⟩
        have := h3 m (.str y) hm (by rw [List.getElem?_map, e]; rfl)
        simp at this
  · cases e
/-- xs.index(x) of a list -/
def fLIdx (a b : D) : Option D := match a with
  | .lst ds => if D.fine 60 (.lst ds) && D.fine 60 b then (idxOf (fun z => D.eqv z b) ds).map fun j => .int (j : Nat) else none
  | _ => none
def mLIdx (ma mb : Env → M D) : Env → M D := fun Γ s => (ma Γ s).bind fun d1 s1 => match d1 with
  | .lst _ => (mb Γ s1).bind fun d2 s2 => R.opt (fLIdx d1 d2) s2
  | _ => .bad
theorem pyL_get : ∀ {ds : List D} {j : Nat}, (D.pyL ds)[j]? = ds[j]?.map D.py
  | [], j => by simp [D.pyL]
  | d :: ds, 0 => by simp [D.pyL]
  | d :: ds, j + 1 => by simp only [D.pyL, List.getElem?_cons_succ]; exact pyL_get
theorem fineL_get {n : Nat} : ∀ {ds : List D} {j : Nat} {d : D}, D.fineL n ds = true → ds[j]? = some d → D.fine n d = true
  | [], _, _, _, h => by simp at h
  | e :: ds, 0, d, h, h' => by
    simp only [D.fineL, Bool.and_eq_true] at h
    simp at h'; subst h'; exact h.1
  | e :: ds, j + 1, d, h, h' => by
    simp only [D.fineL, Bool.and_eq_true] at h
    exact fineL_get h.2 (by simpa using h')
theorem de_lindex {apos : Pos} {ma mb : Env → M D} (hu : X.A.units + 65 < cLine) (ha : PVd X EX a ma) (hb : PVd X EX b mb) (hs : starEach [b] X.env = [(false, eval b X.env)]) (hbase : attributeBase a "index" X.env (eval a X.env) = eval a X.env) (hline : (apos.endLine == pos.line) = true)
    (hfew : ((backTo pos (starEach [b] X.env)).all (fun x => !x.1) && (backToKw pos (keywordEach [] X.env)).all (fun x => x.1.isSome)
      && decide ([b].length + ([] : List Keyword).length + (if ([] : List Keyword).isEmpty then 0 else 1) < 30)) = true) :
    PEd X EX (.Call (.Attribute a "index" apos) [b] [] pos) (mLIdx ma mb) := by
  obtain ⟨ta, pa, qa⟩ := ha
  obtain ⟨tb, pb, qb⟩ := hb
  refine ⟨_, pe_bm PySem.F.plainAttrs_list PySem.F.slot_list_index PySem.F.type_list_index (mt_indexD hu) pa (pa_cons pb pa_nil hs) hbase hfew hline hs (by rfl), fun B W Γ σ s Q sat sr pp => ?_⟩
  refine qa B W Γ σ s _ sat sr (Post.bind pp fun d1 s1 W1 hh g1 sr1 p1 x rx => ?_)
  clear hh
  split at p1
  · rename_i ds
    obtain ⟨q, vs, rfl, hq, rl⟩ := rx.lst
    refine ⟨.inl ⟨rfl, vs, SqL.of hq⟩, qb B W1 Γ σ s1 _ (sat.grow g1) sr1 (Post.bind p1 fun d2 s2 W2 _ g2 sr2 p2 y ry => ?_)⟩
    obtain ⟨d, e, w⟩ := p2.opt
    have e : (if (D.fine 60 (.lst ds) && D.fine 60 d2) = true then (idxOf (fun z => D.eqv z d2) ds).map fun j => D.int (j : Nat) else none) = some d := e
    · split at e
      · rename_i hf
        simp only [Bool.and_eq_true] at hf
        cases hi : idxOf (fun z => D.eqv z d2) ds with
        | none => rw [hi] at e; cases e
        | some j =>
          rw [hi] at e
          cases e
          obtain ⟨z, h1, h2, h3⟩ := idxOf_some hi
          have fl : D.fineL 59 ds = true := by
            have := hf.1
            simp only [D.fine, Bool.and_eq_true] at this
            exact this.2
          refine ⟨q, y, d2.py, D.pyL ds, j, z.py, rfl, rfl, ?_, ry.dp hf.2, D.fine_shaped (d := .lst ds) hf.1, D.fine_shaped hf.2, by rw [pyL_get, h1]; rfl, ?_, fun m z' hm hz => ?_, w W2 (Grow.refl _) sr2 _ (.int _)⟩
          · exact (rx.grow g2).dp (d := .lst ds) hf.1
          · rw [D.eqv_py z d2 _ _ (fineL_get fl h1) hf.2]; exact h2
          · rw [pyL_get] at hz
            cases hz' : ds[m]? with
            | none => rw [hz'] at hz; cases hz
            | some u =>
              rw [hz'] at hz
              cases hz
              rw [D.eqv_py u d2 _ _ (fineL_get fl hz') hf.2]
              exact h3 m u hm hz'
      · cases e
  · exact p1.elim

/-! ### defs that hand out a new list -/
def SpecO (K : PySem.W.Frag) (n : Nat) (m : List D → Store → R (List D)) : Sp := fun vs H Q E => ∃ (W : Wd) (ds : List D) (s : Store), W.H = H ∧ SRep K W s ∧ RepL K W ds vs ∧ ds.length = n ∧ Post K E W (m ds s) (WantO K W Q)
def mCallO (n : Nat) (m : List D → Store → R (List D)) (ms : Env → M (List D)) : Env → M (List D) := fun Γ s => (ms Γ s).bind fun ds s1 => if ds.length = n then m ds s1 else .bad
theorem do_call {CX : CXT} {k n : Nat} {f : Addr} {fd : FuncData} {ps : List Str} {x : Str} {m : List D → Store → R (List D)} {ms : Env → M (List D)} (F : FnOk X.prog X.w X.K X.mg X.base CX k f fd ps (SpecO X.K n m)) (hr : Room k X.A) (hg : Gl X x) (hm : X.mg x = some (.ref f)) (hk : PySem.W.keepIn X.K (.ref f) = true)
    (hb : Binds X.K fd ps []) (hx : Passes CX X EX) (ha : PAd X EX (e :: es) ms) (hdb : (x == ("__debug__" : Str)) = false) (he : starEach (e :: es) X.env = (false, eval e X.env) :: starEach es X.env) (hpl : (backTo pos (starEach es X.env)).any (·.1) = false) :
    POd X EX (.Call (.Name x p) (e :: es) [] pos) (mCallO n m ms) := by
  obtain ⟨t, pt, q⟩ := ha
  refine ⟨_, pe_call F hr hg hm hk hb .nil hx pt hdb he hpl, fun B W Γ σ s Q sat sr pp => q B W Γ σ s _ sat sr (Post.bind pp fun ds s1 W1 _ g1 sr1 p1 vs rs => ?_)⟩
  split at p1
  · rw [List.append_nil]
    refine ⟨W1, ds, s1, rfl, sr1, rs, by assumption, p1.mono fun W2 s2 es _ g2 _ w p us h0 h1 h2 h3 r => w p us ?_ h1 h2 h3 r⟩
    cases h : W.H p with
    | none => rfl
    | some o => exact absurd h0 (g1.t p (by rw [h]; simp))
  · exact p1.elim
/-! ### displays, list(..), + as new lists -/
def mLstO (ms : Env → M (List D)) : Env → M (List D) := fun Γ s => (ms Γ s).bind fun ds s1 => if ds.length ≤ 100000 then .ok ds s1 else .bad
theorem do_lst {ms : Env → M (List D)} (h : PAd X EX es ms) : POd X EX (.List es pos) (mLstO ms) := by
  obtain ⟨t, p, q⟩ := h
  refine ⟨_, pe_lst p, fun B W Γ σ s Q sat sr pp => q B W Γ σ s _ sat sr (Post.bind pp fun ds s1 W1 _ g1 sr1 p1 vs rs => ?_)⟩
  split at p1
  · rename_i hl
    refine ⟨Nat.le_trans (by rw [← rs.len]; exact hl) (show 100000 ≤ sizeLine by decide), fun p hp => ?_⟩
    have hF := Wd.fnone hp
    refine p1 (W1.put p (.lst vs) hF) ((Grow.refl W1).put hF hp) (sr1.put hF (sr1.notA hp)) p vs ?_ upd_same hF (sr1.notA hp) (rs.put hF)
    cases h : W.H p with
    | none => rfl
    | some o => exact absurd hp (g1.t p (by rw [h]; simp))
  · exact p1.elim
end
end PD
set_option maxRecDepth 100000
set_option maxHeartbeats 4000000
namespace PD
open PySem PySem.Spec PyProof.Rows L2
section
variable {X : Cx} {EX : XK} {a b c e : Expr} {pos p p2 : Pos} {rest es : List Expr}
/-! ### xs.count(x) of a list -/
def rCountD (K : PySem.W.Frag) : V → List V → Hp → VK → Prop := fun x xs H Q => ∃ (a : Addr) (y : V) (d : PyData) (ds : List PyData), x = V.ref a ∧ xs = [y] ∧ Dp K H (V.ref a) (.list ds) ∧ Dp K H y d ∧
  SeqAt.shaped (.list ds) = true ∧ SeqAt.shaped d = true ∧ Q (.int ((ds.countP fun z => PyData.eqv z d : Nat) : Int)) H
theorem mt_countD (hu : X.A.units + 65 < cLine) : MtR X "list.count" (rCountD X.K) := by
  intro pins s σ H x xs v us Q I rx rxs h
  obtain ⟨a, y, d, ds, rfl, rfl, hl, hy, sl, sd, q⟩ := h
  cases rx
  cases rxs with
  | cons ry rt =>
    rename_i uy ut
    cases rt
    obtain ⟨bs, r1⟩ := Dp.reads I d y uy hy ry
    have hxs : PyData.canLayAll0 ds = true := SeqAt.canLay_of_shaped sl
    have hroom : X.A.units + 1 + min (PyData.depthAll ds) d.depth < cLine := room_in_shaped sd hu
    cases hl with
    | lst hs ha =>
      obtain ⟨its, rv, ⟨⟨cls, dd, data, sls⟩, n, ho, hc, hdn, hdt⟩, hlen⟩ := I.list hs
      simp only at hc hdt
      subst hc hdt
      obtain ⟨as, h4⟩ := Dp.readsAll I ds _ its ha rv
      have hmap : its.map (SeqAt.readOf s.heap) = ds := SeqAt.readsAll_map ds its as hxs h4
      refine call_meets PySem.F.slot_list_count ⟨_, ho, rfl⟩ PySem.F.entry_list_count (PySem.F.args_list_count_2 _ _)
        (SeqAt.list_countAt a its.toArray n dd sls uy (fun u => PyData.eqv (SeqAt.readOf s.heap u) d)) ⟨ho, SeqAt.items_eqAt (vs := its.toArray) (show ReadsAll s.heap its.toArray.toList ds as from h4) r1 hxs (SeqAt.canLay_of_shaped sd) hroom, ?_⟩
      have ec : its.toArray.toList.countP (fun u => PyData.eqv (SeqAt.readOf s.heap u) d) = ds.countP fun z => PyData.eqv z d := by
        rw [← hmap, List.countP_map]
        rfl
      refine ⟨.int ((ds.countP fun z => PyData.eqv z d : Nat) : Int), H, I.tok _, ⟨s.toks, ?_⟩, q⟩
      show Value.int ((its.toArray.toList.countP (fun u => PyData.eqv (SeqAt.readOf s.heap u) d) : Nat) : Int) s.toks = _
      rw [ec]
def D.countEq (d : D) : List D → Nat
  | [] => 0
  | x :: xs => (if D.eqv x d then 1 else 0) + D.countEq d xs
theorem countEq_py (d : D) (n m : Nat) (hd : D.fine n d = true) : ∀ xs : List D, D.fineL m xs = true → ((D.pyL xs).countP fun z => PyData.eqv z d.py) = D.countEq d xs
  | [], _ => by simp [D.pyL, D.countEq]
  | x :: xs, h => by
    simp only [D.fineL, Bool.and_eq_true] at h
    simp only [D.pyL, List.countP_cons, D.countEq]
    rw [D.eqv_py x d m n h.1 hd, countEq_py d n m hd xs h.2, Nat.add_comm]
def fLCnt (a b : D) : Option D := match a with
  | .lst ds => if D.fine 60 (.lst ds) && D.fine 60 b then some (.int (D.countEq b ds : Nat)) else none
  | _ => none
def mLCnt (ma mb : Env → M D) : Env → M D := fun Γ s => (ma Γ s).bind fun d1 s1 => match d1 with
  | .lst _ => (mb Γ s1).bind fun d2 s2 => R.opt (fLCnt d1 d2) s2
  | _ => .bad
theorem de_lcount {apos : Pos} {ma mb : Env → M D} (hu : X.A.units + 65 < cLine) (ha : PVd X EX a ma) (hb : PVd X EX b mb) (hs : starEach [b] X.env = [(false, eval b X.env)]) (hbase : attributeBase a "count" X.env (eval a X.env) = eval a X.env) (hline : (apos.endLine == pos.line) = true)
    (hfew : ((backTo pos (starEach [b] X.env)).all (fun x => !x.1) && (backToKw pos (keywordEach [] X.env)).all (fun x => x.1.isSome)
      && decide ([b].length + ([] : List Keyword).length + (if ([] : List Keyword).isEmpty then 0 else 1) < 30)) = true) :
    PEd X EX (.Call (.Attribute a "count" apos) [b] [] pos) (mLCnt ma mb) := by
  obtain ⟨ta, pa, qa⟩ := ha
  obtain ⟨tb, pb, qb⟩ := hb
  refine ⟨_, pe_bm PySem.F.plainAttrs_list PySem.F.slot_list_count PySem.F.type_list_count (mt_countD hu) pa (pa_cons pb pa_nil hs) hbase hfew hline hs (by rfl), fun B W Γ σ s Q sat sr pp => ?_⟩
  refine qa B W Γ σ s _ sat sr (Post.bind pp fun d1 s1 W1 hh g1 sr1 p1 x rx => ?_)
  clear hh
  split at p1
  · rename_i ds
    obtain ⟨q, vs, rfl, hq, rl⟩ := rx.lst
    refine ⟨.inl ⟨rfl, vs, SqL.of hq⟩, qb B W1 Γ σ s1 _ (sat.grow g1) sr1 (Post.bind p1 fun d2 s2 W2 _ g2 sr2 p2 y ry => ?_)⟩
    obtain ⟨d, e, w⟩ := p2.opt
    have e : (if (D.fine 60 (.lst ds) && D.fine 60 d2) = true then some (D.int (D.countEq d2 ds : Nat)) else none) = some d := e
    split at e
    · rename_i hf
      simp only [Bool.and_eq_true] at hf
      cases e
      have fl : D.fineL 59 ds = true := by
        have := hf.1
        simp only [D.fine, Bool.and_eq_true] at this
        exact this.2
      refine ⟨q, y, d2.py, D.pyL ds, rfl, rfl, (rx.grow g2).dp (d := .lst ds) hf.1, ry.dp hf.2, D.fine_shaped (d := .lst ds) hf.1, D.fine_shaped hf.2, ?_⟩
      rw [countEq_py d2 60 59 hf.2 ds fl]
      exact w W2 (Grow.refl _) sr2 _ (.int _)
    · cases e
  · exact p1.elim
/-! ### t.index(x), t a tuple made in the run -/
theorem PE.or {t1 t2 : TE} (h1 : PE X e t1) (h2 : PE X e t2) : PE X e (fun σ H Q => t1 σ H Q ∨ t2 σ H Q) := ⟨fun pins s σ H Q I q => q.elim (h1.run pins s σ H Q I) (h2.run pins s σ H Q I)⟩
def rIndexT (K : PySem.W.Frag) : V → List V → Hp → VK → Prop := fun x xs H Q => ∃ (p : Addr) (y : V) (d : PyData) (ds : List PyData) (j : Nat) (z : PyData), x = V.ref p ∧ xs = [y] ∧ Dp K H (V.ref p) (.tuple ds) ∧ Dp K H y d ∧
  SeqAt.shaped (.tuple ds) = true ∧ SeqAt.shaped d = true ∧ ds[j]? = some z ∧ PyData.eqv z d = true ∧ (∀ (k : Nat) (u : PyData), k < j → ds[k]? = some u → PyData.eqv u d = false) ∧ Q (.int (j : Nat)) H
theorem mt_indexT (hu : X.A.units + 65 < cLine) : MtR X "tuple.index" (rIndexT X.K) := by
  intro pins s σ H x xs v us Q I rx rxs h
  obtain ⟨p, y, d, ds, j, z, rfl, rfl, hl, hy, sl, sd, hz, hzj, hno, q⟩ := h
  cases rx
  obtain ⟨uy, rfl, ry⟩ := vals1 rxs
  obtain ⟨bs, r1⟩ := Dp.reads I d y uy hy ry
  have ok : PyData.canLayAll0 ds = true := SeqAt.canLay_of_shaped sl
  have room : X.A.units + 1 + min (PyData.depthAll ds) d.depth < cLine := room_in_shaped sd hu
  cases hl with
  | tup hs ha =>
    obtain ⟨its, rv, ⟨⟨cls, dd, data, sls⟩, ho, hc, n, hdt⟩, hlen⟩ := I.tuple hs
    simp only at hc hdt
    subst hc hdt
    obtain ⟨as, h4⟩ := Dp.readsAll I ds _ its ha rv
    have hm : its.map (SeqAt.readOf s.heap) = ds := SeqAt.readsAll_map ds its as ok h4
    have place : ∀ (k : Nat) (hk : k < its.toArray.size), ds[k]? = some (SeqAt.readOf s.heap its.toArray[k]) := fun k hk => by
      have hk' : k < its.length := by simpa using hk
      rw [← hm, List.getElem?_map, List.getElem?_eq_getElem hk']
      simp
    have hj : j < its.toArray.size := by
      have := (List.getElem?_eq_some_iff.mp hz).1
      rw [← hm, List.length_map] at this
      simpa using this
    refine call_meets PySem.F.slot_tuple_index ⟨_, ho, rfl⟩ PySem.F.entry_tuple_index (PySem.F.args_tuple_index_2 _ _)
      (TI.tuple_indexAt p its.toArray n dd sls uy (fun u => PyData.eqv (SeqAt.readOf s.heap u) d) j hj ?_ ?_)
      ⟨ho, SeqAt.items_eqAt (vs := its.toArray) (show ReadsAll s.heap its.toArray.toList ds as from h4) r1 ok (SeqAt.canLay_of_shaped sd) room, ⟨.int (j : Nat), H, I.tok _, ⟨_, rfl⟩, q⟩⟩
    · have e := place j hj
      rw [hz] at e
      cases e
      exact hzj
    · exact fun k hk hkj => hno k _ hkj (place k hk)
/-- the call of a method of a tuple made in the run -/
def tBMT (K : PySem.W.Frag) (r : V → List V → Hp → VK → Prop) (to : TE) (t : TA) : TE := fun σ H Q => to σ H fun x H1 => (∃ p ys, x = .ref p ∧ SqD K H1 p ys) ∧ t σ H1 fun xs H2 => r x xs H2 Q
theorem pe_bmT {o : Expr} {to : TE} {t : TA} {name : Str} {apos cpos : Pos} {id : String} {r : V → List V → Hp → VK → Prop} (pa : PlainAttrs "tuple") (slot : Slot "tuple" name id) (hty : typeOf (.builtin id) = pure (.type "method_descriptor")) (hm : MtR X id r) (ho : PE X o to) (ha : PA X [e] t)
    (hbase : attributeBase o name X.env (eval o X.env) = eval o X.env)
    (hfew : ((backTo cpos (starEach [e] X.env)).all (fun x => !x.1) && (backToKw cpos (keywordEach [] X.env)).all (fun x => x.1.isSome)
      && decide ([e].length + ([] : List Keyword).length + (if ([] : List Keyword).isEmpty then 0 else 1) < 30)) = true)
    (hline : (apos.endLine == cpos.line) = true) (hs : starEach [e] X.env = [(false, eval e X.env)]) :
    PE X (.Call (.Attribute o name apos) [e] [] cpos) (tBMT X.K r to t) := by
  refine ⟨fun pins s σ H Q I h => ?_⟩
  refine wpAny_Call_method_late hbase hfew hline rfl (thn (ho.run pins s σ H _ I h) fun v s1 ⟨x, H1, I1, r1, ty, q1⟩ => ?_)
  obtain ⟨p, ys, rfl, sq⟩ := ty
  cases r1
  have known : ∃ ob, s1.heap.get? p = some ob ∧ TOb ob := by
    rcases sq with ⟨ob, tob, h⟩ | ⟨ob, its, n, tob, h, _⟩
    · exact ⟨ob, (I1.hok p _ h).1, tob⟩
    · exact ⟨ob, I1.kIn p ob h, tob⟩
  obtain ⟨ob, hob, tob⟩ := known
  refine ⟨"tuple", id, pa, slot, hty, ⟨ob, hob, tob.cls⟩, fun a e => ?_, ?_⟩
  · cases e
    exact ⟨ob, hob, tob.dict⟩
  · have hA := ha.run cpos pins s1 σ H1 _ I1 q1
    rw [hs] at hA ⊢
    refine Calls.callWith_builtin (by rfl) (Calls.evalArgs_plain ?_)
    exact thn hA fun us s2 ⟨vs, H2, I2, r2, q2⟩ => hm pins s2 σ H2 (.ref p) vs _ us Q I2 rfl r2 q2
def fXIdx (a b : D) : Option D := match a with
  | .lst ds => if D.fine 60 (.lst ds) && D.fine 60 b then (idxOf (fun z => D.eqv z b) ds).map fun j => .int (j : Nat) else none
  | .tup ds => if D.fine 60 (.tup ds) && D.fine 60 b then (idxOf (fun z => D.eqv z b) ds).map fun j => .int (j : Nat) else none
  | _ => none
/-- xs.index(x), a list's or a tuple's -/
def mXIdx (ma mb : Env → M D) : Env → M D := fun Γ s => (ma Γ s).bind fun d1 s1 => match d1 with
  | .lst ds => (mb Γ s1).bind fun d2 s2 => R.opt (fXIdx (.lst ds) d2) s2
  | .tup ds => (mb Γ s1).bind fun d2 s2 => R.opt (fXIdx (.tup ds) d2) s2
  | _ => .bad
theorem de_xindex {apos : Pos} {ma mb : Env → M D} (hu : X.A.units + 65 < cLine) (ha : PVd X EX a ma) (hb : PVd X EX b mb) (hs : starEach [b] X.env = [(false, eval b X.env)]) (hbase : attributeBase a "index" X.env (eval a X.env) = eval a X.env) (hline : (apos.endLine == pos.line) = true)
    (hfew : ((backTo pos (starEach [b] X.env)).all (fun x => !x.1) && (backToKw pos (keywordEach [] X.env)).all (fun x => x.1.isSome)
      && decide ([b].length + ([] : List Keyword).length + (if ([] : List Keyword).isEmpty then 0 else 1) < 30)) = true) :
    PEd X EX (.Call (.Attribute a "index" apos) [b] [] pos) (mXIdx ma mb) := by
  obtain ⟨t1, p1, q1⟩ := de_lindex (EX := EX) (pos := pos) (apos := apos) hu ha hb hs hbase hline hfew
  obtain ⟨ta, pa, qa⟩ := ha
  obtain ⟨tb, pb, qb⟩ := hb
  refine ⟨_, PE.or p1 (pe_bmT PySem.F.plainAttrs_tuple PySem.F.slot_tuple_index PySem.F.type_tuple_index (mt_indexT hu) pa (pa_cons pb pa_nil hs) hbase hfew hline hs), fun B W Γ σ s Q sat sr pp => ?_⟩
  cases hma : ma Γ s with
  | bad =>
    unfold mXIdx at pp
    rw [hma] at pp
    exact pp.elim
  | er e s1 =>
    refine .inl (q1 B W Γ σ s Q sat sr ?_)
    unfold mXIdx at pp
    unfold mLIdx
    rw [hma] at pp ⊢
    exact pp
  | ok d1 s1 =>
    have pp0 := pp
    unfold mXIdx at pp0
    rw [hma] at pp0
    cases d1 with
    | lst ds =>
      refine .inl (q1 B W Γ σ s Q sat sr ?_)
      unfold mLIdx
      rw [hma]
      exact pp0
    | tup ds =>
      refine .inr (qa B W Γ σ s _ sat sr ?_)
      rw [hma]
      refine fun W1 g1 sr1 x rx => ?_
      have p1 : Post X.K EX W1 ((mb Γ s1).bind fun d2 s2 => R.opt (fXIdx (.tup ds) d2) s2) (Want X.K Q) := Post.grow g1 pp0
      have hx := rx
      cases rx with
      | of rx =>
        cases rx with
        | tup sq rl =>
          rename_i p ys
          refine ⟨⟨p, ys, rfl, sq.ex W1.sub⟩, qb B W1 Γ σ s1 _ (sat.grow g1) sr1 (Post.bind p1 fun d2 s2 W2 _ g2 sr2 p2 y ry => ?_)⟩
          obtain ⟨d, e, w⟩ := p2.opt
          have e : (if (D.fine 60 (.tup ds) && D.fine 60 d2) = true then (idxOf (fun z => D.eqv z d2) ds).map fun j => D.int (j : Nat) else none) = some d := e
          split at e
          · rename_i hf
            simp only [Bool.and_eq_true] at hf
            cases hi : idxOf (fun z => D.eqv z d2) ds with
            | none => rw [hi] at e; cases e
            | some j =>
              rw [hi] at e
              cases e
              obtain ⟨z, h1, h2, h3⟩ := idxOf_some hi
              have fl : D.fineL 59 ds = true := by
                have := hf.1
                simp only [D.fine, Bool.and_eq_true] at this
                exact this.2
              refine ⟨p, y, d2.py, D.pyL ds, j, z.py, rfl, rfl, (hx.grow g2).dp (d := .tup ds) hf.1, ry.dp hf.2, D.fine_shaped (d := .tup ds) hf.1, D.fine_shaped hf.2, by rw [pyL_get, h1]; rfl, ?_, fun m z' hm hz => ?_, w W2 (Grow.refl _) sr2 _ (.int _)⟩
              · rw [D.eqv_py z d2 _ _ (fineL_get fl h1) hf.2]; exact h2
              · rw [pyL_get] at hz
                cases hz' : ds[m]? with
                | none => rw [hz'] at hz; cases hz
                | some u =>
                  rw [hz'] at hz
                  cases hz
                  rw [D.eqv_py u d2 _ _ (fineL_get fl hz') hf.2]
                  exact h3 m u hm hz'
          · cases e
    | _ => exact pp0.elim
/-! ### a + b of lists, a new list -/
def mCatO (ma mb : Env → M D) : Env → M (List D) := fun Γ s => (ma Γ s).bind fun d1 s1 => (mb Γ s1).bind fun d2 s2 => match d1, d2 with
  | .lst xs, .lst ys => if xs.length + ys.length ≤ 100000 then .ok (xs ++ ys) s2 else .bad
  | _, _ => .bad
theorem do_cat {ma mb : Env → M D} (ha : PVd X EX a ma) (hb : PVd X EX b mb) : POd X EX (.BinOp a .Add b pos) (mCatO ma mb) := by
  obtain ⟨ta, pa, qa⟩ := ha
  obtain ⟨tb, pb, qb⟩ := hb
  refine ⟨_, pe_op op_addD pa pb, fun B W Γ σ s Q sat sr pp => ?_⟩
  refine qa B W Γ σ s _ sat sr (Post.bind pp fun d1 s1 W1 hh1 g1 sr1 p1 x rx => ?_)
  refine qb B W1 Γ σ s1 _ (sat.grow g1) sr1 (Post.bind p1 fun d2 s2 W2 hh2 g2 sr2 p2 y ry => ?_)
  clear hh1 hh2
  split at p2
  · rename_i xs ys
    split at p2
    · rename_i hl
      obtain ⟨a1, v1, e1, h1, l1⟩ := (rx.grow g2).lst
      obtain ⟨a2, v2, e2, h2, l2⟩ := ry.lst
      have := l1.len
      have := l2.len
      refine .inr (.inr (.inr (.inl ⟨a1, a2, v1, v2, e1, e2, h1, h2, Evl.sz_of (by omega), fun p hp => ?_⟩)))
      have hF := Wd.fnone hp
      refine p2 (W2.put p (.lst (v1 ++ v2)) hF) ((Grow.refl W2).put hF hp) (sr2.put hF (sr2.notA hp)) p (v1 ++ v2) ?_ upd_same hF (sr2.notA hp) ((l1.app l2).put hF)
      cases h : W.H p with
      | none => rfl
      | some o => exact absurd hp ((g1.trans g2).t p (by rw [h]; simp))
    · exact p2.elim
  · exact p2.elim
end
end PD
set_option maxRecDepth 100000
set_option maxHeartbeats 4000000
namespace PD
open PySem PySem.Spec PyProof.Rows L2

/-! ## statements -/
inductive Out where
  | nx (Γ : Env) | rt (d : D) | ro (ds : List D) | bk (Γ : Env) | ct (Γ : Env)
structure Ext (W W' : Wd) : Prop where
  f : ∀ a o, W.F a = some o → W'.F a = some o
  p : ∃ B, W'.A = W.A ++ B
theorem Ext.refl (W : Wd) : Ext W W := ⟨fun _ _ h => h, [], by simp⟩
theorem Ext.trans {W W1 W2 : Wd} (a : Ext W W1) (b : Ext W1 W2) : Ext W W2 := ⟨fun x o h => b.f x o (a.f x o h), by
  obtain ⟨B, e⟩ := a.p
  obtain ⟨C, e'⟩ := b.p
  exact ⟨B ++ C, by rw [e', e, List.append_assoc]⟩⟩
theorem Grow.ext {W W' : Wd} (g : Grow W W') : Ext W W' := ⟨g.f, g.p⟩
theorem Ext.ix {W W' : Wd} (g : Ext W W') {i : Nat} {a : Addr} (h : W.A[i]? = some a) : W'.A[i]? = some a := by
  obtain ⟨B, e⟩ := g.p
  rw [e, List.getElem?_append_left (List.getElem?_eq_some_iff.mp h).1]
  exact h
theorem Rep.ext {K : PySem.W.Frag} {W W' : Wd} (g : Ext W W') {d : D} {v : V} (h : Rep K W d v) : Rep K W' d v := Rep.of g.f (fun _ _ => g.ix) h
theorem RepL.ext {K : PySem.W.Frag} {W W' : Wd} (g : Ext W W') {d : List D} {v : List V} (h : RepL K W d v) : RepL K W' d v := RepL.of g.f (fun _ _ => g.ix) h
def PostS {α : Type} (K : PySem.W.Frag) (EX : XK) (W0 W : Wd) (r : R α) (T : Wd → Store → α → Prop) : Prop := match r with
  | .ok a s => ∀ W', Grow W0 W' → Ext W W' → SRep K W' s → T W' s a
  | .er e s => ∀ W' c d, Grow W0 W' → SRep K W' s → ErRep K W' e c d → EX c d W'.H
  | .bad => False
section
variable {α β : Type} {K : PySem.W.Frag} {EX : XK} {W0 W W1 : Wd} {r : R α} {T : Wd → Store → α → Prop}
theorem PostS.ext (g : Ext W W1) (h : PostS K EX W0 W r T) : PostS K EX W0 W1 r T := by
  cases r with
  | ok a s => exact fun W' g0 g' sr => h W' g0 (g.trans g') sr
  | er e s => exact h
  | bad => exact h
/-- an expression runs first -/
theorem PostS.bindE {f : α → Store → R β} {U : Wd → Store → β → Prop} (g0 : Grow W0 W) (h : PostS K EX W0 W (r.bind f) U) (step : ∀ a s1 W1, r = .ok a s1 → Grow W W1 → SRep K W1 s1 → PostS K EX W0 W1 (f a s1) U → T W1 s1 a) : Post K EX W r T := by
  cases r with
  | ok a s => exact fun W' g sr => step a s W' rfl g sr (PostS.ext g.ext h)
  | er e s => exact fun W' c d g sr q => h W' c d (g0.trans g) sr q
  | bad => exact h
/-- .. a statement -/
theorem PostS.bindS {f : α → Store → R β} {U : Wd → Store → β → Prop} (h : PostS K EX W0 W (r.bind f) U) (step : ∀ a s1 W1, r = .ok a s1 → Grow W0 W1 → Ext W W1 → SRep K W1 s1 → PostS K EX W0 W1 (f a s1) U → T W1 s1 a) : PostS K EX W0 W r T := by
  cases r with
  | ok a s => exact fun W' g0 g sr => step a s W' rfl g0 g sr (PostS.ext g h)
  | er e s => exact h
  | bad => exact h
theorem PostS.opt {o : Option α} {s : Store} {U : Wd → Store → α → Prop} (h : PostS K EX W0 W (R.opt o s) U) : ∃ a, o = some a ∧ ∀ W', Grow W0 W' → Ext W W' → SRep K W' s → U W' s a := by
  cases o with
  | none => exact h.elim
  | some a => exact ⟨a, rfl, h⟩
theorem PostS.post (g0 : Grow W0 W) (h : PostS K EX W0 W r T) : Post K EX W r T := by
  cases r with
  | ok a s => exact fun W' g sr => h W' (g0.trans g) g.ext sr
  | er e s => exact fun W' c d g sr q => h W' c d (g0.trans g) sr q
  | bad => exact h
end
abbrev MS := Env → Store → R Out
/-- what is wanted behind a statement -/
def WantS (K : PySem.W.Frag) (W0 : Wd) (B : Hp) (D : Ends) : Wd → Store → Out → Prop := fun W' _ o => match o with
  | .nx Γ => ∀ σ, Sat K B W' Γ σ → D.nx σ W'.H
  | .rt d => ∀ v, Rep K W' d v → D.rt v W'.H
  | .ro ds => ∀ p vs, W0.H p = none → W'.H p = some (.lst vs) → W'.F p = none → p ∉ W'.A → RepL K W' ds vs → D.rt (.ref p) W'.H
  | .bk Γ => ∀ σ, Sat K B W' Γ σ → D.bk σ W'.H
  | .ct Γ => ∀ σ, Sat K B W' Γ σ → D.ct σ W'.H
def Run (K : PySem.W.Frag) (EX : XK) (t : TS) (m : MS) : Prop := ∀ W0 W Γ σ s D, Grow W0 W → Sat K W0.H W Γ σ → SRep K W s → PostS K EX W0 W (m Γ s) (WantS K W0 W0.H D) → t D σ W.H
def PSd (X : Cx) (EX : XK) (st : Stmt) (m : MS) : Prop := ∃ t, PS X st t ∧ Run X.K EX t m
def PSsd (X : Cx) (EX : XK) (st : List Stmt) (m : MS) : Prop := ∃ t, PSs X st t ∧ Run X.K EX t m
section
variable {X : Cx} {EX : XK} {a b c e : Expr} {pos : Pos} {st : Stmt} {rest : List Stmt}
def mNext : MS := fun Γ s => .ok (.nx Γ) s
def mSeq (m n : MS) : MS := fun Γ s => (m Γ s).bind fun o s1 => match o with
  | .nx Γ1 => n Γ1 s1
  | o => .ok o s1
theorem dss_nil : PSsd X EX [] mNext := ⟨_, pss_nil, fun W0 W Γ σ s D g sat sr p => p W g (Ext.refl W) sr σ sat⟩
theorem dss_cons {m n : MS} (h : PSd X EX st m) (hs : PSsd X EX rest n) : PSsd X EX (st :: rest) (mSeq m n) := by
  obtain ⟨t, p, q⟩ := h
  obtain ⟨u, p2, q2⟩ := hs
  refine ⟨_, pss_cons p p2, fun W0 W Γ σ s D g sat sr pp => q W0 W Γ σ s _ g sat sr (pp.bindS fun o s1 W1 _ g0 gx sr1 p1 => ?_)⟩
  cases o with
  | nx Γ1 => exact fun σ1 sat1 => q2 W0 W1 Γ1 σ1 s1 D g0 sat1 sr1 p1
  | rt d => exact p1 W1 g0 (Ext.refl _) sr1
  | ro d => exact p1 W1 g0 (Ext.refl _) sr1
  | bk d => exact p1 W1 g0 (Ext.refl _) sr1
  | ct d => exact p1 W1 g0 (Ext.refl _) sr1
theorem dss_one {m : MS} (h : PSd X EX st m) : PSsd X EX [st] m := by
  obtain ⟨t, p, q⟩ := h
  exact ⟨t, pss_one p, q⟩
theorem ds_pass : PSd X EX (.Pass pos) mNext := ⟨_, ps_pass, fun W0 W Γ σ s D g sat sr p => p W g (Ext.refl W) sr σ sat⟩
def mBreak : MS := fun Γ s => .ok (.bk Γ) s
def mCont : MS := fun Γ s => .ok (.ct Γ) s
theorem ds_break : PSd X EX (.Break pos) mBreak := ⟨_, ps_break, fun W0 W Γ σ s D g sat sr p => p W g (Ext.refl W) sr σ sat⟩
theorem ds_cont : PSd X EX (.Continue pos) mCont := ⟨_, ps_continue, fun W0 W Γ σ s D g sat sr p => p W g (Ext.refl W) sr σ sat⟩
def mDrop (m : Env → M D) : MS := fun Γ s => (m Γ s).bind fun _ s1 => .ok (.nx Γ) s1
theorem ds_expr {m : Env → M D} (h : PEd X EX e m) (hs : swapsWith e none pos.line X.env = pure false) : PSd X EX (.Expr e pos) (mDrop m) := by
  obtain ⟨t, p, q⟩ := h
  exact ⟨_, ps_expr p hs, fun W0 W Γ σ s D g sat sr pp => q _ W Γ σ s _ sat sr (pp.bindE g fun d s1 W1 _ g1 sr1 p1 v _ => p1 W1 (g.trans g1) (Ext.refl _) sr1 σ (sat.grow g1))⟩
def mRet (m : Env → M D) : MS := fun Γ s => (m Γ s).bind fun d s1 => .ok (.rt d) s1
theorem ds_ret {m : Env → M D} (h : PEd X EX e m) : PSd X EX (.Return (some e) pos) (mRet m) := by
  obtain ⟨t, p, q⟩ := h
  exact ⟨_, ps_ret p, fun W0 W Γ σ s D g sat sr pp => q _ W Γ σ s _ sat sr (pp.bindE g fun d s1 W1 _ g1 sr1 p1 v r => p1 W1 (g.trans g1) (Ext.refl _) sr1 v r)⟩
def mRetN : MS := fun Γ s => .ok (.rt .non) s
theorem ds_retN : PSd X EX (.Return none pos) mRetN := ⟨_, ps_retN, fun W0 W Γ σ s D g sat sr p => p W g (Ext.refl W) sr _ .non⟩
/-- a new list is handed out, still to be written -/
def mRetO (m : Env → M (List D)) : MS := fun Γ s => (m Γ s).bind fun d s1 => .ok (.ro d) s1
theorem ds_retO {m : Env → M (List D)} (h : POd X EX e m) : PSd X EX (.Return (some e) pos) (mRetO m) := by
  obtain ⟨t, p, q⟩ := h
  refine ⟨_, ps_ret p, fun W0 W Γ σ s D g sat sr pp => q _ W Γ σ s _ sat sr (pp.bindE g fun d s1 W1 _ g1 sr1 p1 p vs h0 h1 h2 h3 r => p1 W1 (g.trans g1) (Ext.refl _) sr1 p vs ?_ h1 h2 h3 r)⟩
  cases h : W0.H p with
  | none => rfl
  | some o => exact absurd h0 (g.t p (by rw [h]; simp))
/-- a name is handed out: an own list is data from now on -/
def mRetV (i : Nat) : MS := fun Γ s => match Γ[i]? with
  | some (.dat d) => .ok (.rt d) s
  | some (.own ds) => .ok (.rt (.lst ds)) s
  | _ => .bad
def mRetVO (i : Nat) : MS := fun Γ s => match Γ[i]? with
  | some (.own ds) => .ok (.ro ds) s
  | _ => .bad
theorem ds_retV {i : Nat} {x : Str} {p2 : Pos} (hN : X.N[i]? = some x) (hv : Vis X.env.scope x) (hd : (x == ("__debug__" : Str)) = false) (hcd : (x == ("__classdict__" : Str)) = false) : PSd X EX (.Return (some (.Name x p2)) pos) (mRetV i) := by
  refine ⟨_, ps_ret (pe_var hN hv hd hcd), fun W0 W Γ σ s D g sat sr p => ?_⟩
  unfold mRetV at p
  split at p
  · rename_i d e
    obtain ⟨v, h1, r⟩ := sat.dat e
    exact ⟨v, h1, p W g (Ext.refl W) sr v r⟩
  · rename_i ds e
    obtain ⟨o, h1, q, vs, h2, h3, h4, h5, h6, r⟩ := sat.slot e
    refine ⟨.ref q, by rw [h1, h2], ?_⟩
    exact p (W.frz q _ h3) (g.frz h3 h6 h4) ⟨frz_sub h3 h4, [], by simp [Wd.frz]⟩ (sr.frz h3 h4 h5) _ (.lst (show upd W.F q _ q = _ from upd_same) (r.frz h3 h4))
  · exact p.elim
theorem ds_retVO {i : Nat} {x : Str} {p2 : Pos} (hN : X.N[i]? = some x) (hv : Vis X.env.scope x) (hd : (x == ("__debug__" : Str)) = false) (hcd : (x == ("__classdict__" : Str)) = false) : PSd X EX (.Return (some (.Name x p2)) pos) (mRetVO i) := by
  refine ⟨_, ps_ret (pe_var hN hv hd hcd), fun W0 W Γ σ s D g sat sr p => ?_⟩
  unfold mRetVO at p
  split at p
  · rename_i ds e
    obtain ⟨o, h1, q, vs, h2, h3, h4, h5, h6, r⟩ := sat.slot e
    exact ⟨.ref q, by rw [h1, h2], p W g (Ext.refl W) sr q vs h6 h3 h4 h5 r⟩
  · exact p.elim
def mIf (c : Env → M Bool) (m n : MS) : MS := fun Γ s => (c Γ s).bind fun b s1 => match b with
  | true => m Γ s1
  | false => n Γ s1
theorem ds_if {sa sb : List Stmt} {mc : Env → M Bool} {m n : MS} (hc : PTd X EX c mc) (ha : PSsd X EX sa m) (hb : PSsd X EX sb n) : PSd X EX (.If c sa sb pos) (mIf mc m n) := by
  obtain ⟨tc, pc, qc⟩ := hc
  obtain ⟨ta, pa, qa⟩ := ha
  obtain ⟨tb, pb, qb⟩ := hb
  refine ⟨_, ps_if pc pa pb, fun W0 W Γ σ s D g sat sr pp => qc _ W Γ σ s _ sat sr (pp.bindE g fun b s1 W1 _ g1 sr1 p1 => ?_)⟩
  cases b with
  | true => exact qa W0 W1 Γ σ s1 D (g.trans g1) (sat.grow g1) sr1 p1
  | false => exact qb W0 W1 Γ σ s1 D (g.trans g1) (sat.grow g1) sr1 p1

/-! ### while -/
def mWhile (c : Env → M Bool) (b : MS) (n : Nat) : MS := Nat.rec (motive := fun _ => MS) (fun _ _ => .bad)
  (fun _ ih Γ s => (c Γ s).bind fun k s1 => match k with
    | false => .ok (.nx Γ) s1
    | true => (b Γ s1).bind fun o s2 => match o with
      | .nx Γ1 => ih Γ1 s2
      | .ct Γ1 => ih Γ1 s2
      | .bk Γ1 => .ok (.nx Γ1) s2
      | o => .ok o s2) n
theorem mWhile_zero {mc : Env → M Bool} {m : MS} (Γ : Env) (s : Store) : mWhile mc m 0 Γ s = .bad := rfl
theorem mWhile_succ {mc : Env → M Bool} {m : MS} {n : Nat} (Γ : Env) (s : Store) : mWhile mc m (n + 1) Γ s = (mc Γ s).bind fun k s1 => match k with
    | false => .ok (.nx Γ) s1
    | true => (m Γ s1).bind fun o s2 => match o with
      | .nx Γ1 => mWhile mc m n Γ1 s2
      | .ct Γ1 => mWhile mc m n Γ1 s2
      | .bk Γ1 => .ok (.nx Γ1) s2
      | o => .ok o s2 := rfl
theorem ds_while {body : List Stmt} {mc : Env → M Bool} {m : MS} (n : Nat) (hp : PassesOwn (model X.prog X.w) X.A X.env X.xe) (hc : PTd X EX c mc) (hb : PSsd X EX body m) : PSd X EX (.While c body [] pos) (mWhile mc m n) := by
  obtain ⟨tc, pc, qc⟩ := hc
  obtain ⟨tb, pb, qb⟩ := hb
  refine ⟨_, ps_while hp pc pb, fun W0 W Γ σ s D g sat sr pp => ?_⟩
  let Inv' : Nat → L2.St → Hp → Prop := fun k σ H => ∃ W Γ s, W.H = H ∧ Grow W0 W ∧ Sat X.K W0.H W Γ σ ∧ SRep X.K W s ∧ PostS X.K EX W0 W (mWhile mc m k Γ s) (WantS X.K W0 W0.H D)
  refine ⟨Inv', ⟨n, W, Γ, s, rfl, g, sat, sr, pp⟩, ?_⟩
  rintro k σ H ⟨W, Γ, s, rfl, g, sat, sr, pp⟩
  cases k with
  | zero => exact pp.elim
  | succ k =>
    rw [mWhile_succ] at pp
    refine qc _ W Γ σ s _ sat sr (pp.bindE g fun b s1 W1 _ g1 sr1 p1 => ?_)
    cases b with
    | false => exact p1 W1 (g.trans g1) (Ext.refl _) sr1 σ (sat.grow g1)
    | true =>
      refine ⟨Inv' k, fun σ' H' h => ⟨k, by omega, h⟩, ?_⟩
      refine qb W0 W1 Γ σ s1 _ (g.trans g1) (sat.grow g1) sr1 (p1.bindS fun o s2 W2 _ g2 gx sr2 p2 => ?_)
      cases o with
      | nx Γ1 => exact fun σ' sat' => ⟨W2, Γ1, s2, rfl, g2, sat', sr2, p2⟩
      | ct Γ1 => exact fun σ' sat' => ⟨W2, Γ1, s2, rfl, g2, sat', sr2, p2⟩
      | bk Γ1 => exact fun σ' sat' => p2 W2 g2 (Ext.refl _) sr2 σ' sat'
      | rt d => exact fun v r => p2 W2 g2 (Ext.refl _) sr2 v r
      | ro d => exact fun p vs h0 h1 h2 h3 r => p2 W2 g2 (Ext.refl _) sr2 p vs h0 h1 h2 h3 r
end
end PD
set_option maxRecDepth 100000
set_option maxHeartbeats 4000000
namespace PD
open PySem PySem.Spec PyProof.Rows L2

/-! ### for -/
def forGo (tg : Tg) (b : MS) : List D → MS
  | [] => fun Γ s => .ok (.nx Γ) s
  | d :: ds => fun Γ s => match bindT tg d Γ with
    | none => .bad
    | some Γ1 => (b Γ1 s).bind fun o s2 => match o with
      | .nx Γ2 => forGo tg b ds Γ2 s2
      | .ct Γ2 => forGo tg b ds Γ2 s2
      | .bk Γ2 => .ok (.nx Γ2) s2
      | o => .ok o s2
def mFor (mi : Env → M (List D)) (tg : Tg) (b : MS) : MS := fun Γ s => (mi Γ s).bind fun ds s1 => forGo tg b ds Γ s1
section
variable {X : Cx} {EX : XK} {a b c e tg : Expr} {pos : Pos} {st : Stmt} {rest es : List Stmt}
theorem ds_for {iter : Expr} {body : List Stmt} {mi : Env → M (List D)} {t : Tg} {m : MS} (hp : PassesOwn (model X.prog X.w) X.A X.env X.xe) (hc : X.calm = true) (hi : PId X EX tg iter mi) (hg : PGd X tg t) (hb : PSsd X EX body m)
    (hs : ∀ x, foldedSetIterable iter X.env x = pure x) : PSd X EX (.For tg iter body [] pos) (mFor mi t m) := by
  obtain ⟨wi, pi, qi⟩ := hi
  obtain ⟨g, pg, qg⟩ := hg
  obtain ⟨tb, pb, qb⟩ := hb
  refine ⟨_, ps_for hp hc pi pg pb hs, fun W0 W Γ σ s D g0 sat sr pp => ?_⟩
  refine qi _ W Γ σ s _ sat sr (pp.bindE g0 fun items s1 W1 _ g1 sr1 p1 J iv => ?_)
  let Inv' : Nat → L2.St → Hp → Prop := fun i σ H => ∃ W Γ s, W.H = H ∧ Grow W0 W ∧ Ext W1 W ∧ Sat X.K W0.H W Γ σ ∧ SRep X.K W s ∧ PostS X.K EX W0 W (forGo t m (items.drop i) Γ s) (WantS X.K W0 W0.H D)
  refine ⟨fun i m σ H => m = items.length - i ∧ i ≤ items.length ∧ Inv' i σ H, ⟨items.length, rfl, Nat.zero_le _, W1, Γ, s1, rfl, g0.trans g1, Ext.refl _, sat.grow g1, sr1, by rw [List.drop_zero]; exact p1⟩, ?_⟩
  rintro i k σ H ⟨rfl, hi, W, Γ, s, rfl, gW, gx, sat, srW, pst⟩
  obtain ⟨iv1, iv2⟩ := iv i W gx.f (fun i a h => gx.ix h)
  by_cases hlt : i < items.length
  · obtain ⟨go, yld⟩ := iv1 items[i] (by simp [hlt])
    refine .inr ⟨go, Inv' (i + 1), fun σ' H' h' => ⟨items.length - (i + 1), by omega, rfl, hlt, h'⟩, fun x H' y => ?_⟩
    obtain ⟨W2, g2, sr2, rfl, rx⟩ := yld x H' y s srW
    rw [List.drop_eq_getElem_cons hlt] at pst
    unfold forGo at pst
    cases hb : bindT t items[i] Γ with
    | none => rw [hb] at pst; exact pst.elim
    | some Γ1 =>
      rw [hb] at pst
      refine qg _ W2 _ Γ1 _ _ x _ (sat.grow g2) rx hb fun σ2 sat3 _ => ?_
      have gW2 := gW.trans g2
      refine qb W0 W2 Γ1 σ2 s _ gW2 sat3 sr2 (PostS.bindS (PostS.ext g2.ext pst) fun o s3 W3 _ g3 gx3 sr3 p3 => ?_)
      have gx' : Ext W1 W3 := (gx.trans g2.ext).trans gx3
      cases o with
      | nx Γ1 => exact fun σ' sat' => ⟨W3, Γ1, s3, rfl, g3, gx', sat', sr3, p3⟩
      | ct Γ1 => exact fun σ' sat' => ⟨W3, Γ1, s3, rfl, g3, gx', sat', sr3, p3⟩
      | bk Γ1 => exact fun σ' sat' => p3 W3 g3 (Ext.refl _) sr3 σ' sat'
      | rt d => exact fun v r => p3 W3 g3 (Ext.refl _) sr3 v r
      | ro d => exact fun p vs h0 h1 h2 h3 r => p3 W3 g3 (Ext.refl _) sr3 p vs h0 h1 h2 h3 r
  · have e : i = items.length := by omega
    refine .inl ⟨iv2 e, ?_⟩
    rw [e, List.drop_length] at pst
    exact pst W gW (Ext.refl _) srW σ sat

/-! ### what is stored -/
theorem SlotOk.own' {K : PySem.W.Frag} {B B' : Hp} {W : Wd} {x : SV} {o : Option V} (h : SlotOk K B W x o) (hB : ∀ a, B a = none → B' a = none) : SlotOk K B' W x o := by
  cases x with
  | nul => trivial
  | dat d => exact h
  | own ds =>
    obtain ⟨p, vs, e, h1, h2, h3, h4, r⟩ := h
    exact ⟨p, vs, e, h1, h2, h3, hB p h4, r⟩
theorem Sat.setO {K : PySem.W.Frag} {B : Hp} {W : Wd} {Γ : Env} {σ : L2.St} (h : Sat K B W Γ σ) {i : Nat} {x : SV} {v : V} (r : SlotOk K B W x (some v)) (fr : isOwn x = true → ∀ (j : Nat) (y : SV), Γ[j]? = some y → isOwn y = true → σ[j]? ≠ some (some v)) : Sat K B W (Γ.set i x) (σ.set i (some v)) := by
  refine ⟨by simp [h.len], fun j y o e1 e2 => ?_, fun j k y z o e1 e2 oy oz e3 e4 => ?_⟩
  · by_cases hj : i = j
    · subst hj
      have hl : i < Γ.length := by simpa using (List.getElem?_eq_some_iff.mp e1).1
      have hl2 : i < σ.length := by rw [h.len]; exact hl
      rw [List.getElem?_set_self hl] at e1
      rw [List.getElem?_set_self hl2] at e2
      cases e1; cases e2
      exact r
    · rw [List.getElem?_set_ne hj] at e1 e2
      exact h.at_ j y o e1 e2
  · by_cases hj : i = j
    · subst hj
      by_cases hk : i = k
      · exact hk
      · have hl : i < Γ.length := by simpa using (List.getElem?_eq_some_iff.mp e1).1
        have hl2 : i < σ.length := by rw [h.len]; exact hl
        rw [List.getElem?_set_self hl] at e1
        rw [List.getElem?_set_self hl2] at e3
        rw [List.getElem?_set_ne hk] at e2 e4
        cases e1; cases e3
        exact absurd e4 (fr oy k z e2 oz)
    · by_cases hk : i = k
      · subst hk
        have hl : i < Γ.length := by simpa using (List.getElem?_eq_some_iff.mp e2).1
        have hl2 : i < σ.length := by rw [h.len]; exact hl
        rw [List.getElem?_set_self hl] at e2
        rw [List.getElem?_set_self hl2] at e4
        rw [List.getElem?_set_ne hj] at e1 e3
        cases e2; cases e4
        exact absurd e3 (fr oz j y e1 oy)
      · rw [List.getElem?_set_ne hj] at e1 e3
        rw [List.getElem?_set_ne hk] at e2 e4
        exact h.sep j k y z o e1 e2 oy oz e3 e4
/-- a source of what is stored: from the world W to W' -/
abbrev WantV1 (K : PySem.W.Frag) (W : Wd) (Q : VK) : Wd → Store → SV → Prop := fun W' _ x => ∀ v, SlotOk K W.H W' x (some v) → Q v W'.H
def PRd (X : Cx) (EX : XK) (e : Expr) (m : Env → M SV) : Prop := ∃ t, PE X e t ∧
  ∀ B W Γ σ s Q, Sat X.K B W Γ σ → SRep X.K W s → Post X.K EX W (m Γ s) (WantV1 X.K W Q) → t σ W.H Q
def mSd (m : Env → M D) : Env → M SV := fun Γ s => (m Γ s).bind fun d s1 => .ok (.dat d) s1
def mSo (m : Env → M (List D)) : Env → M SV := fun Γ s => (m Γ s).bind fun d s1 => .ok (.own d) s1
theorem PEd.r {m : Env → M D} (h : PEd X EX e m) : PRd X EX e (mSd m) := by
  obtain ⟨t, p, q⟩ := h
  exact ⟨t, p, fun B W Γ σ s Q sat sr pp => q B W Γ σ s _ sat sr (pp.bind fun d s1 W1 _ g1 sr1 p1 v r => p1 W1 (Grow.refl _) sr1 v ⟨v, rfl, r⟩)⟩
theorem POd.r {m : Env → M (List D)} (h : POd X EX e m) : PRd X EX e (mSo m) := by
  obtain ⟨t, p, q⟩ := h
  exact ⟨t, p, fun B W Γ σ s Q sat sr pp => q B W Γ σ s _ sat sr (pp.bind fun d s1 W1 _ g1 sr1 p1 p vs h0 h1 h2 h3 r => p1 W1 (Grow.refl _) sr1 (.ref p) ⟨p, vs, rfl, h1, h2, h3, h0, r⟩)⟩
/-- new own lists stand apart from those in the slots -/
theorem own_fresh {K : PySem.W.Frag} {B : Hp} {W W1 : Wd} {Γ : Env} {σ : L2.St} (sat : Sat K B W Γ σ) {x : SV} {v : V} (h : SlotOk K W.H W1 x (some v)) (hx : isOwn x = true) : ∀ (j : Nat) (y : SV), Γ[j]? = some y → isOwn y = true → σ[j]? ≠ some (some v) := fun j y e oy e2 => by
  cases x with
  | own ds =>
    cases y with
    | own es =>
      obtain ⟨p, vs, e1, h1, h2, h3, h4, r⟩ := h
      obtain ⟨p', vs', e1', h1', h2', h3', h4', r'⟩ := sat.at_ j _ _ e e2
      cases e1; cases e1'
      rw [h4] at h1'; cases h1'
    | _ => cases oy
  | _ => cases hx
def mAsg (i : Nat) (m : Env → M SV) : MS := fun Γ s => (m Γ s).bind fun x s1 => .ok (.nx (Γ.set i x)) s1
theorem run_asg {i : Nat} {te : TE} {m : Env → M SV} (q : ∀ B W Γ σ s Q, Sat X.K B W Γ σ → SRep X.K W s → Post X.K EX W (m Γ s) (WantV1 X.K W Q) → te σ W.H Q) : Run X.K EX (tAsg te (gName i)) (mAsg i m) := fun W0 W Γ σ s D g sat sr pp =>
  q _ W Γ σ s _ sat sr (pp.bindE g fun x s1 W1 _ g1 sr1 p1 v h => p1 W1 (g.trans g1) (Ext.refl _) sr1 _ ((sat.grow g1).setO (h.own' fun a e => by
    cases h' : W0.H a with
    | none => rfl
    | some o => exact absurd e (g.t a (by rw [h']; simp))) (own_fresh sat h)))
theorem ds_asg {i : Nat} {x : Str} {p : Pos} {m : Env → M SV} (hN : X.N.Nodup) (hi : X.N[i]? = some x) (hx : Loc X.env.scope x) (hf : X.fn x = true ∨ X.env.scope.names.lookup x = some .local) (h : PRd X EX e m)
    (hs : swapsWith e (some (.Name x p)) pos.line X.env = pure false) : PSd X EX (.Assign [.Name x p] e pos) (mAsg i m) := by
  obtain ⟨t, p, q⟩ := h
  exact ⟨_, ps_set hN hi hx p hs hf, run_asg q⟩
/-- one target that takes data apart -/
def mUnp (t : Tg) (m : Env → M D) : MS := fun Γ s => (m Γ s).bind fun d s1 => match bindT t d Γ with
  | none => .bad
  | some Γ1 => .ok (.nx Γ1) s1
theorem ds_unp {t : Tg} {m : Env → M D} {es : List Expr} {k : Nat} {p2 : Pos} (h : PEd X EX e m) (hg : PGd X (.Tuple es k p2) t) (hs : swapsWithSole [.Tuple es k p2] e pos.line X.env = pure false) (hw : swappedStores [.Tuple es k p2] e X.env = pure none) : PSd X EX (.Assign [.Tuple es k p2] e pos) (mUnp t m) := by
  obtain ⟨te, p, q⟩ := h
  obtain ⟨g, pg, qg⟩ := hg
  refine ⟨_, ps_asg p pg hs hw, fun W0 W Γ σ s D g0 sat sr pp => q _ W Γ σ s _ sat sr (pp.bindE g0 fun d s1 W1 _ g1 sr1 p1 v r => ?_)⟩
  cases hb : bindT t d Γ with
  | none => rw [hb] at p1; exact p1.elim
  | some Γ1 =>
    rw [hb] at p1
    exact qg _ W1 Γ Γ1 σ d v _ (sat.grow g1) r hb fun σ' sat' _ => p1 W1 (g0.trans g1) (Ext.refl _) sr1 σ' sat'

/-! ### several at once -/
structure SvOk (K : PySem.W.Frag) (B : Hp) (W : Wd) (xs : List SV) (vs : List V) : Prop where
  len : xs.length = vs.length
  at_ : ∀ (i : Nat) (x : SV) (v : V), xs[i]? = some x → vs[i]? = some v → SlotOk K B W x (some v)
  sep : ∀ (i j : Nat) (x y : SV) (v : V), xs[i]? = some x → xs[j]? = some y → isOwn x = true → isOwn y = true → vs[i]? = some v → vs[j]? = some v → i = j
abbrev WantSV (K : PySem.W.Frag) (W : Wd) (Q : List V → Hp → Prop) : Wd → Store → List SV → Prop := fun W' _ xs => ∀ vs, SvOk K W.H W' xs vs → Q vs W'.H
def PRsd (X : Cx) (EX : XK) (es : List Expr) (m : Env → M (List SV)) : Prop := ∃ t, PA X es t ∧
  ∀ B W Γ σ s Q, Sat X.K B W Γ σ → SRep X.K W s → Post X.K EX W (m Γ s) (WantSV X.K W Q) → t σ W.H Q
def mRnil : Env → M (List SV) := fun _ s => .ok [] s
def mRcons (m : Env → M SV) (ms : Env → M (List SV)) : Env → M (List SV) := fun Γ s => (m Γ s).bind fun d s1 => (ms Γ s1).bind fun ds s2 => .ok (d :: ds) s2
theorem dr_nil : PRsd X EX [] mRnil := ⟨_, pa_nil, fun B W Γ σ s Q sat sr p => p W (Grow.refl W) sr [] ⟨rfl, fun i x v e _ => by simp at e, fun i j x y v e _ => by simp at e⟩⟩
theorem SvOk.cons {K : PySem.W.Frag} {W W1 W2 : Wd} {x : SV} {v : V} {xs : List SV} {vs : List V} (g1 : Grow W W1) (g2 : Grow W1 W2) (h : SlotOk K W.H W1 x (some v)) (hs : SvOk K W1.H W2 xs vs) : SvOk K W.H W2 (x :: xs) (v :: vs) := by
  have back : ∀ a, W1.H a = none → W.H a = none := fun a e => by
    cases h' : W.H a with
    | none => rfl
    | some o => exact absurd e (g1.t a (by rw [h']; simp))
  have apart : ∀ (j : Nat) (y : SV), xs[j]? = some y → isOwn y = true → isOwn x = true → vs[j]? ≠ some v := fun j y e oy ox e2 => by
    have hy := hs.at_ j y v e e2
    cases x with
    | own ds =>
      cases y with
      | own es =>
        obtain ⟨p, us, e1, h1, _⟩ := h
        obtain ⟨p', us', e1', h1', h2', h3', h4', r'⟩ := hy
        cases e1; cases e1'
        rw [h1] at h4'; cases h4'
      | _ => cases oy
    | _ => cases ox
  refine ⟨by simp [hs.len], fun i y u e1 e2 => ?_, fun i j y z u e1 e2 oy oz e3 e4 => ?_⟩
  · cases i with
    | zero =>
      rw [List.getElem?_cons_zero] at e1 e2
      cases e1; cases e2
      exact h.grow g2
    | succ i =>
      rw [List.getElem?_cons_succ] at e1 e2
      exact (hs.at_ i y u e1 e2).own' back
  · cases i with
    | zero =>
      cases j with
      | zero => rfl
      | succ j =>
        rw [List.getElem?_cons_zero] at e1 e3
        rw [List.getElem?_cons_succ] at e2 e4
        cases e1; cases e3
        exact absurd e4 (apart j z e2 oz oy)
    | succ i =>
      cases j with
      | zero =>
        rw [List.getElem?_cons_zero] at e2 e4
        rw [List.getElem?_cons_succ] at e1 e3
        cases e2; cases e4
        exact absurd e3 (apart i y e1 oy oz)
      | succ j =>
        rw [List.getElem?_cons_succ] at e1 e2 e3 e4
        rw [hs.sep i j y z u e1 e2 oy oz e3 e4]
theorem dr_cons {es : List Expr} {m : Env → M SV} {ms : Env → M (List SV)} (h : PRd X EX e m) (hs : PRsd X EX es ms) (hst : starEach (e :: es) X.env = (false, eval e X.env) :: starEach es X.env) : PRsd X EX (e :: es) (mRcons m ms) := by
  obtain ⟨t, p, q⟩ := h
  obtain ⟨t2, p2, q2⟩ := hs
  refine ⟨_, pa_cons p p2 hst, fun B W Γ σ s Q sat sr pp => q B W Γ σ s _ sat sr (Post.bind pp fun d s1 W1 _ g1 sr1 p1 v r => ?_)⟩
  exact q2 B W1 Γ σ s1 _ (sat.grow g1) sr1 (Post.bind p1 fun ds s2 W2 _ g2 sr2 pp2 vs rs => pp2 W2 (Grow.refl W2) sr2 _ (.cons g1 g2 r rs))
/-- slots stored, one after another -/
def setAllE : List Nat → List SV → Env → Env
  | i :: is, x :: xs, Γ => setAllE is xs (Γ.set i x)
  | _, _, Γ => Γ
def setAllS : List Nat → List V → L2.St → L2.St
  | i :: is, x :: xs, Γ => setAllS is xs (Γ.set i (some x))
  | _, _, Γ => Γ
theorem Sat.setAll {K : PySem.W.Frag} {B : Hp} {W : Wd} : ∀ {is : List Nat} {xs : List SV} {vs : List V} {Γ : Env} {σ : L2.St}, Sat K B W Γ σ → SvOk K B W xs vs →
    (∀ (k : Nat) (x : SV) (v : V), xs[k]? = some x → vs[k]? = some v → isOwn x = true → ∀ (j : Nat) (y : SV), Γ[j]? = some y → isOwn y = true → σ[j]? ≠ some (some v)) → Sat K B W (setAllE is xs Γ) (setAllS is vs σ)
  | [], xs, vs, Γ, σ, h, ok, fr => by
    cases xs <;> cases vs <;> exact h
  | i :: is, [], vs, Γ, σ, h, ok, fr => by
    cases vs with
    | nil => exact h
    | cons _ _ => exact nomatch ok.len
  | i :: is, x :: xs, [], Γ, σ, h, ok, fr => nomatch ok.len
  | i :: is, x :: xs, v :: vs, Γ, σ, h, ok, fr => by
    refine Sat.setAll (is := is) (xs := xs) (vs := vs) (h.setO (ok.at_ 0 x v rfl rfl) (fr 0 x v rfl rfl)) ⟨by simpa using ok.len, fun k y u e1 e2 => ok.at_ (k + 1) y u (by simpa using e1) (by simpa using e2), fun k l y z u e1 e2 oy oz e3 e4 => by
      have := ok.sep (k + 1) (l + 1) y z u (by simpa using e1) (by simpa using e2) oy oz (by simpa using e3) (by simpa using e4)
      omega⟩ fun k y u e1 e2 oy j z e3 oz e4 => ?_
    by_cases hj : i = j
    · subst hj
      have hl : i < Γ.length := by simpa using (List.getElem?_eq_some_iff.mp e3).1
      have hl2 : i < σ.length := by rw [h.len]; exact hl
      rw [List.getElem?_set_self hl] at e3
      rw [List.getElem?_set_self hl2] at e4
      cases e3; cases e4
      have := ok.sep 0 (k + 1) x y v rfl (by simpa using e1) oz oy rfl (by simpa using e2)
      omega
    · rw [List.getElem?_set_ne hj] at e3 e4
      exact fr (k + 1) y u (by simpa using e1) (by simpa using e2) oy j z e3 oz e4
def mPar (is : List Nat) (ms : Env → M (List SV)) : MS := fun Γ s => (ms Γ s).bind fun xs s1 => if xs.length = is.length then .ok (.nx (setAllE is xs Γ)) s1 else .bad
/-- the reading that any rule for it implies -/
def tParN (is : List Nat) (t : TA) : TS := fun D σ H => t σ H fun vs H1 => vs.length = is.length ∧ D.nx (setAllS is vs σ) H1
def tParT (is : List Nat) (t : TA) : TS := fun D σ H => t σ H fun vs H1 => vs.length = is.length ∧ vs.length ≤ sizeLine ∧ ∀ p, H1 p = none → D.nx (setAllS is vs σ) (upd H1 p (.tup vs))
theorem par_run {is : List Nat} {t : TA} {ms : Env → M (List SV)} (q : ∀ B W Γ σ s Q, Sat X.K B W Γ σ → SRep X.K W s → Post X.K EX W (ms Γ s) (WantSV X.K W Q) → t σ W.H Q) {W0 W : Wd} {Γ : Env} {σ : L2.St} {s : Store} {D : Ends} {R : List V → Hp → Prop}
    (g : Grow W0 W) (sat : Sat X.K W0.H W Γ σ) (sr : SRep X.K W s) (pp : PostS X.K EX W0 W (mPar is ms Γ s) (WantS X.K W0 W0.H D))
    (w : ∀ vs W1 s1 Γ1, vs.length = is.length → Grow W W1 → SRep X.K W1 s1 → Sat X.K W0.H W1 Γ1 (setAllS is vs σ) → PostS X.K EX W0 W1 (.ok (.nx Γ1) s1) (WantS X.K W0 W0.H D) → R vs W1.H) : t σ W.H R :=
  q _ W Γ σ s _ sat sr (pp.bindE g fun xs s1 W1 _ g1 sr1 p1 vs ok => by
    have back : ∀ a, W.H a = none → W0.H a = none := fun a e => by
      cases h' : W0.H a with
      | none => rfl
      | some o => exact absurd e (g.t a (by rw [h']; simp))
    split at p1
    · rename_i hl
      refine w vs W1 s1 _ (by rw [← ok.len]; exact hl) g1 sr1 (Sat.setAll (sat.grow g1) ⟨ok.len, fun i x v e1 e2 => (ok.at_ i x v e1 e2).own' back, ok.sep⟩ fun k x v e1 e2 ox j y e3 oy e4 => ?_) p1
      exact own_fresh sat (ok.at_ k x v e1 e2) ox j y e3 oy e4
    · exact p1.elim)
theorem ds_par2 {i j : Nat} {x y : Str} {px py pt : Pos} {kt k2 pt2} {ms : Env → M (List SV)} (hc : X.calm = true) (hN : X.N.Nodup) (hi : X.N[i]? = some x) (hj : X.N[j]? = some y) (hij : i ≠ j)
    (hx : X.env.scope.names.lookup x = some .local) (hy : X.env.scope.names.lookup y = some .local) (ha : PRsd X EX [a, b] ms)
    (hw : swappedStores [.Tuple [.Name x px, .Name y py] kt pt] (.Tuple [a, b] k2 pt2) X.env = pure (some [x, y]))
    (hs : swapsWithSole [.Tuple [.Name x px, .Name y py] kt pt] (.Tuple [a, b] k2 pt2) pos.line X.env = pure false) : PSd X EX (.Assign [.Tuple [.Name x px, .Name y py] kt pt] (.Tuple [a, b] k2 pt2) pos) (mPar [i, j] ms) := by
  obtain ⟨t, p, q⟩ := ha
  refine ⟨tPar i j t, ps_par hc hN hi hj hij hx hy p hw hs, fun W0 W Γ σ s D g sat sr pp => par_run q g sat sr pp fun vs W1 s1 Γ1 hl g1 sr1 sat1 p1 => ?_⟩
  match vs, hl with
  | [v, w], _ => exact ⟨v, w, rfl, p1 W1 (g.trans g1) (Ext.refl _) sr1 _ sat1⟩
theorem ds_par3 {i j l : Nat} {x y z : Str} {px py pz pt : Pos} {kt k2 pt2} {ms : Env → M (List SV)} (hc : X.calm = true) (hN : X.N.Nodup) (hi : X.N[i]? = some x) (hj : X.N[j]? = some y) (hl : X.N[l]? = some z) (hij : i ≠ j) (hil : i ≠ l) (hjl : j ≠ l)
    (hx : X.env.scope.names.lookup x = some .local) (hy : X.env.scope.names.lookup y = some .local) (hz : X.env.scope.names.lookup z = some .local) (ha : PRsd X EX [a, b, c] ms)
    (hw : swappedStores [.Tuple [.Name x px, .Name y py, .Name z pz] kt pt] (.Tuple [a, b, c] k2 pt2) X.env = pure (some [x, y, z]))
    (hs : swapsWithSole [.Tuple [.Name x px, .Name y py, .Name z pz] kt pt] (.Tuple [a, b, c] k2 pt2) pos.line X.env = pure false) : PSd X EX (.Assign [.Tuple [.Name x px, .Name y py, .Name z pz] kt pt] (.Tuple [a, b, c] k2 pt2) pos) (mPar [i, j, l] ms) := by
  obtain ⟨t, p, q⟩ := ha
  refine ⟨tPar3 i j l t, ps_par3 hc hN hi hj hl hij hil hjl hx hy hz p hw hs, fun W0 W Γ σ s D g sat sr pp => par_run q g sat sr pp fun vs W1 s1 Γ1 hl g1 sr1 sat1 p1 => ?_⟩
  match vs, hl with
  | [u, v, w], _ => exact ⟨u, v, w, rfl, p1 W1 (g.trans g1) (Ext.refl _) sr1 _ sat1⟩
/-- names, one after another -/
inductive NmOk (X : Cx) : List Expr → List Nat → Prop where
  | nil : NmOk X [] []
  | cons {x : Str} {i : Nat} {p : Pos} {es : List Expr} {is : List Nat} (hi : X.N[i]? = some x) (hx : Loc X.env.scope x) (hf : X.fn x = true ∨ X.env.scope.names.lookup x = some .local) (t : NmOk X es is) : NmOk X (.Name x p :: es) (i :: is)
def gNms : List Nat → TGs
  | [] => gNil
  | i :: is => gCons (gName i) (gNms is)
theorem nm_pgs (hN : X.N.Nodup) : ∀ {es : List Expr} {is : List Nat}, NmOk X es is → PGs X es (gNms is) ∧ (assignEach es X.env).length = is.length ∧ (assignEach es X.env).findIdx? (·.1) = none
  | _, _, .nil => ⟨pgs_nil, rfl, rfl⟩
  | _, _, .cons hi hx hf t => by
    obtain ⟨h1, h2, h3⟩ := nm_pgs hN t
    refine ⟨pgs_cons (pg_name hN hi hx hf) h1, ?_, ?_⟩
    · show (_ :: assignEach _ X.env).length = _
      rw [List.length_cons, h2, List.length_cons]
    · show List.findIdx? _ (_ :: assignEach _ X.env) = none
      rw [List.findIdx?_cons, h3]; rfl
theorem gNms_run {Q : L2.St → Hp → Prop} {H : Hp} : ∀ {is : List Nat} {vs : List V} {σ : L2.St}, vs.length = is.length → Q (setAllS is vs σ) H → gNms is vs σ H Q
  | [], [], σ, _, h => ⟨rfl, h⟩
  | i :: is, v :: vs, σ, hl, h => ⟨v, vs, rfl, gNms_run (is := is) (vs := vs) (by simpa using hl) h⟩
  | [], _ :: _, _, hl, _ => nomatch hl
  | _ :: _, [], _, hl, _ => nomatch hl
theorem ds_parN {ts es : List Expr} {is : List Nat} {pt : Pos} {kt k2 pt2} {ms : Env → M (List SV)} (hc : X.calm = true) (hN : X.N.Nodup) (hn : NmOk X ts is) (hz : is.length ≤ 1000) (ha : PRsd X EX es ms)
    (hw : swappedStores [.Tuple ts kt pt] (.Tuple es k2 pt2) X.env = pure none)
    (hs : swapsWithSole [.Tuple ts kt pt] (.Tuple es k2 pt2) pos.line X.env = pure false) : PSd X EX (.Assign [.Tuple ts kt pt] (.Tuple es k2 pt2) pos) (mPar is ms) := by
  obtain ⟨t, p, q⟩ := ha
  obtain ⟨g1, g2, g3⟩ := nm_pgs hN hn
  refine ⟨_, ps_asg (pe_tup p) (pg_tup hc g1 g2 g3) hs hw, fun W0 W Γ σ s D g sat sr pp => par_run q g sat sr pp fun vs W1 s1 Γ1 hl g1 sr1 sat1 p1 => ⟨?_, fun p hp => ?_⟩⟩
  · exact Nat.le_trans (by omega) (show 1000 ≤ sizeLine by decide)
  · refine ⟨p, vs, rfl, .inl (.inl upd_same), hl, gNms_run hl ?_⟩
    have gn := Grow.new (o := .tup vs) hp sr1
    exact p1 (W1.new p (.tup vs)) ((g.trans g1).trans gn) gn.ext (sr1.new hp) _ (sat1.grow gn)
end
end PD
set_option maxRecDepth 100000
set_option maxHeartbeats 4000000
namespace PD
open PySem PySem.Spec PyProof.Rows L2

/-! ## writes -/
/-- ghost: an own list is data from now on -/
def frzE (i : Nat) (Γ : Env) : Env := match Γ[i]? with
  | some (.own ds) => Γ.set i (.dat (.lst ds))
  | _ => Γ
def mGhost (i : Nat) (m : MS) : MS := fun Γ s => m (frzE i Γ) s
theorem List.set_same {α : Type} {l : List α} {i : Nat} {x : α} (h : l[i]? = some x) : l.set i x = l := by
  apply List.ext_getElem?
  intro j
  by_cases e : i = j
  · subst e
    rw [List.getElem?_set_self (List.getElem?_eq_some_iff.mp h).1, h]
  · rw [List.getElem?_set_ne e]
/-- what an own slot says under a frozen neighbour -/
theorem Sat.frz {K : PySem.W.Frag} {B : Hp} {W : Wd} {Γ : Env} {σ : L2.St} {i : Nat} {ds : List D} {q : Addr} {vs : List V} (sat : Sat K B W Γ σ) (e : Γ[i]? = some (.own ds)) (h1 : σ[i]? = some (some (.ref q))) (h3 : W.H q = some (.lst vs)) (h4 : W.F q = none) (r : RepL K W ds vs) :
    Sat K B (W.frz q _ h3) (Γ.set i (.dat (.lst ds))) σ := by
  have sb := frz_sub h3 h4
  refine ⟨by simp [sat.len], fun j x o e1 e2 => ?_, fun j k x y o e1 e2 ox oy e3 e4 => ?_⟩
  · by_cases hj : i = j
    · subst hj
      rw [List.getElem?_set_self (List.getElem?_eq_some_iff.mp e).1] at e1
      cases e1
      rw [h1] at e2; cases e2
      exact ⟨_, rfl, .lst (show upd W.F q _ q = _ from upd_same) (r.frz h3 h4)⟩
    · rw [List.getElem?_set_ne hj] at e1
      have h := sat.at_ j x o e1 e2
      cases x with
      | nul => trivial
      | dat d => obtain ⟨v, e', r'⟩ := h; exact ⟨v, e', r'.of sb (fun _ _ z => z)⟩
      | own es =>
        obtain ⟨p', us, e', k1, k2, k3, k4, r'⟩ := h
        have ne : p' ≠ q := fun z => by
          subst z
          exact hj (sat.sep i j _ _ _ e e1 rfl rfl h1 (by rw [e2, e']))
        refine ⟨p', us, e', k1, ?_, k3, k4, r'.of sb (fun _ _ z => z)⟩
        show upd W.F q _ p' = none
        rw [upd_ne ne]; exact k2
  · have nj : i ≠ j := fun z => by
      subst z
      rw [List.getElem?_set_self (List.getElem?_eq_some_iff.mp e).1] at e1
      cases e1; cases ox
    have nk : i ≠ k := fun z => by
      subst z
      rw [List.getElem?_set_self (List.getElem?_eq_some_iff.mp e).1] at e2
      cases e2; cases oy
    rw [List.getElem?_set_ne nj] at e1
    rw [List.getElem?_set_ne nk] at e2
    exact sat.sep j k x y o e1 e2 ox oy e3 e4
theorem Run.ghost {K : PySem.W.Frag} {EX : XK} {t : TS} {m : MS} (i : Nat) (h : Run K EX t m) : Run K EX t (mGhost i m) := fun W0 W Γ σ s D g sat sr pp => by
  unfold mGhost frzE at pp
  split at pp
  · rename_i ds e
    obtain ⟨o, h1, q, vs, h2, h3, h4, h5, h6, r⟩ := sat.slot e
    subst h2
    have gx : Ext W (W.frz q _ h3) := ⟨frz_sub h3 h4, [], by simp [Wd.frz]⟩
    exact h W0 (W.frz q _ h3) _ σ s D (g.frz h3 h6 h4) (sat.frz e h1 h3 h4 r) (sr.frz h3 h4 h5) (PostS.ext gx pp)
  · exact h W0 W Γ σ s D g sat sr pp
section
variable {X : Cx} {EX : XK} {a b c e tg : Expr} {pos : Pos} {st : Stmt} {rest : List Stmt}
theorem ds_ghost {m : MS} (i : Nat) (h : PSd X EX st m) : PSd X EX st (mGhost i m) := by
  obtain ⟨t, p, q⟩ := h
  exact ⟨t, p, q.ghost i⟩
/-- the own list of slot i is written -/
theorem Sat.wr {K : PySem.W.Frag} {B : Hp} {W : Wd} {Γ : Env} {σ : L2.St} {i : Nat} {ds es : List D} {q : Addr} {vs us : List V} (sat : Sat K B W Γ σ) (e : Γ[i]? = some (.own ds)) (h1 : σ[i]? = some (some (.ref q))) (h3 : W.H q = some (.lst vs)) (h4 : W.F q = none) (h5 : q ∉ W.A) (h6 : B q = none) (r : RepL K W es us) :
    Sat K B (W.put q (.lst us) h4) (Γ.set i (.own es)) σ := by
  refine ⟨by simp [sat.len], fun j x o e1 e2 => ?_, fun j k x y o e1 e2 ox oy e3 e4 => ?_⟩
  · by_cases hj : i = j
    · subst hj
      rw [List.getElem?_set_self (List.getElem?_eq_some_iff.mp e).1] at e1
      cases e1
      rw [h1] at e2; cases e2
      exact ⟨q, us, rfl, upd_same, h4, h5, h6, r.put h4⟩
    · rw [List.getElem?_set_ne hj] at e1
      have h := sat.at_ j x o e1 e2
      cases x with
      | nul => trivial
      | dat d => obtain ⟨v, e', r'⟩ := h; exact ⟨v, e', r'.put h4⟩
      | own es' =>
        obtain ⟨p', us', e', k1, k2, k3, k4, r'⟩ := h
        have ne : p' ≠ q := fun z => by
          subst z
          exact hj (sat.sep i j _ _ _ e e1 rfl rfl h1 (by rw [e2, e']))
        refine ⟨p', us', e', ?_, k2, k3, k4, r'.put h4⟩
        show upd W.H q _ p' = _
        rw [upd_ne ne]; exact k1
  · have key : ∀ (j : Nat) (x : SV), (Γ.set i (.own es))[j]? = some x → isOwn x = true → ∃ x', Γ[j]? = some x' ∧ isOwn x' = true := fun j x h ox => by
      by_cases hj : i = j
      · subst hj; exact ⟨_, e, rfl⟩
      · rw [List.getElem?_set_ne hj] at h; exact ⟨x, h, ox⟩
    obtain ⟨x', f1, ox'⟩ := key j x e1 ox
    obtain ⟨y', f2, oy'⟩ := key k y e2 oy
    exact sat.sep j k x' y' o f1 f2 ox' oy' e3 e4
theorem put_ext {W : Wd} {p : Addr} {o : HO} (h : W.F p = none) : Ext W (W.put p o h) := ⟨fun _ _ z => z, [], by simp [Wd.put]⟩
/-- x.append(e) on an own list -/
def mApp (i : Nat) (m : Env → M D) : MS := fun Γ s => match Γ[i]? with
  | some (.own ds) => (m Γ s).bind fun d s1 => if ds.length < 100000 then .ok (.nx (Γ.set i (.own (ds ++ [d])))) s1 else .bad
  | _ => .bad
theorem ds_app {i : Nat} {x : Str} {p : Pos} {apos cpos : Pos} {m : Env → M D} (hi : X.N[i]? = some x) (hv : Vis X.env.scope x) (hd : (x == ("__debug__" : Str)) = false) (hcd : (x == ("__classdict__" : Str)) = false) (h : PEd X EX e m) 
    (hbase : attributeBase (.Name x p) "append" X.env (eval (.Name x p) X.env) = eval (.Name x p) X.env)
    (hfew : ((backTo cpos (starEach [e] X.env)).all (fun x => !x.1) && (backToKw cpos (keywordEach [] X.env)).all (fun x => x.1.isSome)
      && decide ([e].length + ([] : List Keyword).length + (if ([] : List Keyword).isEmpty then 0 else 1) < 30)) = true)
    (hline : (apos.endLine == cpos.line) = true) (hs : starEach [e] X.env = [(false, eval e X.env)]) (hsw : swapsWith (.Call (.Attribute (.Name x p) "append" apos) [e] [] cpos) none pos.line X.env = pure false) :
    PSd X EX (.Expr (.Call (.Attribute (.Name x p) "append" apos) [e] [] cpos) pos) (mApp i m) := by
  obtain ⟨t, pt, q⟩ := h
  refine ⟨_, ps_expr (pe_bm PySem.F.plainAttrs_list PySem.F.slot_list_append PySem.F.type_list_append mt_append (pe_var hi hv hd hcd) (pa_cons pt pa_nil hs) hbase hfew hline hs (by rfl)) hsw, fun W0 W Γ σ s D g sat sr pp => ?_⟩
  unfold mApp at pp
  split at pp
  · rename_i ds hmm
    obtain ⟨o, h1, q0, vs, h2, h3, h4, h5, h6, r⟩ := sat.slot hmm
    subst h2
    refine ⟨_, h1, .inl ⟨rfl, vs, SqL.of h3⟩, q _ W Γ σ s _ sat sr (pp.bindE g fun d s1 W1 _ g1 sr1 p1 v rv => ?_)⟩
    split at p1
    · rename_i hl
      have k3 : W1.H q0 = some (.lst vs) := g1.h q0 _ h5 h3
      have ne : W.H q0 ≠ none := by rw [h3]; simp
      have k4 : W1.F q0 = none := g1.n q0 h4 ne
      have k5 : q0 ∉ W1.A := g1.notA h5 ne
      have r1 := r.grow g1
      have gW := g.trans g1
      refine ⟨q0, vs, v, rfl, rfl, k3, Nat.lt_of_lt_of_le (show vs.length < 100000 by rw [← r.len]; exact hl) (by decide), ?_⟩
      exact p1 (W1.put q0 (.lst (vs ++ [v])) k4) (gW.put k4 h6) (put_ext k4) (sr1.put k4 k5) σ ((sat.grow g1).wr hmm h1 k3 k4 k5 h6 (r1.app (.cons rv .nil)))
    · exact p1.elim
  · exact pp.elim
/-! ### x[i] = e -/
def mSetO (i : Nat) (mi mv : Env → M D) : MS := fun Γ s => (mv Γ s).bind fun d s1 => match Γ[i]? with
  | some (.own ds) => (mi Γ s1).bind fun k s2 => match k with
    | .int k => (match ixN ds.length k with
      | some j => .ok (.nx (Γ.set i (.own (ds.set j d)))) s2
      | none => .bad)
    | _ => .bad
  | _ => .bad
theorem ds_setO {i : Nat} {x : Str} {p p2 : Pos} {mi mv : Env → M D} (hi : X.N[i]? = some x) (hv : Vis X.env.scope x) (hd : (x == ("__debug__" : Str)) = false) (hcd : (x == ("__classdict__" : Str)) = false) (he : PEd X EX e mv) (hk : PEd X EX a mi)
    (ha : ∀ v, assign (.Subscript (.Name x p) a p2) X.env v = (do
      let ov ← holding [v] (eval (.Name x p) X.env)
      let iv ← holding [v, ov] (eval a X.env)
      standAt p2
      holding [v, ov, iv] (setItem ov iv v)
      release [v, ov, iv] [])) (hs : swapsWithSole [.Subscript (.Name x p) a p2] e pos.line X.env = pure false) (hw : swappedStores [.Subscript (.Name x p) a p2] e X.env = pure none) :
    PSd X EX (.Assign [.Subscript (.Name x p) a p2] e pos) (mSetO i mi mv) := by
  obtain ⟨te, pe, qe⟩ := he
  obtain ⟨tk, pk, qk⟩ := hk
  refine ⟨_, ps_asg pe (pg_sub (pe_var hi hv hd hcd) pk set_list ha) hs hw (by rfl), fun W0 W Γ σ s D g sat sr pp => ?_⟩
  refine qe _ W Γ σ s _ sat sr (pp.bindE g fun d s1 W1 _ g1 sr1 p1 v rv => ?_)
  split at p1
  · rename_i ds hmm
    obtain ⟨o, h1, q0, vs, h2, h3, h4, h5, h6, r⟩ := (sat.grow g1).slot hmm
    subst h2
    refine ⟨_, h1, qk _ W1 Γ σ s1 _ (sat.grow g1) sr1 (p1.bindE (g.trans g1) fun k s2 W2 _ g2 sr2 p2 u ru => ?_)⟩
    cases k with
    | int k =>
      cases ru
      have p2 : PostS X.K EX W0 W2 (match ixN ds.length k with
        | some j => .ok (.nx (Γ.set i (.own (ds.set j d)))) s2
        | none => .bad) (WantS X.K W0 W0.H D) := p2
      cases hj : ixN ds.length k with
      | none => rw [hj] at p2; exact p2.elim
      | some j =>
        rw [hj] at p2
        have k3 : W2.H q0 = some (.lst vs) := g2.h q0 _ h5 h3
        have ne : W1.H q0 ≠ none := by rw [h3]; simp
        have k4 : W2.F q0 = none := g2.n q0 h4 ne
        have k5 : q0 ∉ W2.A := g2.notA h5 ne
        have gW := (g.trans g1).trans g2
        refine ⟨q0, vs, k, j, rfl, rfl, k3, by rw [← r.len]; exact hj, ?_⟩
        exact p2 (W2.put q0 (.lst (vs.set j v)) k4) (gW.put k4 h6) (put_ext k4) (sr2.put k4 k5) σ (((sat.grow g1).grow g2).wr hmm h1 k3 k4 k5 h6 (RepL.set (rv.grow g2) j (r.grow g2)))
    | _ => exact p2.elim
  · exact p1.elim

/-! ### cells of the store -/
def Wd.mkc (W : Wd) (p : Addr) : Wd := { W with A := W.A ++ [p] }
theorem mkc_ext {W : Wd} {p : Addr} : Ext W (W.mkc p) := ⟨fun _ _ z => z, [p], rfl⟩
theorem Grow.mkc {W W1 : Wd} {p : Addr} (g : Grow W1 W) (hp : W1.H p = none) : Grow W1 (W.mkc p) where
  f := g.f
  h := g.h
  n := g.n
  t := g.t
  p := by
    obtain ⟨B, e⟩ := g.p
    exact ⟨B ++ [p], by show W.A ++ [p] = _; rw [e, List.append_assoc]⟩
  q := fun a h => by
    have h : a ∈ W.A ++ [p] := h
    rcases List.mem_append.mp h with h | h
    · exact g.q a h
    · right; rw [List.mem_singleton.mp h]; exact hp
theorem SRep.mkc {K : PySem.W.Frag} {W : Wd} {s : Store} {p : Addr} {ds : List D} {vs : List V} (sr : SRep K W s) (h1 : W.H p = some (.lst vs)) (h2 : W.F p = none) (h3 : p ∉ W.A) (r : RepL K W ds vs) : SRep K (W.mkc p) (s ++ [.lst ds]) := by
  refine ⟨by show (W.A ++ [p]).length = _; simp [sr.len], ?_, fun i a c e1 e2 => ?_⟩
  · show (W.A ++ [p]).Nodup
    rw [List.nodup_append]
    exact ⟨sr.nd, by simp, fun a ha b hb => by rw [List.mem_singleton.mp hb]; exact fun z => h3 (z ▸ ha)⟩
  · have e1 : (W.A ++ [p])[i]? = some a := e1
    by_cases hi : i < W.A.length
    · rw [List.getElem?_append_left hi] at e1
      rw [List.getElem?_append_left (by rw [← sr.len]; exact hi)] at e2
      obtain ⟨k1, k2⟩ := sr.at_ i a c e1 e2
      exact ⟨k1, CellRep.grow (W := W) (W' := W.mkc p) (fun _ _ z => z) (fun _ _ z => mkc_ext.ix (W := W) z) rfl k2⟩
    · have hi' : W.A.length ≤ i := by omega
      rw [List.getElem?_append_right hi'] at e1
      rw [List.getElem?_append_right (by rw [← sr.len]; exact hi')] at e2
      rw [← sr.len] at e2
      cases hn : i - W.A.length with
      | zero =>
        rw [hn] at e1 e2
        cases e1; cases e2
        exact ⟨h2, vs, h1, r.ext mkc_ext⟩
      | succ n => rw [hn] at e1; simp at e1
theorem Sat.mkc {K : PySem.W.Frag} {B : Hp} {W : Wd} {Γ : Env} {σ : L2.St} {p : Addr} (sat : Sat K B W Γ σ) (h : ∀ (j : Nat) (y : SV), Γ[j]? = some y → isOwn y = true → σ[j]? ≠ some (some (.ref p))) : Sat K B (W.mkc p) Γ σ := by
  refine ⟨sat.len, fun j x o e1 e2 => ?_, sat.sep⟩
  have h' := sat.at_ j x o e1 e2
  cases x with
  | nul => trivial
  | dat d => obtain ⟨v, e', r'⟩ := h'; exact ⟨v, e', r'.ext mkc_ext⟩
  | own es =>
    obtain ⟨p', us, e', k1, k2, k3, k4, r'⟩ := h'
    refine ⟨p', us, e', k1, k2, fun z => ?_, k4, r'.ext mkc_ext⟩
    have z : p' ∈ W.A ++ [p] := z
    rcases List.mem_append.mp z with z | z
    · exact k3 z
    · rw [List.mem_singleton.mp z] at e'
      exact h j _ e1 rfl (by rw [e2, e'])
/-- a new list is kept in the store -/
def mCell (i : Nat) (m : Env → M (List D)) : MS := fun Γ s => (m Γ s).bind fun ds s1 => .ok (.nx (Γ.set i (.dat (.cel s1.length)))) (s1 ++ [.lst ds])
theorem ds_cell {i : Nat} {x : Str} {p : Pos} {m : Env → M (List D)} (hN : X.N.Nodup) (hi : X.N[i]? = some x) (hx : Loc X.env.scope x) (hf : X.fn x = true ∨ X.env.scope.names.lookup x = some .local) (h : POd X EX e m)
    (hs : swapsWith e (some (.Name x p)) pos.line X.env = pure false) : PSd X EX (.Assign [.Name x p] e pos) (mCell i m) := by
  obtain ⟨t, pt, q⟩ := h
  refine ⟨_, ps_set hN hi hx pt hs hf, fun W0 W Γ σ s D g sat sr pp => q _ W Γ σ s _ sat sr (pp.bindE g fun ds s1 W1 _ g1 sr1 p1 p vs h0 h1 h2 h3 r => ?_)⟩
  have hp0 : W0.H p = none := by
    cases h : W0.H p with
    | none => rfl
    | some o => exact absurd h0 (g.t p (by rw [h]; simp))
  refine p1 (W1.mkc p) ((g.trans g1).mkc hp0) mkc_ext (sr1.mkc h1 h2 h3 r) _ (Sat.set (((sat.grow g1).mkc fun j y e oy e2 => ?_)) (.cel ?_))
  · exact own_fresh (W1 := W1) (x := .own ds) (v := .ref p) sat ⟨p, vs, rfl, h1, h2, h3, h0, r⟩ rfl j y e oy e2
  · show (W1.A ++ [p])[s1.length]? = some p
    rw [← sr1.len, List.getElem?_append_right (Nat.le_refl _)]
    simp
/-- the list of a cell is written -/
def Wd.putc (W : Wd) (p : Addr) (o : HO) (h : W.F p = none) : Wd := W.put p o h
theorem Grow.putc {W W1 : Wd} {p : Addr} {o : HO} (g : Grow W1 W) (h : W.F p = none) (hp : p ∈ W.A) : Grow W1 (W.put p o h) where
  f := g.f
  h := fun a u n e => by
    have : a ≠ p := fun z => by
      subst z
      rcases g.q a hp with z | z
      · exact n z
      · rw [z] at e; cases e
    show upd W.H p o a = _
    rw [upd_ne this]; exact g.h a u n e
  n := g.n
  t := fun a e => by
    show upd W.H p o a ≠ none
    by_cases q : a = p
    · subst q; rw [upd_same]; simp
    · rw [upd_ne q]; exact g.t a e
  p := g.p
  q := g.q
theorem SRep.putc {K : PySem.W.Frag} {W : Wd} {s : Store} {i : Nat} {p : Addr} {ds : List D} {vs : List V} (sr : SRep K W s) (hi : W.A[i]? = some p) (h : W.F p = none) (r : RepL K W ds vs) : SRep K (W.put p (.lst vs) h) (s.set i (.lst ds)) := by
  refine ⟨by show W.A.length = _; rw [sr.len, List.length_set], sr.nd, fun j a c e1 e2 => ?_⟩
  have e1 : W.A[j]? = some a := e1
  by_cases hj : i = j
  · subst hj
    rw [hi] at e1; cases e1
    rw [List.getElem?_set_self (by rw [← sr.len]; exact (List.getElem?_eq_some_iff.mp hi).1)] at e2
    cases e2
    exact ⟨h, vs, upd_same, r.put h⟩
  · rw [List.getElem?_set_ne hj] at e2
    obtain ⟨k1, k2⟩ := sr.at_ j a c e1 e2
    refine ⟨k1, CellRep.grow (W := W) (W' := W.put p (.lst vs) h) (fun _ _ z => z) (fun _ _ z => z) ?_ k2⟩
    have ne : a ≠ p := fun z => by
      subst z
      exact hj ((List.getElem?_inj (List.getElem?_eq_some_iff.mp hi).1 sr.nd).mp (hi.trans (show W.A[j]? = some a from e1).symm))
    show upd W.H p _ a = _
    rw [upd_ne ne]
theorem Sat.putc {K : PySem.W.Frag} {B : Hp} {W : Wd} {Γ : Env} {σ : L2.St} {p : Addr} {o : HO} (sat : Sat K B W Γ σ) (h : W.F p = none) (hp : p ∈ W.A) : Sat K B (W.put p o h) Γ σ := by
  refine ⟨sat.len, fun j x o e1 e2 => ?_, sat.sep⟩
  have h' := sat.at_ j x o e1 e2
  cases x with
  | nul => trivial
  | dat d => obtain ⟨v, e', r'⟩ := h'; exact ⟨v, e', r'.put h⟩
  | own es =>
    obtain ⟨p', us, e', k1, k2, k3, k4, r'⟩ := h'
    refine ⟨p', us, e', ?_, k2, k3, k4, r'.put h⟩
    show upd W.H p _ p' = _
    rw [upd_ne (show p' ≠ p from fun z => k3 (by rw [z]; exact hp))]; exact k1
def mSetC (mo mi mv : Env → M D) : MS := fun Γ s => (mv Γ s).bind fun d s1 => (mo Γ s1).bind fun o s2 => (mi Γ s2).bind fun k s3 => match o, k with
  | .cel i, .int k => (match s3[i]? with
    | some (.lst ds) => (match ixN ds.length k with
      | some j => .ok (.nx Γ) (s3.set i (.lst (ds.set j d)))
      | none => .bad)
    | _ => .bad)
  | _, _ => .bad
theorem ds_setC {p2 : Pos} {mo mi mv : Env → M D} (he : PEd X EX e mv) (ho : PEd X EX b mo) (hk : PEd X EX a mi)
    (ha : ∀ v, assign (.Subscript b a p2) X.env v = (do
      let ov ← holding [v] (eval b X.env)
      let iv ← holding [v, ov] (eval a X.env)
      standAt p2
      holding [v, ov, iv] (setItem ov iv v)
      release [v, ov, iv] [])) (hs : swapsWithSole [.Subscript b a p2] e pos.line X.env = pure false) (hw : swappedStores [.Subscript b a p2] e X.env = pure none) :
    PSd X EX (.Assign [.Subscript b a p2] e pos) (mSetC mo mi mv) := by
  obtain ⟨te, pe, qe⟩ := he
  obtain ⟨to, po, qo⟩ := ho
  obtain ⟨tk, pk, qk⟩ := hk
  refine ⟨_, ps_asg pe (pg_sub po pk set_list ha) hs hw (by rfl), fun W0 W Γ σ s D g sat sr pp => ?_⟩
  refine qe _ W Γ σ s _ sat sr (pp.bindE g fun d s1 W1 _ g1 sr1 p1 v rv => ?_)
  have gW1 := g.trans g1
  refine qo _ W1 Γ σ s1 _ (sat.grow g1) sr1 (p1.bindE gW1 fun o s2 W2 z1 g2 sr2 p2 x rx => ?_)
  have gW2 := gW1.trans g2
  refine qk _ W2 Γ σ s2 _ ((sat.grow g1).grow g2) sr2 (p2.bindE gW2 fun k s3 W3 z2 g3 sr3 p3 u ru => ?_)
  clear z1 z2
  have gW3 := gW2.trans g3
  split at p3
  · rename_i i k
    have ru' := ru
    cases ru'
    have rx' := rx.grow g3
    cases rx' with
    | cel hA =>
      rename_i q0
      split at p3
      · rename_i ds hs3
        obtain ⟨k1, vs, k2, r⟩ := sr3.at_ i q0 _ hA hs3
        have hmem : q0 ∈ W3.A := List.mem_of_getElem? hA
        split at p3
        · rename_i j hj
          refine ⟨q0, vs, k, j, rfl, rfl, k2, by rw [← r.len]; exact hj, ?_⟩
          exact p3 (W3.put q0 (.lst (vs.set j v)) k1) (gW3.putc k1 hmem) (put_ext k1) (sr3.putc hA k1 (RepL.set ((rv.grow g2).grow g3) j r)) σ ((((sat.grow g1).grow g2).grow g3).putc k1 hmem)
        · exact p3.elim
      · exact p3.elim
  · exact p3.elim
end
end PD
set_option maxRecDepth 100000
set_option maxHeartbeats 4000000
namespace PD
open PySem PySem.Spec PyProof.Rows L2
section
variable {X : Cx} {EX : XK} {a b c e f : Expr} {pos p p2 apos : Pos} {rest es : List Expr}

/-! ### dict([(k, v), ..]) with ints as keys, d.get(k, x) -/
def pairsOf : List D → Option (List Int × List D)
  | [] => some ([], [])
  | .tup [.int k, d] :: ds => (pairsOf ds).map fun q => (k :: q.1, d :: q.2)
  | _ => none
def fDict : List D → Option D
  | [.lst ds] => (pairsOf ds).bind fun q => if q.1.Nodup ∧ q.1.length ≤ 100000 then some (.dki q.1 q.2) else none
  | _ => none
abbrev zipK (ks : List Int) (vs : List V) : List (Key × V) := List.zipWith (fun k v => (Sum.inl k, v)) ks vs
theorem pairs_rep {K : PySem.W.Frag} {W : Wd} : ∀ {ds : List D} {vs : List V} {ks : List Int} {es : List D}, RepL K W ds vs → pairsOf ds = some (ks, es) → ∃ (ps : List Addr) (us : List V), vs = ps.map V.ref ∧ RepL K W es us ∧ ks.length = us.length ∧ Paired (fun p (kv : Key × V) => SqT K W.H p [kV kv.1, kv.2]) ps (zipK ks us)
  | [], _, ks, es, .nil, h => by
    simp only [pairsOf, Option.some.injEq, Prod.mk.injEq] at h
    obtain ⟨rfl, rfl⟩ := h
    exact ⟨[], [], rfl, .nil, rfl, .nil⟩
  | d :: ds, _, ks, es, .cons r rr, h => by
    unfold pairsOf at h
    split at h
    · rename_i h'; cases h'
    · rename_i k d' ds' h'
      cases h'
      cases hq : pairsOf ds with
      | none => rw [hq] at h; cases h
      | some q =>
        rw [hq] at h
        obtain ⟨ks', es'⟩ := q
        simp only [Option.map_some, Option.some.injEq, Prod.mk.injEq] at h
        obtain ⟨rfl, rfl⟩ := h
        obtain ⟨ps, us, e1, r1, hl, pp⟩ := pairs_rep rr hq
        cases r with
        | tup hT rl =>
          rename_i a vs
          cases rl with
          | cons r1' t =>
            cases t with
            | cons r2' t' =>
              cases t'
              cases r1'
              exact ⟨a :: ps, _ :: us, by rw [e1]; rfl, .cons r2' r1, by simp [hl], .cons (hT.ex W.sub).t pp⟩
    · cases h
theorem put_new {kvs : List (Key × V)} {k : Key} {v : V} (h : ∀ q ∈ kvs, q.1 ≠ k) : putK kvs k v = kvs ++ [(k, v)] := by
  unfold putK
  rw [if_neg]
  simp only [List.any_eq_true, decide_eq_true_eq, not_exists, not_and]
  exact h
theorem merge_new : ∀ (more kvs : List (Key × V)), ((kvs ++ more).map (·.1)).Nodup → mergeK kvs more = kvs ++ more
  | [], kvs, _ => by simp [mergeK]
  | q :: more, kvs, h => by
    show mergeK (putK kvs q.1 q.2) more = _
    rw [put_new]
    · rw [merge_new more (kvs ++ [(q.1, q.2)])]
      · simp
      · simpa using h
    · intro z hz e
      rw [List.map_append, List.nodup_append] at h
      exact h.2.2 z.1 (List.mem_map_of_mem hz) q.1 (by simp) e
theorem zipK_fst : ∀ {ks : List Int} {us : List V}, ks.length = us.length → (zipK ks us).map (·.1) = ks.map Sum.inl
  | [], [], _ => rfl
  | k :: ks, u :: us, h => by
    show Sum.inl k :: (zipK ks us).map (·.1) = _
    rw [zipK_fst (by simpa using h)]; rfl
  | [], _ :: _, h => nomatch h
  | _ :: _, [], h => nomatch h
theorem oc_dict (K : PySem.W.Frag) : OpC K (fun xs H Q => ∃ (a : Addr) (ps : List Addr) (kvs : List (Key × V)), xs = [.ref a] ∧ SqL K H a (ps.map V.ref) ∧ Paired (fun p kv => SqT K H p [kV kv.1, kv.2]) ps kvs ∧
    ∀ p, H p = none → Q (.ref p) (upd H p (.dK (mergeK [] kvs)))) fDict := fun W s ds d vs Q r sr e q => by
  unfold fDict at e
  split at e
  · rename_i xs
    cases hp : pairsOf xs with
    | none => rw [hp] at e; cases e
    | some kd =>
      rw [hp] at e
      obtain ⟨ks, es⟩ := kd
      have e : (if ks.Nodup ∧ ks.length ≤ 100000 then some (D.dki ks es) else none) = some d := e
      split at e
      · rename_i hz
        cases e
        cases r with
        | cons r t =>
          cases t
          obtain ⟨a, vs, rfl, hH, rl⟩ := r.lst
          obtain ⟨ps, us, rfl, r1, hl, pp⟩ := pairs_rep rl hp
          refine ⟨a, ps, zipK ks us, rfl, SqL.of hH, pp, fun p hp => ?_⟩
          rw [merge_new _ [] (by
            rw [List.nil_append, zipK_fst hl]
            exact List.Pairwise.map _ (fun a b h z => h (Sum.inl.inj z)) hz.1)]
          exact q (W.new p (.dK ([] ++ zipK ks us))) _ (Grow.new hp sr) (sr.new hp) (.dki (show upd W.F p _ p = _ from upd_same) (by rw [r1.len, hl]) (r1.grow (Grow.new hp sr)))
      · cases e
  · cases e
def lookD : List Int → List D → Int → Option D
  | k :: ks, d :: ds, i => if k = i then some d else lookD ks ds i
  | _, _, _ => none
def mDGet (mo me mf : Env → M D) : Env → M D := fun Γ s => (mo Γ s).bind fun d s1 => match d with
  | .dki ks ds => (me Γ s1).bind fun k s2 => (mf Γ s2).bind fun z s3 => match k with
    | .int i => .ok ((lookD ks ds i).getD z) s3
    | _ => .bad
  | _ => .bad
theorem look_val {K : PySem.W.Frag} {W : Wd} {i : Int} {z : D} {y : V} (rz : Rep K W z y) : ∀ {ks : List Int} {ds : List D} {vs : List V}, RepL K W ds vs → ks.length = vs.length → Rep K W ((lookD ks ds i).getD z) ((valV (zipK ks vs) (Sum.inl i)).getD y)
  | [], [], _, .nil, _ => rz
  | k :: ks, d :: ds, _, .cons r rr, h => by
    unfold lookD
    by_cases e : k = i
    · subst e
      rw [if_pos rfl]
      show Rep K W d ((valV ((Sum.inl k, _) :: zipK ks _) (Sum.inl k)).getD y)
      rw [valV_pos rfl]
      exact r
    · rw [if_neg e]
      show Rep K W _ ((valV ((Sum.inl k, _) :: zipK ks _) (Sum.inl i)).getD y)
      rw [valV_neg (fun z => e (Sum.inl.inj z))]
      exact look_val rz rr (by simpa using h)
  | [], _ :: _, _, .cons _ _, h => nomatch h
  | _ :: _, [], _, .nil, h => nomatch h
theorem de_dget {mo me mf : Env → M D} (hu : X.A.units + 1 < cLine) (ho : PEd X EX a mo) (he : PEd X EX b me) (hf : PEd X EX c mf) (m : M2 X a "get" apos b c pos) : PEd X EX (.Call (.Attribute a "get" apos) [b, c] [] pos) (mDGet mo me mf) := by
  obtain ⟨to, po, qo⟩ := ho
  obtain ⟨te, pe, qe⟩ := he
  obtain ⟨tf, pf, qf⟩ := hf
  refine ⟨_, pe_dget2 hu po pe pf m, fun B W Γ σ s Q sat sr pp => ?_⟩
  refine qo B W Γ σ s _ sat sr (Post.bind pp fun d s1 W1 hh g1 sr1 p1 x rx => ?_)
  clear hh
  split at p1
  · rename_i ks ds
    cases rx with
    | dki hF hl rl =>
      rename_i a vs
      refine ⟨a, rfl, .inl ⟨_, .inl (W1.sub _ _ hF)⟩, qe B W1 Γ σ s1 _ (sat.grow g1) sr1 (Post.bind p1 fun k s2 W2 hh g2 sr2 p2 y ry => ?_)⟩
      clear hh
      refine qf B W2 Γ σ s2 _ ((sat.grow g1).grow g2) sr2 (Post.bind p2 fun z s3 W3 hh g3 sr3 p3 u ru => ?_)
      clear hh
      split at p3
      · rename_i i
        cases ry
        refine ⟨_, .inl ⟨zipK ks vs, Sum.inl i, .inl (W3.sub _ _ (g3.f _ _ (g2.f _ _ hF))), rfl, rfl⟩, p3 W3 (Grow.refl _) sr3 _ (look_val ru ((rl.grow g2).grow g3) (by rw [hl, rl.len]))⟩
      · exact p3.elim
  · exact p1.elim

/-! ### list(range(..)), tuple(range(..)) -/
def fLR : List D → Option (List D)
  | [.int n] => if -100000 ≤ n ∧ n ≤ 100000 then some (rangeD 0 n.toNat) else none
  | [.int lo, .int hi] => if -100000 ≤ lo ∧ lo ≤ 100000 ∧ hi ≤ 100000 ∧ -100000 ≤ hi then some (rangeD lo (hi - lo).toNat) else none
  | _ => none
def mLR (ms : Env → M (List D)) : Env → M (List D) := fun Γ s => (ms Γ s).bind fun ds s1 => R.opt (fLR ds) s1
def mTR (ms : Env → M (List D)) : Env → M D := fun Γ s => (ms Γ s).bind fun ds s1 => R.opt ((fLR ds).map .tup) s1
theorem repL_range {K : PySem.W.Frag} {W : Wd} (a b : Int) : RepL K W (rangeD a (b - a).toNat) (rgV a b) := by
  unfold rangeD rgV
  generalize List.range (b - a).toNat = l
  induction l with
  | nil => exact .nil
  | cons x l ih => exact .cons (.int _) ih
theorem prg2 {m n : Env → M D} (hg : Gl X "range") (hm : X.mg "range" = none) (ha : PEd X EX a m) (hb : PEd X EX b n) (hs : starEach [a, b] X.env = (false, eval a X.env) :: starEach [b] X.env) (hs2 : starEach [b] X.env = (false, eval b X.env) :: starEach [] X.env) (hp : (backTo pos (starEach [b] X.env)).any (·.1) = false) :
    ∃ t, PRg X (.Call (.Name "range" p) [a, b] [] pos) t ∧ ∀ B W Γ σ s (Q : Int → Int → Hp → Prop), Sat X.K B W Γ σ → SRep X.K W s → Post X.K EX W (mCons m (mCons n mNil) Γ s) (fun W' s' ds => ∃ i j, ds = [.int i, .int j] ∧ Q i j W'.H) → t σ W.H Q := by
  obtain ⟨t, pt, q⟩ := ha
  obtain ⟨t2, pt2, q2⟩ := hb
  refine ⟨_, prg_2 hg hm pt pt2 hs hs2 hp, fun B W Γ σ s Q sat sr pp => q B W Γ σ s _ sat sr (Post.bind (f := fun d s1 => (mCons n mNil Γ s1).bind fun ds s2 => .ok (d :: ds) s2) pp fun d s1 W1 _ g1 sr1 p1 v r => ?_)⟩
  have p1 : Post X.K EX W1 (((n Γ s1).bind fun d s2 => (mNil Γ s2).bind fun ds s3 => .ok (d :: ds) s3).bind fun ds s2 => .ok (d :: ds) s2) (fun W' s' ds => ∃ i j, ds = [.int i, .int j] ∧ Q i j W'.H) := p1
  refine q2 B W1 Γ σ s1 _ (sat.grow g1) sr1 ?_
  revert p1
  cases n Γ s1 with
  | ok d2 s2 =>
    intro p1 W2 g2 sr2 u ru
    obtain ⟨i, j, e, w⟩ := p1 W2 g2 sr2
    cases e
    cases r
    cases ru
    exact ⟨i, j, rfl, rfl, w⟩
  | er e s2 => exact id
  | bad => exact id
def PRgD (X : Cx) (EX : XK) (e : Expr) (ms : Env → M (List D)) : Prop := ∃ t, PRg X e t ∧ ∀ B W Γ σ s (Q : Int → Int → Hp → Prop), Sat X.K B W Γ σ → SRep X.K W s → Post X.K EX W (ms Γ s) (fun W' _ ds => ∃ i j, (ds = [.int i, .int j] ∨ (ds = [.int j] ∧ i = 0)) ∧ Q i j W'.H) → t σ W.H Q
theorem dr1 {m : Env → M D} (hg : Gl X "range") (hm : X.mg "range" = none) (ha : PEd X EX a m) (hs : starEach [a] X.env = (false, eval a X.env) :: starEach [] X.env) : PRgD X EX (.Call (.Name "range" p) [a] [] pos) (mCons m mNil) := by
  obtain ⟨t, pt, q⟩ := ha
  refine ⟨_, prg_1 hg hm pt hs, fun B W Γ σ s Q sat sr pp => q B W Γ σ s _ sat sr (Post.bind (f := fun d s1 => (mNil Γ s1).bind fun ds s2 => .ok (d :: ds) s2) pp fun d s1 W1 _ g1 sr1 p1 v r => ?_)⟩
  obtain ⟨i, j, e, w⟩ := p1 W1 (Grow.refl _) sr1
  rcases e with e | ⟨e, rfl⟩
  · cases e
  · cases e
    cases r
    exact ⟨j, rfl, w⟩
theorem dr2 {m n : Env → M D} (hg : Gl X "range") (hm : X.mg "range" = none) (ha : PEd X EX a m) (hb : PEd X EX b n) (hs : starEach [a, b] X.env = (false, eval a X.env) :: starEach [b] X.env) (hs2 : starEach [b] X.env = (false, eval b X.env) :: starEach [] X.env) (hp : (backTo pos (starEach [b] X.env)).any (·.1) = false) :
    PRgD X EX (.Call (.Name "range" p) [a, b] [] pos) (mCons m (mCons n mNil)) := by
  obtain ⟨t, pt, q⟩ := prg2 (p := p) (pos := pos) hg hm ha hb hs hs2 hp
  refine ⟨t, pt, fun B W Γ σ s Q sat sr pp => q B W Γ σ s Q sat sr (pp.mono fun W1 s1 ds hok _ _ ⟨i, j, e, w⟩ => ?_)⟩
  rcases e with e | ⟨e, rfl⟩
  · exact ⟨i, j, e, w⟩
  · exfalso
    have hok : (m Γ s).bind (fun d s1 => (mCons n mNil Γ s1).bind fun ds s2 => .ok (d :: ds) s2) = .ok ds s1 := hok
    rw [e] at hok
    cases h1 : m Γ s with
    | ok d t1 =>
      rw [h1] at hok
      have hok : ((n Γ t1).bind fun d2 t2 => (mNil Γ t2).bind fun ds t3 => .ok (d2 :: ds) t3).bind (fun ds s2 => .ok (d :: ds) s2) = .ok [.int j] s1 := hok
      cases h2 : n Γ t1 with
      | ok d2 t2 =>
        rw [h2] at hok
        have hok : (R.ok [d, d2] t2 : R (List D)) = .ok [.int j] s1 := hok
        cases hok
      | er _ _ => rw [h2] at hok; cases hok
      | bad => rw [h2] at hok; cases hok
    | er _ _ => rw [h1] at hok; cases hok
    | bad => rw [h1] at hok; cases hok
theorem fLR_ok {ds xs : List D} (h : fLR ds = some xs) : ∃ i j, (ds = [.int i, .int j] ∨ (ds = [.int j] ∧ i = 0)) ∧ xs = rangeD i (j - i).toNat ∧ RgOk i j ∧ xs.length ≤ 200000 := by
  unfold fLR at h
  split at h
  · split at h
    · rename_i n hz
      cases h
      refine ⟨0, n, .inr ⟨rfl, rfl⟩, by simp, ⟨by decide, by decide, by omega, by omega, by omega⟩, by unfold rangeD; simp; omega⟩
    · cases h
  · split at h
    · rename_i lo hi hz
      cases h
      refine ⟨lo, hi, .inl rfl, rfl, ⟨by omega, by omega, by omega, by omega, by omega⟩, by unfold rangeD; simp; omega⟩
    · cases h
  · cases h
theorem rg_det {i j i' j' : Int} {ds : List D} (h : ds = [.int i, .int j] ∨ (ds = [.int j] ∧ i = 0)) (h' : ds = [.int i', .int j'] ∨ (ds = [.int j'] ∧ i' = 0)) : i = i' ∧ j = j' := by
  rcases h with rfl | ⟨rfl, rfl⟩ <;> rcases h' with h' | ⟨h', e'⟩ <;> cases h'
  · exact ⟨rfl, rfl⟩
  · exact ⟨e'.symm, rfl⟩
theorem do_lr {ms : Env → M (List D)} (hc : X.calm = true) (hg : Gl X "list") (hm : X.mg "list" = none) (h : PRgD X EX e ms) (na : starEach [e] X.env = (false, eval e X.env) :: starEach [] X.env) : POd X EX (.Call (.Name "list" p) [e] [] pos) (mLR ms) := by
  obtain ⟨t, pt, q⟩ := h
  refine ⟨_, pe_listRg hc hg hm pt na, fun B W Γ σ s Q sat sr pp => q B W Γ σ s _ sat sr (Post.bind pp fun ds s1 W1 _ g1 sr1 p1 => ?_)⟩
  obtain ⟨xs, e, w⟩ := p1.opt
  obtain ⟨i, j, h1, rfl, h2, h3⟩ := fLR_ok e
  refine ⟨i, j, h1, h2, fun l hp => ?_⟩
  have hF := Wd.fnone hp
  refine w (W1.put l (.lst (rgV i j)) hF) ((Grow.refl W1).put hF hp) (sr1.put hF (sr1.notA hp)) l _ ?_ upd_same hF (sr1.notA hp) (repL_range i j)
  cases h : W.H l with
  | none => rfl
  | some o => exact absurd hp (g1.t l (by rw [h]; simp))
theorem de_tr {ms : Env → M (List D)} (hc : X.calm = true) (hg : Gl X "tuple") (hm : X.mg "tuple" = none) (h : PRgD X EX e ms) (na : starEach [e] X.env = (false, eval e X.env) :: starEach [] X.env) : PEd X EX (.Call (.Name "tuple" p) [e] [] pos) (mTR ms) := by
  obtain ⟨t, pt, q⟩ := h
  refine ⟨_, pe_trF hc hg hm pt na, fun B W Γ σ s Q sat sr pp => q B W Γ σ s _ sat sr (Post.bind pp fun ds s1 W1 _ g1 sr1 p1 => ?_)⟩
  obtain ⟨d, e, w⟩ := p1.opt
  cases hx : fLR ds with
  | none => rw [hx] at e; cases e
  | some xs =>
    rw [hx] at e
    cases e
    obtain ⟨i, j, h1, rfl, h2, h3⟩ := fLR_ok hx
    exact ⟨i, j, h1, h2, fun l o to hp => w (W1.new l (.frz o (.tup (rgV i j)))) (Grow.new hp sr1) (sr1.new hp) _ (two_tup to hp sr1 (repL_range i j))⟩
/-- never reached -/
def mBad : MS := fun _ _ => .bad
theorem ds_never {st : Stmt} : PSd X EX st mBad := ⟨_, ps_never, fun _ _ _ _ _ _ _ _ _ p => p⟩
end
end PD
set_option maxRecDepth 100000
set_option maxHeartbeats 4000000
namespace PD
open PySem PySem.Spec PyProof.Rows L2

/-! ## one reading for all contexts -/
theorem PE.mono {X : Cx} {e : Expr} {t t' : TE} (h : PE X e t) (f : ∀ σ H Q, t' σ H Q → t σ H Q) : PE X e t' := ⟨fun pins s σ H Q I q => h.run pins s σ H Q I (f σ H Q q)⟩
theorem PT.mono {X : Cx} {e : Expr} {t t' : TT} (h : PT X e t) (f : ∀ σ H Q, t' σ H Q → t σ H Q) : PT X e t' := ⟨fun pins s σ H Q I q => h.run pins s σ H Q I (f σ H Q q)⟩
theorem PG.mono {X : Cx} {e : Expr} {t t' : TG} (h : PG X e t) (f : ∀ v σ H Q, t' v σ H Q → t v σ H Q) : PG X e t' := ⟨fun pins s σ H v u Q I r q => h.run pins s σ H v u Q I r (f v σ H Q q)⟩
def cE (K : PySem.W.Frag) (EX : XK) (m : Env → M D) : TE := fun σ H Q => ∃ B W Γ s, W.H = H ∧ Sat K B W Γ σ ∧ SRep K W s ∧ Post K EX W (m Γ s) (Want K Q)
def cT (K : PySem.W.Frag) (EX : XK) (m : Env → M Bool) : TT := fun σ H Q => ∃ B W Γ s, W.H = H ∧ Sat K B W Γ σ ∧ SRep K W s ∧ Post K EX W (m Γ s) (WantB Q)
def cG (K : PySem.W.Frag) (t : Tg) : TG := fun v σ H Q => ∃ B W Γ Γ' d, W.H = H ∧ Sat K B W Γ σ ∧ Rep K W d v ∧ bindT t d Γ = some Γ' ∧ ∀ σ', Sat K B W Γ' σ' → (∀ vs : List Nat, (∀ i ∈ t.slots, i ∈ vs) → L2.wipe σ' vs = L2.wipe σ vs) → Q σ' W.H
section
variable {X : Cx} {EX : XK} {a b c e tg : Expr} {pos : Pos} {st : Stmt} {rest : List Stmt}
theorem PEd.can {m : Env → M D} (h : PEd X EX e m) : PE X e (cE X.K EX m) := by
  obtain ⟨t, p, q⟩ := h
  exact PE.mono p fun σ H Q ⟨B, W, Γ, s, e, sat, sr, pp⟩ => e ▸ q B W Γ σ s Q sat sr pp
theorem PTd.can {m : Env → M Bool} (h : PTd X EX e m) : PT X e (cT X.K EX m) := by
  obtain ⟨t, p, q⟩ := h
  exact PT.mono p fun σ H Q ⟨B, W, Γ, s, e, sat, sr, pp⟩ => e ▸ q B W Γ σ s Q sat sr pp
theorem PGd.can {t : Tg} (h : PGd X e t) : PG X e (cG X.K t) := by
  obtain ⟨g, p, q⟩ := h
  exact PG.mono p fun v σ H Q ⟨B, W, Γ, Γ', d, e, sat, r, hb, w⟩ => e ▸ q B W Γ Γ' σ d v Q sat r hb w

/-! ### a comprehension, and its store into a name -/
/-- a list maker that may also be stored by the rule for comprehensions -/
def PLd (X : Cx) (EX : XK) (e : Expr) (m : Env → M (List D)) : Prop := ∃ t, PE X e t ∧
  (∀ (i : Nat) (y : Str) (py spos : Pos), X.N[i]? = some y → X.env.scope.names.lookup y = some .local → swapsWith e (some (.Name y py)) spos.line X.env = pure true → PS X (.Assign [.Name y py] e spos) (tAsg t (gName i))) ∧
  ∀ B W Γ σ s Q, Sat X.K B W Γ σ → SRep X.K W s → Post X.K EX W (m Γ s) (WantO X.K W Q) → t σ W.H Q
theorem PLd.o {m : Env → M (List D)} (h : PLd X EX e m) : POd X EX e m := by
  obtain ⟨t, p, _, q⟩ := h
  exact ⟨t, p, q⟩
/-- the ifs of a comprehension -/
def PIfs (X : Cx) (EX : XK) (ifs : List Expr) (mc : Env → M Bool) : Prop := (ifs = [] ∧ mc = mYes) ∨ ∃ c, ifs = [c] ∧ PTd X EX c mc
def cTs (K : PySem.W.Frag) (EX : XK) (ifs : List Expr) (mc : Env → M Bool) : TT := match ifs with
  | [] => tYes
  | _ => cT K EX mc
theorem PIfs.can {ifs : List Expr} {mc : Env → M Bool} (h : PIfs X EX ifs mc) : PTs X ifs (cTs X.K EX ifs mc) := by
  rcases h with ⟨rfl, rfl⟩ | ⟨c, rfl, h⟩
  · exact pts_nil
  · exact pts_one h.can
theorem PIfs.run {K : PySem.W.Frag} {ifs : List Expr} {mc : Env → M Bool} (h : ifs = [] ∧ mc = mYes ∨ ifs ≠ []) : ∀ B W Γ σ s Q, Sat K B W Γ σ → SRep K W s → Post K EX W (mc Γ s) (WantB Q) → cTs K EX ifs mc σ W.H Q := fun B W Γ σ s Q sat sr pp => by
  rcases h with ⟨rfl, rfl⟩ | h
  · exact pp W (Grow.refl W) sr
  · cases ifs with
    | nil => exact (h rfl).elim
    | cons _ _ => exact ⟨B, W, Γ, s, rfl, sat, sr, pp⟩
theorem dl_lc {elt tg iter : Expr} {ifs : List Expr} {scope : Scope} {own : List (Str × Nat)} {mi : Env → M (List D)} {t : Tg} {mc : Env → M Bool} {me : Env → M D} (hc : X.calm = true) (hN : X.N.Nodup) (hi : PId X EX tg iter mi) (ok : BlkOk X.N X.env.scope scope own)
    (hsl : ∀ i ∈ t.slots, i ∈ own.map (·.2)) (hifs : ifs = [] ∧ mc = mYes ∨ ifs ≠ [])
    (hg : ∀ (s : Shared) (H : Hp) (C : Addr) (cl : List (Str × Addr)) (fp : List Addr), PGd (X.blk s H scope (compEnvC scope cl C X.env) fp) tg t)
    (ht : ∀ (s : Shared) (H : Hp) (C : Addr) (cl : List (Str × Addr)) (fp : List Addr), PIfs (X.blk s H scope (compEnvC scope cl C X.env) fp) noEX ifs mc)
    (he : ∀ (s : Shared) (H : Hp) (C : Addr) (cl : List (Str × Addr)) (fp : List Addr), PEd (X.blk s H scope (compEnvC scope cl C X.env) fp) noEX elt me)
    (hs : ∀ x, foldedSetIterable iter X.env x = pure x) : PLd X EX (.ListComp elt [⟨tg, iter, ifs, 0⟩] scope pos) (mLcL mi t mc me (own.map (·.2))) := by
  obtain ⟨wi, pi, qi⟩ := hi
  have pg : ∀ (s : Shared) (H : Hp) (C : Addr) (cl : List (Str × Addr)) (fp : List Addr), PG (X.blk s H scope (compEnvC scope cl C X.env) fp) tg (cG X.K t) := fun s H C cl fp => (hg s H C cl fp).can
  have pt : ∀ (s : Shared) (H : Hp) (C : Addr) (cl : List (Str × Addr)) (fp : List Addr), PTs (X.blk s H scope (compEnvC scope cl C X.env) fp) ifs (cTs X.K noEX ifs mc) := fun s H C cl fp => (ht s H C cl fp).can
  have pe : ∀ (s : Shared) (H : Hp) (C : Addr) (cl : List (Str × Addr)) (fp : List Addr), PE (X.blk s H scope (compEnvC scope cl C X.env) fp) elt (cE X.K noEX me) := fun s H C cl fp => (he s H C cl fp).can
  refine ⟨_, pe_lc hc hN pi ok pg pt pe hs, fun i y py spos hy hyl hsw => ps_setLc hc hN hy hyl hsw pi ok pg pt pe hs, fun B W Γ σ s Q sat sr pp => ?_⟩
  refine qi B W Γ σ s _ sat sr (Post.bind pp fun ds s1 W1 _ g1 sr1 p1 J iv => fun D hD => ?_)
  split at p1
  · exact lc_turns (fun B W Γ Γ' σ d v Q sat r hb w => ⟨B, W, Γ, Γ', d, rfl, sat, r, hb, w⟩) hsl (PIfs.run hifs) (fun B W Γ σ s Q sat sr pp => ⟨B, W, Γ, s, rfl, sat, sr, pp⟩) iv (sat.grow g1) g1 sr1 hD (by assumption) p1
  · exact p1.elim
/-- .. stored -/
theorem ds_asgLc {i : Nat} {x : Str} {p : Pos} {m : Env → M (List D)} {m' : Env → M SV} (hi : X.N[i]? = some x) (hx : X.env.scope.names.lookup x = some .local) (h : PLd X EX e m)
    (hm : ∀ t : TE, (∀ B W Γ σ s Q, Sat X.K B W Γ σ → SRep X.K W s → Post X.K EX W (m Γ s) (WantO X.K W Q) → t σ W.H Q) → ∀ B W Γ σ s Q, Sat X.K B W Γ σ → SRep X.K W s → Post X.K EX W (m' Γ s) (WantV1 X.K W Q) → t σ W.H Q)
    (hs : swapsWith e (some (.Name x p)) pos.line X.env = pure true) : PSd X EX (.Assign [.Name x p] e pos) (mAsg i m') := by
  obtain ⟨t, pt, ps, q⟩ := h
  exact ⟨_, ps i x p pos hi hx hs, run_asg (hm t q)⟩
theorem lc_own {m : Env → M (List D)} {t : TE} (q : ∀ B W Γ σ s Q, Sat X.K B W Γ σ → SRep X.K W s → Post X.K EX W (m Γ s) (WantO X.K W Q) → t σ W.H Q) : ∀ B W Γ σ s Q, Sat X.K B W Γ σ → SRep X.K W s → Post X.K EX W (mSo m Γ s) (WantV1 X.K W Q) → t σ W.H Q := fun B W Γ σ s Q sat sr pp =>
  q B W Γ σ s _ sat sr (pp.bind fun d s1 W1 _ g1 sr1 p1 p vs h0 h1 h2 h3 r => p1 W1 (Grow.refl _) sr1 (.ref p) ⟨p, vs, rfl, h1, h2, h3, h0, r⟩)
theorem lc_dat {m : Env → M (List D)} {t : TE} (q : ∀ B W Γ σ s Q, Sat X.K B W Γ σ → SRep X.K W s → Post X.K EX W (m Γ s) (WantO X.K W Q) → t σ W.H Q) : ∀ B W Γ σ s Q, Sat X.K B W Γ σ → SRep X.K W s → Post X.K EX W (mSd (mFrz m) Γ s) (WantV1 X.K W Q) → t σ W.H Q := fun B W Γ σ s Q sat sr pp =>
  q B W Γ σ s Q sat sr (by
    have pp : Post X.K EX W (((m Γ s).bind fun ds s1 => .ok (.lst ds) s1).bind fun d s1 => .ok (.dat d) s1) (WantV1 X.K W Q) := pp
    revert pp
    cases m Γ s with
    | ok ds s1 =>
      intro pp W1 g1 sr1 p vs h0 h1 h2 h3 r
      exact pp (W1.frz p (.lst vs) h1) (g1.frz h1 h0 h2) (sr1.frz h1 h2 h3) _ ⟨_, rfl, .lst (show upd W1.F p _ p = _ from upd_same) (RepL.frz h1 h2 r)⟩
    | er e s1 => exact id
    | bad => exact id)

/-! ### looks at the text -/
def noStar : Expr → Bool
  | .Starred .. => false
  | _ => true
theorem star_cons {es : List Expr} {env : PySem.Env} (h : noStar e = true) : starEach (e :: es) env = (false, eval e env) :: starEach es env := by
  cases e <;> first | rfl | cases h
theorem star_plain {env : PySem.Env} : ∀ {es : List Expr}, es.all noStar = true → (backTo pos (starEach es env)).any (·.1) = false
  | [], _ => rfl
  | e :: es, h => by
    rw [List.all_cons, Bool.and_eq_true] at h
    rw [star_cons h.1]
    show (false || (backTo pos (starEach es env)).any (·.1)) = false
    rw [star_plain h.2]; rfl
theorem star_one {env : PySem.Env} (h : noStar e = true) : starEach [e] env = [(false, eval e env)] := star_cons h
theorem few_one {env : PySem.Env} (h : noStar e = true) : ((backTo pos (starEach [e] env)).all (fun x => !x.1) && (backToKw pos (keywordEach [] env)).all (fun x => x.1.isSome)
      && decide ([e].length + ([] : List Keyword).length + (if ([] : List Keyword).isEmpty then 0 else 1) < 30)) = true := by
  rw [star_one h]; rfl
def noCall0 : Expr → Bool
  | .Call (.Name _ _) [] [] _ => false
  | _ => true
theorem base_ok {env : PySem.Env} {x : Str} (h : noCall0 e = true) : attributeBase e x env (eval e env) = eval e env := by
  cases e with
  | Call f as ks p =>
    cases f with
    | Name id p2 =>
      cases as with
      | nil =>
        cases ks with
        | nil => cases h
        | cons _ _ => rfl
      | cons _ _ => rfl
    | _ => rfl
  | _ => rfl
def noComp : Expr → Bool
  | .ListComp .. => false
  | .SetComp .. => false
  | .DictComp .. => false
  | _ => true
theorem swaps_no {env : PySem.Env} {o : Option Expr} {n : Nat} (h : noComp e = true) : swapsWith e o n env = pure false := by
  cases e <;> first | rfl | cases h
def noSet : Expr → Bool
  | .Set .. => false
  | _ => true
theorem fold_ok {env : PySem.Env} (h : noSet e = true) : ∀ x, foldedSetIterable e env x = pure x := fun x => by
  cases e <;> first | rfl | cases h
def noSlice : Expr → Bool
  | .Slice .. => false
  | _ => true
theorem plain_ix (h : noSlice e = true) : PlainIx e := fun o i => by
  cases e <;> first | rfl | cases h
/-- a test of a plain value -/
def plainTest : Expr → Bool
  | .Name .. => true
  | .Call .. => true
  | .Subscript .. => true
  | .Constant .. => true
  | .Attribute .. => true
  | _ => false
end
end PD
set_option maxRecDepth 100000
set_option maxHeartbeats 4000000
namespace PD
open PySem PySem.Spec PyProof.Rows L2

/-! ## the translator's context -/
inductive Ent where
  | fn (x : Str) (n : Nat) (m : List D → Store → R D)
  | fo (x : Str) (n : Nat) (m : List D → Store → R (List D))
  | con (x : Str) (d : D)
  | tups (x : Str) (ys : List Str)
structure Sc where
  N : List Str
  sc : Scope
  fnb : Str → Bool
  T : List Ent
  B : List Str
  k : Nat
def EntOk (P : Program) (w : World) (K : PySem.W.Frag) (mg : Str → Option Value) (base : Heap) (k : Nat) : Ent → Prop
  | .fn x n m => ∃ f fd ps, mg x = some (.ref f) ∧ PySem.W.keepIn K (.ref f) = true ∧ FnOk P w K mg base (L2.CX P w) k f fd ps (Spec K n m) ∧ Binds K fd ps []
  | .fo x n m => ∃ f fd ps, mg x = some (.ref f) ∧ PySem.W.keepIn K (.ref f) = true ∧ FnOk P w K mg base (L2.CX P w) k f fd ps (SpecO K n m) ∧ Binds K fd ps []
  | .con x d => ∃ v u, mg x = some u ∧ RelV v u ∧ ∀ W, Rep K W d v
  | .tups x ys => ∃ g o, mg x = some (.ref g) ∧ K.lookup g = some o ∧ o.cls = .type "tuple" ∧ o.dict = none ∧ ∀ H, SqT K H g (ys.map V.str)
structure XOk (X : Cx) (EX : XK) (c : Sc) : Prop where
  calm : X.calm = true
  n : X.N = c.N
  nd : c.N.Nodup
  sc : X.env.scope = c.sc
  kf : c.sc.kind = .function
  room : Room c.k X.A
  pass : Passes (L2.CX X.prog X.w) X EX
  fn : ∀ x, c.fnb x = true → X.fn x = true
  ents : ∀ e ∈ c.T, EntOk X.prog X.w X.K X.mg X.base c.k e
  free : ∀ x ∈ c.B, X.mg x = none
def glb (c : Sc) (x : Str) : Bool := c.sc.names.lookup x == some .globalImplicit && !(x == ("__debug__" : Str)) && !(x == ("__name__" : Str))
def visb (c : Sc) (x : Str) : Bool := (match c.sc.names.lookup x with | some .local => true | some .cell => true | some .free => true | _ => false) && !(x == ("__debug__" : Str)) && !(x == ("__classdict__" : Str))
def storb (c : Sc) (x : Str) : Bool := (match c.sc.names.lookup x with | some .local => true | some .cell => c.fnb x | _ => false)
def ixOf (x : Str) : List Str → Option Nat
  | [] => none
  | y :: ys => if y == x then some 0 else (ixOf x ys).map (· + 1)
theorem ixOf_ok {x : Str} : ∀ {ys : List Str} {i : Nat}, ixOf x ys = some i → ys[i]? = some x
  | [], i, h => by cases h
  | y :: ys, i, h => by
    unfold ixOf at h
    split at h
    · rename_i e
      cases h
      rw [eq_of_beq e]; rfl
    · cases e : ixOf x ys with
      | none => rw [e] at h; cases h
      | some j =>
        rw [e] at h; cases h
        simpa using ixOf_ok e
section
variable {X : Cx} {EX : XK} {c : Sc} {x : Str}
theorem gl_ok (h : XOk X EX c) (g : glb c x = true) : Gl X x ∧ (x == ("__debug__" : Str)) = false ∧ x ≠ ("__name__" : Str) := by
  unfold glb at g
  simp only [Bool.and_eq_true, Bool.not_eq_true'] at g
  refine ⟨?_, g.1.2, fun e => ?_⟩
  · unfold Gl Env.kindOf
    rw [h.sc]
    exact eq_of_beq g.1.1
  · rw [e] at g
    have := g.2
    simp at this
theorem vis_ok (h : XOk X EX c) (g : visb c x = true) : Vis X.env.scope x ∧ (x == ("__debug__" : Str)) = false ∧ (x == ("__classdict__" : Str)) = false := by
  unfold visb at g
  simp only [Bool.and_eq_true, Bool.not_eq_true'] at g
  refine ⟨?_, g.1.2, g.2⟩
  unfold Vis
  rw [h.sc]
  have g := g.1.1
  split at g
  · exact .inl (by assumption)
  · exact .inr (.inl (by assumption))
  · exact .inr (.inr (by assumption))
  · cases g
theorem stor_ok (h : XOk X EX c) (g : storb c x = true) : L2.Loc X.env.scope x ∧ (X.fn x = true ∨ X.env.scope.names.lookup x = some .local) := by
  unfold storb at g
  unfold L2.Loc
  rw [h.sc]
  split at g
  · exact ⟨.inl (by assumption), .inr (by assumption)⟩
  · exact ⟨.inr (by assumption), .inl (h.fn x g)⟩
  · cases g
theorem XOk.hu (h : XOk X EX c) : X.A.units + 65 < cLine := by have := h.room.un; omega
theorem XOk.hu64 (h : XOk X EX c) : X.A.units + 64 < cLine := by have := h.room.un; omega
end
abbrev OE (c : Sc) (e : Expr) := Option {m : Env → M D // ∀ X EX, XOk X EX c → PEd X EX e m}
abbrev OV (c : Sc) (e : Expr) := Option {m : Env → M D // ∀ X EX, XOk X EX c → PVd X EX e m}
abbrev OT (c : Sc) (e : Expr) := Option {m : Env → M Bool // ∀ X EX, XOk X EX c → PTd X EX e m}
abbrev OW (c : Sc) (e : Expr) := Option {m : Env → M Bool // ∀ X EX, XOk X EX c → PWd X EX e m}
abbrev OA (c : Sc) (es : List Expr) := Option {m : Env → M (List D) // ∀ X EX, XOk X EX c → PAd X EX es m}
abbrev OAv (c : Sc) (es : List Expr) := Option {m : Env → M (List D) // ∀ X EX, XOk X EX c → PAv X EX es m}
abbrev OI (c : Sc) (tg e : Expr) := Option {m : Env → M (List D) // ∀ X EX, XOk X EX c → PId X EX tg e m}
abbrev OO (c : Sc) (e : Expr) := Option {m : Env → M (List D) // ∀ X EX, XOk X EX c → POd X EX e m}
abbrev OL (c : Sc) (e : Expr) := Option {m : Env → M (List D) // ∀ X EX, XOk X EX c → PLd X EX e m}
abbrev OG (c : Sc) (e : Expr) := Option {t : Tg // ∀ X EX, XOk X EX c → PGd X e t}
abbrev OGs (c : Sc) (es : List Expr) := Option {t : List Tg // ∀ X EX, XOk X EX c → PGsd X es t}
abbrev OP (c : Sc) (e : Option Expr) := Option {m : Env → M (Option Int) // ∀ X EX, XOk X EX c → PPd X EX e m}
abbrev OR (c : Sc) (e : Expr) := Option {m : Env → M SV // ∀ X EX, XOk X EX c → PRd X EX e m}
abbrev ORs (c : Sc) (es : List Expr) := Option {m : Env → M (List SV) // ∀ X EX, XOk X EX c → PRsd X EX es m}
structure Tr where
  E : ∀ (c : Sc) (e : Expr), OE c e
  V : ∀ (c : Sc) (e : Expr), OV c e
  T : ∀ (c : Sc) (e : Expr), OT c e
  W : ∀ (c : Sc) (e : Expr), OW c e
  A : ∀ (c : Sc) (es : List Expr), OA c es
  Av : ∀ (c : Sc) (es : List Expr), OAv c es
  I : ∀ (c : Sc) (tg e : Expr), OI c tg e
  O : ∀ (c : Sc) (e : Expr), OO c e
  L : ∀ (c : Sc) (e : Expr), OL c e
  G : ∀ (c : Sc) (e : Expr), OG c e
  Gs : ∀ (c : Sc) (es : List Expr), OGs c es
  P : ∀ (c : Sc) (e : Option Expr), OP c e

/-! ### operators -/
def opB : (op : Operator) → Option {f : D → D → Option D // ∀ X EX c, XOk X EX c → ∃ r, OpR X (binaryOp op) r ∧ OpD X.K r f}
  | .Add => some ⟨fAdd, fun X _ _ _ => ⟨_, op_addD, od_add X.K⟩⟩
  | .Sub => some ⟨fSub, fun X _ _ _ => ⟨_, op_sub, od_sub X.K⟩⟩
  | .Mult => some ⟨fMul, fun X _ _ _ => ⟨_, op_mulD, od_mul X.K⟩⟩
  | .FloorDiv => some ⟨fDiv, fun X _ _ _ => ⟨_, op_divD, od_div X.K⟩⟩
  | .Mod => some ⟨fMod, fun X _ _ _ => ⟨_, op_modD, od_mod X.K⟩⟩
  | .Pow => some ⟨fPow, fun X _ _ _ => ⟨_, op_pow, od_pow X.K⟩⟩
  | _ => none
def cmB : (op : CmpOp) → Option {f : D → D → Option D // ∀ X EX c, XOk X EX c → ∃ r, OpR X (compareOp op) r ∧ OpD X.K r f}
  | .Eq => some ⟨fEq, fun X _ _ h => ⟨_, op_eqD h.hu64, od_eq X.K⟩⟩
  | .NotEq => some ⟨fNe, fun X _ _ h => ⟨_, op_neD h.hu64, od_ne X.K⟩⟩
  | .Lt => some ⟨fLt, fun X _ _ _ => ⟨_, op_lt, od_lt X.K⟩⟩
  | .LtE => some ⟨fLe, fun X _ _ _ => ⟨_, op_le, od_le X.K⟩⟩
  | .Gt => some ⟨fGt, fun X _ _ _ => ⟨_, op_gt, od_gt X.K⟩⟩
  | .GtE => some ⟨fGe, fun X _ _ _ => ⟨_, op_ge, od_ge X.K⟩⟩
  | .Is => some ⟨fIs, fun X _ _ _ => ⟨_, op_isD, od_is X.K⟩⟩
  | .IsNot => some ⟨fNotIs, fun X _ _ _ => ⟨_, op_notIsD, od_notIs X.K⟩⟩
  | .In => some ⟨fIn, fun X _ _ h => ⟨_, (op_inD h.hu).or (op_inT h.hu), od_in X.K⟩⟩
  | .NotIn => some ⟨fNotIn, fun X _ _ h => ⟨_, (op_notInD h.hu).or (op_notInT h.hu), od_notIn X.K⟩⟩

/-! ### builtins -/
abbrev BltP (x : Str) (f : List D → Option D) : Prop := ∀ X EX c e es ms p pos, XOk X EX c → Gl X x → X.mg x = none → PAv X EX (e :: es) ms → starEach (e :: es) X.env = (false, eval e X.env) :: starEach es X.env → (backTo pos (starEach es X.env)).any (·.1) = false → PEd X EX (.Call (.Name x p) (e :: es) [] pos) (mBlt f ms)
structure Blt where
  x : Str
  f : List D → Option D
  ok : BltP x f
def bLen : Blt := ⟨"len", fLen, fun X EX c e es ms p pos h g m a s q => de_blt call_len (oc_len X.K) g m boot_len a (by decide) (by decide) s q⟩
def bAbs : Blt := ⟨"abs", fAbs, fun X EX c e es ms p pos h g m a s q => de_blt call_abs (oc_abs X.K) g m (by rfl) a (by decide) (by decide) s q⟩
def bMax : Blt := ⟨"max", fMax, fun X EX c e es ms p pos h g m a s q => de_blt (call_max2 h.calm) (oc_max X.K) g m (by rfl) a (by decide) (by decide) s q⟩
def bMin : Blt := ⟨"min", fMin, fun X EX c e es ms p pos h g m a s q => de_blt (call_min2 h.calm) (oc_min X.K) g m (by rfl) a (by decide) (by decide) s q⟩
def bInt : Blt := ⟨"int", fInt, fun X EX c e es ms p pos h g m a s q => de_bty call_int1 (oc_int X.K) g m (by rfl) a (by decide) (by decide) s q⟩
def bBool : Blt := ⟨"bool", fBool, fun X EX c e es ms p pos h g m a s q => de_bty call_bool1 (oc_bool X.K) g m (by rfl) a (by decide) (by decide) s q⟩
def bStr : Blt := ⟨"str", fStr, fun X EX c e es ms p pos h g m a s q => de_bty call_str_int (oc_str X.K) g m (by rfl) a (by decide) (by decide) s q⟩
def bSum : Blt := ⟨"sum", fSum, fun X EX c e es ms p pos h g m a s q => de_blt (CallR.or (cr_sum h.calm) (cr_sumT h.calm)) (oc_sum X.K) g m (by rfl) a (by decide) (by decide) s q⟩
def bAll : Blt := ⟨"all", fAll, fun X EX c e es ms p pos h g m a s q => de_blt (cr_all h.calm) (oc_all X.K) g m (by rfl) a (by decide) (by decide) s q⟩
def bAny : Blt := ⟨"any", fAny, fun X EX c e es ms p pos h g m a s q => de_blt (cr_any h.calm) (oc_any X.K) g m (by rfl) a (by decide) (by decide) s q⟩
def bTuple : Blt := ⟨"tuple", fTuple, fun X EX c e es ms p pos h g m a s q => de_bty call_tupF (oc_tuple X.K) g m (by rfl) a (by decide) (by decide) s q⟩
def bList : Blt := ⟨"list", fList, fun X EX c e es ms p pos h g m a s q => de_bty call_list_of (oc_list X.K) g m (by rfl) a (by decide) (by decide) s q⟩
def bDict : Blt := ⟨"dict", fDict, fun X EX c e es ms p pos h g m a s q => de_bty (call_dictP h.calm) (oc_dict X.K) g m (by rfl) a (by decide) (by decide) s q⟩
def blts : List Blt := [bLen, bInt, bTuple, bStr, bSum, bAbs, bMax, bMin, bAll, bAny, bList, bBool, bDict]
def findBlt (x : Str) : List Blt → Option {b : Blt // b.x = x}
  | [] => none
  | b :: bs => if h : b.x = x then some ⟨b, h⟩ else findBlt x bs
end PD
set_option maxRecDepth 100000
set_option maxHeartbeats 4000000
namespace PD
open PySem PySem.Spec PyProof.Rows L2

/-! ## the translator: expressions -/
def stepV (t : Tr) (c : Sc) : (e : Expr) → OV c e
  | .Name x p => if hv : visb c x = true then (match h : ixOf x c.N with
      | some i => some ⟨mPeek i, fun X EX k => let q := vis_ok k hv; dv_peek (by rw [k.n]; exact ixOf_ok h) q.1 q.2.1 q.2.2⟩
      | none => none) else (t.E c (.Name x p)).map fun m => ⟨m.1, fun X EX k => (m.2 X EX k).v⟩
  | .IfExp q a b p => (t.T c q).bind fun mq => (t.V c a).bind fun ma => (t.V c b).bind fun mb => some ⟨mIte mq.1 ma.1 mb.1, fun X EX k => dv_ite (mq.2 X EX k) (ma.2 X EX k) (mb.2 X EX k)⟩
  | e => (t.E c e).map fun m => ⟨m.1, fun X EX k => (m.2 X EX k).v⟩
def stepA (t : Tr) (c : Sc) : (es : List Expr) → OA c es
  | [] => some ⟨mNil, fun X EX k => da_nil⟩
  | e :: es => if hs : noStar e = true then (t.E c e).bind fun m => (t.A c es).bind fun ms => some ⟨mCons m.1 ms.1, fun X EX k => da_cons (m.2 X EX k) (ms.2 X EX k) (star_cons hs)⟩ else none
def stepAv (t : Tr) (c : Sc) : (es : List Expr) → OAv c es
  | [] => some ⟨mNil, fun X EX k => dav_nil⟩
  | e :: es => if hs : noStar e = true then (t.V c e).bind fun m => (t.Av c es).bind fun ms => some ⟨mCons m.1 ms.1, fun X EX k => dav_cons (m.2 X EX k) (ms.2 X EX k) (star_cons hs)⟩ else none
def stepP (t : Tr) (c : Sc) : (e : Option Expr) → OP c e
  | none => some ⟨mNoPart, fun X EX k => dp_none⟩
  | some e => (t.E c e).map fun m => ⟨mPart m.1, fun X EX k => dp_some (m.2 X EX k)⟩
def stepG (t : Tr) (c : Sc) : (e : Expr) → OG c e
  | .Name x p => if hs : storb c x = true then (match h : ixOf x c.N with
      | some i => some ⟨.nm i, fun X EX k => let q := stor_ok k hs; dg_nm (by rw [k.n]; exact k.nd) (by rw [k.n]; exact ixOf_ok h) q.1 q.2⟩
      | none => none) else none
  | .Tuple es kk p => (t.Gs c es).map fun m => ⟨.tp m.1, fun X EX k => dg_tup k.calm (m.2 X EX k)⟩
  | _ => none
theorem asg_cons {e : Expr} {es : List Expr} {env : PySem.Env} (h : noStar e = true) : assignEach (e :: es) env = (false, assign e env) :: assignEach es env := by
  cases e <;> first | rfl | cases h
def stepGs (t : Tr) (c : Sc) : (es : List Expr) → OGs c es
  | [] => some ⟨[], fun X EX k => dgs_nil⟩
  | e :: es => if hs : noStar e = true then (t.G c e).bind fun m => (t.Gs c es).bind fun ms => some ⟨m.1 :: ms.1, fun X EX k => dgs_cons (m.2 X EX k) (ms.2 X EX k) (asg_cons hs)⟩ else none
def stepW (t : Tr) (c : Sc) : (e : Expr) → OW c e
  | .BoolOp .And [a] p => (t.T c a).map fun m => ⟨m.1, fun X EX k => dw_and1 (m.2 X EX k)⟩
  | .BoolOp .Or [a] p => (t.T c a).map fun m => ⟨m.1, fun X EX k => dw_or1 (m.2 X EX k)⟩
  | .BoolOp .And (a :: b :: r) p => (t.T c a).bind fun m => (t.W c (.BoolOp .And (b :: r) p)).bind fun n => some ⟨mAndT m.1 n.1, fun X EX k => dw_and (m.2 X EX k) (n.2 X EX k)⟩
  | .BoolOp .Or (a :: b :: r) p => (t.T c a).bind fun m => (t.W c (.BoolOp .Or (b :: r) p)).bind fun n => some ⟨mOrT m.1 n.1, fun X EX k => dw_or (m.2 X EX k) (n.2 X EX k)⟩
  | _ => none
def valT (t : Tr) (c : Sc) (e : Expr) (h : ∀ env whole, isTrue e env whole = (do let v ← whole; standAt e.pos; holding [v] (truthy v))) : OT c e := (t.E c e).map fun m => ⟨mTest m.1, fun X EX k => dt_val (m.2 X EX k) (h _)⟩
def stepT (t : Tr) (c : Sc) : (e : Expr) → OT c e
  | .UnaryOp .Not a p => (t.T c a).map fun m => ⟨mNotT m.1, fun X EX k => dt_not (m.2 X EX k)⟩
  | .BoolOp op es p => (t.W c (.BoolOp op es p)).map fun m => ⟨m.1, fun X EX k => (m.2 X EX k).t⟩
  | .Compare a [op] [b] p => if hm : behindInMarks op b = false then (cmB op).bind fun f => (t.V c a).bind fun ma => (t.V c b).bind fun mb => some ⟨mTest (mOp f.1 ma.1 mb.1), fun X EX k => by
      obtain ⟨r, h1, h2⟩ := f.2 X EX c k
      exact dt_cmp h1 h2 hm (ma.2 X EX k) (mb.2 X EX k)⟩ else none
  | .Compare a [op, op'] [b, b'] p => if hm : lastMarks [op, op'] [b, b'] = false then (cmB op).bind fun f => (cmB op').bind fun f' => (t.V c a).bind fun ma => (t.V c b).bind fun mb => (t.V c b').bind fun mc => some ⟨mTest (mChain f.1 f'.1 ma.1 mb.1 mc.1), fun X EX k => by
      obtain ⟨r, h1, h2⟩ := f.2 X EX c k
      obtain ⟨r', h1', h2'⟩ := f'.2 X EX c k
      exact dt_chain h1 h1' h2 h2' (ma.2 X EX k) (mb.2 X EX k) (mc.2 X EX k) hm⟩ else none
  | .Name x p => valT t c _ fun _ _ => rfl
  | .Call f as ks p => valT t c _ fun _ _ => rfl
  | .Subscript a b p => valT t c _ fun _ _ => rfl
  | .Attribute a b p => valT t c _ fun _ _ => rfl
  | .Constant a b p => valT t c _ fun _ _ => rfl
  | _ => none

/-! ### calls -/
def getFn (x : Str) : (T : List Ent) → Option {p : Nat × (List D → Store → R D) // Ent.fn x p.1 p.2 ∈ T}
  | [] => none
  | .fn y n m :: T => if h : y = x then some ⟨(n, m), by subst h; exact List.mem_cons_self⟩ else (getFn x T).map fun q => ⟨q.1, List.mem_cons_of_mem _ q.2⟩
  | _ :: T => (getFn x T).map fun q => ⟨q.1, List.mem_cons_of_mem _ q.2⟩
def getFo (x : Str) : (T : List Ent) → Option {p : Nat × (List D → Store → R (List D)) // Ent.fo x p.1 p.2 ∈ T}
  | [] => none
  | .fo y n m :: T => if h : y = x then some ⟨(n, m), by subst h; exact List.mem_cons_self⟩ else (getFo x T).map fun q => ⟨q.1, List.mem_cons_of_mem _ q.2⟩
  | _ :: T => (getFo x T).map fun q => ⟨q.1, List.mem_cons_of_mem _ q.2⟩
def getCon (x : Str) : (T : List Ent) → Option {d : D // Ent.con x d ∈ T}
  | [] => none
  | .con y d :: T => if h : y = x then some ⟨d, by subst h; exact List.mem_cons_self⟩ else (getCon x T).map fun q => ⟨q.1, List.mem_cons_of_mem _ q.2⟩
  | _ :: T => (getCon x T).map fun q => ⟨q.1, List.mem_cons_of_mem _ q.2⟩
def getTups (x : Str) : (T : List Ent) → Option {d : List Str // Ent.tups x d ∈ T}
  | [] => none
  | .tups y d :: T => if h : y = x then some ⟨d, by subst h; exact List.mem_cons_self⟩ else (getTups x T).map fun q => ⟨q.1, List.mem_cons_of_mem _ q.2⟩
  | _ :: T => (getTups x T).map fun q => ⟨q.1, List.mem_cons_of_mem _ q.2⟩
def memStr (x : Str) : (B : List Str) → Option (PLift (x ∈ B))
  | [] => none
  | y :: B => if h : y = x then some ⟨by subst h; exact List.mem_cons_self⟩ else (memStr x B).map fun q => ⟨List.mem_cons_of_mem _ q.1⟩
def callFn (t : Tr) (c : Sc) (x : Str) (p pos : Pos) (hg : glb c x = true) : (es : List Expr) → OE c (.Call (.Name x p) es [] pos)
  | [] => (getFn x c.T).bind fun f => some ⟨mCall f.1.1 f.1.2 mNil, fun X EX k => by
      obtain ⟨a, fd, ps, h1, h2, h3, h4⟩ := k.ents _ f.2
      have g := gl_ok k hg
      exact de_call0 h3 k.room g.1 h1 h2 h4 k.pass g.2.1⟩
  | e :: es => if hs : noStar e = true ∧ es.all noStar = true then (getFn x c.T).bind fun f => (t.A c (e :: es)).bind fun ms => some ⟨mCall f.1.1 f.1.2 ms.1, fun X EX k => by
      obtain ⟨a, fd, ps, h1, h2, h3, h4⟩ := k.ents _ f.2
      have g := gl_ok k hg
      exact de_call h3 k.room g.1 h1 h2 h4 k.pass (ms.2 X EX k) g.2.1 (star_cons hs.1) (star_plain hs.2)⟩ else none
def callFo (t : Tr) (c : Sc) (x : Str) (p pos : Pos) (hg : glb c x = true) : (es : List Expr) → OO c (.Call (.Name x p) es [] pos)
  | [] => none
  | e :: es => if hs : noStar e = true ∧ es.all noStar = true then (getFo x c.T).bind fun f => (t.A c (e :: es)).bind fun ms => some ⟨mCallO f.1.1 f.1.2 ms.1, fun X EX k => by
      obtain ⟨a, fd, ps, h1, h2, h3, h4⟩ := k.ents _ f.2
      have g := gl_ok k hg
      exact do_call h3 k.room g.1 h1 h2 h4 k.pass (ms.2 X EX k) g.2.1 (star_cons hs.1) (star_plain hs.2)⟩ else none
def callBlt (t : Tr) (c : Sc) (x : Str) (p pos : Pos) (hg : glb c x = true) : (es : List Expr) → OE c (.Call (.Name x p) es [] pos)
  | [] => none
  | e :: es => if hs : noStar e = true ∧ es.all noStar = true then (memStr x c.B).bind fun hB => (findBlt x blts).bind fun b => (t.Av c (e :: es)).bind fun ms => some ⟨mBlt b.1.f ms.1, fun X EX k => by
      have g := gl_ok k hg
      have hb := b.1.ok
      rw [b.2] at hb
      exact hb X EX c e es ms.1 p pos k g.1 (k.free x hB.1) (ms.2 X EX k) (star_cons hs.1) (star_plain hs.2)⟩ else none
def isiTy : (x : Str) → Option {T : String // bootBuiltins x = some (.type T) ∧ T ∈ isiT ∧ x ≠ ("__name__" : Str) ∧ (x == ("__debug__" : Str)) = false} := fun x =>
  if h : x = "int" then some ⟨"int", by subst h; exact ⟨by rfl, by decide, by decide, by decide⟩⟩
  else if h : x = "tuple" then some ⟨"tuple", by subst h; exact ⟨by rfl, by decide, by decide, by decide⟩⟩
  else if h : x = "bool" then some ⟨"bool", by subst h; exact ⟨by rfl, by decide, by decide, by decide⟩⟩
  else if h : x = "str" then some ⟨"str", by subst h; exact ⟨by rfl, by decide, by decide, by decide⟩⟩
  else if h : x = "list" then some ⟨"list", by subst h; exact ⟨by rfl, by decide, by decide, by decide⟩⟩
  else none
def callIsi (t : Tr) (c : Sc) (x : Str) (p pos : Pos) (hx : x = "isinstance") (hg : glb c x = true) : (es : List Expr) → OE c (.Call (.Name x p) es [] pos)
  | [a, .Name T p2] => if hs : noStar a = true ∧ glb c T = true then (memStr x c.B).bind fun hB => (memStr T c.B).bind fun hT => (isiTy T).bind fun ty => (t.V c a).bind fun m => some ⟨mOp1 (fIsi ty.1) m.1, fun X EX k => by
      subst hx
      exact de_isi (gl_ok k hg).1 (k.free _ hB.1) (gl_ok k hs.2).1 (k.free _ hT.1) ty.2.1 ty.2.2.1 ty.2.2.2.1 ty.2.2.2.2 (m.2 X EX k) (star_cons hs.1) (star_one rfl) (star_plain rfl)⟩ else none
  | _ => none
def callName (t : Tr) (c : Sc) (x : Str) (p pos : Pos) (es : List Expr) : OE c (.Call (.Name x p) es [] pos) :=
  if hg : glb c x = true then (callFn t c x p pos hg es).or ((if hx : x = "isinstance" then callIsi t c x p pos hx hg es else callBlt t c x p pos hg es).or ((callFo t c x p pos hg es).map fun m => ⟨mFrz m.1, fun X EX k => (m.2 X EX k).d⟩)) else none
def callAttr (t : Tr) (c : Sc) (o : Expr) (x : Str) (ap pos : Pos) : (es : List Expr) → OE c (.Call (.Attribute o x ap) es [] pos)
  | [b] => if hs : noStar b = true ∧ noCall0 o = true ∧ (ap.endLine == pos.line) = true then
      (if hx : x = "split" then (t.V c o).bind fun ma => (t.V c b).bind fun mb => some ⟨mStr2 fSplit ma.1 mb.1, fun X EX k => by subst hx; exact de_split (ma.2 X EX k) (mb.2 X EX k) (star_one hs.1) (base_ok hs.2.1) hs.2.2⟩
      else if hx : x = "join" then (t.V c o).bind fun ma => (t.V c b).bind fun mb => some ⟨mStr2 fJoin ma.1 mb.1, fun X EX k => by subst hx; exact de_join (ma.2 X EX k) (mb.2 X EX k) (star_one hs.1) (base_ok hs.2.1) hs.2.2⟩
      else if hx : x = "index" then (match o, hs.2.1 with
        | .Name g p2, hb0 => if hg : glb c g = true then (getTups g c.T).bind fun ys => (t.V c b).bind fun mb => some ⟨mOp1 (fGIdx ys.1) mb.1, fun X EX k => by
            subst hx
            obtain ⟨a, o, h1, h2, h3, h4, h5⟩ := k.ents _ ys.2
            have gg := gl_ok k hg
            exact de_gindex gg.1 h1 gg.2.1 h2 h3 h4 h5 (mb.2 X EX k) (star_one hs.1) (base_ok hb0) hs.2.2 (few_one hs.1)⟩
          else (t.V c (.Name g p2)).bind fun ma => (t.V c b).bind fun mb => some ⟨mXIdx ma.1 mb.1, fun X EX k => by subst hx; exact de_xindex k.hu (ma.2 X EX k) (mb.2 X EX k) (star_one hs.1) (base_ok hb0) hs.2.2 (few_one hs.1)⟩
        | o, hb0 => (t.V c o).bind fun ma => (t.V c b).bind fun mb => some ⟨mXIdx ma.1 mb.1, fun X EX k => by subst hx; exact de_xindex k.hu (ma.2 X EX k) (mb.2 X EX k) (star_one hs.1) (base_ok hb0) hs.2.2 (few_one hs.1)⟩)
      else if hx : x = "count" then (t.V c o).bind fun ma => (t.V c b).bind fun mb => some ⟨mLCnt ma.1 mb.1, fun X EX k => by subst hx; exact de_lcount k.hu (ma.2 X EX k) (mb.2 X EX k) (star_one hs.1) (base_ok hs.2.1) hs.2.2 (few_one hs.1)⟩
      else none) else none
  | [b, d] => if hs : noStar b = true ∧ noStar d = true ∧ noCall0 o = true ∧ (ap.endLine == pos.line) = true then
      (if hx : x = "get" then (t.E c o).bind fun mo => (t.E c b).bind fun mb => (t.E c d).bind fun md => some ⟨mDGet mo.1 mb.1 md.1, fun X EX k => by
          subst hx
          exact de_dget (by have := k.hu64; omega) (mo.2 X EX k) (mb.2 X EX k) (md.2 X EX k) ⟨base_ok hs.2.2.1, by rw [star_cons hs.1, star_one hs.2.1]; rfl, hs.2.2.2, by rw [star_cons hs.1, star_one hs.2.1]; rfl⟩⟩
      else none) else none
  | _ => none
def trCall (t : Tr) (c : Sc) (pos : Pos) : (f : Expr) → (es : List Expr) → (ks : List Keyword) → OE c (.Call f es ks pos)
  | .Name x p, es, [] => callName t c x p pos es
  | .Attribute o x ap, es, [] => callAttr t c o x ap pos es
  | _, _, _ => none
end PD
set_option maxRecDepth 100000
set_option maxHeartbeats 4000000
namespace PD
open PySem PySem.Spec PyProof.Rows L2

/-! ## the translator: the rest of expressions -/
def blkSc (c : Sc) (scope : Scope) : Sc := { c with sc := relS scope c.sc, fnb := fun x => scope.names.lookup x == some .cell }
theorem blk_ok {X : Cx} {EX : XK} {c : Sc} (k : XOk X EX c) {scope : Scope} (hk : scope.kind = .function) (s : Shared) (H : Hp) (C : Addr) (cl : List (Str × Addr)) (fp : List Addr) : XOk (X.blk s H scope (compEnvC scope cl C X.env) fp) noEX (blkSc c scope) where
  calm := k.calm
  n := k.n
  nd := k.nd
  sc := by
    show relS scope X.env.scope = relS scope c.sc
    rw [k.sc]
  kf := hk
  room := k.room
  pass := passL
  fn := fun x h => h
  ents := k.ents
  free := k.free
def ownOf (N : List Str) (scope : Scope) : List (Str × Nat) := scope.names.filterMap fun y => match y.2 with
  | .local => (ixOf y.1 N).map fun i => (y.1, i)
  | .cell => (ixOf y.1 N).map fun i => (y.1, i)
  | _ => none
def isFun (sc : Scope) : Bool := match sc.kind with
  | .function => true
  | _ => false
theorem isFun_ok {sc : Scope} (h : isFun sc = true) : sc.kind = .function := by
  unfold isFun at h
  split at h
  · assumption
  · cases h
def lcIfs (t : Tr) (c : Sc) : (ifs : List Expr) → Option {m : Env → M Bool // (ifs = [] ∧ m = mYes ∨ ifs ≠ []) ∧ ∀ X EX, XOk X EX c → PIfs X EX ifs m}
  | [] => some ⟨mYes, .inl ⟨rfl, rfl⟩, fun X EX k => .inl ⟨rfl, rfl⟩⟩
  | [e] => (t.T c e).map fun m => ⟨m.1, .inr (by simp), fun X EX k => .inr ⟨e, rfl, m.2 X EX k⟩⟩
  | _ => none
def stepL (t : Tr) (c : Sc) : (e : Expr) → OL c e
  | .ListComp elt [⟨tg, iter, ifs, 0⟩] scope pos => let own := ownOf c.N scope
    if hb : blkC c.N c.sc scope own = true ∧ isFun scope = true ∧ noSet iter = true then
      (t.I c tg iter).bind fun mi => (t.G (blkSc c scope) tg).bind fun g => (lcIfs t (blkSc c scope) ifs).bind fun mc => (t.E (blkSc c scope) elt).bind fun me =>
        if hs : g.1.slots.all (fun i => decide (i ∈ own.map (·.2))) = true then some ⟨mLcL mi.1 g.1 mc.1 me.1 (own.map (·.2)), fun X EX k => by
          have hk := isFun_ok hb.2.1
          refine dl_lc k.calm (by rw [k.n]; exact k.nd) (mi.2 X EX k) (by rw [k.n, k.sc]; exact blkOk_by hb.1) (fun i hi => ?_) mc.2.1 (fun s H C cl fp => g.2 _ _ (blk_ok k hk s H C cl fp)) (fun s H C cl fp => mc.2.2 _ _ (blk_ok k hk s H C cl fp)) (fun s H C cl fp => me.2 _ _ (blk_ok k hk s H C cl fp)) (fold_ok hb.2.2)
          exact of_decide_eq_true (List.all_eq_true.mp hs i hi)⟩ else none
    else none
  | _ => none
abbrev OGr (c : Sc) (e : Expr) := Option {m : Env → M (List D) // ∀ X EX, XOk X EX c → PRgD X EX e m}
def rgOf (t : Tr) (c : Sc) : (e : Expr) → OGr c e
  | .Call (.Name x p) [a] [] pos => if hs : x = "range" ∧ glb c x = true ∧ noStar a = true then (memStr x c.B).bind fun hB => (t.E c a).bind fun m => some ⟨mCons m.1 mNil, fun X EX k => by
      have g := (gl_ok k hs.2.1).1
      have f := k.free x hB.1
      rw [hs.1] at g f ⊢
      exact dr1 g f (m.2 X EX k) (star_cons hs.2.2)⟩ else none
  | .Call (.Name x p) [a, b] [] pos => if hs : x = "range" ∧ glb c x = true ∧ noStar a = true ∧ noStar b = true then (memStr x c.B).bind fun hB => (t.E c a).bind fun m => (t.E c b).bind fun n => some ⟨mCons m.1 (mCons n.1 mNil), fun X EX k => by
      have g := (gl_ok k hs.2.1).1
      have f := k.free x hB.1
      rw [hs.1] at g f ⊢
      exact dr2 g f (m.2 X EX k) (n.2 X EX k) (star_cons hs.2.2.1) (star_cons hs.2.2.2) (star_plain (by simp [hs.2.2.2]))⟩ else none
  | _ => none
theorem rg_star {t : Tr} {c : Sc} {e : Expr} {q} (h : rgOf t c e = some q) : noStar e = true := by
  cases e <;> first | rfl | cases h
def listRg (t : Tr) (c : Sc) (x : Str) (p pos : Pos) (e : Expr) : OO c (.Call (.Name x p) [e] [] pos) :=
  if hs : x = "list" ∧ glb c x = true then (memStr x c.B).bind fun hB => (match hr : rgOf t c e with
    | some m => some ⟨mLR m.1, fun X EX k => by
      have g := (gl_ok k hs.2).1
      have f := k.free x hB.1
      rw [hs.1] at g f ⊢
      exact do_lr k.calm g f (m.2 X EX k) (star_cons (rg_star hr))⟩
    | none => none) else none
def tupRg (t : Tr) (c : Sc) (x : Str) (p pos : Pos) (e : Expr) : OE c (.Call (.Name x p) [e] [] pos) :=
  if hs : x = "tuple" ∧ glb c x = true then (memStr x c.B).bind fun hB => (match hr : rgOf t c e with
    | some m => some ⟨mTR m.1, fun X EX k => by
      have g := (gl_ok k hs.2).1
      have f := k.free x hB.1
      rw [hs.1] at g f ⊢
      exact de_tr k.calm g f (m.2 X EX k) (star_cons (rg_star hr))⟩
    | none => none) else none
def stepO (t : Tr) (c : Sc) : (e : Expr) → OO c e
  | .List es pos => (t.A c es).map fun ms => ⟨mLstO ms.1, fun X EX k => do_lst (ms.2 X EX k)⟩
  | .BinOp a .Add b pos => (t.V c a).bind fun ma => (t.V c b).bind fun mb => some ⟨mCatO ma.1 mb.1, fun X EX k => do_cat (ma.2 X EX k) (mb.2 X EX k)⟩
  | .Call (.Name x p) [e] [] pos => (listRg t c x p pos e).or (if hg : glb c x = true then callFo t c x p pos hg [e] else none)
  | .Call (.Name x p) es [] pos => if hg : glb c x = true then callFo t c x p pos hg es else none
  | e => (t.L c e).map fun m => ⟨m.1, fun X EX k => (m.2 X EX k).o⟩
/-- walked: range, zip, enumerate, else a list or a tuple -/
def iterCall (t : Tr) (c : Sc) (p pos : Pos) : (tg : Expr) → (x : Str) → (es : List Expr) → OI c tg (.Call (.Name x p) es [] pos)
  | tg, x, [a] => if hs : noStar a = true ∧ glb c x = true then
      (if hx : x = "range" then (memStr x c.B).bind fun hB => (t.A c [a]).bind fun ms => some ⟨mRng fRng1 ms.1, fun X EX k => by subst hx; exact di_rng1 (gl_ok k hs.2).1 (k.free _ hB.1) (ms.2 X EX k) (star_one hs.1)⟩
      else if hx : x = "enumerate" then (match tg with
        | .Tuple ts kk tp => (memStr x c.B).bind fun hB => (t.A c [a]).bind fun ms => some ⟨mRng fEnum ms.1, fun X EX k => by subst hx; exact di_enum (gl_ok k hs.2).1 (k.free _ hB.1) (ms.2 X EX k) (star_one hs.1)⟩
        | _ => none)
      else none) else none
  | tg, x, [a, b] => if hs : noStar a = true ∧ noStar b = true ∧ glb c x = true then
      (if hx : x = "range" then (memStr x c.B).bind fun hB => (t.A c [a, b]).bind fun ms => some ⟨mRng fRng2 ms.1, fun X EX k => by subst hx; exact di_rng2 (gl_ok k hs.2.2).1 (k.free _ hB.1) (ms.2 X EX k) (by rw [star_cons hs.1, star_one hs.2.1]) (star_one hs.2.1)⟩
      else if hx : x = "zip" then (match tg with
        | .Tuple ts kk tp => (memStr x c.B).bind fun hB => (t.A c [a, b]).bind fun ms => some ⟨mRng fZip ms.1, fun X EX k => by subst hx; exact di_zip (gl_ok k hs.2.2).1 (k.free _ hB.1) (ms.2 X EX k) (star_cons hs.1) (star_plain (by simp [hs.2.1]))⟩
        | _ => none)
      else none) else none
  | tg, x, [a, b, d] => if hs : noStar a = true ∧ noStar b = true ∧ noStar d = true ∧ glb c x = true then
      (if hx : x = "range" then (memStr x c.B).bind fun hB => (t.A c [a, b, d]).bind fun ms => some ⟨mRng fRngD ms.1, fun X EX k => by subst hx; exact di_rng3 (gl_ok k hs.2.2.2).1 (k.free _ hB.1) (ms.2 X EX k) (star_cons hs.1) (star_plain (by simp [hs.2.1, hs.2.2.1]))⟩
      else none) else none
  | _, _, _ => none
def seqI (t : Tr) (c : Sc) (tg e : Expr) : OI c tg e := (t.E c e).map fun m => ⟨mItems m.1, fun X EX k => di_seq (m.2 X EX k)⟩
def stepI (t : Tr) (c : Sc) (tg : Expr) : (e : Expr) → OI c tg e
  | .Call (.Name x p) es [] pos => if x = "range" ∨ x = "zip" ∨ x = "enumerate" then iterCall t c p pos tg x es else seqI t c tg _
  | e => seqI t c tg e
def stepE (t : Tr) (c : Sc) : (e : Expr) → OE c e
  | .Name x p => if hv : visb c x = true then (match h : ixOf x c.N with
      | some i => some ⟨mVar i, fun X EX k => let q := vis_ok k hv; de_var (by rw [k.n]; exact ixOf_ok h) q.1 q.2.1 q.2.2⟩
      | none => none)
      else if hg : glb c x = true then (getCon x c.T).map fun d => ⟨mCon d.1, fun X EX k => by
        obtain ⟨v, u, h1, h2, h3⟩ := k.ents _ d.2
        have g := gl_ok k hg
        exact de_glob g.1 h1 h2 g.2.1 h3⟩
      else none
  | .Constant (.int i) j p => some ⟨mCon (.int i), fun X EX k => de_int⟩
  | .Constant (.bool i) j p => some ⟨mCon (.bl i), fun X EX k => de_bl⟩
  | .Constant (.str i) j p => some ⟨mCon (.str i), fun X EX k => de_str⟩
  | .Constant .none j p => some ⟨mCon .non, fun X EX k => de_non⟩
  | .BinOp a op b p => (opB op).bind fun f => (t.V c a).bind fun ma => (t.V c b).bind fun mb => some ⟨mOp f.1 ma.1 mb.1, fun X EX k => by
      obtain ⟨r, h1, h2⟩ := f.2 X EX c k
      exact de_bin h1 h2 (ma.2 X EX k) (mb.2 X EX k)⟩
  | .UnaryOp .USub a p => (t.V c a).map fun ma => ⟨mOp1 fNeg ma.1, fun X EX k => de_un un_neg (od_neg X.K) (ma.2 X EX k)⟩
  | .UnaryOp .Not a p => (t.E c a).map fun ma => ⟨mNotV ma.1, fun X EX k => de_not (ma.2 X EX k)⟩
  | .Compare a [op] [b] p => if hm : behindInMarks op b = false then (cmB op).bind fun f => (t.V c a).bind fun ma => (t.V c b).bind fun mb => some ⟨mOp f.1 ma.1 mb.1, fun X EX k => by
      obtain ⟨r, h1, h2⟩ := f.2 X EX c k
      exact de_cmp h1 h2 hm (ma.2 X EX k) (mb.2 X EX k)⟩ else none
  | .Compare a [op, op'] [b, b'] p => if hm : lastMarks [op, op'] [b, b'] = false then (cmB op).bind fun f => (cmB op').bind fun f' => (t.V c a).bind fun ma => (t.V c b).bind fun mb => (t.V c b').bind fun mc => some ⟨mChain f.1 f'.1 ma.1 mb.1 mc.1, fun X EX k => by
      obtain ⟨r, h1, h2⟩ := f.2 X EX c k
      obtain ⟨r', h1', h2'⟩ := f'.2 X EX c k
      exact de_chain h1 h1' h2 h2' (ma.2 X EX k) (mb.2 X EX k) (mc.2 X EX k) hm⟩ else none
  | .BoolOp op [a] p => (t.E c a).map fun m => ⟨m.1, fun X EX k => de_one (m.2 X EX k)⟩
  | .BoolOp .And (a :: b :: r) p => (t.E c a).bind fun m => (t.E c (.BoolOp .And (b :: r) p)).bind fun n => some ⟨mAndV m.1 n.1, fun X EX k => de_and (m.2 X EX k) (n.2 X EX k)⟩
  | .BoolOp .Or (a :: b :: r) p => (t.E c a).bind fun m => (t.E c (.BoolOp .Or (b :: r) p)).bind fun n => some ⟨mOrV m.1 n.1, fun X EX k => de_or (m.2 X EX k) (n.2 X EX k)⟩
  | .IfExp q a b p => (t.T c q).bind fun mq => (t.E c a).bind fun ma => (t.E c b).bind fun mb => some ⟨mIte mq.1 ma.1 mb.1, fun X EX k => de_ite (mq.2 X EX k) (ma.2 X EX k) (mb.2 X EX k)⟩
  | .Tuple es kk p => (t.A c es).map fun ms => ⟨mTup ms.1, fun X EX k => de_tup (ms.2 X EX k)⟩
  | .List es p => (t.A c es).map fun ms => ⟨mLst ms.1, fun X EX k => de_lst (ms.2 X EX k)⟩
  | .Subscript a (.Slice lo hi none p2) p => (t.V c a).bind fun m => (t.P c lo).bind fun ml => (t.P c hi).bind fun mh => some ⟨mSl m.1 ml.1 mh.1, fun X EX k => de_sl (m.2 X EX k) (ml.2 X EX k) (mh.2 X EX k)⟩
  | .Subscript a b p => if hs : noSlice b = true then (t.V c a).bind fun ma => (t.E c b).bind fun mb => some ⟨mIx ma.1 mb.1, fun X EX k => de_ix (ma.2 X EX k) (mb.2 X EX k) (plain_ix hs)⟩ else none
  | .Call (.Name x p2) [e] [] p => (tupRg t c x p2 p e).or (((listRg t c x p2 p e).map fun m => ⟨mFrz m.1, fun X EX k => (m.2 X EX k).d⟩).or (callName t c x p2 p [e]))
  | .Call f es ks p => trCall t c p f es ks
  | .ListComp a b sc p => (t.L c (.ListComp a b sc p)).map fun m => ⟨mFrz m.1, fun X EX k => (m.2 X EX k).o.d⟩
  | _ => none
def trStep (t : Tr) : Tr where
  E := stepE t
  V := stepV t
  T := stepT t
  W := stepW t
  A := stepA t
  Av := stepAv t
  I := stepI t
  O := stepO t
  L := stepL t
  G := stepG t
  Gs := stepGs t
  P := stepP t
def trZero : Tr := ⟨fun _ _ => none, fun _ _ => none, fun _ _ => none, fun _ _ => none, fun _ _ => none, fun _ _ => none, fun _ _ _ => none, fun _ _ => none, fun _ _ => none, fun _ _ => none, fun _ _ => none, fun _ _ => none⟩
def tr (n : Nat) : Tr := Nat.rec (motive := fun _ => Tr) trZero (fun _ t => trStep t) n
end PD
set_option maxRecDepth 100000
set_option maxHeartbeats 4000000
namespace PD
open PySem PySem.Spec PyProof.Rows L2

/-! ## the translator: statements -/
structure Hn where
  own : List (Nat × Str) := []
  cells : List Str := []
  frz : List (Nat × Str) := []
  ro : Bool := false
structure SOk (X : Cx) (EX : XK) (c : Sc) : Prop extends XOk X EX c where
  hp : PassesOwn (model X.prog X.w) X.A X.env X.xe
abbrev OS (c : Sc) (st : Stmt) := Option {m : MS // ∀ X EX, SOk X EX c → PSd X EX st m}
abbrev OSs (c : Sc) (st : List Stmt) := Option {m : MS // ∀ X EX, SOk X EX c → PSsd X EX st m}
structure TrS where
  S : ∀ (c : Sc) (h : Hn) (st : Stmt), OS c st
  Ss : ∀ (c : Sc) (h : Hn) (st : List Stmt), OSs c st
def wfuel : Nat := 10 ^ 100
def Hn.ownAt (h : Hn) (n : Nat) (x : Str) : Bool := h.own.any fun p => (p.1 == 0 || p.1 == n) && p.2 == x
def Hn.cell (h : Hn) (x : Str) : Bool := h.cells.any fun y => y == x
/-- a source -/
def srcR (t : Tr) (c : Sc) (own : Bool) (e : Expr) : OR c e := match own with
  | true => (t.O c e).map fun m => ⟨mSo m.1, fun X EX k => (m.2 X EX k).r⟩
  | false => (t.E c e).map fun m => ⟨mSd m.1, fun X EX k => (m.2 X EX k).r⟩
def swb (c : Sc) (x : Str) (p ep : Pos) (sc : Scope) : Bool := c.sc.names.lookup x == some .local && p.line == ep.line && !(sc.names.any fun (n, k) => n == x && (k == .local || k == .cell))
theorem bk_ok {X : Cx} {EX : XK} {c : Sc} (k : XOk X EX c) : X.env.blockKind = .function := by
  unfold Env.blockKind
  rw [k.sc, k.kf]
  rfl
theorem sw_lc {X : Cx} {EX : XK} {c : Sc} (k : XOk X EX c) {a : Expr} {b : List Comprehension} {sc : Scope} {ep p : Pos} {x : Str} {n : Nat} {r : Bool} (h : swb c x p ep sc = r) : swapsWith (.ListComp a b sc ep) (some (.Name x p)) n X.env = pure r := by
  show pure (X.env.blockKind == .function && X.env.kindOf x == some .local && p.line == ep.line && !(sc.names.any fun (n, k) => n == x && (k == .local || k == .cell))) = pure r
  rw [bk_ok k, ← h]
  unfold Env.kindOf swb
  rw [k.sc]
  simp
theorem storb_local {X : Cx} {EX : XK} {c : Sc} (k : XOk X EX c) {x : Str} {p ep : Pos} {sc : Scope} (h : swb c x p ep sc = true) : X.env.scope.names.lookup x = some .local := by
  unfold swb at h
  simp only [Bool.and_eq_true] at h
  rw [k.sc]
  exact eq_of_beq h.1.1
def asgName (t : Tr) (c : Sc) (h : Hn) (x : Str) (p pos : Pos) (e : Expr) : OS c (.Assign [.Name x p] e pos) :=
  if hs : storb c x = true then (match hi : ixOf x c.N with
    | none => none
    | some i =>
      if h.cell x = true then (if hn : noComp e = true then (t.O c e).map fun m => ⟨mCell i m.1, fun X EX k => by
          have q := stor_ok k.toXOk hs
          exact ds_cell (by rw [k.n]; exact k.nd) (by rw [k.n]; exact ixOf_ok hi) q.1 q.2 (m.2 X EX k.toXOk) (swaps_no hn)⟩ else none)
      else if hn : noComp e = true then (srcR t c (h.ownAt pos.line x) e).map fun m => ⟨mAsg i m.1, fun X EX k => by
          have q := stor_ok k.toXOk hs
          exact ds_asg (by rw [k.n]; exact k.nd) (by rw [k.n]; exact ixOf_ok hi) q.1 q.2 (m.2 X EX k.toXOk) (swaps_no hn)⟩
      else match e with
        | .ListComp a b sc ep => if hw : swb c x p ep sc = true then (t.L c (.ListComp a b sc ep)).map fun m => (match h.ownAt pos.line x with
            | true => ⟨mAsg i (mSo m.1), fun X EX k => ds_asgLc (by rw [k.n]; exact ixOf_ok hi) (storb_local k.toXOk hw) (m.2 X EX k.toXOk) (fun t q => lc_own q) (sw_lc k.toXOk hw)⟩
            | false => ⟨mAsg i (mSd (mFrz m.1)), fun X EX k => ds_asgLc (by rw [k.n]; exact ixOf_ok hi) (storb_local k.toXOk hw) (m.2 X EX k.toXOk) (fun t q => lc_dat q) (sw_lc k.toXOk hw)⟩)
          else (srcR t c (h.ownAt pos.line x) (.ListComp a b sc ep)).map fun m => ⟨mAsg i m.1, fun X EX k => by
            have q := stor_ok k.toXOk hs
            exact ds_asg (by rw [k.n]; exact k.nd) (by rw [k.n]; exact ixOf_ok hi) q.1 q.2 (m.2 X EX k.toXOk) (sw_lc k.toXOk (by simpa using hw))⟩
        | _ => none)
  else none
/-- names of a parallel assignment -/
def parNms (c : Sc) : (ts : List Expr) → Option {is : List Nat // ∀ X EX, XOk X EX c → NmOk X ts is}
  | [] => some ⟨[], fun X EX k => .nil⟩
  | .Name x p :: ts => if hs : storb c x = true then (match hi : ixOf x c.N with
      | none => none
      | some i => (parNms c ts).map fun is => ⟨i :: is.1, fun X EX k => by
          have q := stor_ok k hs
          exact .cons (by rw [k.n]; exact ixOf_ok hi) q.1 q.2 (is.2 X EX k)⟩)
      else none
  | _ => none
def parSrc (t : Tr) (c : Sc) (h : Hn) (n : Nat) : (ts es : List Expr) → ORs c es
  | _, [] => some ⟨mRnil, fun X EX k => dr_nil⟩
  | .Name x p :: ts, e :: es => if hs : noStar e = true then (srcR t c (h.ownAt n x) e).bind fun m => (parSrc t c h n ts es).map fun ms => ⟨mRcons m.1 ms.1, fun X EX k => dr_cons (m.2 X EX k) (ms.2 X EX k) (star_cons hs)⟩ else none
  | _, _ => none
/-- what swappedStores says -/
def swp (sc : Scope) (ts vs : List Expr) : Option (Option (List Str)) :=
  if (!(ts.length == 2 || ts.length == 3) || vs.length != ts.length) = true then some none
  else if (vs.any fun | .Starred .. => true | _ => false) = true then some none
  else
    let line := (ts.head?.map (·.pos.line)).getD 0
    let names := ts.filterMap fun
      | .Name id pos => if sc.names.lookup id == some .local && pos.line == line then some id else none
      | _ => none
    if (names.length != ts.length || names.eraseDups.length != names.length) = true then some none
    else if vs.all (foldedForSure 8) = true then some none
    else if vs.all (constantsAlone 8) = true then none
    else some (some names)
theorem swp_ok {X : Cx} {EX : XK} {c : Sc} (k : XOk X EX c) {ts vs : List Expr} {r : Option (List Str)} {k1 k2 : Nat} {p1 p2 : Pos} (h : swp c.sc ts vs = some r) : swappedStores [.Tuple ts k1 p1] (.Tuple vs k2 p2) X.env = pure r := by
  have e : swappedStores [.Tuple ts k1 p1] (.Tuple vs k2 p2) X.env = (do
    if !(ts.length == 2 || ts.length == 3) || vs.length != ts.length || X.env.blockKind != .function then return none
    if vs.any fun | .Starred .. => true | _ => false then return none
    let line := (ts.head?.map (·.pos.line)).getD 0
    let names := ts.filterMap fun
      | .Name id pos => if X.env.kindOf id == some .local && pos.line == line then some id else none
      | _ => none
    if names.length != ts.length || names.eraseDups.length != names.length then return none
    if vs.all (foldedForSure 8) then return none
    if vs.all (constantsAlone 8) then unsupported "assign.tuple-of-constant-expressions:order-of-the-stores"
    return some names) := rfl
  rw [e, bk_ok k]
  unfold Env.kindOf
  rw [k.sc]
  unfold swp at h
  simp only [bne_self_eq_false, Bool.or_false] at *
  split at h
  · rename_i h1
    rw [if_pos h1]
    cases h; rfl
  · rename_i h1
    rw [if_neg h1]
    split at h
    · rename_i h2
      cases h
      rw [if_pos h2]
    · rename_i h2
      rw [if_neg h2]
      split at h
      · rename_i h3
        cases h
        rw [if_pos h3]
      · rename_i h3
        rw [if_neg h3]
        split at h
        · rename_i h4
          cases h
          rw [if_pos h4]
        · rename_i h4
          rw [if_neg h4]
          split at h
          · cases h
          · rename_i h5
            cases h
            rw [if_neg h5]
theorem sole_tup {X : Cx} {es : List Expr} {k : Nat} {p : Pos} {e : Expr} {n : Nat} : swapsWithSole [.Tuple es k p] e n X.env = pure false := by cases e <;> rfl
theorem sole_sub {X : Cx} {a b : Expr} {p : Pos} {e : Expr} {n : Nat} : swapsWithSole [.Subscript a b p] e n X.env = pure false := by cases e <;> rfl
theorem stores_sub {X : Cx} {a b : Expr} {p : Pos} {e : Expr} : swappedStores [.Subscript a b p] e X.env = pure none := by cases e <;> rfl
def noTup : Expr → Bool
  | .Tuple .. => false
  | _ => true
theorem stores_no {X : Cx} {es : List Expr} {k : Nat} {p : Pos} {e : Expr} (h : noTup e = true) : swappedStores [.Tuple es k p] e X.env = pure none := by cases e <;> first | rfl | cases h
theorem sub_ok {env : PySem.Env} {a i : Expr} {p2 : Pos} (h : noSlice i = true) : ∀ v, assign (.Subscript a i p2) env v = (do
      let ov ← holding [v] (eval a env)
      let iv ← holding [v, ov] (eval i env)
      standAt p2
      holding [v, ov, iv] (setItem ov iv v)
      release [v, ov, iv] []) := fun v => by
  cases i <;> first | rfl | cases h
/-- two or three names, by the swapped order or through the tuple -/
def asgPar (t : Tr) (c : Sc) (h : Hn) (pos : Pos) (k1 k2 : Nat) (p1 p2 : Pos) (ts es : List Expr) : OS c (.Assign [.Tuple ts k1 p1] (.Tuple es k2 p2) pos) :=
  (parSrc t c h pos.line ts es).bind fun ms => match hw : swp c.sc ts es with
    | none => none
    | some none => (parNms c ts).bind fun is => if hz : is.1.length ≤ 1000 then some ⟨mPar is.1 ms.1, fun X EX k => ds_parN k.calm (by rw [k.n]; exact k.nd) (is.2 X EX k.toXOk) hz (ms.2 X EX k.toXOk) (swp_ok k.toXOk hw) sole_tup⟩ else none
    | some (some ns) => match ts, es, ns, ms, hw with
      | [.Name x px, .Name y py], [a, b], [x', y'], ms, hw => if hx : x' = x ∧ y' = y then
          (match hi : ixOf x c.N, hj : ixOf y c.N with
          | some i, some j => if hq : i ≠ j ∧ c.sc.names.lookup x = some .local ∧ c.sc.names.lookup y = some .local then some ⟨mPar [i, j] ms.1, fun X EX k => ds_par2 k.calm (by rw [k.n]; exact k.nd) (by rw [k.n]; exact ixOf_ok hi) (by rw [k.n]; exact ixOf_ok hj) hq.1 (by rw [k.sc]; exact hq.2.1) (by rw [k.sc]; exact hq.2.2) (ms.2 X EX k.toXOk) (by rw [← hx.1, ← hx.2]; rw [hx.1, hx.2] at hw ⊢; exact swp_ok k.toXOk hw) sole_tup⟩ else none
          | _, _ => none)
        else none
      | [.Name x px, .Name y py, .Name z pz], [a, b, d], [x', y', z'], ms, hw => if hx : x' = x ∧ y' = y ∧ z' = z then
          (match hi : ixOf x c.N, hj : ixOf y c.N, hl : ixOf z c.N with
          | some i, some j, some l => if hq : (i ≠ j ∧ i ≠ l ∧ j ≠ l) ∧ c.sc.names.lookup x = some .local ∧ c.sc.names.lookup y = some .local ∧ c.sc.names.lookup z = some .local then some ⟨mPar [i, j, l] ms.1, fun X EX k => ds_par3 k.calm (by rw [k.n]; exact k.nd) (by rw [k.n]; exact ixOf_ok hi) (by rw [k.n]; exact ixOf_ok hj) (by rw [k.n]; exact ixOf_ok hl) hq.1.1 hq.1.2.1 hq.1.2.2 (by rw [k.sc]; exact hq.2.1) (by rw [k.sc]; exact hq.2.2.1) (by rw [k.sc]; exact hq.2.2.2) (ms.2 X EX k.toXOk) (by rw [hx.1, hx.2.1, hx.2.2] at hw; exact swp_ok k.toXOk hw) sole_tup⟩ else none
          | _, _, _ => none)
        else none
      | _, _, _, _, _ => none
def asgSub (t : Tr) (c : Sc) (h : Hn) (o i e : Expr) (p2 pos : Pos) : OS c (.Assign [.Subscript o i p2] e pos) :=
  if hs : noSlice i = true then (t.E c e).bind fun mv => (t.E c i).bind fun mi => (match o with
    | .Name x p => if h.cell x = true then (t.E c (.Name x p)).bind fun mo => some ⟨mSetC mo.1 mi.1 mv.1, fun X EX k => ds_setC (mv.2 X EX k.toXOk) (mo.2 X EX k.toXOk) (mi.2 X EX k.toXOk) (sub_ok hs) sole_sub stores_sub⟩
        else if hv : visb c x = true then (match hi : ixOf x c.N with
          | some j => some ⟨mSetO j mi.1 mv.1, fun X EX k => let q := vis_ok k.toXOk hv; ds_setO (by rw [k.n]; exact ixOf_ok hi) q.1 q.2.1 q.2.2 (mv.2 X EX k.toXOk) (mi.2 X EX k.toXOk) (sub_ok hs) sole_sub stores_sub⟩
          | none => none) else none
    | o => (t.E c o).bind fun mo => some ⟨mSetC mo.1 mi.1 mv.1, fun X EX k => ds_setC (mv.2 X EX k.toXOk) (mo.2 X EX k.toXOk) (mi.2 X EX k.toXOk) (sub_ok hs) sole_sub stores_sub⟩)
  else none
def trAsg (t : Tr) (c : Sc) (h : Hn) (pos : Pos) : (tg e : Expr) → OS c (.Assign [tg] e pos)
  | .Name x p, e => asgName t c h x p pos e
  | .Tuple ts k1 p1, .Tuple es k2 p2 => asgPar t c h pos k1 k2 p1 p2 ts es
  | .Tuple ts k1 p1, e => if hn : noTup e = true then (t.E c e).bind fun m => (t.G c (.Tuple ts k1 p1)).map fun g => ⟨mUnp g.1 m.1, fun X EX k => ds_unp (m.2 X EX k.toXOk) (g.2 X EX k.toXOk) sole_tup (stores_no hn)⟩ else none
  | .Subscript o i p2, e => asgSub t c h o i e p2 pos
  | _, _ => none
def trExprS (t : Tr) (c : Sc) (h : Hn) (pos : Pos) : (e : Expr) → OS c (.Expr e pos)
  | .Call (.Attribute (.Name x p) m ap) [e] [] cp => if hm : m = "append" ∧ (ap.endLine == cp.line) = true ∧ noStar e = true then (if hv : visb c x = true then (match hi : ixOf x c.N with
      | some i => (t.E c e).map fun me => ⟨mApp i me.1, fun X EX k => by
          have q := vis_ok k.toXOk hv
          rw [hm.1]
          exact ds_app (by rw [k.n]; exact ixOf_ok hi) q.1 q.2.1 q.2.2 (me.2 X EX k.toXOk) (base_ok rfl) (few_one hm.2.2) hm.2.1 (star_one hm.2.2) (swaps_no rfl)⟩
      | none => none) else none)
    else (t.E c (.Call (.Attribute (.Name x p) m ap) [e] [] cp)).map fun m => ⟨mDrop m.1, fun X EX k => ds_expr (m.2 X EX k.toXOk) (swaps_no rfl)⟩
  | e => if hn : noComp e = true then (t.E c e).map fun m => ⟨mDrop m.1, fun X EX k => ds_expr (m.2 X EX k.toXOk) (swaps_no hn)⟩ else none
def trRet (t : Tr) (c : Sc) (h : Hn) (pos : Pos) : (e : Option Expr) → OS c (.Return e pos)
  | none => some ⟨mRetN, fun X EX k => ds_retN⟩
  | some (.Name x p) => if hv : visb c x = true then (match hi : ixOf x c.N with
      | some i => (match h.ro with
        | true => some ⟨mRetVO i, fun X EX k => let q := vis_ok k.toXOk hv; ds_retVO (by rw [k.n]; exact ixOf_ok hi) q.1 q.2.1 q.2.2⟩
        | false => some ⟨mRetV i, fun X EX k => let q := vis_ok k.toXOk hv; ds_retV (by rw [k.n]; exact ixOf_ok hi) q.1 q.2.1 q.2.2⟩)
      | none => none) else (t.E c (.Name x p)).map fun m => ⟨mRet m.1, fun X EX k => ds_ret (m.2 X EX k.toXOk)⟩
  | some e => match h.ro with
    | true => (t.O c e).map fun m => ⟨mRetO m.1, fun X EX k => ds_retO (m.2 X EX k.toXOk)⟩
    | false => (t.E c e).map fun m => ⟨mRet m.1, fun X EX k => ds_ret (m.2 X EX k.toXOk)⟩
def stepS (u : TrS) (t : Tr) (c : Sc) (h : Hn) : (st : Stmt) → OS c st
  | .Pass p => some ⟨mNext, fun X EX k => ds_pass⟩
  | .Break p => some ⟨mBreak, fun X EX k => ds_break⟩
  | .Continue p => some ⟨mCont, fun X EX k => ds_cont⟩
  | .Return e p => trRet t c h p e
  | .Expr e p => trExprS t c h p e
  | .Assign [tg] e p => trAsg t c h p tg e
  | .If q a b p => (t.T c q).bind fun mq => (u.Ss c h a).bind fun ma => (u.Ss c h b).map fun mb => ⟨mIf mq.1 ma.1 mb.1, fun X EX k => ds_if (mq.2 X EX k.toXOk) (ma.2 X EX k) (mb.2 X EX k)⟩
  | .While q a [] p => (t.T c q).bind fun mq => (u.Ss c h a).map fun ma => ⟨mWhile mq.1 ma.1 wfuel, fun X EX k => ds_while wfuel k.hp (mq.2 X EX k.toXOk) (ma.2 X EX k)⟩
  | .Raise e q p => some ⟨mBad, fun X EX k => ds_never⟩
  | .For tg iter a [] p => if hs : noSet iter = true then (t.I c tg iter).bind fun mi => (t.G c tg).bind fun g => (u.Ss c h a).map fun ma => ⟨mFor mi.1 g.1 ma.1, fun X EX k => ds_for k.hp k.calm (mi.2 X EX k.toXOk) (g.2 X EX k.toXOk) (ma.2 X EX k) (fold_ok hs)⟩ else none
  | _ => none
def lnOf : Stmt → Nat
  | .Return _ p => p.line
  | .Expr _ p => p.line
  | .Assign _ _ p => p.line
  | .If _ _ _ p => p.line
  | .While _ _ _ p => p.line
  | .For _ _ _ _ p => p.line
  | _ => 0
def ghosts (c : Sc) (st : Stmt) (n : Nat) : List (Nat × Str) → OS c st → OS c st
  | [], o => o
  | q :: qs, o => if q.1 == n then (match ixOf q.2 c.N with
    | some i => (ghosts c st n qs o).map fun m => ⟨mGhost i m.1, fun X EX k => ds_ghost i (m.2 X EX k)⟩
    | none => none) else ghosts c st n qs o
def stepSs (u : TrS) (t : Tr) (c : Sc) (h : Hn) : (st : List Stmt) → OSs c st
  | [] => some ⟨mNext, fun X EX k => dss_nil⟩
  | [st] => (ghosts c st (lnOf st) h.frz (u.S c h st)).map fun m => ⟨m.1, fun X EX k => dss_one (m.2 X EX k)⟩
  | st :: sts => (ghosts c st (lnOf st) h.frz (u.S c h st)).bind fun m => (u.Ss c h sts).map fun ms => ⟨mSeq m.1 ms.1, fun X EX k => dss_cons (m.2 X EX k) (ms.2 X EX k)⟩
def trS (t : Tr) (n : Nat) : TrS := Nat.rec (motive := fun _ => TrS) ⟨fun _ _ _ => none, fun _ _ _ => none⟩ (fun _ u => ⟨fun c h => stepS u t c h, fun c h => stepSs u t c h⟩) n
end PD
set_option maxRecDepth 100000
set_option maxHeartbeats 4000000
namespace PD
open PySem PySem.Spec PyProof.Rows L2

/-! ## defs -/
def startE (n : Nat) (ds : List D) : Env := ds.map SV.dat ++ List.replicate (n - ds.length) .nul
def endD : R Out → R D
  | .ok (.nx _) s => .ok .non s
  | .ok (.rt d) s => .ok d s
  | .ok _ _ => .bad
  | .er e s => .er e s
  | .bad => .bad
def endO : R Out → R (List D)
  | .ok (.ro d) s => .ok d s
  | .ok _ _ => .bad
  | .er e s => .er e s
  | .bad => .bad
def mFn (n : Nat) (b : MS) : List D → Store → R D := fun ds s => endD (b (startE n ds) s)
def mFnO (n : Nat) (b : MS) : List D → Store → R (List D) := fun ds s => endO (b (startE n ds) s)
theorem sat_start {K : PySem.W.Frag} {B : Hp} {W : Wd} {N : List Str} {ds : List D} {vs : List V} (r : RepL K W ds vs) : Sat K B W (startE N.length ds) (L2.start N vs) := by
  have hl := r.len
  refine ⟨by unfold startE L2.start; simp [hl], fun i x o e1 e2 => ?_, fun i j x y o e1 e2 ox oy e3 e4 => ?_⟩
  · unfold startE at e1
    by_cases hi : i < ds.length
    · rw [List.getElem?_append_left (by simpa using hi), List.getElem?_map] at e1
      unfold L2.start at e2
      rw [List.getElem?_append_left (by simpa [← hl] using hi), List.getElem?_map] at e2
      rw [List.getElem?_eq_getElem hi] at e1
      cases e1
      obtain ⟨v, h1, h2⟩ := r.get (i := i) (d := ds[i]) (List.getElem?_eq_getElem hi)
      rw [h1] at e2
      cases e2
      exact ⟨v, rfl, h2⟩
    · rw [List.getElem?_append_right (by simpa using Nat.le_of_not_lt hi), List.getElem?_replicate] at e1
      split at e1
      · cases e1; trivial
      · cases e1
  · unfold startE at e1
    by_cases hi : i < ds.length
    · rw [List.getElem?_append_left (by simpa using hi), List.getElem?_map, List.getElem?_eq_getElem hi] at e1
      cases e1; cases ox
    · rw [List.getElem?_append_right (by simpa using Nat.le_of_not_lt hi), List.getElem?_replicate] at e1
      split at e1
      · cases e1; cases ox
      · cases e1
section
variable {P : Program} {w : World} {K : PySem.W.Frag} {mg : Str → Option Value} {base : Heap}
theorem sok_def {N ps : List Str} {qual : Str} {scope : Scope} {f : Addr} {cdv : Value} {A : Around} {outer : List PySem.Env} {s : Shared} {H : Hp} {E : XK} {k : Nat} {T : List Ent} {B : List Str} (S : FnScope N ps scope) (hr : Room k (A.deeper (envOfC qual scope s.heap.objs.size f cdv)))
    (he : ∀ e ∈ T, EntOk P w K mg base k e) (hf : ∀ x ∈ B, mg x = none) : SOk (cxOf (L2.CX P w) P w K mg base N qual scope f cdv A outer s H E) E ⟨N, scope, fun _ => true, T, B, k⟩ := by
  have tk : Takes (cxOf (L2.CX P w) P w K mg base N qual scope f cdv A outer s H E) (fun cls d _ H => E cls d H) := takes_of rfl rfl rfl rfl
  exact { calm := rfl, n := rfl, nd := S.nd, sc := rfl, kf := S.kind, room := hr, pass := passes_call tk (fun _ _ _ _ h => h), fn := fun _ _ => rfl, ents := he, free := hf, hp := passes_of rfl }
/-- a def keeps its promise: its text is translated -/
theorem fn_d {x : Str} {st : Stmt} {f : Addr} {fd : FuncData} {N ps : List Str} {k n : Nat} {T : List Ent} {B : List Str} {m : MS} {h : Hn} {tn sn : Nat} (F : FunD K x x (defArgs st) (defBody st) (defScope st) [] [] f fd) (S : FnScope N ps (defScope st)) (hn : ps.length = n)
    (htr : ((trS (tr tn) sn).Ss ⟨N, defScope st, fun _ => true, T, B, k⟩ h (defBody st)).map (·.1) = some m) (he : ∀ e ∈ T, EntOk P w K mg base k e) (hf : ∀ x ∈ B, mg x = none) :
    FnOk P w K mg base (L2.CX P w) (k + 1) f fd ps (Spec K n (mFn N.length m)) := by
  cases ht : (trS (tr tn) sn).Ss ⟨N, defScope st, fun _ => true, T, B, k⟩ h (defBody st) with
  | none => rw [ht] at htr; cases htr
  | some q =>
    rw [ht] at htr
    have hm : q.1 = m := by simpa using htr
    subst hm
    refine F.ok S (fun vs H Q E hsp => ?_) (fun cdv A outer s H vs Q E hr hsp => ?_)
    · obtain ⟨W, ds, s, _, _, r, hl, _⟩ := hsp
      rw [hn, ← hl, r.len]
    · obtain ⟨W, ds, s0, rfl, sr, r, hl, pp⟩ := hsp
      have ok := sok_def (E := E) (H := W.H) (outer := outer) (P := P) (w := w) (mg := mg) (base := base) S hr he hf
      obtain ⟨t, pt, qt⟩ := q.2 _ _ ok
      refine ⟨t, pt, qt W W (startE N.length ds) (L2.start N vs) s0 _ (Grow.refl W) (sat_start r) sr ?_⟩
      have pp : Post K E W (endD (q.1 (startE N.length ds) s0)) (Want K Q) := pp
      revert pp
      cases q.1 (startE N.length ds) s0 with
      | ok o s1 =>
        cases o with
        | nx Γ => exact fun pp W' g _ sr' σ _ => pp W' g sr' _ .non
        | rt d => exact fun pp W' g _ sr' v r => pp W' g sr' v r
        | _ => exact fun pp => pp.elim
      | er e s1 => exact fun pp W' c d g sr' q => pp W' c d g sr' q
      | bad => exact id
theorem fn_o {x : Str} {st : Stmt} {f : Addr} {fd : FuncData} {N ps : List Str} {k n : Nat} {T : List Ent} {B : List Str} {m : MS} {h : Hn} {tn sn : Nat} (F : FunD K x x (defArgs st) (defBody st) (defScope st) [] [] f fd) (S : FnScope N ps (defScope st)) (hn : ps.length = n)
    (htr : ((trS (tr tn) sn).Ss ⟨N, defScope st, fun _ => true, T, B, k⟩ h (defBody st)).map (·.1) = some m) (he : ∀ e ∈ T, EntOk P w K mg base k e) (hf : ∀ x ∈ B, mg x = none) :
    FnOk P w K mg base (L2.CX P w) (k + 1) f fd ps (SpecO K n (mFnO N.length m)) := by
  cases ht : (trS (tr tn) sn).Ss ⟨N, defScope st, fun _ => true, T, B, k⟩ h (defBody st) with
  | none => rw [ht] at htr; cases htr
  | some q =>
    rw [ht] at htr
    have hm : q.1 = m := by simpa using htr
    subst hm
    refine F.ok S (fun vs H Q E hsp => ?_) (fun cdv A outer s H vs Q E hr hsp => ?_)
    · obtain ⟨W, ds, s, _, _, r, hl, _⟩ := hsp
      rw [hn, ← hl, r.len]
    · obtain ⟨W, ds, s0, rfl, sr, r, hl, pp⟩ := hsp
      have ok := sok_def (E := E) (H := W.H) (outer := outer) (P := P) (w := w) (mg := mg) (base := base) S hr he hf
      obtain ⟨t, pt, qt⟩ := q.2 _ _ ok
      refine ⟨t, pt, qt W W (startE N.length ds) (L2.start N vs) s0 _ (Grow.refl W) (sat_start r) sr ?_⟩
      have pp : Post K E W (endO (q.1 (startE N.length ds) s0)) (WantO K W Q) := pp
      revert pp
      cases q.1 (startE N.length ds) s0 with
      | ok o s1 =>
        cases o with
        | ro d => exact fun pp W' g _ sr' p vs h0 h1 h2 h3 r => pp W' g sr' p vs h0 h1 h2 h3 r
        | _ => exact fun pp => pp.elim
      | er e s1 => exact fun pp W' c d g sr' q => pp W' c d g sr' q
      | bad => exact id
end
end PD
set_option maxRecDepth 100000
set_option maxHeartbeats 0
namespace PD
open PySem PySem.Spec PyProof.Rows L2

/-! ## the head: a light hook -/
def asL (g : Addr → Option Obj) (xs : List Str) : List Addr :=
  let K0 := He.frG g [mainGlobals]
  let fs := xs.map (He.ga K0)
  mainGlobals :: (fs ++ fs.flatMap fun a => match g a with
    | some o => He.refsO o
    | none => [])
def obsL (fa : List He.Fa) (fn : List He.DefD) (ex : PySem.W.Frag → Bool) (K : PySem.W.Frag) : He.AlD := ((fa.all fun f => f.ok K) && ((fn.all fun d => d.ok K) && ex K), fn.map fun d => He.fnW K d.at_)
def SaysL (fa : List He.Fa) (fn : List He.DefD) (ex : PySem.W.Frag → Bool) (K : PySem.W.Frag) : Prop := obsL fa fn ex K = He.valD fn
def obsLG (xs : List Str) (fa : List He.Fa) (fn : List He.DefD) (ex : PySem.W.Frag → Bool) (g : Addr → Option Obj) : He.AlD := obsL fa fn ex (He.frG g (asL g xs))
def hookL (xs : List Str) (fa : List He.Fa) (fn : List He.DefD) (ex : PySem.W.Frag → Bool) : PySem.W.Hook where
  α := He.AlD
  obs := fun s => obsLG xs fa fn ex s.heap.get?
  val := fun _ => He.valD fn
  says := fun _ h => ∃ K : PySem.W.Frag, K.In h ∧ SaysL fa fn ex K
  of := fun _ _ e => ⟨_, He.frG_in, e⟩
  keeps := fun _ _ _ ⟨K, hK, c⟩ k => ⟨K, PySem.W.Frag.In.keeps hK k, c⟩
theorem obsLG_eq {xs : List Str} {fa : List He.Fa} {fn : List He.DefD} {ex : PySem.W.Frag → Bool} {g : Addr → Option Obj} {s : Shared} (h : ∀ a, g a = s.heap.get? a) : obsLG xs fa fn ex g = (hookL xs fa fn ex).obs s := by
  have e : g = s.heap.get? := funext h
  rw [e] <;> rfl
section
variable {fa : List He.Fa} {fn : List He.DefD} {ex : PySem.W.Frag → Bool} {K : PySem.W.Frag}
theorem SaysL.ext (c : SaysL fa fn ex K) : ex K = true := (He.ba (He.ba (show ((fa.all fun f => f.ok K) && ((fn.all fun d => d.ok K) && ex K)) = true from congrArg (fun z : He.AlD => z.1) c)).2).2
theorem SaysL.fact (c : SaysL fa fn ex K) (i : Nat) {f : He.Fa} (h : fa[i]? = some f) : f.ok K = true :=
  List.all_eq_true.mp (He.ba (show ((fa.all fun f => f.ok K) && ((fn.all fun d => d.ok K) && ex K)) = true from congrArg (fun z : He.AlD => z.1) c)).1 f (List.mem_of_getElem? h)
theorem SaysL.mem (c : SaysL fa fn ex K) {f : He.Fa} (h : f ∈ fa) : f.ok K = true :=
  List.all_eq_true.mp (He.ba (show ((fa.all fun f => f.ok K) && ((fn.all fun d => d.ok K) && ex K)) = true from congrArg (fun z : He.AlD => z.1) c)).1 f h
theorem SaysL.def_ (c : SaysL fa fn ex K) (i : Nat) {d : He.DefD} (h : fn[i]? = some d) : ∃ fd, FunD K d.name d.qual d.params d.body d.scope (d.dvs K) (d.kws K) (He.fAd K d.at_) fd := by
  have c2 := (He.ba (He.ba (show ((fa.all fun f => f.ok K) && ((fn.all fun d => d.ok K) && ex K)) = true from congrArg (fun z : He.AlD => z.1) c)).2).1
  have e : fn.map (fun d => He.fnW K d.at_) = fn.map He.DefD.val := congrArg (fun z : He.AlD => z.2) c
  have e2 : (fn.map fun d => He.fnW K d.at_)[i]? = (fn.map He.DefD.val)[i]? := by rw [e]
  rw [List.getElem?_map, List.getElem?_map, h] at e2
  exact He.DefD.funD (Option.some.inj e2) (List.all_eq_true.mp c2 d (List.mem_of_getElem? h))
end
/-! ## the table of a text's defs -/
def TOk (P : Program) (w : World) (K : PySem.W.Frag) (mg : Str → Option Value) (base : Heap) (k : Nat) (T : List Ent) : Prop := ∀ e ∈ T, EntOk P w K mg base k e
def scB (N P : List Str) (sc : Scope) : Bool :=
  (match sc.kind with | .function => true | _ => false) && !sc.isCoroutine && !sc.isGenerator && decide N.Nodup && decide (N.take P.length = P) && P.all (fun x => decide (sc.names.lookup x = some .local) || decide (sc.names.lookup x = some .cell)) && sc.names.all (fun y => match y.2 with | .free => false | _ => true)
theorem scB_ok {N P : List Str} {sc : Scope} (h : scB N P sc = true) : FnScope N P sc := by
  unfold scB at h
  simp only [Bool.and_eq_true, Bool.not_eq_true', decide_eq_true_eq, List.all_eq_true, Bool.or_eq_true] at h
  obtain ⟨⟨⟨⟨⟨⟨h1, h2⟩, h3⟩, h4⟩, h5⟩, h6⟩, h7⟩ := h
  refine ⟨?_, h2, h3, h4, h5, h6, fun y hy e => ?_⟩
  · split at h1
    · assumption
    · cases h1
  · have := h7 y hy
    rw [e] at this
    cases this
section
variable {P : Program} {w : World} {K : PySem.W.Frag} {mg : Str → Option Value} {base : Heap}
theorem EntOk.up {k : Nat} {e : Ent} (h : EntOk P w K mg base k e) : EntOk P w K mg base (k + 1) e := by
  cases e with
  | fn x n m =>
    obtain ⟨f, fd, ps, h1, h2, h3, h4⟩ := h
    exact ⟨f, fd, ps, h1, h2, h3.mono (by omega), h4⟩
  | fo x n m =>
    obtain ⟨f, fd, ps, h1, h2, h3, h4⟩ := h
    exact ⟨f, fd, ps, h1, h2, h3.mono (by omega), h4⟩
  | con x d => exact h
  | tups x ys => exact h
theorem TOk.up {k : Nat} {T : List Ent} (h : TOk P w K mg base k T) : TOk P w K mg base (k + 1) T := fun e he => (h e he).up
theorem TOk.cons {k : Nat} {T : List Ent} {e : Ent} (h : EntOk P w K mg base k e) (t : TOk P w K mg base k T) : TOk P w K mg base k (e :: T) := fun f hf => (List.mem_cons.mp hf).elim (fun z => z ▸ h) (t f)
abbrev BindF (x : Str) (st : Stmt) (ps : List Str) : Prop := ∀ (kV doc pm : Value) (an : Option Addr) (cdv ct : Value) (us : List Value), us.length = ps.length → bindArgs (PySem.W.fnOf x x (defArgs st) (defBody st) (defScope st) .none kV doc pm an cdv ct) ⟨us, []⟩ = pure (ps.zip us)
/-- the module's name x stands for the def y -/
abbrev FunA (K : PySem.W.Frag) (x y : Str) (st : Stmt) : Prop := ∃ fd, FunD K y y (defArgs st) (defBody st) (defScope st) [] [] (He.ga K x) fd
abbrev FunP (K : PySem.W.Frag) (x : Str) (st : Stmt) : Prop := ∃ fd, FunD K x x (defArgs st) (defBody st) (defScope st) [] [] (He.ga K x) fd
theorem add_d {x y : Str} {st : Stmt} {N ps : List Str} {k n nl : Nat} {T : List Ent} {B : List Str} {m : MS} {h : Hn} {tn sn : Nat} (ok : TOk P w K mg base k T) (F : FunA K x y st) (g : mg x = some (.ref (He.ga K x))) (hf : ∀ x ∈ B, mg x = none) (S : scB N ps (defScope st) = true) (hn : ps.length = n) (hl : N.length = nl)
    (b : BindF y st ps) (htr : ((trS (tr tn) sn).Ss ⟨N, defScope st, fun _ => true, T, B, k⟩ h (defBody st)).map (·.1) = some m) : TOk P w K mg base (k + 1) (.fn x n (mFn nl m) :: T) := by
  obtain ⟨fd, F⟩ := F
  subst hl
  exact ok.up.cons ⟨_, fd, ps, g, F.kp, fn_d F (scB_ok S) hn htr ok hf, F.bindsN b⟩
theorem add_o {x y : Str} {st : Stmt} {N ps : List Str} {k n nl : Nat} {T : List Ent} {B : List Str} {m : MS} {h : Hn} {tn sn : Nat} (ok : TOk P w K mg base k T) (F : FunA K x y st) (g : mg x = some (.ref (He.ga K x))) (hf : ∀ x ∈ B, mg x = none) (S : scB N ps (defScope st) = true) (hn : ps.length = n) (hl : N.length = nl)
    (b : BindF y st ps) (htr : ((trS (tr tn) sn).Ss ⟨N, defScope st, fun _ => true, T, B, k⟩ h (defBody st)).map (·.1) = some m) : TOk P w K mg base (k + 1) (.fo x n (mFnO nl m) :: T) := by
  obtain ⟨fd, F⟩ := F
  subst hl
  exact ok.up.cons ⟨_, fd, ps, g, F.kp, fn_o F (scB_ok S) hn htr ok hf, F.bindsN b⟩
/-- a def that calls itself, so many times -/
theorem rec_none {k n : Nat} {x y : Str} {st : Stmt} {N ps : List Str} (F : FunA K x y st) (g : mg x = some (.ref (He.ga K x))) (S : scB N ps (defScope st) = true) (b : BindF y st ps) : EntOk P w K mg base (k + 1) (.fn x n (fun _ _ => .bad)) := by
  obtain ⟨fd, F⟩ := F
  refine ⟨_, fd, ps, g, F.kp, F.ok (scB_ok S) (fun vs H Q E hsp => ?_) (fun cdv A outer s H vs Q E hr hsp => ?_), F.bindsN b⟩
  · obtain ⟨_, _, _, _, _, _, _, z⟩ := hsp
    exact z.elim
  · obtain ⟨_, _, _, _, _, _, _, z⟩ := hsp
    exact z.elim
def recM (nl : Nat) (b : (List D → Store → R D) → MS) (j : Nat) : List D → Store → R D := Nat.rec (motive := fun _ => List D → Store → R D) (fun _ _ => .bad) (fun _ m => mFn nl (b m)) j
theorem add_rec {x y : Str} {st : Stmt} {N ps : List Str} {k n nl : Nat} {T : List Ent} {B : List Str} {bm : (List D → Store → R D) → MS} {h : Hn} {tn sn : Nat} (ok : TOk P w K mg base k T) (F : FunA K x y st) (g : mg x = some (.ref (He.ga K x))) (hf : ∀ x ∈ B, mg x = none) (S : scB N ps (defScope st) = true) (hn : ps.length = n) (hl : N.length = nl)
    (b : BindF y st ps) (htr : ∀ m k, ((trS (tr tn) sn).Ss ⟨N, defScope st, fun _ => true, .fn x n m :: T, B, k⟩ h (defBody st)).map (·.1) = some (bm m)) : ∀ j : Nat, TOk P w K mg base (k + (j + 1)) (.fn x n (recM nl bm j) :: T)
  | 0 => ok.up.cons (rec_none F g S b)
  | j + 1 => by
    have ih := add_rec ok F g hf S hn hl b htr j
    obtain ⟨fd, F'⟩ := F
    subst hl
    have t : TOk P w K mg base (k + (j + 1) + 1) T := fun e he => (ih e (List.mem_cons_of_mem _ he)).up
    exact t.cons ⟨_, fd, ps, g, F'.kp, fn_d F' (scB_ok S) hn (htr _ _) ih hf, F'.bindsN b⟩
/-- the law's own promise: nothing is let out -/
def Spec0 (K : PySem.W.Frag) (n : Nat) (m : List D → Store → R D) : Sp := fun vs H Q _ => ∃ (W : Wd) (ds : List D) (s : Store), W.H = H ∧ SRep K W s ∧ RepL K W ds vs ∧ ds.length = n ∧ Post K noEX W (m ds s) (Want K Q)
theorem fn_d0 {x : Str} {st : Stmt} {f : Addr} {fd : FuncData} {N ps : List Str} {k n nl : Nat} {T : List Ent} {B : List Str} {m : MS} {h : Hn} {tn sn : Nat} (ok : TOk P w K mg base k T) (F : FunD K x x (defArgs st) (defBody st) (defScope st) [] [] f fd) (hf : ∀ x ∈ B, mg x = none) (S : scB N ps (defScope st) = true) (hn : ps.length = n) (hl : N.length = nl)
    (htr : ((trS (tr tn) sn).Ss ⟨N, defScope st, fun _ => true, T, B, k⟩ h (defBody st)).map (·.1) = some m) : FnOk P w K mg base CX0 (k + 1) f fd ps (Spec0 K n (mFn nl m)) := by
  subst hl
  have S := scB_ok S
  cases ht : (trS (tr tn) sn).Ss ⟨N, defScope st, fun _ => true, T, B, k⟩ h (defBody st) with
  | none => rw [ht] at htr; cases htr
  | some q =>
    rw [ht] at htr
    have hm : q.1 = m := by simpa using htr
    subst hm
    refine F.ok S (fun vs H Q E hsp => ?_) (fun cdv A outer s H vs Q E hr hsp => ?_)
    · obtain ⟨W, ds, s, _, _, r, hl, _⟩ := hsp
      rw [hn, ← hl, r.len]
    · obtain ⟨W, ds, s0, rfl, sr, r, hl, pp⟩ := hsp
      have okc : SOk (cxOf CX0 P w K mg base N x (defScope st) f cdv A outer s W.H E) noEX ⟨N, defScope st, fun _ => true, T, B, k⟩ :=
        { calm := rfl, n := rfl, nd := S.nd, sc := rfl, kf := S.kind, room := hr, pass := passL, fn := fun _ _ => rfl, ents := ok, free := hf, hp := passes_of rfl }
      obtain ⟨t, pt, qt⟩ := q.2 _ _ okc
      refine ⟨t, pt, qt W W (startE N.length ds) (L2.start N vs) s0 _ (Grow.refl W) (sat_start r) sr ?_⟩
      have pp : Post K noEX W (endD (q.1 (startE N.length ds) s0)) (Want K Q) := pp
      revert pp
      cases q.1 (startE N.length ds) s0 with
      | ok o s1 =>
        cases o with
        | nx Γ => exact fun pp W' g _ sr' σ _ => pp W' g sr' _ .non
        | rt d => exact fun pp W' g _ sr' v r => pp W' g sr' v r
        | _ => exact fun pp => pp.elim
      | er e s1 => exact fun pp W' c d g sr' q => pp W' c d g sr' q
      | bad => exact id
theorem law_sp {m : List D → Store → R D} (hm : ∀ ns : List Int, ns.length ≤ 63 → ∃ s, m [.scr ns] [] = .ok (.bl true) s) {H : Hp} {a : Addr} {ns : List Int} (hl : ns.length ≤ 63) (hS : SqL K H a (ns.map V.int)) : Spec0 K 1 m [.ref a] H (fun v _ => v = .bl true) fun _ _ _ => False := by
  obtain ⟨s, e⟩ := hm ns hl
  refine ⟨⟨H, H, [], fun _ _ h => h⟩, [.scr ns], [], rfl, ⟨rfl, List.nodup_nil, fun i a c h => by simp at h⟩, .cons (.scr hS) .nil, rfl, ?_⟩
  rw [e]
  intro W' g sr v r
  cases r
  rfl
end
end PD
set_option maxRecDepth 100000
set_option maxHeartbeats 0
namespace PD
open PySem PySem.Spec PyProof.Rows L2
def w_WORDS : List Str := ["atleast", "more", "same"]
def d_WORDS : D := .tup (w_WORDS.map .str)
def d_LARGEST : D := .int 1000000000000
def b_divisor : MS :=
  (mSeq (mAsg 1 (mSd (mCon (.int 0))))
  (mSeq (mFor (mItems (mVar 0)) (.nm 2) (mSeq (mPar [3, 4] (mRcons (mSd (mVar 1)) (mRcons (mSd (mBlt fAbs (mCons (mPeek 2) mNil))) mRnil)))
  (mSeq (mWhile (mTest (mOp fGt (mPeek 4) (mCon (.int 0)))) (mPar [3, 4] (mRcons (mSd (mVar 4)) (mRcons (mSd (mOp fMod (mPeek 3) (mPeek 4))) mRnil))) wfuel)
  (mAsg 1 (mSd (mVar 3))))))
  (mRet (mIte (mTest (mOp fGt (mPeek 1) (mCon (.int 0)))) (mVar 1) (mCon (.int 1))))))
def m_divisor := mFn 5 b_divisor
def b_lowest : MS :=
  (mSeq (mAsg 2 (mSd (mCall 1 m_divisor (mCons (mLst (mCons (mVar 0) (mCons (mVar 1) mNil))) mNil))))
  (mSeq (mAsg 2 (mSd (mIte (mTest (mOp fGt (mPeek 1) (mCon (.int 0)))) (mVar 2) (mOp1 fNeg (mPeek 2)))))
  (mRet (mTup (mCons (mOp fDiv (mPeek 0) (mPeek 2)) (mCons (mOp fDiv (mPeek 1) (mPeek 2)) mNil))))))
def m_lowest := mFn 3 b_lowest
def b_neat : MS :=
  (mSeq (mAsg 1 (mSd (mCall 1 m_divisor (mCons (mVar 0) mNil))))
  (mRet (mFrz (mLcL (mItems (mVar 0)) (.nm 2) mYes (mOp fDiv (mPeek 2) (mPeek 1)) [2]))))
def m_neat := mFn 3 b_neat
def b_table_of : MS :=
  (mSeq (mPar [1, 2] (mRcons (mSd (mBlt fLen (mCons (mPeek 0) mNil))) (mRcons (mSd (mLst mNil)) mRnil)))
  (mSeq (mFor (mRng fEnum (mCons (mVar 0) mNil)) (.tp [(.nm 3), (.nm 4)]) (mSeq (mUnp (.tp [(.nm 5), (.nm 6)]) (mVar 4))
  (mSeq (mAsg 7 (mSd (mFrz (mLcL (mRng fRng1 (mCons (mVar 1) mNil)) (.nm 8) mYes (mIte (mTest (mOp fEq (mPeek 8) (mPeek 3))) (mCon (.int 1)) (mCon (.int 0))) [8]))))
  (mAsg 2 (mSd (mOp fAdd (mPeek 2) (mLst (mCons (mOp fAdd (mOp fAdd (mPeek 5) (mPeek 7)) (mLst (mCons (mVar 6) mNil))) mNil))))))))
  (mRetV 2)))
def m_table_of := mFn 9 b_table_of
def b_cleared : MS :=
  (mSeq (mIf (mTest (mOp fEq (mIx (mPeek 0) (mVar 2)) (mCon (.int 0)))) (mRetV 0) mNext)
  (mRet (mCall 1 m_neat (mCons (mFrz (mLcL (mRng fZip (mCons (mVar 0) (mCons (mVar 1) mNil))) (.tp [(.nm 3), (.nm 4)]) mYes (mOp fSub (mOp fMul (mPeek 3) (mIx (mPeek 1) (mVar 2))) (mOp fMul (mPeek 4) (mIx (mPeek 0) (mVar 2)))) [3, 4])) mNil))))
def m_cleared := mFn 5 b_cleared
def b_leaving : MS :=
  (mSeq (mAsg 3 (mSd (mCon .non)))
  (mSeq (mFor (mRng fEnum (mCons (mVar 0) mNil)) (.tp [(.nm 4), (.nm 5)]) (mIf (mTest (mOp fGt (mIx (mPeek 5) (mVar 2)) (mCon (.int 0)))) (mIf (mTest (mOp fIs (mPeek 3) (mCon .non))) (mAsg 3 (mSd (mVar 4))) (mSeq (mPar [6, 7] (mRcons (mSd (mOp fMul (mIx (mPeek 5) (mOp1 fNeg (mCon (.int 1)))) (mIx (mIx (mPeek 0) (mVar 3)) (mVar 2)))) (mRcons (mSd (mOp fMul (mIx (mIx (mPeek 0) (mVar 3)) (mOp1 fNeg (mCon (.int 1)))) (mIx (mPeek 5) (mVar 2)))) mRnil)))
  (mIf (mOrT (mTest (mOp fLt (mPeek 6) (mPeek 7))) (mAndT (mTest (mOp fEq (mPeek 6) (mPeek 7))) (mTest (mOp fLt (mIx (mPeek 1) (mVar 4)) (mIx (mPeek 1) (mVar 3)))))) (mAsg 3 (mSd (mVar 4))) mNext))) mNext))
  (mRetV 3)))
def m_leaving := mFn 8 b_leaving
def b_numbers_of : MS :=
  (mSeq (mAsg 3 (mSd (mCon (.int 1))))
  (mSeq (mFor (mRng fZip (mCons (mVar 0) (mCons (mVar 1) mNil))) (.tp [(.nm 4), (.nm 5)]) (mAsg 3 (mSd (mOp fMul (mPeek 3) (mOp fDiv (mIx (mPeek 4) (mVar 5)) (mCall 1 m_divisor (mCons (mLst (mCons (mVar 3) (mCons (mIx (mPeek 4) (mVar 5)) mNil))) mNil)))))))
  (mSeq (mAsg 6 (mSd (mBlt fDict (mCons (mFrz (mLcL (mRng fZip (mCons (mVar 0) (mCons (mVar 1) mNil))) (.tp [(.nm 4), (.nm 5)]) mYes (mTup (mCons (mVar 5) (mCons (mOp fMul (mIx (mPeek 4) (mOp1 fNeg (mCon (.int 1)))) (mOp fDiv (mPeek 3) (mIx (mPeek 4) (mVar 5)))) mNil))) [4, 5])) mNil))))
  (mRet (mTup (mCons (mFrz (mLcL (mRng fRng1 (mCons (mVar 2) mNil)) (.nm 5) mYes (mDGet (mVar 6) (mVar 5) (mCon (.int 0))) [5])) (mCons (mVar 3) mNil)))))))
def m_numbers_of := mFn 7 b_numbers_of
def b_greatest : MS :=
  (mSeq (mPar [3, 4] (mRcons (mSd (mBlt fLen (mCons (mPeek 1) mNil))) (mRcons (mSd (mCall 1 m_table_of (mCons (mVar 0) mNil))) mRnil)))
  (mSeq (mAsg 5 (mSd (mFrz (mLcL (mRng fRng1 (mCons (mBlt fLen (mCons (mPeek 4) mNil)) mNil)) (.nm 6) mYes (mOp fAdd (mPeek 3) (mPeek 6)) [6]))))
  (mSeq (mAsg 1 (mSd (mOp fAdd (mPeek 1) (mOp fMul (mLst (mCons (mCon (.int 0)) mNil)) (mOp fAdd (mBlt fLen (mCons (mPeek 4) mNil)) (mCon (.int 1)))))))
  (mWhile (mTest (mCon (.bl true))) (mSeq (mAsg 7 (mSd (mFrz (mLcL (mRng fRng1 (mCons (mOp fSub (mBlt fLen (mCons (mPeek 1) mNil)) (mCon (.int 1))) mNil)) (.nm 6) (mTest (mOp fGt (mIx (mPeek 1) (mVar 6)) (mCon (.int 0)))) (mVar 6) [6]))))
  (mSeq (mIf (mOrT (mTest (mOp fEq (mPeek 7) (mLst mNil))) (mAndT (mTest (mOp fNotIs (mPeek 2) (mCon .non))) (mTest (mOp fLt (mIx (mPeek 1) (mOp1 fNeg (mCon (.int 1)))) (mCon (.int 0)))))) (mRet (mCall 3 m_numbers_of (mCons (mVar 4) (mCons (mVar 5) (mCons (mVar 3) mNil))))) mNext)
  (mSeq (mAsg 8 (mSd (mCall 3 m_leaving (mCons (mVar 4) (mCons (mVar 5) (mCons (mIx (mPeek 7) (mCon (.int 0))) mNil))))))
  (mSeq (mAsg 9 (mSd (mIx (mPeek 4) (mVar 8))))
  (mSeq (mAsg 4 (mSd (mFrz (mLcL (mRng fEnum (mCons (mVar 4) mNil)) (.tp [(.nm 10), (.nm 11)]) mYes (mIte (mTest (mOp fEq (mPeek 10) (mPeek 8))) (mVar 9) (mCall 3 m_cleared (mCons (mVar 11) (mCons (mVar 9) (mCons (mIx (mPeek 7) (mCon (.int 0))) mNil))))) [10, 11]))))
  (mSeq (mAsg 1 (mSd (mCall 3 m_cleared (mCons (mVar 1) (mCons (mVar 9) (mCons (mIx (mPeek 7) (mCon (.int 0))) mNil))))))
  (mAsg 5 (mSd (mOp fAdd (mOp fAdd (mSl (mPeek 5) mNoPart (mPart (mVar 8))) (mLst (mCons (mIx (mPeek 7) (mCon (.int 0))) mNil))) (mSl (mPeek 5) (mPart (mOp fAdd (mPeek 8) (mCon (.int 1)))) mNoPart)))))))))) wfuel))))
def m_greatest := mFn 12 b_greatest
def b_solution : MS :=
  (mSeq (mAsg 2 (mSd (mFrz (mLcL (mItems (mVar 0)) (.tp [(.nm 4), (.nm 5)]) mYes (mTup (mCons (mOp fAdd (mFrz (mLcL (mItems (mVar 4)) (.nm 3) mYes (mOp1 fNeg (mPeek 3)) [3])) (mLst (mCons (mIte (mTest (mVar 5)) (mCon (.int 1)) (mCon (.int 0))) mNil))) (mCons (mCon (.int 0)) mNil))) [4, 5]))))
  (mSeq (mAsg 2 (mSd (mOp fAdd (mPeek 2) (mLst (mCons (mTup (mCons (mOp fAdd (mOp fMul (mLst (mCons (mCon (.int 0)) mNil)) (mPeek 1)) (mLst (mCons (mOp1 fNeg (mCon (.int 1))) (mCons (mCon (.int 1)) mNil)))) (mCons (mCon (.int 0)) mNil))) (mCons (mTup (mCons (mOp fAdd (mOp fMul (mLst (mCons (mCon (.int 1)) mNil)) (mOp fAdd (mPeek 1) (mCon (.int 1)))) (mLst (mCons (mCon (.int 0)) mNil))) (mCons (mCon (.int 1)) mNil))) mNil))))))
  (mSeq (mUnp (.tp [(.nm 6), (.nm 7)]) (mCall 3 m_greatest (mCons (mVar 2) (mCons (mOp fAdd (mOp fMul (mLst (mCons (mCon (.int 0)) mNil)) (mOp fAdd (mPeek 1) (mCon (.int 1)))) (mLst (mCons (mCon (.int 1)) mNil))) (mCons (mOp fAdd (mPeek 1) (mCon (.int 1))) mNil)))))
  (mSeq (mIf (mTest (mOp fEq (mIx (mPeek 6) (mOp fAdd (mPeek 1) (mCon (.int 1)))) (mCon (.int 0)))) (mRet (mCon .non)) mNext)
  (mRet (mFrz (mLcL (mItems (mSl (mPeek 6) mNoPart (mPart (mVar 1)))) (.nm 8) mYes (mCall 2 m_lowest (mCons (mVar 8) (mCons (mIx (mPeek 6) (mVar 1)) mNil))) [8])))))))
def m_solution := mFn 9 b_solution
def b_is_number : MS :=
  (mRet (mAndV (mOp1 (fIsi "int") (mPeek 0)) (mAndV (mNotV (mOp1 (fIsi "bool") (mPeek 0))) (mChain fLe fLe (mPeek 1) (mPeek 0) (mPeek 2)))))
def m_is_number := mFn 3 b_is_number
def b_is_tuple : MS :=
  (mRet (mAndV (mOp1 (fIsi "tuple") (mPeek 0)) (mChain fLe fLe (mPeek 1) (mBlt fLen (mCons (mPeek 0) mNil)) (mPeek 2))))
def m_is_tuple := mFn 3 b_is_tuple
def b_is_amount : MS :=
  (mSeq (mIf (mOrT (mNotT (mTest (mCall 3 m_is_tuple (mCons (mVar 0) (mCons (mCon (.int 2)) (mCons (mCon (.int 2)) mNil)))))) (mOrT (mNotT (mTest (mCall 3 m_is_number (mCons (mIx (mPeek 0) (mCon (.int 0))) (mCons (mCon (.int 0)) (mCons (mVar 1) mNil)))))) (mNotT (mTest (mCall 3 m_is_number (mCons (mIx (mPeek 0) (mCon (.int 1))) (mCons (mCon (.int 1)) (mCons (mVar 1) mNil)))))))) (mRet (mCon (.bl false))) mNext)
  (mRet (mOp fEq (mCall 1 m_divisor (mCons (mVar 0) mNil)) (mCon (.int 1)))))
def m_is_amount := mFn 2 b_is_amount
def b_is_lot : MS :=
  (mSeq (mIf (mOrT (mNotT (mTest (mCall 3 m_is_tuple (mCons (mVar 0) (mCons (mCon (.int 0)) (mCons (mVar 1) mNil)))))) (mNotT (mTest (mBlt fAll (mCons (mFrz (mLcL (mItems (mVar 0)) (.nm 2) mYes (mCall 3 m_is_number (mCons (mVar 2) (mCons (mCon (.int 0)) (mCons (mOp fSub (mPeek 1) (mCon (.int 1))) mNil)))) [2])) mNil))))) (mRet (mCon (.bl false))) mNext)
  (mRet (mBlt fAll (mCons (mFrz (mLcL (mRng fZip (mCons (mVar 0) (mCons (mSl (mPeek 0) (mPart (mCon (.int 1))) mNoPart) mNil))) (.tp [(.nm 2), (.nm 3)]) mYes (mOp fLt (mPeek 2) (mPeek 3)) [2, 3])) mNil))))
def m_is_lot := mFn 4 b_is_lot
def b_is_row : MS :=
  (mRet (mAndV (mCall 3 m_is_tuple (mCons (mVar 0) (mCons (mVar 1) (mCons (mVar 1) mNil)))) (mBlt fAll (mCons (mFrz (mLcL (mItems (mVar 0)) (.nm 2) mYes (mCall 3 m_is_number (mCons (mVar 2) (mCons (mCon (.int 0)) (mCons (mCon (.int 12)) mNil)))) [2])) mNil))))
def m_is_row := mFn 3 b_is_row
def b_are_good_debts : MS :=
  (mSeq (mIf (mOrT (mNotT (mTest (mCall 3 m_is_tuple (mCons (mVar 0) (mCons (mCon (.int 2)) (mCons (mCon (.int 4)) mNil)))))) (mNotT (mTest (mBlt fAll (mCons (mFrz (mLcL (mItems (mVar 0)) (.nm 1) mYes (mCall 2 m_is_row (mCons (mVar 1) (mCons (mBlt fLen (mCons (mPeek 0) mNil)) mNil))) [1])) mNil))))) (mRet (mCon (.bl false))) mNext)
  (mRet (mBlt fAll (mCons (mFrz (mLcL (mRng fEnum (mCons (mVar 0) mNil)) (.tp [(.nm 2), (.nm 1)]) mYes (mOp fEq (mIx (mPeek 1) (mVar 2)) (mCon (.int 0))) [2, 1])) mNil))))
def m_are_good_debts := mFn 3 b_are_good_debts
def b_is_fact : MS :=
  (mSeq (mAsg 2 (mSd (mBlt fLen (mCons (mPeek 0) mNil))))
  (mSeq (mIf (mOrT (mNotT (mTest (mCall 3 m_is_tuple (mCons (mVar 1) (mCons (mCon (.int 4)) (mCons (mCon (.int 4)) mNil)))))) (mOrT (mNotT (mTest (mOp1 (fIsi "str") (mIx (mPeek 1) (mCon (.int 0)))))) (mTest (mOp fNotIn (mIx (mPeek 1) (mCon (.int 0))) (mCon d_WORDS))))) (mRet (mCon (.bl false))) mNext)
  (mRet (mAndV (mCall 2 m_is_lot (mCons (mIx (mPeek 1) (mCon (.int 1))) (mCons (mVar 2) mNil))) (mAndV (mCall 2 m_is_lot (mCons (mIx (mPeek 1) (mCon (.int 2))) (mCons (mVar 2) mNil))) (mCall 3 m_is_number (mCons (mIx (mPeek 1) (mCon (.int 3))) (mCons (mOp1 fNeg (mCon (.int 60))) (mCons (mCon (.int 60)) mNil)))))))))
def m_is_fact := mFn 3 b_is_fact
def b_are_good_facts : MS :=
  (mRet (mAndV (mCall 3 m_is_tuple (mCons (mVar 1) (mCons (mCon (.int 0)) (mCons (mCon (.int 5)) mNil)))) (mBlt fAll (mCons (mFrz (mLcL (mItems (mVar 1)) (.nm 2) mYes (mCall 2 m_is_fact (mCons (mVar 0) (mCons (mVar 2) mNil))) [2])) mNil))))
def m_are_good_facts := mFn 3 b_are_good_facts
def b_are_good_amounts : MS :=
  (mSeq (mAsg 2 (mSd (mBlt fLen (mCons (mPeek 0) mNil))))
  (mRet (mAndV (mCall 3 m_is_tuple (mCons (mVar 1) (mCons (mVar 2) (mCons (mVar 2) mNil)))) (mBlt fAll (mCons (mFrz (mLcL (mItems (mVar 1)) (.nm 3) mYes (mCall 2 m_is_amount (mCons (mVar 3) (mCons (mCon d_LARGEST) mNil))) [3])) mNil)))))
def m_are_good_amounts := mFn 4 b_are_good_amounts
def b_fact_line : MS :=
  (mSeq (mAsg 2 (mSd (mLst mNil)))
  (mSeq (mFor (mRng fRng1 (mCons (mBlt fLen (mCons (mPeek 0) mNil)) mNil)) (.nm 3) (mAsg 2 (mSd (mOp fAdd (mPeek 2) (mLst (mCons (mOp fSub (mIte (mTest (mOp fIn (mPeek 3) (mIx (mPeek 1) (mCon (.int 1))))) (mCon (.int 1)) (mCon (.int 0))) (mIte (mTest (mOp fIn (mPeek 3) (mIx (mPeek 1) (mCon (.int 2))))) (mCon (.int 1)) (mCon (.int 0)))) mNil))))))
  (mRet (mOp fAdd (mBlt fTuple (mCons (mPeek 2) mNil)) (mTup (mCons (mOp1 fNeg (mIx (mPeek 1) (mCon (.int 3)))) mNil))))))
def m_fact_line := mFn 4 b_fact_line
def b_opposite : MS :=
  (mRet (mBlt fTuple (mCons (mFrz (mLcL (mItems (mVar 0)) (.nm 1) mYes (mOp1 fNeg (mPeek 1)) [1])) mNil)))
def m_opposite := mFn 2 b_opposite
def b_fact_rows : MS :=
  (mSeq (mAsg 2 (mSd (mLst mNil)))
  (mSeq (mFor (mItems (mVar 1)) (.nm 3) (mSeq (mAsg 4 (mSd (mCall 2 m_fact_line (mCons (mVar 0) (mCons (mVar 3) mNil)))))
  (mSeq (mAsg 2 (mSd (mOp fAdd (mPeek 2) (mLst (mCons (mTup (mCons (mVar 4) (mCons (mOp fEq (mIx (mPeek 3) (mCon (.int 0))) (mCon (.str "more"))) mNil))) mNil)))))
  (mIf (mTest (mOp fEq (mIx (mPeek 3) (mCon (.int 0))) (mCon (.str "same")))) (mAsg 2 (mSd (mOp fAdd (mPeek 2) (mLst (mCons (mTup (mCons (mCall 1 m_opposite (mCons (mVar 4) mNil)) (mCons (mCon (.bl false)) mNil))) mNil))))) mNext))))
  (mRetV 2)))
def m_fact_rows := mFn 5 b_fact_rows
def b_summed : MS :=
  (mSeq (mPar [2, 3] (mRcons (mSd (mIx (mPeek 0) (mOp1 fNeg (mCon (.int 1))))) (mRcons (mSd (mCon (.int 1))) mRnil)))
  (mSeq (mFor (mRng fZip (mCons (mVar 0) (mCons (mVar 1) mNil))) (.tp [(.nm 4), (.tp [(.nm 5), (.nm 6)])]) (mPar [2, 3] (mRcons (mSd (mOp fAdd (mOp fMul (mPeek 2) (mPeek 6)) (mOp fMul (mOp fMul (mPeek 4) (mPeek 5)) (mPeek 3)))) (mRcons (mSd (mOp fMul (mPeek 3) (mPeek 6))) mRnil))))
  (mRet (mTup (mCons (mVar 2) (mCons (mVar 3) mNil))))))
def m_summed := mFn 7 b_summed
def b_is_so : MS :=
  (mSeq (mAsg 3 (mSd (mIx (mCall 2 m_summed (mCons (mCall 2 m_fact_line (mCons (mVar 0) (mCons (mVar 1) mNil))) (mCons (mVar 2) mNil))) (mCon (.int 0)))))
  (mSeq (mIf (mTest (mOp fEq (mIx (mPeek 1) (mCon (.int 0))) (mCon (.str "same")))) (mRet (mOp fEq (mPeek 3) (mCon (.int 0)))) mNext)
  (mRet (mIte (mTest (mOp fEq (mIx (mPeek 1) (mCon (.int 0))) (mCon (.str "more")))) (mOp fGt (mPeek 3) (mCon (.int 0))) (mOp fGe (mPeek 3) (mCon (.int 0)))))))
def m_is_so := mFn 4 b_is_so
def b_some_amounts : MS :=
  (mSeq (mAsg 3 (mSd (mCall 2 m_solution (mCons (mOp fAdd (mCall 2 m_fact_rows (mCons (mVar 0) (mCons (mVar 1) mNil))) (mPeek 2)) (mCons (mBlt fLen (mCons (mPeek 0) mNil)) mNil)))))
  (mRet (mIte (mTest (mOp fIs (mPeek 3) (mCon .non))) (mCon .non) (mBlt fTuple (mCons (mPeek 3) mNil)))))
def m_some_amounts := mFn 4 b_some_amounts
def b_need_debts : MS :=
  (mIf (mNotT (mTest (mCall 1 m_are_good_debts (mCons (mVar 0) mNil)))) mBad mNext)
def m_need_debts := mFn 1 b_need_debts
def b_need_facts : MS :=
  (mIf (mNotT (mTest (mCall 2 m_are_good_facts (mCons (mVar 0) (mCons (mVar 1) mNil))))) mBad mNext)
def m_need_facts := mFn 2 b_need_facts
def b_need_amounts : MS :=
  (mIf (mNotT (mTest (mCall 2 m_are_good_amounts (mCons (mVar 0) (mCons (mVar 1) mNil))))) mBad mNext)
def m_need_amounts := mFn 2 b_need_amounts
def b_need_asked : MS :=
  (mSeq (mDrop (mCall 1 m_need_debts (mCons (mVar 0) mNil)))
  (mDrop (mCall 2 m_need_facts (mCons (mVar 0) (mCons (mVar 1) mNil)))))
def m_need_asked := mFn 2 b_need_asked
def b_is_debts : MS :=
  (mRet (mCall 1 m_are_good_debts (mCons (mVar 0) mNil)))
def m_is_debts := mFn 1 b_is_debts
def b_are_facts : MS :=
  (mSeq (mDrop (mCall 1 m_need_debts (mCons (mVar 0) mNil)))
  (mRet (mCall 2 m_are_good_facts (mCons (mVar 0) (mCons (mVar 1) mNil)))))
def m_are_facts := mFn 2 b_are_facts
def b_are_amounts : MS :=
  (mSeq (mDrop (mCall 1 m_need_debts (mCons (mVar 0) mNil)))
  (mRet (mCall 2 m_are_good_amounts (mCons (mVar 0) (mCons (mVar 1) mNil)))))
def m_are_amounts := mFn 2 b_are_amounts
def b_keeps : MS :=
  (mSeq (mDrop (mCall 2 m_need_asked (mCons (mVar 0) (mCons (mVar 1) mNil))))
  (mSeq (mDrop (mCall 2 m_need_amounts (mCons (mVar 0) (mCons (mVar 2) mNil))))
  (mRet (mBlt fAll (mCons (mFrz (mLcL (mItems (mVar 1)) (.nm 3) mYes (mCall 3 m_is_so (mCons (mVar 0) (mCons (mVar 3) (mCons (mVar 2) mNil)))) [3])) mNil)))))
def m_keeps := mFn 4 b_keeps
def b_possible : MS :=
  (mSeq (mDrop (mCall 2 m_need_asked (mCons (mVar 0) (mCons (mVar 1) mNil))))
  (mRet (mOp fNotIs (mCall 3 m_some_amounts (mCons (mVar 0) (mCons (mVar 1) (mCons (mLst mNil) mNil)))) (mCon .non))))
def m_possible := mFn 2 b_possible
def b__law_source : MS :=
  (mSeq (mAsg 2 (mSd (mCon (.int 0))))
  (mSeq (mIf (mTest (mOp fLt (mPeek 1) (mBlt fLen (mCons (mPeek 0) mNil)))) (mAsg 2 (mSd (mBlt fAbs (mCons (mBlt fInt (mCons (mIx (mPeek 0) (mVar 1)) mNil)) mNil)))) mNext)
  (mSeq (mIf (mTest (mOp fLt (mPeek 2) (mOp fPow (mCon (.int 10)) (mCon (.int 18))))) (mRetO (mLstO (mCons (mCon (.int 0)) (mCons (mOp fAdd (mCon (.int 1)) (mOp fMod (mBlt fInt (mCons (mOp fAdd (mOp fMul (mPeek 2) (mCon (.int 7919))) (mOp fMul (mCon (.int 104729)) (mPeek 1))) mNil)) (mCon (.int 2147483646)))) mNil)))) mNext)
  (mRetO (mLstO (mCons (mVar 2) (mCons (mOp fAdd (mCon (.int 1)) (mOp fMod (mBlt fInt (mCons (mOp fAdd (mPeek 2) (mPeek 1)) mNil)) (mCon (.int 2147483646)))) mNil)))))))
def m__law_source := mFnO 3 b__law_source
def b__law_draw : MS :=
  (mSeq (mIf (mTest (mOp fGt (mIx (mPeek 0) (mCon (.int 0))) (mCon (.int 0)))) (mSeq (mAsg 2 (mSd (mOp fMod (mBlt fInt (mCons (mIx (mPeek 0) (mCon (.int 0))) mNil)) (mPeek 1))))
  (mSeq (mSetC (mVar 0) (mCon (.int 0)) (mOp fDiv (mIx (mPeek 0) (mCon (.int 0))) (mPeek 1)))
  (mRetV 2))) mNext)
  (mSeq (mSetC (mVar 0) (mCon (.int 1)) (mOp fMod (mBlt fInt (mCons (mOp fMul (mIx (mPeek 0) (mCon (.int 1))) (mCon (.int 48271))) mNil)) (mCon (.int 2147483647))))
  (mRet (mOp fMod (mBlt fInt (mCons (mOp fDiv (mOp fMod (mBlt fInt (mCons (mOp fMul (mIx (mPeek 0) (mCon (.int 1))) (mIx (mPeek 0) (mCon (.int 1)))) mNil)) (mCon (.int 2147483629))) (mCon (.int 64))) mNil)) (mPeek 1)))))
def m__law_draw := mFn 3 b__law_draw
def b__law_of : MS :=
  (mRet (mIx (mPeek 1) (mCall 2 m__law_draw (mCons (mVar 0) (mCons (mBlt fLen (mCons (mPeek 1) mNil)) mNil)))))
def m__law_of := mFn 2 b__law_of
def b__law_part : MS :=
  (mSeq (mAsg 1 (mSd (mCon (.int 0))))
  (mSeq (mFor (mItems (mVar 0)) (.nm 2) (mSeq (mPar [3, 4] (mRcons (mSd (mVar 1)) (mRcons (mSd (mBlt fAbs (mCons (mPeek 2) mNil))) mRnil)))
  (mSeq (mWhile (mTest (mOp fGt (mPeek 4) (mCon (.int 0)))) (mPar [3, 4] (mRcons (mSd (mVar 4)) (mRcons (mSd (mOp fMod (mPeek 3) (mPeek 4))) mRnil))) wfuel)
  (mAsg 1 (mSd (mVar 3))))))
  (mRet (mBlt fMax (mCons (mCon (.int 1)) (mCons (mPeek 1) mNil))))))
def m__law_part := mFn 5 b__law_part
def b__law_unit : MS :=
  (mRet (mFrz (mLcL (mRng fRng1 (mCons (mVar 0) mNil)) (.nm 2) mYes (mIte (mTest (mOp fEq (mPeek 2) (mPeek 1))) (mCon (.int 1)) (mCon (.int 0))) [2])))
def m__law_unit := mFn 3 b__law_unit
def b__law_clear : MS :=
  (mSeq (mPar [3, 4] (mRcons (mSd (mFrz (mLcL (mRng fZip (mCons (mVar 0) (mCons (mVar 1) mNil))) (.tp [(.nm 5), (.nm 6)]) mYes (mOp fSub (mOp fMul (mIx (mPeek 1) (mVar 2)) (mPeek 5)) (mOp fMul (mIx (mPeek 0) (mVar 2)) (mPeek 6))) [5, 6]))) (mRcons (mSd (mCon (.int 0))) mRnil)))
  (mSeq (mFor (mItems (mVar 3)) (.nm 7) (mSeq (mPar [5, 6] (mRcons (mSd (mVar 4)) (mRcons (mSd (mBlt fAbs (mCons (mPeek 7) mNil))) mRnil)))
  (mSeq (mWhile (mTest (mOp fGt (mPeek 6) (mCon (.int 0)))) (mPar [5, 6] (mRcons (mSd (mVar 6)) (mRcons (mSd (mOp fMod (mPeek 5) (mPeek 6))) mRnil))) wfuel)
  (mAsg 4 (mSd (mVar 5))))))
  (mRet (mFrz (mLcL (mItems (mVar 3)) (.nm 7) mYes (mOp fDiv (mPeek 7) (mBlt fMax (mCons (mCon (.int 1)) (mCons (mPeek 4) mNil)))) [7])))))
def m__law_clear := mFn 8 b__law_clear
def b__law_out : MS :=
  (mSeq (mAsg 3 (mSd (mCon .non)))
  (mSeq (mFor (mRng fEnum (mCons (mVar 0) mNil)) (.tp [(.nm 4), (.nm 5)]) (mIf (mAndT (mTest (mOp fGt (mIx (mPeek 5) (mVar 2)) (mCon (.int 0)))) (mTest (mOp fIs (mPeek 3) (mCon .non)))) (mAsg 3 (mSd (mVar 4))) (mIf (mTest (mOp fGt (mIx (mPeek 5) (mVar 2)) (mCon (.int 0)))) (mSeq (mAsg 6 (mSd (mOp fMul (mIx (mPeek 5) (mOp1 fNeg (mCon (.int 1)))) (mIx (mIx (mPeek 0) (mVar 3)) (mVar 2)))))
  (mSeq (mAsg 7 (mSd (mOp fSub (mPeek 6) (mOp fMul (mIx (mIx (mPeek 0) (mVar 3)) (mOp1 fNeg (mCon (.int 1)))) (mIx (mPeek 5) (mVar 2))))))
  (mIf (mOrT (mTest (mOp fLt (mPeek 7) (mCon (.int 0)))) (mAndT (mTest (mOp fEq (mPeek 7) (mCon (.int 0)))) (mTest (mOp fLt (mIx (mPeek 1) (mVar 4)) (mIx (mPeek 1) (mVar 3)))))) (mAsg 3 (mSd (mVar 4))) mNext))) mNext)))
  (mRetV 3)))
def m__law_out := mFn 8 b__law_out
def b__law_can : MS :=
  (mSeq (mAsg 2 (mSd (mFrz (mLcL (mItems (mVar 0)) (.tp [(.nm 4), (.nm 5)]) mYes (mOp fAdd (mFrz (mLcL (mItems (mVar 4)) (.nm 3) mYes (mOp1 fNeg (mPeek 3)) [3])) (mLst (mCons (mBlt fInt (mCons (mPeek 5) mNil)) mNil))) [4, 5]))))
  (mSeq (mAsg 2 (mSd (mOp fAdd (mPeek 2) (mLst (mCons (mOp fAdd (mOp fMul (mLst (mCons (mCon (.int 0)) mNil)) (mPeek 1)) (mLst (mCons (mOp1 fNeg (mCon (.int 1))) (mCons (mCon (.int 1)) mNil)))) (mCons (mOp fAdd (mOp fMul (mLst (mCons (mCon (.int 1)) mNil)) (mOp fAdd (mPeek 1) (mCon (.int 1)))) (mLst (mCons (mCon (.int 0)) mNil))) mNil))))))
  (mSeq (mPar [6, 7] (mRcons (mSd (mBlt fLen (mCons (mPeek 2) mNil))) (mRcons (mSo (mLstO mNil)) mRnil)))
  (mSeq (mFor (mRng fEnum (mCons (mVar 2) mNil)) (.tp [(.nm 8), (.nm 4)]) (mApp 7 (mOp fAdd (mOp fAdd (mPeek 4) (mCall 2 m__law_unit (mCons (mVar 6) (mCons (mVar 8) mNil)))) (mLst (mCons (mBlt fInt (mCons (mOp fEq (mPeek 8) (mOp fSub (mPeek 6) (mCon (.int 1)))) mNil)) mNil)))))
  (mSeq (mGhost 7 (mCell 9 (mLR (mCons (mOp fAdd (mPeek 1) (mCon (.int 2))) (mCons (mOp fAdd (mOp fAdd (mPeek 1) (mCon (.int 2))) (mPeek 6)) mNil)))))
  (mSeq (mAsg 10 (mSd (mOp fAdd (mOp fAdd (mOp fMul (mLst (mCons (mCon (.int 0)) mNil)) (mOp fAdd (mPeek 1) (mCon (.int 1)))) (mLst (mCons (mCon (.int 1)) mNil))) (mOp fMul (mLst (mCons (mCon (.int 0)) mNil)) (mOp fAdd (mPeek 6) (mCon (.int 1)))))))
  (mSeq (mWhile (mTest (mOp fEq (mIx (mPeek 10) (mOp1 fNeg (mCon (.int 1)))) (mCon (.int 0)))) (mSeq (mAsg 11 (mSd (mFrz (mLcL (mRng fRng1 (mCons (mOp fSub (mBlt fLen (mCons (mPeek 10) mNil)) (mCon (.int 1))) mNil)) (.nm 8) (mTest (mOp fGt (mIx (mPeek 10) (mVar 8)) (mCon (.int 0)))) (mVar 8) [8]))))
  (mSeq (mIf (mTest (mOp fEq (mPeek 11) (mLst mNil))) (mRet (mCon (.bl false))) mNext)
  (mSeq (mAsg 12 (mSd (mIx (mPeek 11) (mCon (.int 0)))))
  (mSeq (mAsg 13 (mSd (mCall 3 m__law_out (mCons (mVar 7) (mCons (mVar 9) (mCons (mVar 12) mNil))))))
  (mSeq (mPar [14, 15] (mRcons (mSd (mIx (mPeek 7) (mVar 13))) (mRcons (mSo (mLstO mNil)) mRnil)))
  (mSeq (mFor (mRng fEnum (mCons (mVar 7) mNil)) (.tp [(.nm 8), (.nm 4)]) (mApp 15 (mIte (mOrT (mTest (mOp fEq (mPeek 8) (mPeek 13))) (mTest (mOp fEq (mIx (mPeek 4) (mVar 12)) (mCon (.int 0))))) (mVar 4) (mCall 3 m__law_clear (mCons (mVar 4) (mCons (mVar 14) (mCons (mVar 12) mNil)))))))
  (mSeq (mGhost 15 (mPar [10, 7] (mRcons (mSd (mCall 3 m__law_clear (mCons (mVar 10) (mCons (mVar 14) (mCons (mVar 12) mNil))))) (mRcons (mSd (mVar 15)) mRnil))))
  (mSetC (mVar 9) (mVar 13) (mVar 12))))))))) wfuel)
  (mRet (mCon (.bl true))))))))))
def m__law_can := mFn 16 b__law_can
def b__law_lowest : MS :=
  (mSeq (mAsg 2 (mSd (mIte (mTest (mOp fGt (mPeek 1) (mCon (.int 0)))) (mCall 1 m__law_part (mCons (mLst (mCons (mVar 0) (mCons (mVar 1) mNil))) mNil)) (mOp1 fNeg (mCall 1 m__law_part (mCons (mLst (mCons (mVar 0) (mCons (mVar 1) mNil))) mNil))))))
  (mRet (mTup (mCons (mOp fDiv (mPeek 0) (mPeek 2)) (mCons (mOp fDiv (mPeek 1) (mPeek 2)) mNil)))))
def m__law_lowest := mFn 3 b__law_lowest
def b__law_plus : MS :=
  (mRet (mCall 2 m__law_lowest (mCons (mOp fAdd (mOp fMul (mIx (mPeek 0) (mCon (.int 0))) (mIx (mPeek 1) (mCon (.int 1)))) (mOp fMul (mIx (mPeek 1) (mCon (.int 0))) (mIx (mPeek 0) (mCon (.int 1))))) (mCons (mOp fMul (mIx (mPeek 0) (mCon (.int 1))) (mIx (mPeek 1) (mCon (.int 1)))) mNil))))
def m__law_plus := mFn 2 b__law_plus
def b__law_by : MS :=
  (mRet (mCall 2 m__law_lowest (mCons (mOp fMul (mIx (mPeek 0) (mCon (.int 0))) (mIx (mPeek 1) (mCon (.int 0)))) (mCons (mOp fMul (mIx (mPeek 0) (mCon (.int 1))) (mIx (mPeek 1) (mCon (.int 1)))) mNil))))
def m__law_by := mFn 2 b__law_by
def b__law_debts : MS :=
  (mSeq (mAsg 2 (mSd (mOp fAdd (mCon (.int 2)) (mCall 2 m__law_draw (mCons (mVar 0) (mCons (mOp fSub (mPeek 1) (mCon (.int 1))) mNil))))))
  (mSeq (mAsg 3 (mSd (mTup mNil)))
  (mSeq (mFor (mRng fRng1 (mCons (mVar 2) mNil)) (.nm 4) (mSeq (mAsg 5 (mSd (mTup mNil)))
  (mSeq (mFor (mRng fRng1 (mCons (mVar 2) mNil)) (.nm 6) (mSeq (mAsg 7 (mSd (mCall 2 m__law_of (mCons (mVar 0) (mCons (mLst (mCons (mCon (.int 0)) (mCons (mCon (.int 0)) (mCons (mCon (.int 0)) (mCons (mCon (.int 1)) (mCons (mCon (.int 2)) (mCons (mCon (.int 3)) (mCons (mCon (.int 4)) (mCons (mCon (.int 6)) (mCons (mCon (.int 12)) (mCons (mCall 2 m__law_draw (mCons (mVar 0) (mCons (mCon (.int 13)) mNil))) mNil))))))))))) mNil)))))
  (mAsg 5 (mSd (mOp fAdd (mPeek 5) (mTup (mCons (mIte (mTest (mOp fEq (mPeek 4) (mPeek 6))) (mCon (.int 0)) (mVar 7)) mNil)))))))
  (mAsg 3 (mSd (mOp fAdd (mPeek 3) (mTup (mCons (mVar 5) mNil))))))))
  (mRetV 3))))
def m__law_debts := mFn 8 b__law_debts
def b__law_amounts : MS :=
  (mSeq (mAsg 2 (mSd (mTup mNil)))
  (mSeq (mFor (mRng fRng1 (mCons (mVar 1) mNil)) (.nm 3) (mSeq (mAsg 4 (mSd (mCall 2 m__law_of (mCons (mVar 0) (mCons (mLst (mCons (mCon (.int 0)) (mCons (mCon (.int 0)) (mCons (mCon (.int 1)) (mCons (mCon (.int 2)) (mCons (mCon (.int 3)) (mCons (mCon (.int 5)) (mCons (mCon (.int 8)) (mCons (mCall 2 m__law_draw (mCons (mVar 0) (mCons (mCon (.int 20)) mNil))) mNil))))))))) mNil)))))
  (mAsg 2 (mSd (mOp fAdd (mPeek 2) (mTup (mCons (mCall 2 m__law_lowest (mCons (mVar 4) (mCons (mCall 2 m__law_of (mCons (mVar 0) (mCons (mLst (mCons (mCon (.int 1)) (mCons (mCon (.int 1)) (mCons (mCon (.int 1)) (mCons (mCon (.int 2)) (mCons (mCon (.int 3)) mNil)))))) mNil))) mNil))) mNil)))))))
  (mRetV 2)))
def m__law_amounts := mFn 5 b__law_amounts
def b__law_lot : MS :=
  (mRet (mBlt fTuple (mCons (mFrz (mLcL (mRng fRng1 (mCons (mVar 1) mNil)) (.nm 2) (mTest (mOp fLt (mCall 2 m__law_draw (mCons (mVar 0) (mCons (mCon (.int 5)) mNil))) (mCon (.int 2)))) (mVar 2) [2])) mNil)))
def m__law_lot := mFn 3 b__law_lot
def b__law_fact : MS :=
  (mSeq (mAsg 2 (mSd (mCall 2 m__law_of (mCons (mVar 0) (mCons (mLst (mCons (mCon (.str "atleast")) (mCons (mCon (.str "atleast")) (mCons (mCon (.str "atleast")) (mCons (mCon (.str "more")) (mCons (mCon (.str "same")) mNil)))))) mNil)))))
  (mSeq (mPar [3, 4] (mRcons (mSd (mCall 2 m__law_lot (mCons (mVar 0) (mCons (mVar 1) mNil)))) (mRcons (mSd (mCall 2 m__law_lot (mCons (mVar 0) (mCons (mVar 1) mNil)))) mRnil)))
  (mRet (mTup (mCons (mVar 2) (mCons (mVar 3) (mCons (mVar 4) (mCons (mOp fSub (mCall 2 m__law_draw (mCons (mVar 0) (mCons (mCon (.int 13)) mNil))) (mCon (.int 7))) mNil))))))))
def m__law_fact := mFn 5 b__law_fact
def b__law_facts : MS :=
  (mSeq (mAsg 3 (mSd (mTup mNil)))
  (mSeq (mFor (mRng fRng1 (mCons (mCall 2 m__law_draw (mCons (mVar 0) (mCons (mOp fAdd (mPeek 2) (mCon (.int 1))) mNil))) mNil)) (.nm 4) (mAsg 3 (mSd (mOp fAdd (mPeek 3) (mTup (mCons (mCall 2 m__law_fact (mCons (mVar 0) (mCons (mVar 1) mNil))) mNil))))))
  (mRetV 3)))
def m__law_facts := mFn 5 b__law_facts
def b__law_fact_line : MS :=
  (mSeq (mUnp (.tp [(.nm 2), (.nm 3), (.nm 4), (.nm 5)]) (mVar 0))
  (mRet (mOp fAdd (mFrz (mLcL (mRng fRng1 (mCons (mVar 1) mNil)) (.nm 6) mYes (mOp fSub (mBlt fInt (mCons (mOp fIn (mPeek 6) (mPeek 3)) mNil)) (mBlt fInt (mCons (mOp fIn (mPeek 6) (mPeek 4)) mNil))) [6])) (mLst (mCons (mOp1 fNeg (mPeek 5)) mNil)))))
def m__law_fact_line := mFn 7 b__law_fact_line
def b__law_fact_rows : MS :=
  (mSeq (mAsg 2 (mSo (mLstO mNil)))
  (mSeq (mFor (mItems (mVar 0)) (.nm 3) (mSeq (mAsg 4 (mSd (mCall 2 m__law_fact_line (mCons (mVar 3) (mCons (mVar 1) mNil)))))
  (mSeq (mApp 2 (mTup (mCons (mVar 4) (mCons (mOp fEq (mIx (mPeek 3) (mCon (.int 0))) (mCon (.str "more"))) mNil))))
  (mIf (mTest (mOp fEq (mIx (mPeek 3) (mCon (.int 0))) (mCon (.str "same")))) (mApp 2 (mTup (mCons (mFrz (mLcL (mItems (mVar 4)) (.nm 5) mYes (mOp1 fNeg (mPeek 5)) [5])) (mCons (mCon (.bl false)) mNil)))) mNext))))
  (mRetV 2)))
def m__law_fact_rows := mFn 6 b__law_fact_rows
def b__law_possible : MS :=
  (mRet (mCall 2 m__law_can (mCons (mCall 2 m__law_fact_rows (mCons (mVar 1) (mCons (mBlt fLen (mCons (mPeek 0) mNil)) mNil))) (mCons (mBlt fLen (mCons (mPeek 0) mNil)) mNil))))
def m__law_possible := mFn 2 b__law_possible
def b__law_keeps : MS :=
  (mSeq (mFor (mItems (mVar 0)) (.nm 2) (mSeq (mAsg 3 (mSd (mTup (mCons (mOp1 fNeg (mIx (mPeek 2) (mCon (.int 3)))) (mCons (mCon (.int 1)) mNil)))))
  (mSeq (mFor (mRng fEnum (mCons (mVar 1) mNil)) (.tp [(.nm 4), (.nm 5)]) (mSeq (mAsg 6 (mSd (mOp fSub (mBlt fInt (mCons (mOp fIn (mPeek 4) (mIx (mPeek 2) (mCon (.int 1)))) mNil)) (mBlt fInt (mCons (mOp fIn (mPeek 4) (mIx (mPeek 2) (mCon (.int 2)))) mNil)))))
  (mAsg 3 (mSd (mCall 2 m__law_plus (mCons (mVar 3) (mCons (mCall 2 m__law_by (mCons (mVar 5) (mCons (mTup (mCons (mVar 6) (mCons (mCon (.int 1)) mNil))) mNil))) mNil)))))))
  (mSeq (mAsg 7 (mSd (mOrV (mOp fGt (mIx (mPeek 3) (mCon (.int 0))) (mCon (.int 0))) (mAndV (mOp fEq (mIx (mPeek 3) (mCon (.int 0))) (mCon (.int 0))) (mOp fNe (mIx (mPeek 2) (mCon (.int 0))) (mCon (.str "more")))))))
  (mIf (mOrT (mNotT (mTest (mVar 7))) (mAndT (mTest (mOp fEq (mIx (mPeek 2) (mCon (.int 0))) (mCon (.str "same")))) (mTest (mOp fNe (mIx (mPeek 3) (mCon (.int 0))) (mCon (.int 0)))))) (mRet (mCon (.bl false))) mNext)))))
  (mRet (mCon (.bl true))))
def m__law_keeps := mFn 8 b__law_keeps
def b__law_is_int : MS :=
  (mRet (mAndV (mOp1 (fIsi "int") (mPeek 0)) (mAndV (mNotV (mOp1 (fIsi "bool") (mPeek 0))) (mChain fLe fLe (mPeek 1) (mPeek 0) (mPeek 2)))))
def m__law_is_int := mFn 3 b__law_is_int
def b__law_are_ints : MS :=
  (mSeq (mIf (mOrT (mNotT (mTest (mOp1 (fIsi "tuple") (mPeek 0)))) (mNotT (mTest (mChain fLe fLe (mPeek 1) (mBlt fLen (mCons (mPeek 0) mNil)) (mPeek 2))))) (mRet (mCon (.bl false))) mNext)
  (mRet (mOp fEq (mFrz (mLcL (mItems (mVar 0)) (.nm 5) (mNotT (mTest (mCall 3 m__law_is_int (mCons (mVar 5) (mCons (mVar 3) (mCons (mVar 4) mNil)))))) (mVar 5) [5])) (mLst mNil))))
def m__law_are_ints := mFn 6 b__law_are_ints
def b__law_are_debts : MS :=
  (mSeq (mIf (mOrT (mNotT (mTest (mOp1 (fIsi "tuple") (mPeek 0)))) (mNotT (mTest (mChain fLe fLe (mCon (.int 2)) (mBlt fLen (mCons (mPeek 0) mNil)) (mCon (.int 4)))))) (mRet (mCon (.bl false))) mNext)
  (mSeq (mFor (mRng fEnum (mCons (mVar 0) mNil)) (.tp [(.nm 1), (.nm 2)]) (mIf (mOrT (mNotT (mTest (mCall 5 m__law_are_ints (mCons (mVar 2) (mCons (mBlt fLen (mCons (mPeek 0) mNil)) (mCons (mBlt fLen (mCons (mPeek 0) mNil)) (mCons (mCon (.int 0)) (mCons (mCon (.int 12)) mNil)))))))) (mTest (mOp fNe (mIx (mPeek 2) (mVar 1)) (mCon (.int 0))))) (mRet (mCon (.bl false))) mNext))
  (mRet (mCon (.bl true)))))
def m__law_are_debts := mFn 3 b__law_are_debts
def b__law_is_lot : MS :=
  (mSeq (mIf (mNotT (mTest (mCall 5 m__law_are_ints (mCons (mVar 0) (mCons (mCon (.int 0)) (mCons (mVar 1) (mCons (mCon (.int 0)) (mCons (mOp fSub (mPeek 1) (mCon (.int 1))) mNil)))))))) (mRet (mCon (.bl false))) mNext)
  (mRet (mOp fEq (mFrz (mLcL (mRng fZip (mCons (mVar 0) (mCons (mSl (mPeek 0) (mPart (mCon (.int 1))) mNoPart) mNil))) (.tp [(.nm 2), (.nm 3)]) (mTest (mOp fGe (mPeek 2) (mPeek 3))) (mCon (.int 1)) [2, 3])) (mLst mNil))))
def m__law_is_lot := mFn 4 b__law_is_lot
def b__law_is_fact : MS :=
  (mSeq (mIf (mOrT (mNotT (mTest (mOp1 (fIsi "tuple") (mPeek 0)))) (mOrT (mTest (mOp fNe (mBlt fLen (mCons (mPeek 0) mNil)) (mCon (.int 4)))) (mNotT (mTest (mOp1 (fIsi "str") (mIx (mPeek 0) (mCon (.int 0)))))))) (mRet (mCon (.bl false))) mNext)
  (mSeq (mIf (mOrT (mTest (mOp fNotIn (mIx (mPeek 0) (mCon (.int 0))) (mTup (mCons (mCon (.str "atleast")) (mCons (mCon (.str "more")) (mCons (mCon (.str "same")) mNil)))))) (mNotT (mTest (mCall 3 m__law_is_int (mCons (mIx (mPeek 0) (mCon (.int 3))) (mCons (mOp1 fNeg (mCon (.int 60))) (mCons (mCon (.int 60)) mNil))))))) (mRet (mCon (.bl false))) mNext)
  (mRet (mAndV (mCall 2 m__law_is_lot (mCons (mIx (mPeek 0) (mCon (.int 1))) (mCons (mVar 1) mNil))) (mCall 2 m__law_is_lot (mCons (mIx (mPeek 0) (mCon (.int 2))) (mCons (mVar 1) mNil)))))))
def m__law_is_fact := mFn 2 b__law_is_fact
def b__law_is_fraction : MS :=
  (mSeq (mIf (mOrT (mNotT (mTest (mOp1 (fIsi "tuple") (mPeek 0)))) (mTest (mOp fNe (mBlt fLen (mCons (mPeek 0) mNil)) (mCon (.int 2))))) (mRet (mCon (.bl false))) mNext)
  (mSeq (mIf (mOrT (mNotT (mTest (mCall 3 m__law_is_int (mCons (mIx (mPeek 0) (mCon (.int 0))) (mCons (mCon (.int 0)) (mCons (mOp fPow (mCon (.int 10)) (mCon (.int 12))) mNil)))))) (mNotT (mTest (mCall 3 m__law_is_int (mCons (mIx (mPeek 0) (mCon (.int 1))) (mCons (mCon (.int 1)) (mCons (mOp fPow (mCon (.int 10)) (mCon (.int 12))) mNil))))))) (mRet (mCon (.bl false))) mNext)
  (mRet (mOp fEq (mCall 1 m__law_part (mCons (mLst (mCons (mIx (mPeek 0) (mCon (.int 0))) (mCons (mIx (mPeek 0) (mCon (.int 1))) mNil))) mNil)) (mCon (.int 1))))))
def m__law_is_fraction := mFn 1 b__law_is_fraction
def b__law_told_right : MS :=
  (mSeq (mIf (mTest (mOp fNe (mCall 1 m_is_debts (mCons (mVar 1) mNil)) (mCall 1 m__law_are_debts (mCons (mVar 1) mNil)))) (mRet (mCon (.bl false))) mNext)
  (mSeq (mAsg 2 (mSd (mAndV (mOp1 (fIsi "tuple") (mPeek 1)) (mOp fLe (mBlt fLen (mCons (mPeek 1) mNil)) (mCon (.int 5))))))
  (mSeq (mAsg 3 (mSd (mAndV (mOp1 (fIsi "tuple") (mPeek 1)) (mOp fEq (mBlt fLen (mCons (mPeek 1) mNil)) (mBlt fLen (mCons (mPeek 0) mNil))))))
  (mSeq (mIf (mTest (mVar 2)) (mFor (mItems (mVar 1)) (.nm 4) (mAsg 2 (mSd (mAndV (mVar 2) (mCall 2 m__law_is_fact (mCons (mVar 4) (mCons (mBlt fLen (mCons (mPeek 0) mNil)) mNil))))))) mNext)
  (mSeq (mIf (mTest (mVar 3)) (mFor (mItems (mVar 1)) (.nm 5) (mAsg 3 (mSd (mAndV (mVar 3) (mCall 1 m__law_is_fraction (mCons (mVar 5) mNil)))))) mNext)
  (mRet (mAndV (mOp fEq (mCall 2 m_are_facts (mCons (mVar 0) (mCons (mVar 1) mNil))) (mPeek 2)) (mOp fEq (mCall 2 m_are_amounts (mCons (mVar 0) (mCons (mVar 1) mNil))) (mPeek 3)))))))))
def m__law_told_right := mFn 6 b__law_told_right
def b__law_odd : MS :=
  (mSeq (mAsg 1 (mSd (mLst (mCons (mCon .non) (mCons (mCon (.bl true)) (mCons (mCon (.bl false)) (mCons (mCon (.int 0)) (mCons (mCon (.int 1)) (mCons (mCon (.int 2)) (mCons (mCon (.int 3)) (mCons (mCon (.int 12)) (mCons (mCon (.int 13)) (mCons (mOp1 fNeg (mCon (.int 1))) (mCons (mCon (.str "")) (mCons (mCon (.str "more")) (mCons (mCon (.str "same")) (mCons (mTup mNil) (mCons (mLst mNil) (mCons (mTup (mCons (mCon (.int 0)) mNil)) (mCons (mTup (mCons (mCon (.int 1)) (mCons (mCon (.int 0)) mNil))) (mCons (mTup (mCons (mCon (.int 0)) (mCons (mCon (.int 1)) mNil))) (mCons (mTup (mCons (mCon (.int 2)) (mCons (mCon (.int 4)) mNil))) mNil))))))))))))))))))))))
  (mRet (mCall 2 m__law_of (mCons (mVar 0) (mCons (mOp fAdd (mPeek 1) (mLst (mCons (mCon (.int 61)) (mCons (mTup (mCons (mCon (.int 0)) (mCons (mCon (.int 0)) mNil))) (mCons (mTup (mCons (mTup (mCons (mCon (.int 0)) (mCons (mCon (.int 1)) mNil))) (mCons (mTup (mCons (mCon (.int 0)) (mCons (mCon (.int 0)) mNil))) mNil))) (mCons (mTup (mCons (mCon (.int 1)) (mCons (mCon (.int 2)) mNil))) (mCons (mOp fPow (mCon (.int 10)) (mCon (.int 13))) (mCons (mCon (.str "atleast")) mNil)))))))) mNil)))))
def m__law_odd := mFn 2 b__law_odd
def b__law_spoilt (m__law_spoilt : List D → Store → R D) : MS :=
  (mSeq (mIf (mOrT (mNotT (mTest (mOp1 (fIsi "tuple") (mPeek 1)))) (mOrT (mTest (mOp fEq (mPeek 1) (mTup mNil))) (mTest (mOp fEq (mCall 2 m__law_draw (mCons (mVar 0) (mCons (mCon (.int 6)) mNil))) (mCon (.int 0)))))) (mRet (mCall 1 m__law_odd (mCons (mVar 0) mNil))) mNext)
  (mSeq (mPar [2, 3] (mRcons (mSd (mCall 2 m__law_draw (mCons (mVar 0) (mCons (mBlt fLen (mCons (mPeek 1) mNil)) mNil)))) (mRcons (mSd (mCall 2 m__law_draw (mCons (mVar 0) (mCons (mCon (.int 9)) mNil)))) mRnil)))
  (mSeq (mIf (mTest (mOp fEq (mPeek 3) (mCon (.int 0)))) (mRet (mOp fAdd (mSl (mPeek 1) mNoPart (mPart (mVar 2))) (mSl (mPeek 1) (mPart (mOp fAdd (mPeek 2) (mCon (.int 1)))) mNoPart))) mNext)
  (mSeq (mIf (mTest (mOp fEq (mPeek 3) (mCon (.int 1)))) (mRet (mOp fAdd (mSl (mPeek 1) mNoPart (mPart (mOp fAdd (mPeek 2) (mCon (.int 1))))) (mSl (mPeek 1) (mPart (mVar 2)) mNoPart))) mNext)
  (mSeq (mIf (mTest (mOp fEq (mPeek 3) (mCon (.int 2)))) (mRet (mOp fAdd (mOp fAdd (mSl (mPeek 1) mNoPart (mPart (mVar 2))) (mTup (mCons (mCall 1 m__law_odd (mCons (mVar 0) mNil)) mNil))) (mSl (mPeek 1) (mPart (mVar 2)) mNoPart))) mNext)
  (mSeq (mIf (mTest (mOp fEq (mPeek 3) (mCon (.int 3)))) (mRet (mBlt fList (mCons (mPeek 1) mNil))) mNext)
  (mSeq (mIf (mAndT (mTest (mOp1 (fIsi "int") (mIx (mPeek 1) (mVar 2)))) (mTest (mOp fLt (mPeek 3) (mCon (.int 6))))) (mRet (mOp fAdd (mOp fAdd (mSl (mPeek 1) mNoPart (mPart (mVar 2))) (mTup (mCons (mOp fSub (mOp fAdd (mIx (mPeek 1) (mVar 2)) (mCall 2 m__law_draw (mCons (mVar 0) (mCons (mCon (.int 3)) mNil)))) (mCon (.int 1))) mNil))) (mSl (mPeek 1) (mPart (mOp fAdd (mPeek 2) (mCon (.int 1)))) mNoPart))) mNext)
  (mRet (mOp fAdd (mOp fAdd (mSl (mPeek 1) mNoPart (mPart (mVar 2))) (mTup (mCons (mCall 2 m__law_spoilt (mCons (mVar 0) (mCons (mIx (mPeek 1) (mVar 2)) mNil))) mNil))) (mSl (mPeek 1) (mPart (mOp fAdd (mPeek 2) (mCon (.int 1)))) mNoPart))))))))))
def mr__law_spoilt (n : Nat) : List D → Store → R D := Nat.rec (motive := fun _ => List D → Store → R D) (fun _ _ => .bad) (fun _ m => mFn 4 (b__law_spoilt m)) n
abbrev m__law_spoilt := mr__law_spoilt 12
def b_law : MS :=
  (mSeq (mFor (mRng fRng1 (mCons (mOp fAdd (mCon (.int 1)) (mBlt fMin (mCons (mBlt fLen (mCons (mPeek 0) mNil)) (mCons (mCon (.int 10)) mNil)))) mNil)) (.nm 1) (mSeq (mCell 2 (mCallO 2 m__law_source (mCons (mVar 0) (mCons (mVar 1) mNil))))
  (mSeq (mAsg 3 (mSd (mCall 2 m__law_debts (mCons (mVar 2) (mCons (mCon (.int 4)) mNil)))))
  (mSeq (mAsg 4 (mSd (mCall 3 m__law_facts (mCons (mVar 2) (mCons (mBlt fLen (mCons (mPeek 3) mNil)) (mCons (mCon (.int 5)) mNil))))))
  (mSeq (mAsg 5 (mSd (mCall 2 m__law_amounts (mCons (mVar 2) (mCons (mBlt fLen (mCons (mPeek 3) mNil)) mNil)))))
  (mSeq (mIf (mTest (mOp fNe (mCall 3 m_keeps (mCons (mVar 3) (mCons (mVar 4) (mCons (mVar 5) mNil)))) (mCall 2 m__law_keeps (mCons (mVar 4) (mCons (mVar 5) mNil))))) (mRet (mCon (.bl false))) mNext)
  (mSeq (mIf (mTest (mOp fNe (mCall 2 m_possible (mCons (mVar 3) (mCons (mVar 4) mNil))) (mCall 2 m__law_possible (mCons (mVar 3) (mCons (mVar 4) mNil))))) (mRet (mCon (.bl false))) mNext)
  (mFor (mItems (mLst (mCons (mVar 3) (mCons (mVar 4) (mCons (mVar 5) mNil))))) (.nm 6) (mFor (mRng fRng1 (mCons (mCon (.int 5)) mNil)) (.nm 7) (mSeq (mIf (mNotT (mTest (mCall 2 m__law_told_right (mCons (mVar 3) (mCons (mVar 6) mNil))))) (mRet (mCon (.bl false))) mNext)
  (mAsg 6 (mSd (mCall 2 m__law_spoilt (mCons (mVar 2) (mCons (mVar 6) mNil)))))))))))))))
  (mSeq (mPar [3, 8] (mRcons (mSd (mTup (mCons (mTup (mCons (mCon (.int 0)) (mCons (mCon (.int 4)) mNil))) (mCons (mTup (mCons (mCon (.int 2)) (mCons (mCon (.int 0)) mNil))) mNil)))) (mRcons (mSd (mTup (mCons (mTup (mCons (mCon (.str "atleast")) (mCons (mTup (mCons (mCon (.int 0)) mNil)) (mCons (mTup mNil) (mCons (mCon (.int 5)) mNil))))) (mCons (mTup (mCons (mCon (.str "more")) (mCons (mTup mNil) (mCons (mTup (mCons (mCon (.int 0)) mNil)) (mCons (mOp1 fNeg (mCon (.int 5))) mNil))))) mNil)))) mRnil)))
  (mSeq (mIf (mOrT (mTest (mCall 2 m_possible (mCons (mVar 3) (mCons (mVar 8) mNil)))) (mNotT (mTest (mCall 2 m_possible (mCons (mVar 3) (mCons (mSl (mPeek 8) mNoPart (mPart (mCon (.int 1)))) mNil)))))) (mRet (mCon (.bl false))) mNext)
  (mRet (mNotV (mCall 1 m_is_debts (mCons (mTup (mCons (mTup (mCons (mCon (.int 0)) (mCons (mCon (.int 1)) mNil))) (mCons (mTup (mCons (mCon (.int 0)) (mCons (mCon (.int 1)) mNil))) mNil))) mNil)))))))
def m_law := mFn 9 b_law
end PD
set_option maxRecDepth 100000
set_option maxHeartbeats 0
namespace PD
open PySem PySem.Spec PyProof.Rows L2
/-- the module's name x is a tuple of these, and no more -/
def tupD (K : PySem.W.Frag) (x : Str) (vs : List He.Dv) : Bool := match K.lookup (He.ga K x) with
  | some ⟨.type c, none, .seq its _, _⟩ => decide (c = "tuple") && (decide (its.size ≤ sizeLine) && He.relAll (vs.map (He.Dv.v K)) its.toList)
  | _ => false
theorem tupD_ok {K : PySem.W.Frag} {x : Str} {vs : List He.Dv} (h : tupD K x vs = true) (H : Hp) : SqD K H (He.ga K x) (vs.map (He.Dv.v K)) := by
  unfold tupD at h
  split at h
  · rename_i c its n sl hk
    obtain ⟨h1, h2⟩ := He.ba h
    obtain ⟨h3, h4⟩ := He.ba h2
    exact .inr ⟨_, its, n, ⟨congrArg Value.type (of_decide_eq_true h1), rfl⟩, hk, rfl, of_decide_eq_true h3, He.relAll_ok h4⟩
  · cases h
end PD
set_option maxRecDepth 100000
set_option maxHeartbeats 0
namespace PD
open PySem PySem.Spec PyProof.Rows L2
def top (i : Nat) : Stmt := PySem.Challenge.pw_handsowing_k01_values_recognized.main.body.getD i (.Pass ⟨0, 0, 0, 0⟩)
def BB : List Str := ["abs", "all", "any", "bool", "dict", "enumerate", "int", "isinstance", "len", "list", "max", "min", "range", "str", "sum", "tuple", "zip"]
def T_0 : List Ent := [.con "WORDS" d_WORDS, .con "LARGEST" d_LARGEST]
def N_divisor : List Str := ["numbers", "found", "number", "one", "other"]
theorem t_divisor (k : Nat) : ((trS (tr 60) 40).Ss ⟨N_divisor, defScope (top 6), fun _ => true, T_0, BB, k⟩ { own := [], cells := [], frz := [], ro := false } (defBody (top 6))).map (·.1) = some b_divisor := by kernel_rfl
def T_1 : List Ent := .fn "divisor" 1 m_divisor :: T_0
def N_lowest : List Str := ["top", "below", "part"]
theorem t_lowest (k : Nat) : ((trS (tr 60) 40).Ss ⟨N_lowest, defScope (top 7), fun _ => true, T_1, BB, k⟩ { own := [], cells := [], frz := [], ro := false } (defBody (top 7))).map (·.1) = some b_lowest := by kernel_rfl
def T_2 : List Ent := .fn "lowest" 2 m_lowest :: T_1
def N_neat : List Str := ["numbers", "part", "number"]
theorem t_neat (k : Nat) : ((trS (tr 60) 40).Ss ⟨N_neat, defScope (top 8), fun _ => true, T_2, BB, k⟩ { own := [], cells := [], frz := [], ro := false } (defBody (top 8))).map (·.1) = some b_neat := by kernel_rfl
def T_3 : List Ent := .fn "neat" 1 m_neat :: T_2
def N_table_of : List Str := ["lines", "many", "table", "at", "line", "factors", "bound", "slacks", "place"]
theorem t_table_of (k : Nat) : ((trS (tr 60) 40).Ss ⟨N_table_of, defScope (top 9), fun _ => true, T_3, BB, k⟩ { own := [], cells := [], frz := [], ro := false } (defBody (top 9))).map (·.1) = some b_table_of := by kernel_rfl
def T_4 : List Ent := .fn "table_of" 1 m_table_of :: T_3
def N_cleared : List Str := ["line", "pivot", "at", "one", "other"]
theorem t_cleared (k : Nat) : ((trS (tr 60) 40).Ss ⟨N_cleared, defScope (top 10), fun _ => true, T_4, BB, k⟩ { own := [], cells := [], frz := [], ro := false } (defBody (top 10))).map (·.1) = some b_cleared := by kernel_rfl
def T_5 : List Ent := .fn "cleared" 3 m_cleared :: T_4
def N_leaving : List Str := ["table", "basis", "at", "found", "index", "line", "mine", "best"]
theorem t_leaving (k : Nat) : ((trS (tr 60) 40).Ss ⟨N_leaving, defScope (top 11), fun _ => true, T_5, BB, k⟩ { own := [], cells := [], frz := [], ro := false } (defBody (top 11))).map (·.1) = some b_leaving := by kernel_rfl
def T_6 : List Ent := .fn "leaving" 3 m_leaving :: T_5
def N_numbers_of : List Str := ["table", "basis", "many", "common", "line", "at", "values"]
theorem t_numbers_of (k : Nat) : ((trS (tr 60) 40).Ss ⟨N_numbers_of, defScope (top 12), fun _ => true, T_6, BB, k⟩ { own := [], cells := [], frz := [], ro := false } (defBody (top 12))).map (·.1) = some b_numbers_of := by kernel_rfl
def T_7 : List Ent := .fn "numbers_of" 3 m_numbers_of :: T_6
def N_greatest : List Str := ["lines", "goal", "watched", "many", "table", "basis", "at", "some", "index", "pivot", "place", "line"]
theorem t_greatest (k : Nat) : ((trS (tr 60) 40).Ss ⟨N_greatest, defScope (top 13), fun _ => true, T_7, BB, k⟩ { own := [], cells := [], frz := [], ro := false } (defBody (top 13))).map (·.1) = some b_greatest := by kernel_rfl
def T_8 : List Ent := .fn "greatest" 3 m_greatest :: T_7
def N_solution : List Str := ["rows", "many", "lines", "factor", "line", "strict", "found", "below", "number"]
theorem t_solution (k : Nat) : ((trS (tr 60) 40).Ss ⟨N_solution, defScope (top 14), fun _ => true, T_8, BB, k⟩ { own := [], cells := [], frz := [], ro := false } (defBody (top 14))).map (·.1) = some b_solution := by kernel_rfl
def T_9 : List Ent := .fn "solution" 2 m_solution :: T_8
def N_is_number : List Str := ["value", "least", "most"]
theorem t_is_number (k : Nat) : ((trS (tr 60) 40).Ss ⟨N_is_number, defScope (top 18), fun _ => true, T_9, BB, k⟩ { own := [], cells := [], frz := [], ro := false } (defBody (top 18))).map (·.1) = some b_is_number := by kernel_rfl
def T_10 : List Ent := .fn "is_number" 3 m_is_number :: T_9
def N_is_tuple : List Str := ["value", "least", "most"]
theorem t_is_tuple (k : Nat) : ((trS (tr 60) 40).Ss ⟨N_is_tuple, defScope (top 19), fun _ => true, T_10, BB, k⟩ { own := [], cells := [], frz := [], ro := false } (defBody (top 19))).map (·.1) = some b_is_tuple := by kernel_rfl
def T_11 : List Ent := .fn "is_tuple" 3 m_is_tuple :: T_10
def N_is_amount : List Str := ["value", "most"]
theorem t_is_amount (k : Nat) : ((trS (tr 60) 40).Ss ⟨N_is_amount, defScope (top 20), fun _ => true, T_11, BB, k⟩ { own := [], cells := [], frz := [], ro := false } (defBody (top 20))).map (·.1) = some b_is_amount := by kernel_rfl
def T_12 : List Ent := .fn "is_amount" 2 m_is_amount :: T_11
def N_is_lot : List Str := ["value", "people", "one", "other"]
theorem t_is_lot (k : Nat) : ((trS (tr 60) 40).Ss ⟨N_is_lot, defScope (top 21), fun _ => true, T_12, BB, k⟩ { own := [], cells := [], frz := [], ro := false } (defBody (top 21))).map (·.1) = some b_is_lot := by kernel_rfl
def T_13 : List Ent := .fn "is_lot" 2 m_is_lot :: T_12
def N_is_row : List Str := ["value", "many", "one"]
theorem t_is_row (k : Nat) : ((trS (tr 60) 40).Ss ⟨N_is_row, defScope (top 22), fun _ => true, T_13, BB, k⟩ { own := [], cells := [], frz := [], ro := false } (defBody (top 22))).map (·.1) = some b_is_row := by kernel_rfl
def T_14 : List Ent := .fn "is_row" 2 m_is_row :: T_13
def N_are_good_debts : List Str := ["value", "row", "place"]
theorem t_are_good_debts (k : Nat) : ((trS (tr 60) 40).Ss ⟨N_are_good_debts, defScope (top 23), fun _ => true, T_14, BB, k⟩ { own := [], cells := [], frz := [], ro := false } (defBody (top 23))).map (·.1) = some b_are_good_debts := by kernel_rfl
def T_15 : List Ent := .fn "are_good_debts" 1 m_are_good_debts :: T_14
def N_is_fact : List Str := ["debts", "value", "many"]
theorem t_is_fact (k : Nat) : ((trS (tr 60) 40).Ss ⟨N_is_fact, defScope (top 24), fun _ => true, T_15, BB, k⟩ { own := [], cells := [], frz := [], ro := false } (defBody (top 24))).map (·.1) = some b_is_fact := by kernel_rfl
def T_16 : List Ent := .fn "is_fact" 2 m_is_fact :: T_15
def N_are_good_facts : List Str := ["debts", "value", "fact"]
theorem t_are_good_facts (k : Nat) : ((trS (tr 60) 40).Ss ⟨N_are_good_facts, defScope (top 25), fun _ => true, T_16, BB, k⟩ { own := [], cells := [], frz := [], ro := false } (defBody (top 25))).map (·.1) = some b_are_good_facts := by kernel_rfl
def T_17 : List Ent := .fn "are_good_facts" 2 m_are_good_facts :: T_16
def N_are_good_amounts : List Str := ["debts", "value", "many", "one"]
theorem t_are_good_amounts (k : Nat) : ((trS (tr 60) 40).Ss ⟨N_are_good_amounts, defScope (top 26), fun _ => true, T_17, BB, k⟩ { own := [], cells := [], frz := [], ro := false } (defBody (top 26))).map (·.1) = some b_are_good_amounts := by kernel_rfl
def T_18 : List Ent := .fn "are_good_amounts" 2 m_are_good_amounts :: T_17
def N_fact_line : List Str := ["debts", "fact", "found", "person"]
theorem t_fact_line (k : Nat) : ((trS (tr 60) 40).Ss ⟨N_fact_line, defScope (top 27), fun _ => true, T_18, BB, k⟩ { own := [], cells := [], frz := [], ro := false } (defBody (top 27))).map (·.1) = some b_fact_line := by kernel_rfl
def T_19 : List Ent := .fn "fact_line" 2 m_fact_line :: T_18
def N_opposite : List Str := ["line", "factor"]
theorem t_opposite (k : Nat) : ((trS (tr 60) 40).Ss ⟨N_opposite, defScope (top 28), fun _ => true, T_19, BB, k⟩ { own := [], cells := [], frz := [], ro := false } (defBody (top 28))).map (·.1) = some b_opposite := by kernel_rfl
def T_20 : List Ent := .fn "opposite" 1 m_opposite :: T_19
def N_fact_rows : List Str := ["debts", "facts", "found", "fact", "line"]
theorem t_fact_rows (k : Nat) : ((trS (tr 60) 40).Ss ⟨N_fact_rows, defScope (top 29), fun _ => true, T_20, BB, k⟩ { own := [], cells := [], frz := [], ro := false } (defBody (top 29))).map (·.1) = some b_fact_rows := by kernel_rfl
def T_21 : List Ent := .fn "fact_rows" 2 m_fact_rows :: T_20
def N_summed : List Str := ["line", "amounts", "top", "below", "factor", "one", "other"]
theorem t_summed (k : Nat) : ((trS (tr 60) 40).Ss ⟨N_summed, defScope (top 30), fun _ => true, T_21, BB, k⟩ { own := [], cells := [], frz := [], ro := false } (defBody (top 30))).map (·.1) = some b_summed := by kernel_rfl
def T_22 : List Ent := .fn "summed" 2 m_summed :: T_21
def N_is_so : List Str := ["debts", "fact", "amounts", "far"]
theorem t_is_so (k : Nat) : ((trS (tr 60) 40).Ss ⟨N_is_so, defScope (top 31), fun _ => true, T_22, BB, k⟩ { own := [], cells := [], frz := [], ro := false } (defBody (top 31))).map (·.1) = some b_is_so := by kernel_rfl
def T_23 : List Ent := .fn "is_so" 3 m_is_so :: T_22
def N_some_amounts : List Str := ["debts", "facts", "rows", "found"]
theorem t_some_amounts (k : Nat) : ((trS (tr 60) 40).Ss ⟨N_some_amounts, defScope (top 32), fun _ => true, T_23, BB, k⟩ { own := [], cells := [], frz := [], ro := false } (defBody (top 32))).map (·.1) = some b_some_amounts := by kernel_rfl
def T_24 : List Ent := .fn "some_amounts" 3 m_some_amounts :: T_23
def N_need_debts : List Str := ["value"]
theorem t_need_debts (k : Nat) : ((trS (tr 60) 40).Ss ⟨N_need_debts, defScope (top 33), fun _ => true, T_24, BB, k⟩ { own := [], cells := [], frz := [], ro := false } (defBody (top 33))).map (·.1) = some b_need_debts := by kernel_rfl
def T_25 : List Ent := .fn "need_debts" 1 m_need_debts :: T_24
def N_need_facts : List Str := ["debts", "value"]
theorem t_need_facts (k : Nat) : ((trS (tr 60) 40).Ss ⟨N_need_facts, defScope (top 34), fun _ => true, T_25, BB, k⟩ { own := [], cells := [], frz := [], ro := false } (defBody (top 34))).map (·.1) = some b_need_facts := by kernel_rfl
def T_26 : List Ent := .fn "need_facts" 2 m_need_facts :: T_25
def N_need_amounts : List Str := ["debts", "value"]
theorem t_need_amounts (k : Nat) : ((trS (tr 60) 40).Ss ⟨N_need_amounts, defScope (top 35), fun _ => true, T_26, BB, k⟩ { own := [], cells := [], frz := [], ro := false } (defBody (top 35))).map (·.1) = some b_need_amounts := by kernel_rfl
def T_27 : List Ent := .fn "need_amounts" 2 m_need_amounts :: T_26
def N_need_asked : List Str := ["debts", "facts"]
theorem t_need_asked (k : Nat) : ((trS (tr 60) 40).Ss ⟨N_need_asked, defScope (top 36), fun _ => true, T_27, BB, k⟩ { own := [], cells := [], frz := [], ro := false } (defBody (top 36))).map (·.1) = some b_need_asked := by kernel_rfl
def T_28 : List Ent := .fn "need_asked" 2 m_need_asked :: T_27
def N_is_debts : List Str := ["value"]
theorem t_is_debts (k : Nat) : ((trS (tr 60) 40).Ss ⟨N_is_debts, defScope (top 37), fun _ => true, T_28, BB, k⟩ { own := [], cells := [], frz := [], ro := false } (defBody (top 37))).map (·.1) = some b_is_debts := by kernel_rfl
def T_29 : List Ent := .fn "is_debts" 1 m_is_debts :: T_28
def N_are_facts : List Str := ["debts", "value"]
theorem t_are_facts (k : Nat) : ((trS (tr 60) 40).Ss ⟨N_are_facts, defScope (top 38), fun _ => true, T_29, BB, k⟩ { own := [], cells := [], frz := [], ro := false } (defBody (top 38))).map (·.1) = some b_are_facts := by kernel_rfl
def T_30 : List Ent := .fn "are_facts" 2 m_are_facts :: T_29
def N_are_amounts : List Str := ["debts", "value"]
theorem t_are_amounts (k : Nat) : ((trS (tr 60) 40).Ss ⟨N_are_amounts, defScope (top 39), fun _ => true, T_30, BB, k⟩ { own := [], cells := [], frz := [], ro := false } (defBody (top 39))).map (·.1) = some b_are_amounts := by kernel_rfl
def T_31 : List Ent := .fn "are_amounts" 2 m_are_amounts :: T_30
def N_keeps : List Str := ["debts", "facts", "amounts", "fact"]
theorem t_keeps (k : Nat) : ((trS (tr 60) 40).Ss ⟨N_keeps, defScope (top 40), fun _ => true, T_31, BB, k⟩ { own := [], cells := [], frz := [], ro := false } (defBody (top 40))).map (·.1) = some b_keeps := by kernel_rfl
def T_32 : List Ent := .fn "keeps" 3 m_keeps :: T_31
def N_possible : List Str := ["debts", "facts"]
theorem t_possible (k : Nat) : ((trS (tr 60) 40).Ss ⟨N_possible, defScope (top 41), fun _ => true, T_32, BB, k⟩ { own := [], cells := [], frz := [], ro := false } (defBody (top 41))).map (·.1) = some b_possible := by kernel_rfl
def T_33 : List Ent := .fn "possible" 2 m_possible :: T_32
def N__law_source : List Str := ["script", "k", "cell"]
theorem t__law_source (k : Nat) : ((trS (tr 60) 40).Ss ⟨N__law_source, defScope (top 43), fun _ => true, T_33, BB, k⟩ { own := [], cells := [], frz := [], ro := true } (defBody (top 43))).map (·.1) = some b__law_source := by kernel_rfl
def T_34 : List Ent := .fo "_law_source" 2 m__law_source :: T_33
def N__law_draw : List Str := ["source", "many", "found"]
theorem t__law_draw (k : Nat) : ((trS (tr 60) 40).Ss ⟨N__law_draw, defScope (top 44), fun _ => true, T_34, BB, k⟩ { own := [], cells := ["source"], frz := [], ro := false } (defBody (top 44))).map (·.1) = some b__law_draw := by kernel_rfl
def T_35 : List Ent := .fn "_law_draw" 2 m__law_draw :: T_34
def N__law_of : List Str := ["source", "items"]
theorem t__law_of (k : Nat) : ((trS (tr 60) 40).Ss ⟨N__law_of, defScope (top 45), fun _ => true, T_35, BB, k⟩ { own := [], cells := [], frz := [], ro := false } (defBody (top 45))).map (·.1) = some b__law_of := by kernel_rfl
def T_36 : List Ent := .fn "_law_of" 2 m__law_of :: T_35
def N__law_part : List Str := ["numbers", "found", "number", "one", "other"]
theorem t__law_part (k : Nat) : ((trS (tr 60) 40).Ss ⟨N__law_part, defScope (top 46), fun _ => true, T_36, BB, k⟩ { own := [], cells := [], frz := [], ro := false } (defBody (top 46))).map (·.1) = some b__law_part := by kernel_rfl
def T_37 : List Ent := .fn "_law_part" 1 m__law_part :: T_36
def N__law_unit : List Str := ["many", "at", "place"]
theorem t__law_unit (k : Nat) : ((trS (tr 60) 40).Ss ⟨N__law_unit, defScope (top 47), fun _ => true, T_37, BB, k⟩ { own := [], cells := [], frz := [], ro := false } (defBody (top 47))).map (·.1) = some b__law_unit := by kernel_rfl
def T_38 : List Ent := .fn "_law_unit" 2 m__law_unit :: T_37
def N__law_clear : List Str := ["line", "pivot", "enter", "rest", "part", "one", "other", "number"]
theorem t__law_clear (k : Nat) : ((trS (tr 60) 40).Ss ⟨N__law_clear, defScope (top 48), fun _ => true, T_38, BB, k⟩ { own := [], cells := [], frz := [], ro := false } (defBody (top 48))).map (·.1) = some b__law_clear := by kernel_rfl
def T_39 : List Ent := .fn "_law_clear" 3 m__law_clear :: T_38
def N__law_out : List Str := ["table", "basis", "enter", "best", "at", "line", "mine", "side"]
theorem t__law_out (k : Nat) : ((trS (tr 60) 40).Ss ⟨N__law_out, defScope (top 49), fun _ => true, T_39, BB, k⟩ { own := [], cells := [], frz := [], ro := false } (defBody (top 49))).map (·.1) = some b__law_out := by kernel_rfl
def T_40 : List Ent := .fn "_law_out" 3 m__law_out :: T_39
def N__law_can : List Str := ["rows", "many", "lines", "factor", "line", "strict", "size", "table", "at", "basis", "goal", "places", "enter", "best", "pivot", "rest"]
theorem t__law_can (k : Nat) : ((trS (tr 60) 40).Ss ⟨N__law_can, defScope (top 50), fun _ => true, T_40, BB, k⟩ { own := [(209, "table"), (220, "rest")], cells := ["basis"], frz := [(212, "table"), (223, "rest")], ro := false } (defBody (top 50))).map (·.1) = some b__law_can := by kernel_rfl
def T_41 : List Ent := .fn "_law_can" 2 m__law_can :: T_40
def N__law_lowest : List Str := ["top", "below", "part"]
theorem t__law_lowest (k : Nat) : ((trS (tr 60) 40).Ss ⟨N__law_lowest, defScope (top 51), fun _ => true, T_41, BB, k⟩ { own := [], cells := [], frz := [], ro := false } (defBody (top 51))).map (·.1) = some b__law_lowest := by kernel_rfl
def T_42 : List Ent := .fn "_law_lowest" 2 m__law_lowest :: T_41
def N__law_plus : List Str := ["one", "other"]
theorem t__law_plus (k : Nat) : ((trS (tr 60) 40).Ss ⟨N__law_plus, defScope (top 52), fun _ => true, T_42, BB, k⟩ { own := [], cells := [], frz := [], ro := false } (defBody (top 52))).map (·.1) = some b__law_plus := by kernel_rfl
def T_43 : List Ent := .fn "_law_plus" 2 m__law_plus :: T_42
def N__law_by : List Str := ["one", "other"]
theorem t__law_by (k : Nat) : ((trS (tr 60) 40).Ss ⟨N__law_by, defScope (top 53), fun _ => true, T_43, BB, k⟩ { own := [], cells := [], frz := [], ro := false } (defBody (top 53))).map (·.1) = some b__law_by := by kernel_rfl
def T_44 : List Ent := .fn "_law_by" 2 m__law_by :: T_43
def N__law_debts : List Str := ["source", "most", "people", "found", "person", "row", "other", "owed"]
theorem t__law_debts (k : Nat) : ((trS (tr 60) 40).Ss ⟨N__law_debts, defScope (top 54), fun _ => true, T_44, BB, k⟩ { own := [], cells := [], frz := [], ro := false } (defBody (top 54))).map (·.1) = some b__law_debts := by kernel_rfl
def T_45 : List Ent := .fn "_law_debts" 2 m__law_debts :: T_44
def N__law_amounts : List Str := ["source", "people", "found", "person", "top"]
theorem t__law_amounts (k : Nat) : ((trS (tr 60) 40).Ss ⟨N__law_amounts, defScope (top 55), fun _ => true, T_45, BB, k⟩ { own := [], cells := [], frz := [], ro := false } (defBody (top 55))).map (·.1) = some b__law_amounts := by kernel_rfl
def T_46 : List Ent := .fn "_law_amounts" 2 m__law_amounts :: T_45
def N__law_lot : List Str := ["source", "people", "person"]
theorem t__law_lot (k : Nat) : ((trS (tr 60) 40).Ss ⟨N__law_lot, defScope (top 56), fun _ => true, T_46, BB, k⟩ { own := [], cells := [], frz := [], ro := false } (defBody (top 56))).map (·.1) = some b__law_lot := by kernel_rfl
def T_47 : List Ent := .fn "_law_lot" 2 m__law_lot :: T_46
def N__law_fact : List Str := ["source", "people", "word", "one", "other"]
theorem t__law_fact (k : Nat) : ((trS (tr 60) 40).Ss ⟨N__law_fact, defScope (top 57), fun _ => true, T_47, BB, k⟩ { own := [], cells := [], frz := [], ro := false } (defBody (top 57))).map (·.1) = some b__law_fact := by kernel_rfl
def T_48 : List Ent := .fn "_law_fact" 2 m__law_fact :: T_47
def N__law_facts : List Str := ["source", "people", "most", "found", "turn"]
theorem t__law_facts (k : Nat) : ((trS (tr 60) 40).Ss ⟨N__law_facts, defScope (top 58), fun _ => true, T_48, BB, k⟩ { own := [], cells := [], frz := [], ro := false } (defBody (top 58))).map (·.1) = some b__law_facts := by kernel_rfl
def T_49 : List Ent := .fn "_law_facts" 3 m__law_facts :: T_48
def N__law_fact_line : List Str := ["fact", "wide", "word", "one", "other", "number", "at"]
theorem t__law_fact_line (k : Nat) : ((trS (tr 60) 40).Ss ⟨N__law_fact_line, defScope (top 59), fun _ => true, T_49, BB, k⟩ { own := [], cells := [], frz := [], ro := false } (defBody (top 59))).map (·.1) = some b__law_fact_line := by kernel_rfl
def T_50 : List Ent := .fn "_law_fact_line" 2 m__law_fact_line :: T_49
def N__law_fact_rows : List Str := ["facts", "wide", "found", "fact", "line", "number"]
theorem t__law_fact_rows (k : Nat) : ((trS (tr 60) 40).Ss ⟨N__law_fact_rows, defScope (top 60), fun _ => true, T_50, BB, k⟩ { own := [(264, "found")], cells := [], frz := [], ro := false } (defBody (top 60))).map (·.1) = some b__law_fact_rows := by kernel_rfl
def T_51 : List Ent := .fn "_law_fact_rows" 2 m__law_fact_rows :: T_50
def N__law_possible : List Str := ["debts", "facts"]
theorem t__law_possible (k : Nat) : ((trS (tr 60) 40).Ss ⟨N__law_possible, defScope (top 61), fun _ => true, T_51, BB, k⟩ { own := [], cells := [], frz := [], ro := false } (defBody (top 61))).map (·.1) = some b__law_possible := by kernel_rfl
def T_52 : List Ent := .fn "_law_possible" 2 m__law_possible :: T_51
def N__law_keeps : List Str := ["facts", "amounts", "fact", "far", "person", "amount", "side", "good"]
theorem t__law_keeps (k : Nat) : ((trS (tr 60) 40).Ss ⟨N__law_keeps, defScope (top 62), fun _ => true, T_52, BB, k⟩ { own := [], cells := [], frz := [], ro := false } (defBody (top 62))).map (·.1) = some b__law_keeps := by kernel_rfl
def T_53 : List Ent := .fn "_law_keeps" 2 m__law_keeps :: T_52
def N__law_is_int : List Str := ["value", "least", "top"]
theorem t__law_is_int (k : Nat) : ((trS (tr 60) 40).Ss ⟨N__law_is_int, defScope (top 63), fun _ => true, T_53, BB, k⟩ { own := [], cells := [], frz := [], ro := false } (defBody (top 63))).map (·.1) = some b__law_is_int := by kernel_rfl
def T_54 : List Ent := .fn "_law_is_int" 3 m__law_is_int :: T_53
def N__law_are_ints : List Str := ["value", "few", "many", "least", "top", "one"]
theorem t__law_are_ints (k : Nat) : ((trS (tr 60) 40).Ss ⟨N__law_are_ints, defScope (top 64), fun _ => true, T_54, BB, k⟩ { own := [], cells := [], frz := [], ro := false } (defBody (top 64))).map (·.1) = some b__law_are_ints := by kernel_rfl
def T_55 : List Ent := .fn "_law_are_ints" 5 m__law_are_ints :: T_54
def N__law_are_debts : List Str := ["value", "at", "row"]
theorem t__law_are_debts (k : Nat) : ((trS (tr 60) 40).Ss ⟨N__law_are_debts, defScope (top 65), fun _ => true, T_55, BB, k⟩ { own := [], cells := [], frz := [], ro := false } (defBody (top 65))).map (·.1) = some b__law_are_debts := by kernel_rfl
def T_56 : List Ent := .fn "_law_are_debts" 1 m__law_are_debts :: T_55
def N__law_is_lot : List Str := ["value", "people", "one", "other"]
theorem t__law_is_lot (k : Nat) : ((trS (tr 60) 40).Ss ⟨N__law_is_lot, defScope (top 66), fun _ => true, T_56, BB, k⟩ { own := [], cells := [], frz := [], ro := false } (defBody (top 66))).map (·.1) = some b__law_is_lot := by kernel_rfl
def T_57 : List Ent := .fn "_law_is_lot" 2 m__law_is_lot :: T_56
def N__law_is_fact : List Str := ["value", "people"]
theorem t__law_is_fact (k : Nat) : ((trS (tr 60) 40).Ss ⟨N__law_is_fact, defScope (top 67), fun _ => true, T_57, BB, k⟩ { own := [], cells := [], frz := [], ro := false } (defBody (top 67))).map (·.1) = some b__law_is_fact := by kernel_rfl
def T_58 : List Ent := .fn "_law_is_fact" 2 m__law_is_fact :: T_57
def N__law_is_fraction : List Str := ["value"]
theorem t__law_is_fraction (k : Nat) : ((trS (tr 60) 40).Ss ⟨N__law_is_fraction, defScope (top 68), fun _ => true, T_58, BB, k⟩ { own := [], cells := [], frz := [], ro := false } (defBody (top 68))).map (·.1) = some b__law_is_fraction := by kernel_rfl
def T_59 : List Ent := .fn "_law_is_fraction" 1 m__law_is_fraction :: T_58
def N__law_told_right : List Str := ["debts", "value", "good", "fine", "fact", "amount"]
theorem t__law_told_right (k : Nat) : ((trS (tr 60) 40).Ss ⟨N__law_told_right, defScope (top 69), fun _ => true, T_59, BB, k⟩ { own := [], cells := [], frz := [], ro := false } (defBody (top 69))).map (·.1) = some b__law_told_right := by kernel_rfl
def T_60 : List Ent := .fn "_law_told_right" 2 m__law_told_right :: T_59
def N__law_odd : List Str := ["source", "items"]
theorem t__law_odd (k : Nat) : ((trS (tr 60) 40).Ss ⟨N__law_odd, defScope (top 70), fun _ => true, T_60, BB, k⟩ { own := [], cells := [], frz := [], ro := false } (defBody (top 70))).map (·.1) = some b__law_odd := by kernel_rfl
def T_61 : List Ent := .fn "_law_odd" 1 m__law_odd :: T_60
def N__law_spoilt : List Str := ["source", "value", "at", "mode"]
theorem t__law_spoilt (m : List D → Store → R D) (k : Nat) : ((trS (tr 60) 40).Ss ⟨N__law_spoilt, defScope (top 71), fun _ => true, .fn "_law_spoilt" 2 m :: T_61, BB, k⟩ { own := [], cells := [], frz := [], ro := false } (defBody (top 71))).map (·.1) = some (b__law_spoilt m) := by kernel_rfl
def T_62 : List Ent := .fn "_law_spoilt" 2 m__law_spoilt :: T_61
def N_law : List Str := ["script", "k", "source", "debts", "facts", "amounts", "value", "turn", "both"]
theorem t_law (k : Nat) : ((trS (tr 60) 40).Ss ⟨N_law, defScope (top 72), fun _ => true, T_62, BB, k⟩ { own := [], cells := ["source"], frz := [], ro := false } (defBody (top 72))).map (·.1) = some b_law := by kernel_rfl
def T_63 : List Ent := .fn "law" 1 m_law :: T_62
def hfn : List He.DefD := [
  ⟨("divisor", none), "divisor", "divisor", defArgs (top 6), defBody (top 6), defScope (top 6), [], []⟩,
  ⟨("lowest", none), "lowest", "lowest", defArgs (top 7), defBody (top 7), defScope (top 7), [], []⟩,
  ⟨("neat", none), "neat", "neat", defArgs (top 8), defBody (top 8), defScope (top 8), [], []⟩,
  ⟨("table_of", none), "table_of", "table_of", defArgs (top 9), defBody (top 9), defScope (top 9), [], []⟩,
  ⟨("cleared", none), "cleared", "cleared", defArgs (top 10), defBody (top 10), defScope (top 10), [], []⟩,
  ⟨("leaving", none), "leaving", "leaving", defArgs (top 11), defBody (top 11), defScope (top 11), [], []⟩,
  ⟨("numbers_of", none), "numbers_of", "numbers_of", defArgs (top 12), defBody (top 12), defScope (top 12), [], []⟩,
  ⟨("greatest", none), "greatest", "greatest", defArgs (top 13), defBody (top 13), defScope (top 13), [], []⟩,
  ⟨("solution", none), "solution", "solution", defArgs (top 14), defBody (top 14), defScope (top 14), [], []⟩,
  ⟨("is_number", none), "is_number", "is_number", defArgs (top 18), defBody (top 18), defScope (top 18), [], []⟩,
  ⟨("is_tuple", none), "is_tuple", "is_tuple", defArgs (top 19), defBody (top 19), defScope (top 19), [], []⟩,
  ⟨("is_amount", none), "is_amount", "is_amount", defArgs (top 20), defBody (top 20), defScope (top 20), [], []⟩,
  ⟨("is_lot", none), "is_lot", "is_lot", defArgs (top 21), defBody (top 21), defScope (top 21), [], []⟩,
  ⟨("is_row", none), "is_row", "is_row", defArgs (top 22), defBody (top 22), defScope (top 22), [], []⟩,
  ⟨("are_good_debts", none), "are_good_debts", "are_good_debts", defArgs (top 23), defBody (top 23), defScope (top 23), [], []⟩,
  ⟨("is_fact", none), "is_fact", "is_fact", defArgs (top 24), defBody (top 24), defScope (top 24), [], []⟩,
  ⟨("are_good_facts", none), "are_good_facts", "are_good_facts", defArgs (top 25), defBody (top 25), defScope (top 25), [], []⟩,
  ⟨("are_good_amounts", none), "are_good_amounts", "are_good_amounts", defArgs (top 26), defBody (top 26), defScope (top 26), [], []⟩,
  ⟨("fact_line", none), "fact_line", "fact_line", defArgs (top 27), defBody (top 27), defScope (top 27), [], []⟩,
  ⟨("opposite", none), "opposite", "opposite", defArgs (top 28), defBody (top 28), defScope (top 28), [], []⟩,
  ⟨("fact_rows", none), "fact_rows", "fact_rows", defArgs (top 29), defBody (top 29), defScope (top 29), [], []⟩,
  ⟨("summed", none), "summed", "summed", defArgs (top 30), defBody (top 30), defScope (top 30), [], []⟩,
  ⟨("is_so", none), "is_so", "is_so", defArgs (top 31), defBody (top 31), defScope (top 31), [], []⟩,
  ⟨("some_amounts", none), "some_amounts", "some_amounts", defArgs (top 32), defBody (top 32), defScope (top 32), [], []⟩,
  ⟨("need_debts", none), "need_debts", "need_debts", defArgs (top 33), defBody (top 33), defScope (top 33), [], []⟩,
  ⟨("need_facts", none), "need_facts", "need_facts", defArgs (top 34), defBody (top 34), defScope (top 34), [], []⟩,
  ⟨("need_amounts", none), "need_amounts", "need_amounts", defArgs (top 35), defBody (top 35), defScope (top 35), [], []⟩,
  ⟨("need_asked", none), "need_asked", "need_asked", defArgs (top 36), defBody (top 36), defScope (top 36), [], []⟩,
  ⟨("is_debts", none), "is_debts", "is_debts", defArgs (top 37), defBody (top 37), defScope (top 37), [], []⟩,
  ⟨("are_facts", none), "are_facts", "are_facts", defArgs (top 38), defBody (top 38), defScope (top 38), [], []⟩,
  ⟨("are_amounts", none), "are_amounts", "are_amounts", defArgs (top 39), defBody (top 39), defScope (top 39), [], []⟩,
  ⟨("keeps", none), "keeps", "keeps", defArgs (top 40), defBody (top 40), defScope (top 40), [], []⟩,
  ⟨("possible", none), "possible", "possible", defArgs (top 41), defBody (top 41), defScope (top 41), [], []⟩,
  ⟨("_law_source", none), "_law_source", "_law_source", defArgs (top 43), defBody (top 43), defScope (top 43), [], []⟩,
  ⟨("_law_draw", none), "_law_draw", "_law_draw", defArgs (top 44), defBody (top 44), defScope (top 44), [], []⟩,
  ⟨("_law_of", none), "_law_of", "_law_of", defArgs (top 45), defBody (top 45), defScope (top 45), [], []⟩,
  ⟨("_law_part", none), "_law_part", "_law_part", defArgs (top 46), defBody (top 46), defScope (top 46), [], []⟩,
  ⟨("_law_unit", none), "_law_unit", "_law_unit", defArgs (top 47), defBody (top 47), defScope (top 47), [], []⟩,
  ⟨("_law_clear", none), "_law_clear", "_law_clear", defArgs (top 48), defBody (top 48), defScope (top 48), [], []⟩,
  ⟨("_law_out", none), "_law_out", "_law_out", defArgs (top 49), defBody (top 49), defScope (top 49), [], []⟩,
  ⟨("_law_can", none), "_law_can", "_law_can", defArgs (top 50), defBody (top 50), defScope (top 50), [], []⟩,
  ⟨("_law_lowest", none), "_law_lowest", "_law_lowest", defArgs (top 51), defBody (top 51), defScope (top 51), [], []⟩,
  ⟨("_law_plus", none), "_law_plus", "_law_plus", defArgs (top 52), defBody (top 52), defScope (top 52), [], []⟩,
  ⟨("_law_by", none), "_law_by", "_law_by", defArgs (top 53), defBody (top 53), defScope (top 53), [], []⟩,
  ⟨("_law_debts", none), "_law_debts", "_law_debts", defArgs (top 54), defBody (top 54), defScope (top 54), [], []⟩,
  ⟨("_law_amounts", none), "_law_amounts", "_law_amounts", defArgs (top 55), defBody (top 55), defScope (top 55), [], []⟩,
  ⟨("_law_lot", none), "_law_lot", "_law_lot", defArgs (top 56), defBody (top 56), defScope (top 56), [], []⟩,
  ⟨("_law_fact", none), "_law_fact", "_law_fact", defArgs (top 57), defBody (top 57), defScope (top 57), [], []⟩,
  ⟨("_law_facts", none), "_law_facts", "_law_facts", defArgs (top 58), defBody (top 58), defScope (top 58), [], []⟩,
  ⟨("_law_fact_line", none), "_law_fact_line", "_law_fact_line", defArgs (top 59), defBody (top 59), defScope (top 59), [], []⟩,
  ⟨("_law_fact_rows", none), "_law_fact_rows", "_law_fact_rows", defArgs (top 60), defBody (top 60), defScope (top 60), [], []⟩,
  ⟨("_law_possible", none), "_law_possible", "_law_possible", defArgs (top 61), defBody (top 61), defScope (top 61), [], []⟩,
  ⟨("_law_keeps", none), "_law_keeps", "_law_keeps", defArgs (top 62), defBody (top 62), defScope (top 62), [], []⟩,
  ⟨("_law_is_int", none), "_law_is_int", "_law_is_int", defArgs (top 63), defBody (top 63), defScope (top 63), [], []⟩,
  ⟨("_law_are_ints", none), "_law_are_ints", "_law_are_ints", defArgs (top 64), defBody (top 64), defScope (top 64), [], []⟩,
  ⟨("_law_are_debts", none), "_law_are_debts", "_law_are_debts", defArgs (top 65), defBody (top 65), defScope (top 65), [], []⟩,
  ⟨("_law_is_lot", none), "_law_is_lot", "_law_is_lot", defArgs (top 66), defBody (top 66), defScope (top 66), [], []⟩,
  ⟨("_law_is_fact", none), "_law_is_fact", "_law_is_fact", defArgs (top 67), defBody (top 67), defScope (top 67), [], []⟩,
  ⟨("_law_is_fraction", none), "_law_is_fraction", "_law_is_fraction", defArgs (top 68), defBody (top 68), defScope (top 68), [], []⟩,
  ⟨("_law_told_right", none), "_law_told_right", "_law_told_right", defArgs (top 69), defBody (top 69), defScope (top 69), [], []⟩,
  ⟨("_law_odd", none), "_law_odd", "_law_odd", defArgs (top 70), defBody (top 70), defScope (top 70), [], []⟩,
  ⟨("_law_spoilt", none), "_law_spoilt", "_law_spoilt", defArgs (top 71), defBody (top 71), defScope (top 71), [], []⟩,
  ⟨("law", none), "law", "law", defArgs (top 72), defBody (top 72), defScope (top 72), [], []⟩]
def hfa : List He.Fa := [.glo "divisor", .glo "lowest", .glo "neat", .glo "table_of", .glo "cleared", .glo "leaving", .glo "numbers_of", .glo "greatest", .glo "solution", .glo "is_number", .glo "is_tuple", .glo "is_amount", .glo "is_lot", .glo "is_row", .glo "are_good_debts", .glo "is_fact", .glo "are_good_facts", .glo "are_good_amounts", .glo "fact_line", .glo "opposite", .glo "fact_rows", .glo "summed", .glo "is_so", .glo "some_amounts", .glo "need_debts", .glo "need_facts", .glo "need_amounts", .glo "need_asked", .glo "is_debts", .glo "are_facts", .glo "are_amounts", .glo "keeps", .glo "possible", .glo "_law_source", .glo "_law_draw", .glo "_law_of", .glo "_law_part", .glo "_law_unit", .glo "_law_clear", .glo "_law_out", .glo "_law_can", .glo "_law_lowest", .glo "_law_plus", .glo "_law_by", .glo "_law_debts", .glo "_law_amounts", .glo "_law_lot", .glo "_law_fact", .glo "_law_facts", .glo "_law_fact_line", .glo "_law_fact_rows", .glo "_law_possible", .glo "_law_keeps", .glo "_law_is_int", .glo "_law_are_ints", .glo "_law_are_debts", .glo "_law_is_lot", .glo "_law_is_fact", .glo "_law_is_fraction", .glo "_law_told_right", .glo "_law_odd", .glo "_law_spoilt", .glo "law", .free "abs", .free "all", .free "any", .free "bool", .free "dict", .free "enumerate", .free "int", .free "isinstance", .free "len", .free "list", .free "max", .free "min", .free "range", .free "str", .free "sum", .free "tuple", .free "zip", .glo "WORDS", .int "LARGEST" 1000000000000]
def hx0 : List Str := ["divisor", "lowest", "neat", "table_of", "cleared", "leaving", "numbers_of", "greatest", "solution", "is_number", "is_tuple", "is_amount", "is_lot", "is_row", "are_good_debts", "is_fact", "are_good_facts", "are_good_amounts", "fact_line", "opposite", "fact_rows", "summed", "is_so", "some_amounts", "need_debts", "need_facts", "need_amounts", "need_asked", "is_debts", "are_facts"]
def hx1 : List Str := ["are_amounts", "keeps", "possible", "_law_source", "_law_draw", "_law_of", "_law_part", "_law_unit", "_law_clear", "_law_out", "_law_can", "_law_lowest", "_law_plus", "_law_by", "_law_debts", "_law_amounts", "_law_lot", "_law_fact", "_law_facts", "_law_fact_line", "_law_fact_rows", "_law_possible", "_law_keeps", "_law_is_int", "_law_are_ints", "_law_are_debts", "_law_is_lot", "_law_is_fact", "_law_is_fraction", "_law_told_right"]
def hx2 : List Str := ["_law_odd", "_law_spoilt", "law", "WORDS"]
def hxs : List Str := hx0 ++ hx1 ++ hx2
def hex (K : PySem.W.Frag) : Bool := tupD K "WORDS" [.str "atleast", .str "more", .str "same"]
def lo0 : List PySem.Str := ["__name__", "OweError", "InvalidDebts", "InvalidFacts", "InvalidAmounts", "divisor", "lowest", "neat", "table_of", "cleared", "leaving", "numbers_of", "greatest", "solution", "LARGEST", "WORDS", "is_number", "is_tuple", "is_amount", "is_lot", "is_row", "are_good_debts", "is_fact", "are_good_facts", "are_good_amounts", "fact_line", "opposite", "fact_rows", "summed", "is_so"]
def lo1 : List PySem.Str := ["some_amounts", "need_debts", "need_facts", "need_amounts", "need_asked", "is_debts", "are_facts", "are_amounts", "keeps", "possible", "_law_source", "_law_draw", "_law_of", "_law_part", "_law_unit", "_law_clear", "_law_out", "_law_can", "_law_lowest", "_law_plus", "_law_by", "_law_debts", "_law_amounts", "_law_lot", "_law_fact", "_law_facts", "_law_fact_line", "_law_fact_rows", "_law_possible", "_law_keeps"]
def lo2 : List PySem.Str := ["_law_is_int", "_law_are_ints", "_law_are_debts", "_law_is_lot", "_law_is_fact", "_law_is_fraction", "_law_told_right", "_law_odd", "_law_spoilt"]
def loose : List PySem.Str := lo0 ++ lo1 ++ lo2
abbrev RR : PySem.W.OpenRow := PySem.W.OpenLaw.row PySem.Challenge.rw_handsowing_k01_values_recognized
abbrev hk : PySem.W.Hook := hookL hxs hfa hfn hex
def ob (s : PySem.W.SharedT) : He.AlD := obsLG hxs hfa hfn hex (HandSHeadRun.getT s)
theorem ob_eq (s : PySem.W.SharedT) : ob s = hk.obs s.abs := obsLG_eq (HandSHeadRun.getT_eq s)
theorem run (w : World) : HandSHeadRun.RunEq RR (PySem.W.view RR.prog [72]) hk ob 20000 loose w := by
  intro os
  kernel_rfl
end PD
set_option maxRecDepth 100000
set_option maxHeartbeats 4000000
namespace PD
open PySem PySem.Spec PyProof.Rows L2

/-! ## plain laws: running -/
@[simp] theorem R.bind_ok {α β : Type} {a : α} {s : Store} {f : α → Store → R β} : (R.ok a s).bind f = f a s := rfl
@[simp] theorem R.opt_some {α : Type} {a : α} {s : Store} : R.opt (some a) s = .ok a s := rfl
@[simp] theorem R.opt_none {α : Type} {s : Store} : (R.opt none s : R α) = .bad := rfl
@[simp] theorem R.bind_bad {α β : Type} {f : α → Store → R β} : (R.bad : R α).bind f = .bad := rfl
@[simp] theorem toB_bl (b : Bool) (s : Store) : toB (.bl b) s = .ok b s := rfl
@[simp] theorem toI_int (i : Int) (s : Store) : toI (.int i) s = .ok (some i) s := rfl
@[simp] theorem endD_nx (Γ : Env) (s : Store) : endD (.ok (.nx Γ) s) = .ok .non s := rfl
@[simp] theorem endD_rt (d : D) (s : Store) : endD (.ok (.rt d) s) = .ok d s := rfl
@[simp] theorem endO_ro (d : List D) (s : Store) : endO (.ok (.ro d) s) = .ok d s := rfl
theorem mFn_run (n : Nat) (b : MS) (ds : List D) (s : Store) : mFn n b ds s = endD (b (startE n ds) s) := rfl
theorem mFnO_run (n : Nat) (b : MS) (ds : List D) (s : Store) : mFnO n b ds s = endO (b (startE n ds) s) := rfl
@[simp] theorem few_ok (f : List D → D) (ds : List D) (h : ds.length ≤ 100000) : few f ds = some (f ds) := if_pos h
@[simp] theorem setAllE_c (i : Nat) (is : List Nat) (x : SV) (xs : List SV) (Γ : Env) : setAllE (i :: is) (x :: xs) Γ = setAllE is xs (Γ.set i x) := rfl
@[simp] theorem setAllE_n (xs : List SV) (Γ : Env) : setAllE [] xs Γ = Γ := by cases xs <;> rfl
@[simp] theorem bindT_nm (i : Nat) (d : D) (Γ : Env) : bindT (.nm i) d Γ = some (Γ.set i (.dat d)) := by simp only [bindT]
@[simp] theorem bindT_tp (ts : List Tg) (ds : List D) (Γ : Env) : bindT (.tp ts) (.tup ds) Γ = bindTs ts ds Γ := by simp only [bindT]
@[simp] theorem bindTs_nil (Γ : Env) : bindTs [] [] Γ = some Γ := by simp only [bindTs]
@[simp] theorem bindTs_cons (t : Tg) (ts : List Tg) (d : D) (ds : List D) (Γ : Env) : bindTs (t :: ts) (d :: ds) Γ = (bindT t d Γ).bind fun Γ1 => bindTs ts ds Γ1 := by simp only [bindTs]
@[simp] theorem wipeE_nil (Γ : Env) : wipeE Γ [] = Γ := rfl
@[simp] theorem wipeE_cons (Γ : Env) (v : Nat) (vs : List Nat) : wipeE Γ (v :: vs) = (wipeE Γ vs).set v .nul := rfl
@[simp] theorem mVar_run (i : Nat) (Γ : Env) (s : Store) : mVar i Γ s = (match Γ[i]? with | some (.dat d) => .ok d s | _ => .bad) := rfl
@[simp] theorem mPeek_run (i : Nat) (Γ : Env) (s : Store) : mPeek i Γ s = (match Γ[i]? with | some (.dat d) => .ok d s | some (.own ds) => .ok (.lst ds) s | _ => .bad) := rfl
@[simp] theorem mCon_run (d : D) (Γ : Env) (s : Store) : mCon d Γ s = (.ok d s) := rfl
@[simp] theorem mOp_run (f : D → D → Option D) (a b : Env → M D) (Γ : Env) (s : Store) : mOp f a b Γ s = ((a Γ s).bind fun d1 s1 => (b Γ s1).bind fun d2 s2 => R.opt (f d1 d2) s2) := rfl
@[simp] theorem mOp1_run (f : D → Option D) (a : Env → M D) (Γ : Env) (s : Store) : mOp1 f a Γ s = ((a Γ s).bind fun d1 s1 => R.opt (f d1) s1) := rfl
@[simp] theorem mSd_run (m : Env → M D) (Γ : Env) (s : Store) : mSd m Γ s = ((m Γ s).bind fun d s1 => .ok (.dat d) s1) := rfl
@[simp] theorem mSo_run (m : Env → M (List D)) (Γ : Env) (s : Store) : mSo m Γ s = ((m Γ s).bind fun d s1 => .ok (.own d) s1) := rfl
@[simp] theorem mRnil_run  (Γ : Env) (s : Store) : mRnil Γ s = (.ok [] s) := rfl
@[simp] theorem mRcons_run (m : Env → M SV) (n : Env → M (List SV)) (Γ : Env) (s : Store) : mRcons m n Γ s = ((m Γ s).bind fun d s1 => (n Γ s1).bind fun ds s2 => .ok (d :: ds) s2) := rfl
@[simp] theorem mNil_run  (Γ : Env) (s : Store) : mNil Γ s = (.ok [] s) := rfl
@[simp] theorem mCons_run (m : Env → M D) (n : Env → M (List D)) (Γ : Env) (s : Store) : mCons m n Γ s = ((m Γ s).bind fun d s1 => (n Γ s1).bind fun ds s2 => .ok (d :: ds) s2) := rfl
@[simp] theorem mTest_run (m : Env → M D) (Γ : Env) (s : Store) : mTest m Γ s = ((m Γ s).bind toB) := rfl
@[simp] theorem mNotT_run (m : Env → M Bool) (Γ : Env) (s : Store) : mNotT m Γ s = ((m Γ s).bind fun b s1 => .ok (!b) s1) := rfl
@[simp] theorem mAndT_run (m n : Env → M Bool) (Γ : Env) (s : Store) : mAndT m n Γ s = ((m Γ s).bind fun b s1 => match b with | true => n Γ s1 | false => .ok false s1) := rfl
@[simp] theorem mOrT_run (m n : Env → M Bool) (Γ : Env) (s : Store) : mOrT m n Γ s = ((m Γ s).bind fun b s1 => match b with | true => .ok true s1 | false => n Γ s1) := rfl
@[simp] theorem mIte_run (c : Env → M Bool) (m n : Env → M D) (Γ : Env) (s : Store) : mIte c m n Γ s = ((c Γ s).bind fun b s1 => match b with | true => m Γ s1 | false => n Γ s1) := rfl
@[simp] theorem mTup_run (m : Env → M (List D)) (Γ : Env) (s : Store) : mTup m Γ s = ((m Γ s).bind fun ds s1 => R.opt (few .tup ds) s1) := rfl
@[simp] theorem mLst_run (m : Env → M (List D)) (Γ : Env) (s : Store) : mLst m Γ s = ((m Γ s).bind fun ds s1 => R.opt (few .lst ds) s1) := rfl
@[simp] theorem mBlt_run (f : List D → Option D) (m : Env → M (List D)) (Γ : Env) (s : Store) : mBlt f m Γ s = ((m Γ s).bind fun ds s1 => R.opt (f ds) s1) := rfl
@[simp] theorem mIx_run (a b : Env → M D) (Γ : Env) (s : Store) : mIx a b Γ s = ((a Γ s).bind fun d1 s1 => (b Γ s1).bind fun d2 s2 => R.opt (fIx (s2.deref d1) d2) s2) := rfl
@[simp] theorem mPar_run (is : List Nat) (m : Env → M (List SV)) (Γ : Env) (s : Store) : mPar is m Γ s = ((m Γ s).bind fun xs s1 => if xs.length = is.length then .ok (.nx (setAllE is xs Γ)) s1 else .bad) := rfl
@[simp] theorem mAsg_run (i : Nat) (m : Env → M SV) (Γ : Env) (s : Store) : mAsg i m Γ s = ((m Γ s).bind fun x s1 => .ok (.nx (Γ.set i x)) s1) := rfl
@[simp] theorem mSeq_run (m n : MS) (Γ : Env) (s : Store) : mSeq m n Γ s = ((m Γ s).bind fun o s1 => match o with | .nx Γ1 => n Γ1 s1 | o => .ok o s1) := rfl
@[simp] theorem mIf_run (c : Env → M Bool) (m n : MS) (Γ : Env) (s : Store) : mIf c m n Γ s = ((c Γ s).bind fun b s1 => match b with | true => m Γ s1 | false => n Γ s1) := rfl
@[simp] theorem mRet_run (m : Env → M D) (Γ : Env) (s : Store) : mRet m Γ s = ((m Γ s).bind fun d s1 => .ok (.rt d) s1) := rfl
@[simp] theorem mRetN_run  (Γ : Env) (s : Store) : mRetN Γ s = (.ok (.rt .non) s) := rfl
@[simp] theorem mNext_run  (Γ : Env) (s : Store) : mNext Γ s = (.ok (.nx Γ) s) := rfl
@[simp] theorem mRetV_run (i : Nat) (Γ : Env) (s : Store) : mRetV i Γ s = (match Γ[i]? with | some (.dat d) => .ok (.rt d) s | some (.own ds) => .ok (.rt (.lst ds)) s | _ => .bad) := rfl
@[simp] theorem mRetVO_run (i : Nat) (Γ : Env) (s : Store) : mRetVO i Γ s = (match Γ[i]? with | some (.own ds) => .ok (.ro ds) s | _ => .bad) := rfl
@[simp] theorem mRetO_run (m : Env → M (List D)) (Γ : Env) (s : Store) : mRetO m Γ s = ((m Γ s).bind fun d s1 => .ok (.ro d) s1) := rfl
@[simp] theorem mUnp_run (t : Tg) (m : Env → M D) (Γ : Env) (s : Store) : mUnp t m Γ s = ((m Γ s).bind fun d s1 => match bindT t d Γ with | none => .bad | some Γ1 => .ok (.nx Γ1) s1) := rfl
@[simp] theorem mDrop_run (m : Env → M D) (Γ : Env) (s : Store) : mDrop m Γ s = ((m Γ s).bind fun _ s1 => .ok (.nx Γ) s1) := rfl
@[simp] theorem mCall_run (n : Nat) (f : List D → Store → R D) (m : Env → M (List D)) (Γ : Env) (s : Store) : mCall n f m Γ s = ((m Γ s).bind fun ds s1 => if ds.length = n then f ds s1 else .bad) := rfl
@[simp] theorem mCallO_run (n : Nat) (f : List D → Store → R (List D)) (m : Env → M (List D)) (Γ : Env) (s : Store) : mCallO n f m Γ s = ((m Γ s).bind fun ds s1 => if ds.length = n then f ds s1 else .bad) := rfl
@[simp] theorem mItems_run (m : Env → M D) (Γ : Env) (s : Store) : mItems m Γ s = ((m Γ s).bind fun d s1 => R.opt (fItems d) s1) := rfl
@[simp] theorem mRng_run (f : List D → Option (List D)) (m : Env → M (List D)) (Γ : Env) (s : Store) : mRng f m Γ s = ((m Γ s).bind fun ds s1 => R.opt (f ds) s1) := rfl
@[simp] theorem mFrz_run (m : Env → M (List D)) (Γ : Env) (s : Store) : mFrz m Γ s = ((m Γ s).bind fun ds s1 => .ok (.lst ds) s1) := rfl
@[simp] theorem mLcL_run (mi : Env → M (List D)) (t : Tg) (c : Env → M Bool) (e : Env → M D) (o : List Nat) (Γ : Env) (s : Store) : mLcL mi t c e o Γ s = ((mi Γ s).bind fun ds s1 => if ds.length ≤ 100000 then lcGo t c e (wipeE Γ o) ds s1 else .bad) := rfl
@[simp] theorem mFor_run (mi : Env → M (List D)) (t : Tg) (b : MS) (Γ : Env) (s : Store) : mFor mi t b Γ s = ((mi Γ s).bind fun ds s1 => forGo t b ds Γ s1) := rfl
@[simp] theorem mNoPart_run  (Γ : Env) (s : Store) : mNoPart Γ s = (.ok none s) := rfl
@[simp] theorem mPart_run (m : Env → M D) (Γ : Env) (s : Store) : mPart m Γ s = ((m Γ s).bind toI) := rfl
@[simp] theorem mSl_run (m : Env → M D) (a b : Env → M (Option Int)) (Γ : Env) (s : Store) : mSl m a b Γ s = ((m Γ s).bind fun d s1 => (a Γ s1).bind fun lo s2 => (b Γ s2).bind fun hi s3 => R.opt (fSl d lo hi) s3) := rfl
@[simp] theorem mApp_run (i : Nat) (m : Env → M D) (Γ : Env) (s : Store) : mApp i m Γ s = (match Γ[i]? with | some (.own ds) => (m Γ s).bind fun d s1 => if ds.length < 100000 then .ok (.nx (Γ.set i (.own (ds ++ [d])))) s1 else .bad | _ => .bad) := rfl
@[simp] theorem mGhost_run (i : Nat) (m : MS) (Γ : Env) (s : Store) : mGhost i m Γ s = (m (frzE i Γ) s) := rfl
@[simp] theorem mCell_run (i : Nat) (m : Env → M (List D)) (Γ : Env) (s : Store) : mCell i m Γ s = ((m Γ s).bind fun ds s1 => .ok (.nx (Γ.set i (.dat (.cel s1.length)))) (s1 ++ [.lst ds])) := rfl
@[simp] theorem mLR_run (m : Env → M (List D)) (Γ : Env) (s : Store) : mLR m Γ s = ((m Γ s).bind fun ds s1 => R.opt (fLR ds) s1) := rfl
@[simp] theorem mTR_run (m : Env → M (List D)) (Γ : Env) (s : Store) : mTR m Γ s = ((m Γ s).bind fun ds s1 => R.opt ((fLR ds).map .tup) s1) := rfl
@[simp] theorem mLstO_run (m : Env → M (List D)) (Γ : Env) (s : Store) : mLstO m Γ s = ((m Γ s).bind fun ds s1 => if ds.length ≤ 100000 then .ok ds s1 else .bad) := rfl
@[simp] theorem mYes_run  (Γ : Env) (s : Store) : mYes Γ s = (.ok true s) := rfl
@[simp] theorem mBad_run  (Γ : Env) (s : Store) : mBad Γ s = (.bad) := rfl
theorem run_while_ok {c : Env → M Bool} {b : MS} {n : Nat} {Γ Γ1 : Env} {s s1 s2 : Store} (hc : c Γ s = .ok true s1) (hb : b Γ s1 = .ok (.nx Γ1) s2) : mWhile c b (n + 1) Γ s = mWhile c b n Γ1 s2 := by
  rw [mWhile_succ, hc]
  show (b Γ s1).bind _ = _
  rw [hb]; rfl
theorem run_while_end {c : Env → M Bool} {b : MS} {n : Nat} {Γ : Env} {s s1 : Store} (hc : c Γ s = .ok false s1) : mWhile c b (n + 1) Γ s = .ok (.nx Γ) s1 := by
  rw [mWhile_succ, hc]; rfl
/-- a loop as a fold: Γ of the state -/
theorem run_for {τ : Type} {tg : Tg} {b : MS} {s : Store} (E : τ → Env) (f : τ → D → τ) (ok : τ → List D → Prop) : ∀ (ds : List D) (a : τ), ok a ds → (∀ a d ds, ok a (d :: ds) → ok (f a d) ds ∧ ∃ Γ1, bindT tg d (E a) = some Γ1 ∧ b Γ1 s = .ok (.nx (E (f a d))) s) → forGo tg b ds (E a) s = .ok (.nx (E (ds.foldl f a))) s
  | [], a, _, _ => rfl
  | d :: ds, a, h, st => by
    obtain ⟨h1, Γ1, h2, h3⟩ := st a d ds h
    show (match bindT tg d (E a) with
      | none => R.bad
      | some Γ1 => (b Γ1 s).bind fun o s2 => match o with
        | .nx Γ2 => forGo tg b ds Γ2 s2
        | .ct Γ2 => forGo tg b ds Γ2 s2
        | .bk Γ2 => .ok (.nx Γ2) s2
        | o => .ok o s2) = _
    rw [h2]
    show (b Γ1 s).bind _ = _
    rw [h3]
    exact run_for E f ok ds (f a d) h1 st
/-- a comprehension as a map (no test) -/
theorem run_lc {tg : Tg} {me : Env → M D} {Γ : Env} {s : Store} (g : D → D) : ∀ ds : List D, (∀ d ∈ ds, ∃ Γ1, bindT tg d Γ = some Γ1 ∧ me Γ1 s = .ok (g d) s) → lcGo tg mYes me Γ ds s = .ok (ds.map g) s
  | [], _ => rfl
  | d :: ds, h => by
    obtain ⟨Γ1, h1, h2⟩ := h d List.mem_cons_self
    unfold lcGo
    rw [h1]
    show (me Γ1 s).nox.bind _ = _
    rw [h2]
    show (lcGo tg mYes me Γ ds s).bind _ = _
    rw [run_lc g ds fun e he => h e (List.mem_cons_of_mem _ he)]
    rfl
/-- .. with a test -/
theorem run_lcf {tg : Tg} {mc : Env → M Bool} {me : Env → M D} {Γ : Env} {s : Store} (t : D → Bool) (g : D → D) : ∀ ds : List D, (∀ d ∈ ds, ∃ Γ1, bindT tg d Γ = some Γ1 ∧ mc Γ1 s = .ok (t d) s ∧ (t d = true → me Γ1 s = .ok (g d) s)) → lcGo tg mc me Γ ds s = .ok ((ds.filter t).map g) s
  | [], _ => rfl
  | d :: ds, h => by
    obtain ⟨Γ1, h1, h2, h3⟩ := h d List.mem_cons_self
    have ih := run_lcf t g ds fun e he => h e (List.mem_cons_of_mem _ he)
    unfold lcGo
    rw [h1]
    show (mc Γ1 s).nox.bind _ = _
    rw [h2]
    cases ht : t d with
    | true =>
      show (me Γ1 s).nox.bind _ = _
      rw [h3 ht]
      show (lcGo tg mc me Γ ds s).bind _ = _
      rw [ih, List.filter_cons, ht]
      rfl
    | false =>
      show lcGo tg mc me Γ ds s = _
      rw [ih, List.filter_cons, ht]
      rfl
/-! ### operations on ints -/
section
variable {i j : Int} {k : Nat}
@[simp] theorem fAdd_ii : fAdd (.int i) (.int j) = some (.int (i + j)) := rfl
@[simp] theorem fSub_ii : fSub (.int i) (.int j) = some (.int (i - j)) := rfl
theorem fMul_ii (h : i.natAbs.log2 + j.natAbs.log2 < 1000000) : fMul (.int i) (.int j) = some (.int (i * j)) := if_pos h
theorem fDiv_ii (h : 0 < j) (h2 : j.natAbs.log2 < 9000) : fDiv (.int i) (.int j) = some (.int (i / j)) := if_pos ⟨h, h2⟩
theorem fMod_ii (h : 0 < j) : fMod (.int i) (.int j) = some (.int (i % j)) := if_pos h
@[simp] theorem fNeg_i : fNeg (.int i) = some (.int (-i)) := rfl
@[simp] theorem fLt_ii : fLt (.int i) (.int j) = some (.bl (decide (i < j))) := rfl
@[simp] theorem fLe_ii : fLe (.int i) (.int j) = some (.bl (decide (i ≤ j))) := rfl
@[simp] theorem fGt_ii : fGt (.int i) (.int j) = some (.bl (decide (j < i))) := rfl
@[simp] theorem fGe_ii : fGe (.int i) (.int j) = some (.bl (decide (j ≤ i))) := rfl
@[simp] theorem fEq_ii : fEq (.int i) (.int j) = some (.bl (i == j)) := by
  unfold fEq; rw [if_pos (by simp [D.fine])]; rfl
@[simp] theorem fNe_ii : fNe (.int i) (.int j) = some (.bl (!(i == j))) := by
  unfold fNe; rw [if_pos (by simp [D.fine])]; rfl
@[simp] theorem fAbs_i : fAbs [.int i] = some (.int i.natAbs) := by
  unfold fAbs
  show some (D.int (if i < 0 then -i else i)) = _
  congr 2
  split <;> omega
@[simp] theorem fMax_ii : fMax [.int i, .int j] = some (.int (if j > i then j else i)) := rfl
@[simp] theorem fMin_ii : fMin [.int i, .int j] = some (.int (if j < i then j else i)) := rfl
@[simp] theorem fInt_i : fInt [.int i] = some (.int i) := rfl
end
end PD
set_option maxRecDepth 100000
set_option maxHeartbeats 4000000
namespace PD
open PySem PySem.Spec PyProof.Rows L2

/-! ### the greatest divisor -/
def eL (xs : List Int) : D := .lst (xs.map .int)
@[simp] theorem fItems_eL (xs : List Int) : fItems (eL xs) = some (xs.map .int) := rfl
def gcdL (xs : List Int) : Nat := xs.foldl (fun g x => Nat.gcd g x.natAbs) 0
def part (xs : List Int) : Nat := if gcdL xs > 0 then gcdL xs else 1
abbrev gcdC : Env → M Bool := mTest (mOp fGt (mPeek 4) (mCon (.int 0)))
abbrev gcdB : MS := mPar [3, 4] (mRcons (mSd (mVar 4)) (mRcons (mSd (mOp fMod (mPeek 3) (mPeek 4))) mRnil))
theorem gcd_step {x0 x1 x2 : SV} {a b : Nat} {s : Store} (hb : 0 < b) : gcdB [x0, x1, x2, .dat (.int a), .dat (.int b)] s = .ok (.nx [x0, x1, x2, .dat (.int b), .dat (.int ((a % b : Nat) : Int))]) s := by
  have e : fMod (.int (a : Int)) (.int (b : Int)) = some (.int ((a % b : Nat) : Int)) := by
    rw [fMod_ii (by omega)]; rfl
  simp [gcdB, e]
theorem gcd_test {x0 x1 x2 x3 : SV} {b : Nat} {s : Store} : gcdC [x0, x1, x2, x3, .dat (.int b)] s = .ok (decide (0 < b)) s := by
  simp [gcdC]
theorem gcd_loop {x0 x1 x2 : SV} {s : Store} : ∀ (n m : Nat) (a b : Nat), b < 2 ^ n → 2 * n + 1 ≤ m → mWhile gcdC gcdB m [x0, x1, x2, .dat (.int a), .dat (.int b)] s = .ok (.nx [x0, x1, x2, .dat (.int (Nat.gcd a b)), .dat (.int 0)]) s
  | 0, m + 1, a, b, h, hm => by
    have : b = 0 := by simpa using h
    subst this
    rw [run_while_end (gcd_test (b := 0))]
    simp
  | n + 1, m + 1, a, b, h, hm => by
    by_cases hb : b = 0
    · subst hb
      rw [run_while_end (gcd_test (b := 0))]
      simp
    · rw [run_while_ok (s1 := s) (by rw [gcd_test]; simp; omega) (gcd_step (by omega))]
      cases m with
      | zero => omega
      | succ m =>
        by_cases hr : a % b = 0
        · rw [hr, run_while_end (gcd_test (b := 0))]
          rw [Nat.gcd_comm a b, Nat.gcd_rec b a, hr, Nat.gcd_zero_left]
          rfl
        · rw [run_while_ok (s1 := s) (by rw [gcd_test]; simp; omega) (gcd_step (by omega))]
          have h1 : a % b < b := Nat.mod_lt _ (by omega)
          have h2 : b % (a % b) < a % b := Nat.mod_lt _ (by omega)
          have h3 : b % (a % b) ≤ b - a % b := by
            rw [Nat.mod_eq_sub_mod (Nat.le_of_lt h1)]
            exact Nat.mod_le _ _
          rw [gcd_loop n m (a % b) (b % (a % b)) (by rw [Nat.pow_succ] at h; omega) (by omega)]
          have e : Nat.gcd (a % b) (b % (a % b)) = Nat.gcd a b := by
            rw [Nat.gcd_comm a b, Nat.gcd_rec b a, Nat.gcd_rec (a % b) b, Nat.gcd_comm]
          rw [e]
theorem wfuel_big : 2 * 900000 + 1 ≤ wfuel := by unfold wfuel; decide
theorem lt_of_log {x : Nat} {n : Nat} (h : x.log2 < n) : x < 2 ^ n := Nat.lt_of_lt_of_le Nat.lt_log2_self (Nat.pow_le_pow_right (by decide) h)
abbrev divB : MS := mSeq (mPar [3, 4] (mRcons (mSd (mVar 1)) (mRcons (mSd (mBlt fAbs (mCons (mPeek 2) mNil))) mRnil))) (mSeq (mWhile gcdC gcdB wfuel) (mAsg 1 (mSd (mVar 3))))
theorem div_loop {x0 : SV} {s : Store} : ∀ (xs : List Int) (g : Nat) (x2 x3 x4 : SV), (∀ x ∈ xs, x.natAbs.log2 < 900000) → ∃ y2 y3 y4, forGo (.nm 2) divB (xs.map .int) [x0, .dat (.int g), x2, x3, x4] s = .ok (.nx [x0, .dat (.int ((xs.foldl (fun g x => Nat.gcd g x.natAbs) g : Nat) : Int)), y2, y3, y4]) s
  | [], g, x2, x3, x4, _ => ⟨x2, x3, x4, rfl⟩
  | x :: xs, g, x2, x3, x4, h => by
    obtain ⟨y2, y3, y4, ih⟩ := div_loop (x0 := x0) (s := s) xs (Nat.gcd g x.natAbs) (.dat (.int x)) (.dat (.int (Nat.gcd g x.natAbs))) (.dat (.int 0)) fun z hz => h z (List.mem_cons_of_mem _ hz)
    refine ⟨y2, y3, y4, ?_⟩
    have st : divB [x0, .dat (.int g), .dat (.int x), x3, x4] s = .ok (.nx [x0, .dat (.int (Nat.gcd g x.natAbs)), .dat (.int x), .dat (.int (Nat.gcd g x.natAbs)), .dat (.int 0)]) s := by
      have e := gcd_loop (x0 := x0) (x1 := .dat (.int g)) (x2 := .dat (.int x)) (s := s) 900000 wfuel g x.natAbs (lt_of_log (h x List.mem_cons_self)) wfuel_big
      simp only [divB, mSeq_run, mPar_run, mRcons_run, mSd_run, mVar_run, mBlt_run, mCons_run, mPeek_run, mNil_run, mRnil_run, mAsg_run]
      simp [e]
    rw [List.map_cons]
    show (match bindT (.nm 2) (.int x) [x0, .dat (.int g), x2, x3, x4] with
      | none => R.bad
      | some Γ1 => (divB Γ1 s).bind _) = _
    simp only [bindT, List.set_cons_succ, List.set_cons_zero]
    rw [st]
    exact ih
theorem part_if {xs : List Int} : (if (gcdL xs : Int) > 0 then ((gcdL xs : Nat) : Int) else 1) = (part xs : Int) := by
  unfold part
  by_cases h : gcdL xs > 0
  · rw [if_pos h, if_pos (by omega)]
  · rw [if_neg h, if_neg (by omega)]; rfl
theorem divisor_ok {d : D} {xs : List Int} {s : Store} (hd : fItems d = some (xs.map .int)) (hs : ∀ x ∈ xs, x.natAbs.log2 < 900000) : m_divisor [d] s = .ok (.int (part xs)) s := by
  unfold m_divisor
  rw [mFn_run]
  obtain ⟨y2, y3, y4, e⟩ := div_loop (x0 := .dat d) (s := s) xs 0 .nul .nul .nul hs
  have e : forGo (.nm 2) divB (xs.map .int) [.dat d, .dat (.int 0), .nul, .nul, .nul] s = .ok (.nx [.dat d, .dat (.int (gcdL xs : Nat)), y2, y3, y4]) s := e
  simp only [b_divisor, startE]
  simp [hd, e]
  rw [← part_if]
  by_cases h : 0 < gcdL xs <;> simp [h]
theorem part_pos {xs : List Int} : 0 < part xs := by
  unfold part; split <;> omega
theorem gcdL_dvd {xs : List Int} : ∀ {g : Nat}, ((xs.foldl (fun g x => Nat.gcd g x.natAbs) g) ∣ g) ∧ ∀ x ∈ xs, ((xs.foldl (fun g x => Nat.gcd g x.natAbs) g : Nat) : Int) ∣ x := by
  induction xs with
  | nil => intro g; exact ⟨Nat.dvd_refl _, fun x h => nomatch h⟩
  | cons y ys ih =>
    intro g
    obtain ⟨h1, h2⟩ := ih (g := Nat.gcd g y.natAbs)
    refine ⟨Nat.dvd_trans h1 (Nat.gcd_dvd_left _ _), fun x hx => ?_⟩
    rcases List.mem_cons.mp hx with rfl | hx
    · exact Int.dvd_trans (Int.ofNat_dvd.mpr (Nat.dvd_trans h1 (Nat.gcd_dvd_right _ _))) Int.natAbs_dvd_self
    · exact h2 x hx
theorem part_dvd {xs : List Int} {x : Int} (hx : x ∈ xs) : (part xs : Int) ∣ x := by
  unfold part
  split
  · exact (gcdL_dvd (g := 0)).2 x hx
  · exact Int.one_dvd x

/-! ### a row, neat -/
def neatL (xs : List Int) : List Int := xs.map fun x => x / (part xs : Int)
theorem neat_ok {xs : List Int} {s : Store} (hs : ∀ x ∈ xs, x.natAbs.log2 < 900000) (hp : (part xs).log2 < 9000) (hl : xs.length ≤ 100000) : m_neat [eL xs] s = .ok (eL (neatL xs)) s := by
  have e1 : m_divisor [eL xs] s = .ok (.int (part xs)) s := divisor_ok rfl hs
  have e2 : lcGo (.nm 2) mYes (mOp fDiv (mPeek 2) (mPeek 1)) [.dat (eL xs), .dat (.int (part xs)), .nul] (xs.map .int) s = .ok ((xs.map D.int).map fun d => match d with
      | .int x => .int (x / (part xs : Int))
      | d => d) s := run_lc _ _ fun d hd => by
    obtain ⟨x, hx, rfl⟩ := List.mem_map.mp hd
    refine ⟨_, rfl, ?_⟩
    have := part_pos (xs := xs)
    simp [fDiv_ii (i := x) (j := (part xs : Int)) (by omega) (by simpa using hp)]
  unfold m_neat
  rw [mFn_run]
  simp only [b_neat, startE]
  simp [e1, hl, e2]
  simp [neatL, eL, Function.comp_def]
end PD
set_option maxRecDepth 100000
set_option maxHeartbeats 4000000
set_option exponentiation.threshold 20
namespace PD
open PySem PySem.Spec PyProof.Rows L2

/-! ### numbers in lists -/
@[simp] theorem deref_eL (s : Store) (xs : List Int) : s.deref (eL xs) = eL xs := rfl
theorem atI_nat {α : Type} {xs : List α} {k : Nat} (h : k < xs.length) : atI xs (k : Int) = some xs[k] := by
  unfold atI ixN
  rw [if_pos (by omega), if_pos (by omega)]
  simp [h]
theorem atI_last {α : Type} {xs : List α} (h : 0 < xs.length) : atI xs (-1) = some xs[xs.length - 1] := by
  unfold atI ixN
  rw [if_neg (by omega), if_pos (by omega)]
  have : (-1 + (xs.length : Int)).toNat = xs.length - 1 := by omega
  simp [this]
def nth (xs : List Int) (k : Nat) : Int := xs.getD k 0
def lastD (xs : List Int) : Int := nth xs (xs.length - 1)
theorem fIx_nat {xs : List Int} {k : Nat} (h : k < xs.length) : fIx (eL xs) (.int (k : Int)) = some (.int (nth xs k)) := by
  show atI (xs.map D.int) (k : Int) = _
  rw [atI_nat (by simpa using h)]
  simp [nth, List.getElem?_eq_getElem h]
theorem fIx_last {xs : List Int} (h : 0 < xs.length) : fIx (eL xs) (.int (-1)) = some (.int (lastD xs)) := by
  show atI (xs.map D.int) (-1) = _
  rw [atI_last (by simpa using h)]
  unfold lastD nth
  simp [List.getElem?_eq_getElem (show xs.length - 1 < xs.length by omega)]
theorem zipD_map : ∀ {xs ys : List Int}, zipD (xs.map .int) (ys.map .int) = (xs.zip ys).map fun p => .tup [.int p.1, .int p.2]
  | [], _ => by simp [zipD]
  | _ :: _, [] => by simp [zipD]
  | x :: xs, y :: ys => by simp [zipD, zipD_map]
@[simp] theorem fZip_eL (xs ys : List Int) : fZip [eL xs, eL ys] = some ((xs.zip ys).map fun p => .tup [.int p.1, .int p.2]) := by
  show some (zipD (xs.map D.int) (ys.map D.int)) = _
  rw [zipD_map]
/-! ### sizes -/
def Sm (x : Int) : Prop := x.natAbs.log2 < 4000
def SmL (xs : List Int) : Prop := ∀ x ∈ xs, Sm x
theorem SmL.get {xs : List Int} (h : SmL xs) (k : Nat) : Sm (nth xs k) := by
  unfold nth
  by_cases hk : k < xs.length
  · rw [List.getD_eq_getElem?_getD, List.getElem?_eq_getElem hk]
    exact h _ (List.getElem_mem hk)
  · rw [List.getD_eq_getElem?_getD, List.getElem?_eq_none (by omega)]
    show (0 : Int).natAbs.log2 < 4000
    decide
theorem log_lt {x n : Nat} (hn : 0 < n) (h : x < 2 ^ n) : x.log2 < n := by
  by_cases h0 : x = 0
  · subst h0; simpa using hn
  · exact (Nat.log2_lt h0).mpr h
theorem mul_log {a b : Int} {n m : Nat} (ha : a.natAbs.log2 < n) (hb : b.natAbs.log2 < m) : (a * b).natAbs.log2 < n + m := by
  refine log_lt (by omega) ?_
  rw [Int.natAbs_mul, Nat.pow_add]
  exact Nat.mul_lt_mul'' (lt_of_log ha) (lt_of_log hb)
theorem sub_log {a b : Int} {n : Nat} (ha : a.natAbs.log2 < n) (hb : b.natAbs.log2 < n) : (a - b).natAbs.log2 < n + 1 := by
  refine log_lt (by omega) ?_
  have h1 := lt_of_log ha
  have h2 := lt_of_log hb
  rw [Nat.pow_succ]
  omega
theorem comb_log {a b c d : Int} (ha : Sm a) (hb : Sm b) (hc : Sm c) (hd : Sm d) : (a * b - c * d).natAbs.log2 < 8001 := sub_log (n := 8000) (mul_log (n := 4000) (m := 4000) ha hb) (mul_log (n := 4000) (m := 4000) hc hd)
theorem fMul_sm {i j : Int} (hi : Sm i) (hj : Sm j) : fMul (.int i) (.int j) = some (.int (i * j)) := by
  refine fMul_ii ?_
  unfold Sm at hi hj
  omega
theorem natAbs_le_log {a b : Nat} (h : a ≤ b) : a.log2 ≤ b.log2 := by
  by_cases hb : b = 0
  · subst hb
    have : a = 0 := by omega
    subst this; exact Nat.le_refl _
  · have h1 := Nat.lt_log2_self (n := b)
    have h2 : a < 2 ^ (b.log2 + 1) := by omega
    have := log_lt (n := b.log2 + 1) (by omega) h2
    omega
/-! ### a row without an unknown -/
def comb (line pivot : List Int) (k : Nat) : List Int := (line.zip pivot).map fun p => p.1 * nth pivot k - p.2 * nth line k
def clr (line pivot : List Int) (k : Nat) : List Int := if nth line k = 0 then line else neatL (comb line pivot k)
theorem comb_sm {line pivot : List Int} {k : Nat} (h1 : SmL line) (h2 : SmL pivot) : ∀ x ∈ comb line pivot k, x.natAbs.log2 < 8001 := fun x hx => by
  unfold comb at hx
  obtain ⟨p, hp, rfl⟩ := List.mem_map.mp hx
  obtain ⟨a, b⟩ := p
  obtain ⟨ha, hb⟩ := List.of_mem_zip hp
  exact comb_log (h1 a ha) (h2.get k) (h2 b hb) (h1.get k)
theorem part_log {xs : List Int} {n : Nat} (hn : 1 < n) (h : ∀ x ∈ xs, x.natAbs.log2 < n) : (part xs).log2 < n := by
  by_cases hz : ∃ x ∈ xs, x ≠ 0
  · obtain ⟨x, hx, h0⟩ := hz
    have hd := part_dvd hx
    have hle : part xs ≤ x.natAbs := by
      have := Int.natAbs_dvd_natAbs.mpr hd
      simpa using Nat.le_of_dvd (by omega) this
    exact Nat.lt_of_le_of_lt (natAbs_le_log hle) (h x hx)
  · have : gcdL xs = 0 := by
      have hz' : ∀ x ∈ xs, x = 0 := fun x hx => Classical.byContradiction fun q => hz ⟨x, hx, q⟩
      unfold gcdL
      clear h hz
      induction xs with
      | nil => rfl
      | cons y ys ih =>
        have := hz' y List.mem_cons_self
        subst this
        simpa using ih fun x hx => hz' x (List.mem_cons_of_mem _ hx)
    unfold part
    rw [this, if_neg (by omega)]
    show Nat.log2 1 < n
    have : Nat.log2 1 = 0 := by decide
    omega
theorem cleared_ok {line pivot : List Int} {k : Nat} {s : Store} (h1 : SmL line) (h2 : SmL pivot) (hl : line.length = pivot.length) (hk : k < line.length) (hz : line.length ≤ 1000) : m_cleared [eL line, eL pivot, .int k] s = .ok (eL (clr line pivot k)) s := by
  have e0 := fIx_nat hk
  have e1 := fIx_nat (xs := pivot) (hl ▸ hk)
  unfold m_cleared
  rw [mFn_run]
  by_cases h0 : nth line k = 0
  · have e : clr line pivot k = line := if_pos h0
    rw [e]
    rw [h0] at e0
    simp only [b_cleared, startE]
    simp [e0]
  · have e : clr line pivot k = neatL (comb line pivot k) := if_neg h0
    rw [e]
    have e2 : lcGo (.tp [.nm 3, .nm 4]) mYes (mOp fSub (mOp fMul (mPeek 3) (mIx (mPeek 1) (mVar 2))) (mOp fMul (mPeek 4) (mIx (mPeek 0) (mVar 2)))) [.dat (eL line), .dat (eL pivot), .dat (.int k), .nul, .nul] ((line.zip pivot).map fun p => D.tup [.int p.1, .int p.2]) s = .ok (((line.zip pivot).map fun p => D.tup [.int p.1, .int p.2]).map fun d => match d with
        | D.tup [D.int x, D.int y] => D.int (x * nth pivot k - y * nth line k)
        | d => d) s := run_lc _ _ fun d hd => by
      obtain ⟨p, hp, rfl⟩ := List.mem_map.mp hd
      obtain ⟨x, y⟩ := p
      obtain ⟨hx, hy⟩ := List.of_mem_zip hp
      refine ⟨_, rfl, ?_⟩
      simp [e0, e1, fMul_sm (h1 x hx) (h2.get k), fMul_sm (h2 y hy) (h1.get k)]
    have e3 : m_neat [eL (comb line pivot k)] s = .ok (eL (neatL (comb line pivot k))) s :=
      neat_ok (fun x hx => Nat.lt_trans (comb_sm h1 h2 x hx) (by decide)) (Nat.lt_trans (part_log (by decide) (comb_sm h1 h2)) (by decide)) (by unfold comb; simp; omega)
    simp only [b_cleared, startE]
    have h0' : (nth line k == 0) = false := by simpa using h0
    have hz' : min line.length pivot.length ≤ 100000 := by omega
    simp [e0, h0', hz', e2]
    simp only [List.map_map, Function.comp_def, R.bind_ok]
    have e4 : D.lst ((line.zip pivot).map fun p => D.int (p.1 * nth pivot k - p.2 * nth line k)) = eL (comb line pivot k) := by simp [eL, comb]
    rw [e4, e3]
    rfl
end PD
set_option maxRecDepth 100000
set_option maxHeartbeats 4000000
set_option exponentiation.threshold 20
namespace PD
open PySem PySem.Spec PyProof.Rows L2

/-! ### a table, the row that bounds an unknown most -/
def eT (t : List (List Int)) : D := .lst (t.map eL)
def row (t : List (List Int)) (k : Nat) : List Int := t.getD k []
@[simp] theorem deref_eT (s : Store) (xs : List (List Int)) : s.deref (eT xs) = eT xs := rfl
@[simp] theorem fItems_eT (t : List (List Int)) : fItems (eT t) = some (t.map eL) := rfl
theorem fIx_row {t : List (List Int)} {k : Nat} (h : k < t.length) : fIx (eT t) (.int (k : Int)) = some (eL (row t k)) := by
  show atI (t.map eL) (k : Int) = _
  rw [atI_nat (by simpa using h)]
  simp [row, List.getElem?_eq_getElem h]
@[simp] theorem fLen_eL (xs : List Int) : fLen [eL xs] = some (.int xs.length) := by
  show some (D.int ((xs.map D.int).length : Nat)) = _
  rw [List.length_map]
@[simp] theorem fLen_eT (t : List (List Int)) : fLen [eT t] = some (.int t.length) := by
  show some (D.int ((t.map eL).length : Nat)) = _
  rw [List.length_map]
@[simp] theorem fEnum_eT (t : List (List Int)) : fEnum [eT t] = some (enumD 0 (t.map eL)) := rfl
@[simp] theorem fEnum_eL (t : List Int) : fEnum [eL t] = some (enumD 0 (t.map .int)) := rfl
/-- what a table is -/
structure TabOk (t : List (List Int)) (n : Nat) : Prop where
  len : ∀ l ∈ t, l.length = n
  sm : ∀ l ∈ t, SmL l
  pos : 0 < n
  few : n ≤ 1000 ∧ t.length ≤ 1000
theorem TabOk.row {t : List (List Int)} {n k : Nat} (h : TabOk t n) (hk : k < t.length) : (row t k).length = n ∧ SmL (row t k) := by
  unfold PD.row
  rw [List.getD_eq_getElem?_getD, List.getElem?_eq_getElem hk]
  exact ⟨h.len _ (List.getElem_mem hk), h.sm _ (List.getElem_mem hk)⟩
/-- is row i, that is line, nearer than row f -/
def nearer (t : List (List Int)) (basis : List Int) (k : Nat) (i : Nat) (line : List Int) (f : Nat) : Bool :=
  decide (lastD line * nth (row t f) k < lastD (row t f) * nth line k) || (lastD line * nth (row t f) k == lastD (row t f) * nth line k && decide (nth basis i < nth basis f))
def leavS (t : List (List Int)) (basis : List Int) (k : Nat) (f : Option Nat) (i : Nat) (line : List Int) : Option Nat :=
  if 0 < nth line k then (match f with
    | none => some i
    | some g => if nearer t basis k i line g then some i else some g) else f
def leavG (t : List (List Int)) (basis : List Int) (k : Nat) : Nat → List (List Int) → Option Nat → Option Nat
  | _, [], f => f
  | i, l :: ls, f => leavG t basis k (i + 1) ls (leavS t basis k f i l)
def leav (t : List (List Int)) (basis : List Int) (k : Nat) : Option Nat := leavG t basis k 0 t none
def eO : Option Nat → D
  | none => .non
  | some k => .int k
@[simp] theorem fIs_none : fIs .non .non = some (.bl true) := rfl
@[simp] theorem fIs_int (i : Int) : fIs (.int i) .non = some (.bl false) := rfl
@[simp] theorem fIs_lst (xs : List D) : fIs (.lst xs) .non = some (.bl false) := rfl
@[simp] theorem fIs_eL (xs : List Int) : fIs (eL xs) .non = some (.bl false) := rfl
abbrev leavB : MS := (mIf (mTest (mOp fGt (mIx (mPeek 5) (mVar 2)) (mCon (.int 0)))) (mIf (mTest (mOp fIs (mPeek 3) (mCon .non))) (mAsg 3 (mSd (mVar 4))) (mSeq (mPar [6, 7] (mRcons (mSd (mOp fMul (mIx (mPeek 5) (mOp1 fNeg (mCon (.int 1)))) (mIx (mIx (mPeek 0) (mVar 3)) (mVar 2)))) (mRcons (mSd (mOp fMul (mIx (mIx (mPeek 0) (mVar 3)) (mOp1 fNeg (mCon (.int 1)))) (mIx (mPeek 5) (mVar 2)))) mRnil)))
  (mIf (mOrT (mTest (mOp fLt (mPeek 6) (mPeek 7))) (mAndT (mTest (mOp fEq (mPeek 6) (mPeek 7))) (mTest (mOp fLt (mIx (mPeek 1) (mVar 4)) (mIx (mPeek 1) (mVar 3)))))) (mAsg 3 (mSd (mVar 4))) mNext))) mNext)
theorem leav_step {t : List (List Int)} {basis : List Int} {n k i : Nat} {line : List Int} {f : Option Nat} {x6 x7 : SV} {s : Store} (ht : TabOk t n) (hk : k < n) (hl : line.length = n) (hs : SmL line) (hi : i < basis.length) (hb : basis.length = t.length) (hf : ∀ g, f = some g → g < t.length) :
    ∃ y6 y7, leavB [.dat (eT t), .dat (eL basis), .dat (.int k), .dat (eO f), .dat (.int i), .dat (eL line), x6, x7] s = .ok (.nx [.dat (eT t), .dat (eL basis), .dat (.int k), .dat (eO (leavS t basis k f i line)), .dat (.int i), .dat (eL line), y6, y7]) s := by
  have e0 := fIx_nat (xs := line) (hl ▸ hk)
  have e1 := fIx_last (xs := line) (by have := ht.pos; omega)
  have e2 := fIx_nat (xs := basis) hi
  by_cases h0 : 0 < nth line k
  · cases f with
    | none =>
      refine ⟨x6, x7, ?_⟩
      simp [leavB, e0, h0, eO, leavS]
    | some g =>
      have hg := hf g rfl
      obtain ⟨rl, rs⟩ := ht.row hg
      have e3 := fIx_row hg
      have e4 := fIx_nat (xs := row t g) (rl ▸ hk)
      have e5 := fIx_last (xs := row t g) (by have := ht.pos; omega)
      have e6 := fIx_nat (xs := basis) (hb ▸ hg)
      have m1 := fMul_sm (show Sm (lastD line) from hs.get _) (rs.get k)
      have m2 := fMul_sm (show Sm (lastD (row t g)) from rs.get _) (hs.get k)
      refine ⟨.dat (.int (lastD line * nth (row t g) k)), .dat (.int (lastD (row t g) * nth line k)), ?_⟩
      have hn : nearer t basis k i line g = (decide (lastD line * nth (row t g) k < lastD (row t g) * nth line k) || (lastD line * nth (row t g) k == lastD (row t g) * nth line k && decide (nth basis i < nth basis g))) := rfl
      generalize lastD line * nth (row t g) k = p at m1 hn ⊢
      generalize lastD (row t g) * nth line k = q at m2 hn ⊢
      by_cases h1 : p < q
      · have hn : nearer t basis k i line g = true := by rw [hn]; simp [h1]
        simp [leavB, e0, e1, e2, e3, e4, e5, e6, h0, eO, leavS, m1, m2, hn, h1]
      · by_cases h2 : p = q
        · by_cases h3 : nth basis i < nth basis g
          · have hn : nearer t basis k i line g = true := by rw [hn]; simp [h2, h3]
            simp [leavB, e0, e1, e2, e3, e4, e5, e6, h0, eO, leavS, m1, m2, hn, h2, h3]
          · have hn : nearer t basis k i line g = false := by rw [hn]; simp [h2, h3]
            simp [leavB, e0, e1, e2, e3, e4, e5, e6, h0, eO, leavS, m1, m2, hn, h2, h3]
        · have hn : nearer t basis k i line g = false := by rw [hn]; simp [h1, h2]
          have h2' : (p == q) = false := by simpa using h2
          simp [leavB, e0, e1, e2, e3, e4, e5, e6, h0, eO, leavS, m1, m2, hn, h1, h2']
  · refine ⟨x6, x7, ?_⟩
    simp [leavB, e0, h0, leavS]
theorem leavS_lt {t : List (List Int)} {basis : List Int} {k i : Nat} {line : List Int} {f : Option Nat} (hi : i < t.length) (hf : ∀ g, f = some g → g < t.length) : ∀ g, leavS t basis k f i line = some g → g < t.length := fun g h => by
  unfold leavS at h
  split at h
  · split at h
    · cases h; exact hi
    · split at h
      · cases h; exact hi
      · cases h; exact hf _ rfl
  · exact hf g h
theorem leav_loop {t : List (List Int)} {basis : List Int} {n k : Nat} {s : Store} (ht : TabOk t n) (hk : k < n) (hb : basis.length = t.length) : ∀ (ls : List (List Int)) (i : Nat) (f : Option Nat) (x4 x5 x6 x7 : SV), (∀ l ∈ ls, l ∈ t) → i + ls.length = t.length → (∀ g, f = some g → g < t.length) →
    ∃ y4 y5 y6 y7, forGo (.tp [.nm 4, .nm 5]) leavB (enumD i (ls.map eL)) [.dat (eT t), .dat (eL basis), .dat (.int k), .dat (eO f), x4, x5, x6, x7] s = .ok (.nx [.dat (eT t), .dat (eL basis), .dat (.int k), .dat (eO (leavG t basis k i ls f)), y4, y5, y6, y7]) s
  | [], i, f, x4, x5, x6, x7, _, _, _ => ⟨x4, x5, x6, x7, rfl⟩
  | l :: ls, i, f, x4, x5, x6, x7, hm, hi, hf => by
    obtain ⟨y6, y7, e⟩ := leav_step (x6 := x6) (x7 := x7) (s := s) ht hk (ht.len l (hm l List.mem_cons_self)) (ht.sm l (hm l List.mem_cons_self)) (i := i) (by rw [hb, ← hi]; simp) hb hf
    obtain ⟨z4, z5, z6, z7, ih⟩ := leav_loop (s := s) ht hk hb ls (i + 1) (leavS t basis k f i l) (.dat (.int i)) (.dat (eL l)) y6 y7 (fun l hl => hm l (List.mem_cons_of_mem _ hl)) (by rw [← hi]; simp; omega) (leavS_lt (by rw [← hi]; simp) hf)
    refine ⟨z4, z5, z6, z7, ?_⟩
    rw [List.map_cons]
    show (match bindT (.tp [.nm 4, .nm 5]) (.tup [.int i, eL l]) [.dat (eT t), .dat (eL basis), .dat (.int k), .dat (eO f), x4, x5, x6, x7] with
      | none => R.bad
      | some Γ1 => (leavB Γ1 s).bind _) = _
    simp only [bindT, bindTs, Option.bind_some, List.set_cons_succ, List.set_cons_zero]
    rw [e]
    exact ih
theorem leaving_ok {t : List (List Int)} {basis : List Int} {n k : Nat} {s : Store} (ht : TabOk t n) (hk : k < n) (hb : basis.length = t.length) : m_leaving [eT t, eL basis, .int k] s = .ok (eO (leav t basis k)) s := by
  obtain ⟨y4, y5, y6, y7, e⟩ := leav_loop (s := s) ht hk hb t 0 none .nul .nul .nul .nul (fun _ h => h) (by simp) (fun _ h => nomatch h)
  have e : forGo (.tp [.nm 4, .nm 5]) leavB (enumD 0 (t.map eL)) [.dat (eT t), .dat (eL basis), .dat (.int k), .dat .non, .nul, .nul, .nul, .nul] s = .ok (.nx [.dat (eT t), .dat (eL basis), .dat (.int k), .dat (eO (leav t basis k)), y4, y5, y6, y7]) s := e
  unfold m_leaving
  rw [mFn_run]
  simp only [b_leaving, startE]
  simp [e]
end PD
set_option maxRecDepth 100000
set_option maxHeartbeats 4000000
set_option exponentiation.threshold 20
namespace PD
open PySem PySem.Spec PyProof.Rows L2

/-! ### exchanging -/
structure LP where
  t : List (List Int)
  b : List Int
  g : List Int
/-- the places that make the goal greater -/
def places (g : List Int) : List Nat := (List.range (g.length - 1)).filter fun k => decide (0 < nth g k)
def pivG (t : List (List Int)) (p : List Int) (k i : Nat) : Nat → List (List Int) → List (List Int)
  | _, [] => []
  | j, l :: ls => (if j = i then p else clr l p k) :: pivG t p k i (j + 1) ls
def LP.piv (x : LP) (k i : Nat) : LP := ⟨pivG x.t (row x.t i) k i 0 x.t, x.b.take i ++ [(k : Int)] ++ x.b.drop (i + 1), clr x.g (row x.t i) k⟩
structure LP.Ok (x : LP) (n : Nat) : Prop where
  t : TabOk x.t n
  b : x.b.length = x.t.length
  g : x.g.length = n
  sg : SmL x.g
theorem places_lt {g : List Int} {k : Nat} (h : k ∈ places g) : k < g.length - 1 ∧ 0 < nth g k := by
  unfold places at h
  rw [List.mem_filter, List.mem_range, decide_eq_true_eq] at h
  exact h
@[simp] theorem eL_len (xs : List Nat) : D.lst (xs.map fun (k : Nat) => D.int (k : Int)) = eL (xs.map fun (k : Nat) => (k : Int)) := by
  simp [eL, Function.comp_def]
theorem fEq_nil (xs : List Int) : fEq (eL xs) (.lst []) = some (.bl xs.isEmpty) := by
  cases xs with
  | nil => rfl
  | cons x xs =>
    unfold fEq
    rw [if_pos]
    · rfl
    · have : ∀ ys : List Int, D.fineL 59 (ys.map .int) = true := fun ys => by
        induction ys with
        | nil => rfl
        | cons y ys ih => simp [D.fineL, D.fine, ih]
      have h1 : D.fine 60 (eL (x :: xs)) = true := by
        show (60 != 0 && D.fineL (60 - 1) ((x :: xs).map .int)) = true
        rw [show (60 - 1 : Nat) = 59 from rfl, this]; rfl
      rw [h1]; rfl
theorem rangeD_map (n : Nat) : rangeD 0 n = (List.range n).map fun (k : Nat) => D.int (k : Int) := by
  unfold rangeD; simp
theorem fRng1_nat {n : Nat} (h : n ≤ 100000) : fRng1 [.int (n : Int)] = some ((List.range n).map fun (k : Nat) => D.int (k : Int)) := by
  unfold fRng1
  show (if -100000 ≤ (n : Int) ∧ (n : Int) ≤ 100000 then some (rangeD 0 (n : Int).toNat) else none) = _
  rw [if_pos (by omega), Int.toNat_natCast, rangeD_map]
theorem filter_map_nat (xs : List Nat) (p : Nat → Bool) (q : D → Bool) (h : ∀ k ∈ xs, q (.int (k : Int)) = p k) : (xs.map fun (k : Nat) => D.int (k : Int)).filter q = (xs.filter p).map fun (k : Nat) => D.int (k : Int) := by
  induction xs with
  | nil => rfl
  | cons x xs ih =>
    rw [List.map_cons, List.filter_cons, List.filter_cons, h x List.mem_cons_self, ih fun k hk => h k (List.mem_cons_of_mem _ hk)]
    split <;> rfl
/-- [at for at in range(len(goal) - 1) if goal[at] > 0], the goal in slot gi, the name in slot ai -/
theorem places_run {Γ : Env} {s : Store} {g : List Int} {gi ai : Nat} (hg : Γ[gi]? = some (.dat (eL g))) (ha : ai < Γ.length) (hne : gi ≠ ai) (hl : g.length ≤ 1000) (h1 : 0 < g.length) :
    lcGo (.nm ai) (mTest (mOp fGt (mIx (mPeek gi) (mVar ai)) (mCon (.int 0)))) (mVar ai) (Γ.set ai .nul) ((List.range (g.length - 1)).map fun (k : Nat) => D.int (k : Int)) s = .ok ((places g).map fun (k : Nat) => D.int (k : Int)) s := by
  have e := run_lcf (tg := .nm ai) (mc := mTest (mOp fGt (mIx (mPeek gi) (mVar ai)) (mCon (.int 0)))) (me := mVar ai) (Γ := Γ.set ai .nul) (s := s) (fun d => match d with
    | .int i => decide (0 < nth g i.toNat)
    | _ => false) id ((List.range (g.length - 1)).map fun (k : Nat) => D.int (k : Int)) (fun d hd => by
    obtain ⟨k, hk, rfl⟩ := List.mem_map.mp hd
    rw [List.mem_range] at hk
    refine ⟨_, rfl, ?_, fun _ => ?_⟩
    · have e0 := fIx_nat (xs := g) (k := k) (by omega)
      have e1 : ((Γ.set ai .nul).set ai (.dat (.int (k : Int))))[gi]? = some (.dat (eL g)) := by
        rw [List.getElem?_set_ne (Ne.symm hne), List.getElem?_set_ne (Ne.symm hne)]; exact hg
      have e2 : ((Γ.set ai .nul).set ai (.dat (.int (k : Int))))[ai]? = some (.dat (.int (k : Int))) := by
        rw [List.getElem?_set_self (by simpa using ha)]
      simp only [mTest_run, mOp_run, mIx_run, mPeek_run, mVar_run, mCon_run, e1, e2, R.bind_ok, deref_eL, e0, R.opt_some, fGt_ii, toB_bl, Int.toNat_natCast]
    · have e2 : ((Γ.set ai .nul).set ai (.dat (.int (k : Int))))[ai]? = some (.dat (.int (k : Int))) := by
        rw [List.getElem?_set_self (by simpa using ha)]
      simp only [mVar_run, e2]; rfl)
  rw [e, filter_map_nat _ (fun k => decide (0 < nth g k)) _ (fun k _ => by simp)]
  simp [places]
/-- the new table -/
theorem piv_row {t : List (List Int)} {p : List Int} {n k i : Nat} (ht : TabOk t n) (hp : p.length = n ∧ SmL p) (hk : k < n) {s : Store} {me : Env → M D} {tg : Tg} {Γ : Env}
    (hme : ∀ (j : Nat) (l : List Int), l ∈ t → ∃ Γ1, bindT tg (.tup [.int (j : Int), eL l]) Γ = some Γ1 ∧ me Γ1 s = (if j = i then R.ok (eL p) s else R.ok (eL (clr l p k)) s)) : ∀ (ls : List (List Int)) (j : Nat), (∀ l ∈ ls, l ∈ t) → lcGo tg mYes me Γ (enumD j (ls.map eL)) s = .ok ((pivG t p k i j ls).map eL) s
  | [], j, _ => rfl
  | l :: ls, j, h => by
    obtain ⟨Γ1, h1, h2⟩ := hme j l (h l List.mem_cons_self)
    rw [List.map_cons]
    unfold enumD lcGo
    rw [h1]
    show (me Γ1 s).nox.bind _ = _
    have ih := piv_row ht hp hk hme ls (j + 1) fun l hl => h l (List.mem_cons_of_mem _ hl)
    rw [h2]
    by_cases hj : j = i
    · rw [if_pos hj]
      show (lcGo tg mYes me Γ (enumD (j + 1) (ls.map eL)) s).bind _ = _
      rw [ih]
      simp [pivG, hj]
    · rw [if_neg hj]
      show (lcGo tg mYes me Γ (enumD (j + 1) (ls.map eL)) s).bind _ = _
      rw [ih]
      simp [pivG, hj]
end PD
set_option maxRecDepth 100000
set_option maxHeartbeats 4000000
set_option exponentiation.threshold 20
namespace PD
open PySem PySem.Spec PyProof.Rows L2
theorem cut_to {α : Type} {xs : List α} {i : Nat} (h : i ≤ xs.length) : cutD xs none (some (i : Int)) = xs.take i := by
  unfold cutD
  rw [HT.sIx_none, HT.sIx_nat, Nat.min_eq_left h, List.drop_zero, Nat.sub_zero]
theorem cut_from {α : Type} {xs : List α} {i : Nat} (h : i ≤ xs.length) : cutD xs (some (i : Int)) none = xs.drop i := by
  unfold cutD
  rw [HT.sIx_none, HT.sIx_nat, Nat.min_eq_left h]
  exact List.take_of_length_le (by rw [List.length_drop]; omega)
theorem fSl_to {xs : List Int} {i : Nat} (h : i ≤ xs.length) : fSl (eL xs) none (some (i : Int)) = some (eL (xs.take i)) := by
  show some (D.lst (cutD (xs.map .int) none (some (i : Int)))) = _
  rw [cut_to (by simpa using h), eL, List.map_take]
theorem fSl_from {xs : List Int} {i : Nat} (h : i ≤ xs.length) : fSl (eL xs) (some (i : Int)) none = some (eL (xs.drop i)) := by
  show some (D.lst (cutD (xs.map .int) (some (i : Int)) none)) = _
  rw [cut_from (by simpa using h), eL, List.map_drop]
theorem fAdd_eL {xs ys : List Int} (h : xs.length + ys.length ≤ 100000) : fAdd (eL xs) (eL ys) = some (eL (xs ++ ys)) := by
  show (if (xs.map D.int).length + (ys.map D.int).length ≤ 100000 then some (D.lst (xs.map .int ++ ys.map .int)) else none) = _
  rw [if_pos (by simpa using h), eL, List.map_append]
/-! ### one turn of greatest -/
abbrev grA : MS := mAsg 7 (mSd (mFrz (mLcL (mRng fRng1 (mCons (mOp fSub (mBlt fLen (mCons (mPeek 1) mNil)) (mCon (.int 1))) mNil)) (.nm 6) (mTest (mOp fGt (mIx (mPeek 1) (mVar 6)) (mCon (.int 0)))) (mVar 6) [6])))
abbrev grT : Env → M Bool := mOrT (mTest (mOp fEq (mPeek 7) (mLst mNil))) (mAndT (mTest (mOp fNotIs (mPeek 2) (mCon .non))) (mTest (mOp fLt (mIx (mPeek 1) (mOp1 fNeg (mCon (.int 1)))) (mCon (.int 0)))))
abbrev grR : Env → M D := mCall 3 m_numbers_of (mCons (mVar 4) (mCons (mVar 5) (mCons (mVar 3) mNil)))
abbrev grC : MS := mAsg 8 (mSd (mCall 3 m_leaving (mCons (mVar 4) (mCons (mVar 5) (mCons (mIx (mPeek 7) (mCon (.int 0))) mNil)))))
abbrev grE : MS := mAsg 4 (mSd (mFrz (mLcL (mRng fEnum (mCons (mVar 4) mNil)) (.tp [(.nm 10), (.nm 11)]) mYes (mIte (mTest (mOp fEq (mPeek 10) (mPeek 8))) (mVar 9) (mCall 3 m_cleared (mCons (mVar 11) (mCons (mVar 9) (mCons (mIx (mPeek 7) (mCon (.int 0))) mNil))))) [10, 11])))
abbrev grF : MS := mAsg 1 (mSd (mCall 3 m_cleared (mCons (mVar 1) (mCons (mVar 9) (mCons (mIx (mPeek 7) (mCon (.int 0))) mNil)))))
abbrev grG : MS := mAsg 5 (mSd (mOp fAdd (mOp fAdd (mSl (mPeek 5) mNoPart (mPart (mVar 8))) (mLst (mCons (mIx (mPeek 7) (mCon (.int 0))) mNil))) (mSl (mPeek 5) (mPart (mOp fAdd (mPeek 8) (mCon (.int 1)))) mNoPart)))
abbrev grB : MS := mSeq grA (mSeq (mIf grT (mRet grR) mNext) (mSeq grC (mSeq (mAsg 9 (mSd (mIx (mPeek 4) (mVar 8)))) (mSeq grE (mSeq grF grG)))))
def natL (xs : List Nat) : D := eL (xs.map fun (k : Nat) => (k : Int))
theorem grA_ok {L W many x6 x7 x8 x9 x10 x11 tt bb : SV} {g : List Int} {s : Store} (hl : g.length ≤ 1000) (h1 : 0 < g.length) : grA [L, .dat (eL g), W, many, tt, bb, x6, x7, x8, x9, x10, x11] s = .ok (.nx [L, .dat (eL g), W, many, tt, bb, x6, .dat (natL (places g)), x8, x9, x10, x11]) s := by
  have e := places_run (Γ := [L, .dat (eL g), W, many, tt, bb, x6, x7, x8, x9, x10, x11]) (s := s) (g := g) (gi := 1) (ai := 6) rfl (by simp) (by decide) hl h1
  simp only [List.set_cons_succ, List.set_cons_zero] at e
  have e0 : ((g.length : Int) - 1) = ((g.length - 1 : Nat) : Int) := by omega
  have e1 := fRng1_nat (n := g.length - 1) (by omega)
  simp only [grA, mAsg_run, mSd_run, mFrz_run, mLcL_run, mRng_run, mCons_run, mOp_run, mBlt_run, mPeek_run, mNil_run, mCon_run]
  simp [e0, e1]
  rw [if_pos (by omega), e]
  simp [natL]
theorem natL_ix {xs : List Nat} {k : Nat} {ks : List Nat} (h : xs = k :: ks) : fIx (natL xs) (.int 0) = some (.int (k : Int)) := by
  subst h
  exact fIx_nat (xs := (k :: ks).map fun (k : Nat) => (k : Int)) (k := 0) (by simp)
@[simp] theorem deref_natL (s : Store) (xs : List Nat) : s.deref (natL xs) = natL xs := rfl
theorem natL_nil {xs : List Nat} : fEq (natL xs) (.lst []) = some (.bl xs.isEmpty) := by
  unfold natL
  rw [fEq_nil]
  cases xs <;> rfl
theorem gr_step {L W many x6 x7 x8 x9 x10 x11 : SV} {x : LP} {n k i : Nat} {ks : List Nat} {s : Store} (ok : x.Ok n) (hp : places x.g = k :: ks) (hw : fNotIs (match W with | .dat d => d | _ => .non) .non = some (.bl true) → lastD x.g ≥ 0) (hW : ∃ d b, W = .dat d ∧ fNotIs d .non = some (.bl b)) (hi : leav x.t x.b k = some i) (hit : i < x.t.length) :
    ∃ y6 y10 y11, grB [L, .dat (eL x.g), W, many, .dat (eT x.t), .dat (eL x.b), x6, x7, x8, x9, x10, x11] s = .ok (.nx [L, .dat (eL (x.piv k i).g), W, many, .dat (eT (x.piv k i).t), .dat (eL (x.piv k i).b), y6, .dat (natL (places x.g)), .dat (.int i), .dat (eL (row x.t i)), y10, y11]) s := by
  obtain ⟨tok, hb, hg, sg⟩ := ok
  obtain ⟨d, bw, rfl, hd⟩ := hW
  have hk := places_lt (g := x.g) (k := k) (by rw [hp]; exact List.mem_cons_self)
  have hkn : k < n := by omega
  have eA := grA_ok (L := L) (W := .dat d) (many := many) (x6 := x6) (x7 := x7) (x8 := x8) (x9 := x9) (x10 := x10) (x11 := x11) (tt := .dat (eT x.t)) (bb := .dat (eL x.b)) (g := x.g) (s := s) (by have := tok.few; omega) (by have := tok.pos; omega)
  have eI := natL_ix hp
  have eL' := leaving_ok (s := s) tok hkn hb
  rw [hi] at eL'
  have eR := fIx_row hit
  have rk := tok.row hit
  have eC := cleared_ok (s := s) (line := x.g) (pivot := row x.t i) (k := k) sg rk.2 (by rw [hg, rk.1]) (by omega) (by have := tok.few; omega)
  refine ⟨x6, x10, x11, ?_⟩
  rw [show grB = mSeq grA (mSeq (mIf grT (mRet grR) mNext) (mSeq grC (mSeq (mAsg 9 (mSd (mIx (mPeek 4) (mVar 8)))) (mSeq grE (mSeq grF grG))))) from rfl]
  rw [mSeq_run, eA]
  have eN : fEq (natL (places x.g)) (.lst []) = some (.bl false) := by rw [natL_nil, hp]; rfl
  have eLast := fIx_last (xs := x.g) (by have := tok.pos; omega)
  have eT' : grT [L, .dat (eL x.g), .dat d, many, .dat (eT x.t), .dat (eL x.b), x6, .dat (natL (places x.g)), x8, x9, x10, x11] s = .ok false s := by
    cases bw with
    | false => simp [grT, eN, hd]
    | true =>
      have : ¬ lastD x.g < 0 := by have := hw hd; omega
      simp [grT, eN, hd, eLast, this]
  have eE := piv_row (t := x.t) (p := row x.t i) (n := n) (k := k) (i := i) tok rk hkn (s := s) (tg := .tp [.nm 10, .nm 11]) (me := mIte (mTest (mOp fEq (mPeek 10) (mPeek 8))) (mVar 9) (mCall 3 m_cleared (mCons (mVar 11) (mCons (mVar 9) (mCons (mIx (mPeek 7) (mCon (.int 0))) mNil)))))
    (Γ := [L, .dat (eL x.g), .dat d, many, .dat (eT x.t), .dat (eL x.b), x6, .dat (natL (places x.g)), .dat (.int i), .dat (eL (row x.t i)), .nul, .nul]) (fun j l hl => by
      refine ⟨_, rfl, ?_⟩
      have eC := cleared_ok (s := s) (line := l) (pivot := row x.t i) (k := k) (tok.sm l hl) rk.2 (by rw [tok.len l hl, rk.1]) (by rw [tok.len l hl]; omega) (by rw [tok.len l hl]; have := tok.few; omega)
      by_cases hj : j = i
      · subst hj
        simp
      · have hj' : ((j : Int) == (i : Int)) = false := by simp; omega
        simp [hj, hj', eI, eC]) x.t 0 (fun _ h => h)
  simp only [R.bind_ok, mSeq_run, mIf_run, eT', mNext_run]
  have eCC : grC [L, .dat (eL x.g), .dat d, many, .dat (eT x.t), .dat (eL x.b), x6, .dat (natL (places x.g)), x8, x9, x10, x11] s = .ok (.nx [L, .dat (eL x.g), .dat d, many, .dat (eT x.t), .dat (eL x.b), x6, .dat (natL (places x.g)), .dat (.int i), x9, x10, x11]) s := by
    simp [grC, eI, eL', eO]
  rw [eCC]
  have eD : (mAsg 9 (mSd (mIx (mPeek 4) (mVar 8)))) [L, .dat (eL x.g), .dat d, many, .dat (eT x.t), .dat (eL x.b), x6, .dat (natL (places x.g)), .dat (.int i), x9, x10, x11] s = .ok (.nx [L, .dat (eL x.g), .dat d, many, .dat (eT x.t), .dat (eL x.b), x6, .dat (natL (places x.g)), .dat (.int i), .dat (eL (row x.t i)), x10, x11]) s := by
    simp [eR]
  have eEE : grE [L, .dat (eL x.g), .dat d, many, .dat (eT x.t), .dat (eL x.b), x6, .dat (natL (places x.g)), .dat (.int i), .dat (eL (row x.t i)), x10, x11] s = .ok (.nx [L, .dat (eL x.g), .dat d, many, .dat (eT (x.piv k i).t), .dat (eL x.b), x6, .dat (natL (places x.g)), .dat (.int i), .dat (eL (row x.t i)), x10, x11]) s := by
    have hz : (enumD 0 (x.t.map eL)).length ≤ 100000 := by rw [enumD_len, List.length_map]; have := tok.few; omega
    simp [grE, hz, eE]
    rfl
  have eFF : grF [L, .dat (eL x.g), .dat d, many, .dat (eT (x.piv k i).t), .dat (eL x.b), x6, .dat (natL (places x.g)), .dat (.int i), .dat (eL (row x.t i)), x10, x11] s = .ok (.nx [L, .dat (eL (x.piv k i).g), .dat d, many, .dat (eT (x.piv k i).t), .dat (eL x.b), x6, .dat (natL (places x.g)), .dat (.int i), .dat (eL (row x.t i)), x10, x11]) s := by
    simp [grF, eI, eC]
    rfl
  have eGG : grG [L, .dat (eL (x.piv k i).g), .dat d, many, .dat (eT (x.piv k i).t), .dat (eL x.b), x6, .dat (natL (places x.g)), .dat (.int i), .dat (eL (row x.t i)), x10, x11] s = .ok (.nx [L, .dat (eL (x.piv k i).g), .dat d, many, .dat (eT (x.piv k i).t), .dat (eL (x.piv k i).b), x6, .dat (natL (places x.g)), .dat (.int i), .dat (eL (row x.t i)), x10, x11]) s := by
    have hf := tok.few
    have hib : i < x.b.length := by omega
    have s1 := fSl_to (xs := x.b) (i := i) (by omega)
    have s2 := fSl_from (xs := x.b) (i := i + 1) (by omega)
    have a1 := fAdd_eL (xs := x.b.take i) (ys := [(k : Int)]) (by simp; omega)
    have a2 := fAdd_eL (xs := x.b.take i ++ [(k : Int)]) (ys := x.b.drop (i + 1)) (by simp; omega)
    have z : D.lst [D.int (k : Int)] = eL [(k : Int)] := rfl
    have z2 : ((i : Int) + 1) = ((i + 1 : Nat) : Int) := by omega
    have fw : few D.lst [D.int (k : Int)] = some (eL [(k : Int)]) := rfl
    simp only [grG, mAsg_run, mSd_run, mOp_run, mSl_run, mPeek_run, mNoPart_run, mPart_run, mVar_run, mLst_run, mCons_run, mIx_run, mCon_run, mNil_run, List.getElem?_cons_succ, List.getElem?_cons_zero, R.bind_ok, toI_int, fAdd_ii, deref_natL, eI, R.opt_some, fw, s1, a1, z2, s2, a2, List.set_cons_succ, List.set_cons_zero]
    rfl
  simp only [R.bind_ok]
  rw [eD]
  simp only [R.bind_ok]
  rw [eEE]
  simp only [R.bind_ok]
  rw [eFF]
  simp only [R.bind_ok]
  exact eGG
end PD
set_option maxRecDepth 100000
set_option maxHeartbeats 4000000
set_option exponentiation.threshold 20
namespace PD
open PySem PySem.Spec PyProof.Rows L2

/-! ### greatest: the whole loop -/
theorem leavG_lt {t : List (List Int)} {basis : List Int} {k : Nat} : ∀ (ls : List (List Int)) (i : Nat) (f : Option Nat), i + ls.length = t.length → (∀ g, f = some g → g < t.length) → ∀ g, leavG t basis k i ls f = some g → g < t.length
  | [], i, f, _, hf, g, h => hf g h
  | l :: ls, i, f, hi, hf, g, h => leavG_lt ls (i + 1) _ (by rw [← hi]; simp; omega) (leavS_lt (by rw [← hi]; simp) hf) g h
theorem leav_lt {t : List (List Int)} {basis : List Int} {k i : Nat} (h : leav t basis k = some i) : i < t.length := leavG_lt t 0 none (by simp) (fun _ z => nomatch z) i h
def stopB (W : Bool) (x : LP) : Bool := (places x.g).isEmpty || (W && decide (lastD x.g < 0))
def grt (W : Bool) : Nat → LP → Option LP
  | 0, _ => none
  | n + 1, x => if stopB W x then some x else (match places x.g with
    | [] => none
    | k :: _ => (match leav x.t x.b k with
      | none => none
      | some i => grt W n (x.piv k i)))
theorem gr_stop {L x6 x7 x8 x9 x10 x11 : SV} {x : LP} {n : Nat} {mi : Int} {s : Store} {d r : D} {bw : Bool} (ok : x.Ok n) (hd : fNotIs d .non = some (.bl bw)) (hs : stopB bw x = true) (hr : m_numbers_of [eT x.t, eL x.b, .int mi] s = .ok r s) :
    grB [L, .dat (eL x.g), .dat d, .dat (.int mi), .dat (eT x.t), .dat (eL x.b), x6, x7, x8, x9, x10, x11] s = .ok (.rt r) s := by
  obtain ⟨tok, hb, hg, sg⟩ := ok
  have eA := grA_ok (L := L) (W := .dat d) (many := .dat (.int mi)) (x6 := x6) (x7 := x7) (x8 := x8) (x9 := x9) (x10 := x10) (x11 := x11) (tt := .dat (eT x.t)) (bb := .dat (eL x.b)) (g := x.g) (s := s) (by have := tok.few; omega) (by have := tok.pos; omega)
  have eN := natL_nil (xs := places x.g)
  have eLast := fIx_last (xs := x.g) (by have := tok.pos; omega)
  have eT' : grT [L, .dat (eL x.g), .dat d, .dat (.int mi), .dat (eT x.t), .dat (eL x.b), x6, .dat (natL (places x.g)), x8, x9, x10, x11] s = .ok true s := by
    unfold stopB at hs
    cases hp : (places x.g).isEmpty with
    | true =>
      rw [hp] at eN
      simp [grT, eN]
    | false =>
      rw [hp] at eN hs
      cases bw with
      | false => simp at hs
      | true =>
        have h : lastD x.g < 0 := by simpa using hs
        simp [grT, eN, hd, eLast, h]
  rw [show grB = mSeq grA (mSeq (mIf grT (mRet grR) mNext) (mSeq grC (mSeq (mAsg 9 (mSd (mIx (mPeek 4) (mVar 8)))) (mSeq grE (mSeq grF grG))))) from rfl]
  rw [mSeq_run, eA]
  simp only [R.bind_ok, mSeq_run, mIf_run, eT', mRet_run]
  have eR : grR [L, .dat (eL x.g), .dat d, .dat (.int mi), .dat (eT x.t), .dat (eL x.b), x6, .dat (natL (places x.g)), x8, x9, x10, x11] s = .ok r s := by
    simp [grR, hr]
  rw [eR]
  rfl
theorem gr_loop {n : Nat} {L : SV} {mi : Int} {s : Store} {d r : D} {bw : Bool} {y : LP} (I : LP → Prop) (hI : ∀ x : LP, I x → x.Ok n) (hst : ∀ (x : LP) (k : Nat) (ks : List Nat) (i : Nat), I x → stopB bw x = false → places x.g = k :: ks → leav x.t x.b k = some i → I (x.piv k i))
    (hd : fNotIs d .non = some (.bl bw)) (hr : m_numbers_of [eT y.t, eL y.b, .int mi] s = .ok r s) : ∀ (m : Nat) (x : LP) (x6 x7 x8 x9 x10 x11 : SV), I x → grt bw m x = some y →
    mWhile (mTest (mCon (.bl true))) grB m [L, .dat (eL x.g), .dat d, .dat (.int mi), .dat (eT x.t), .dat (eL x.b), x6, x7, x8, x9, x10, x11] s = .ok (.rt r) s
  | 0, x, _, _, _, _, _, _, _, h => nomatch h
  | m + 1, x, x6, x7, x8, x9, x10, x11, hx, h => by
    have tc : ∀ Γ, (mTest (mCon (.bl true))) Γ s = .ok true s := fun Γ => rfl
    unfold grt at h
    by_cases hs : stopB bw x = true
    · rw [if_pos hs] at h
      have hy : x = y := Option.some.inj h
      have e := gr_stop (L := L) (x6 := x6) (x7 := x7) (x8 := x8) (x9 := x9) (x10 := x10) (x11 := x11) (hI x hx) hd hs (by rw [hy]; exact hr)
      rw [mWhile_succ, tc]
      show (grB _ s).bind _ = _
      rw [e]; rfl
    · rw [if_neg hs] at h
      have hs : stopB bw x = false := by simpa using hs
      cases hp : places x.g with
      | nil => rw [hp] at h; cases h
      | cons k ks =>
        rw [hp] at h
        have h : (match leav x.t x.b k with
          | none => none
          | some i => grt bw m (x.piv k i)) = some y := h
        cases hl : leav x.t x.b k with
        | none => rw [hl] at h; cases h
        | some i =>
          rw [hl] at h
          have h : grt bw m (x.piv k i) = some y := h
          obtain ⟨y6, y10, y11, e⟩ := gr_step (L := L) (W := .dat d) (many := .dat (.int mi)) (x6 := x6) (x7 := x7) (x8 := x8) (x9 := x9) (x10 := x10) (x11 := x11) (s := s) (hI x hx) hp (fun hw => by
            have hw : fNotIs d .non = some (.bl true) := hw
            rw [hd] at hw
            cases hw
            unfold stopB at hs
            rw [hp] at hs
            have : ¬ lastD x.g < 0 := by simpa using hs
            omega) ⟨d, bw, rfl, hd⟩ hl (leav_lt hl)
          rw [run_while_ok (tc _) e]
          exact gr_loop I hI hst hd hr m (x.piv k i) y6 _ _ _ y10 y11 (hst x k ks i hx hs hp hl) h
end PD
set_option maxRecDepth 100000
set_option maxHeartbeats 4000000
set_option exponentiation.threshold 20
namespace PD
open PySem PySem.Spec PyProof.Rows L2

/-! ### the numbers that a basis tells -/
def cstep (c : Int) (p : List Int × Int) : Int := c * (nth p.1 p.2.toNat / (part [c, nth p.1 p.2.toNat] : Int))
def comm (t : List (List Int)) (b : List Int) : Int := (t.zip b).foldl cstep 1
theorem zipD_TL : ∀ {t : List (List Int)} {b : List Int}, zipD (t.map eL) (b.map .int) = (t.zip b).map fun p => .tup [eL p.1, .int p.2]
  | [], _ => by simp [zipD]
  | _ :: _, [] => by simp [zipD]
  | x :: xs, y :: ys => by simp [zipD, zipD_TL]
@[simp] theorem fZip_TL (t : List (List Int)) (b : List Int) : fZip [eT t, eL b] = some ((t.zip b).map fun p => .tup [eL p.1, .int p.2]) := by
  show some (zipD (t.map eL) (b.map D.int)) = _
  rw [zipD_TL]
/-- a place of a basis -/
structure PlOk (n : Nat) (p : List Int × Int) : Prop where
  len : p.1.length = n
  sm : SmL p.1
  lo : 0 ≤ p.2
  hi : p.2 < n
  pos : 0 < nth p.1 p.2.toNat
theorem PlOk.ix {n : Nat} {p : List Int × Int} (h : PlOk n p) : fIx (eL p.1) (.int p.2) = some (.int (nth p.1 p.2.toNat)) := by
  have e := fIx_nat (xs := p.1) (k := p.2.toNat) (by have := h.lo; have := h.hi; have := h.len; omega)
  rwa [Int.toNat_of_nonneg h.lo] at e
theorem quo_log {c : Int} {p : List Int × Int} {n : Nat} (h : PlOk n p) : (nth p.1 p.2.toNat / (part [c, nth p.1 p.2.toNat] : Int)).natAbs.log2 < 4000 := by
  have hs : Sm (nth p.1 p.2.toNat) := h.sm.get _
  have hp := part_pos (xs := [c, nth p.1 p.2.toNat])
  refine Nat.lt_of_le_of_lt (natAbs_le_log ?_) hs
  have hd := part_dvd (xs := [c, nth p.1 p.2.toNat]) (x := nth p.1 p.2.toNat) (by simp)
  obtain ⟨q, hq⟩ := hd
  generalize part [c, nth p.1 p.2.toNat] = P at hp hq ⊢
  rw [hq, Int.mul_ediv_cancel_left _ (by omega), Int.natAbs_mul]
  have : 1 ≤ (P : Int).natAbs := by omega
  exact Nat.le_mul_of_pos_left _ this
theorem cstep_log {c : Int} {p : List Int × Int} {m n : Nat} (hc : c.natAbs.log2 < m) (h : PlOk n p) : (cstep c p).natAbs.log2 < m + 4000 := mul_log hc (quo_log h)
abbrev numB : MS := mAsg 3 (mSd (mOp fMul (mPeek 3) (mOp fDiv (mIx (mPeek 4) (mVar 5)) (mCall 1 m_divisor (mCons (mLst (mCons (mVar 3) (mCons (mIx (mPeek 4) (mVar 5)) mNil))) mNil)))))
theorem cm_step {x0 x1 x2 x6 : SV} {c : Int} {p : List Int × Int} {n : Nat} {s : Store} (hc : c.natAbs.log2 < 880000) (h : PlOk n p) : numB [x0, x1, x2, .dat (.int c), .dat (eL p.1), .dat (.int p.2), x6] s = .ok (.nx [x0, x1, x2, .dat (.int (cstep c p)), .dat (eL p.1), .dat (.int p.2), x6]) s := by
  have e0 := h.ix
  have hs : Sm (nth p.1 p.2.toNat) := h.sm.get _
  have hs' : (nth p.1 p.2.toNat).natAbs.log2 < 4000 := hs
  have e1 : m_divisor [eL [c, nth p.1 p.2.toNat]] s = .ok (.int (part [c, nth p.1 p.2.toNat])) s := divisor_ok rfl fun x hx => by
    simp at hx
    rcases hx with rfl | rfl <;> omega
  have hpp := part_pos (xs := [c, nth p.1 p.2.toNat])
  have hl : (part [c, nth p.1 p.2.toNat]).log2 < 9000 := by
    have h0 := h.pos
    have hd := part_dvd (xs := [c, nth p.1 p.2.toNat]) (x := nth p.1 p.2.toNat) (by simp)
    have hle : part [c, nth p.1 p.2.toNat] ≤ (nth p.1 p.2.toNat).natAbs := by
      have := Int.natAbs_dvd_natAbs.mpr hd
      simpa using Nat.le_of_dvd (by omega) this
    exact Nat.lt_of_le_of_lt (natAbs_le_log hle) (by omega)
  have e2 := fDiv_ii (i := nth p.1 p.2.toNat) (j := (part [c, nth p.1 p.2.toNat] : Int)) (by omega) (by simpa using hl)
  have fw : few D.lst [D.int c, D.int (nth p.1 p.2.toNat)] = some (eL [c, nth p.1 p.2.toNat]) := rfl
  have e3 : fMul (.int c) (.int (nth p.1 p.2.toNat / (part [c, nth p.1 p.2.toNat] : Int))) = some (.int (cstep c p)) := by
    refine fMul_ii ?_
    have := quo_log (c := c) h
    omega
  simp only [numB, mAsg_run, mSd_run, mOp_run, mPeek_run, mIx_run, mVar_run, mCall_run, mCons_run, mLst_run, mNil_run, List.getElem?_cons_succ, List.getElem?_cons_zero, R.bind_ok, deref_eL, e0, R.opt_some, fw, List.length_singleton, if_true]
  rw [e1]
  simp only [R.bind_ok, e2, R.opt_some, e3, List.set_cons_succ, List.set_cons_zero]
theorem num_loop {x0 x1 x2 x6 : SV} {n : Nat} {s : Store} : ∀ (ps : List (List Int × Int)) (c : Int) (m : Nat) (x4 x5 : SV), c.natAbs.log2 < m → m + 4000 * ps.length ≤ 880000 → (∀ p ∈ ps, PlOk n p) →
    ∃ y4 y5, forGo (.tp [.nm 4, .nm 5]) numB (ps.map fun p => .tup [eL p.1, .int p.2]) [x0, x1, x2, .dat (.int c), x4, x5, x6] s = .ok (.nx [x0, x1, x2, .dat (.int (ps.foldl cstep c)), y4, y5, x6]) s ∧ (ps.foldl cstep c).natAbs.log2 < m + 4000 * ps.length
  | [], c, m, x4, x5, hc, _, _ => ⟨x4, x5, rfl, by simpa using hc⟩
  | p :: ps, c, m, x4, x5, hc, hm, hp => by
    have h1 := hp p List.mem_cons_self
    rw [List.length_cons] at hm
    obtain ⟨y4, y5, ih, ih2⟩ := num_loop (x0 := x0) (x1 := x1) (x2 := x2) (x6 := x6) (s := s) ps (cstep c p) (m + 4000) (.dat (eL p.1)) (.dat (.int p.2)) (cstep_log hc h1) (by omega) fun q hq => hp q (List.mem_cons_of_mem _ hq)
    refine ⟨y4, y5, ?_, by rw [List.length_cons]; simp only [List.foldl_cons]; omega⟩
    have e := cm_step (x0 := x0) (x1 := x1) (x2 := x2) (x6 := x6) (s := s) (c := c) (by omega) h1
    rw [List.map_cons]
    show (match bindT (.tp [.nm 4, .nm 5]) (.tup [eL p.1, .int p.2]) [x0, x1, x2, .dat (.int c), x4, x5, x6] with
      | none => R.bad
      | some Γ1 => (numB Γ1 s).bind _) = _
    simp only [bindT, bindTs, Option.bind_some, List.set_cons_succ, List.set_cons_zero]
    rw [e]
    exact ih
def valN (t : List (List Int)) (b : List Int) (c : Int) (k : Int) : Int := (((t.zip b).find? fun p => p.2 == k).map fun p => lastD p.1 * (c / nth p.1 p.2.toNat)).getD 0
theorem pairs_map (ps : List (List Int × Int)) (f : List Int × Int → Int) : pairsOf (ps.map fun p => .tup [.int p.2, .int (f p)]) = some (ps.map (·.2), ps.map fun p => .int (f p)) := by
  induction ps with
  | nil => rfl
  | cons p ps ih => simp [pairsOf, ih]
theorem look_map (ps : List (List Int × Int)) (f : List Int × Int → Int) (k : Int) : (lookD (ps.map (·.2)) (ps.map fun p => D.int (f p)) k).getD (.int 0) = .int (((ps.find? fun p => p.2 == k).map f).getD 0) := by
  induction ps with
  | nil => rfl
  | cons p ps ih =>
    simp only [List.map_cons, lookD, List.find?_cons]
    by_cases h : p.2 = k
    · simp [h]
    · have h' : (p.2 == k) = false := by simpa using h
      simp [h, h', ih]
theorem numbers_ok {t : List (List Int)} {b : List Int} {many n : Nat} {s : Store} (hp : ∀ p ∈ t.zip b, PlOk n p) (hn : 0 < n) (ht : t.length ≤ 200) (hl : b.length = t.length) (hb : b.Nodup) (hm : many ≤ 1000) :
    m_numbers_of [eT t, eL b, .int many] s = .ok (.tup [eL ((List.range many).map fun (k : Nat) => valN t b (comm t b) (k : Int)), .int (comm t b)]) s ∧ (comm t b).natAbs.log2 < 880000 := by
  have hz : (t.zip b).length = t.length := by rw [List.length_zip]; omega
  obtain ⟨y4, y5, e, ec⟩ := num_loop (x0 := .dat (eT t)) (x1 := .dat (eL b)) (x2 := .dat (.int many)) (x6 := .nul) (s := s) (t.zip b) 1 1 .nul .nul (by decide) (by omega) hp
  have ec : (comm t b).natAbs.log2 < 1 + 4000 * (t.zip b).length := ec
  have e : forGo (.tp [.nm 4, .nm 5]) numB ((t.zip b).map fun p => .tup [eL p.1, .int p.2]) [.dat (eT t), .dat (eL b), .dat (.int many), .dat (.int 1), .nul, .nul, .nul] s = .ok (.nx [.dat (eT t), .dat (eL b), .dat (.int many), .dat (.int (comm t b)), y4, y5, .nul]) s := e
  refine ⟨?_, by omega⟩
  have e2 : lcGo (.tp [.nm 4, .nm 5]) mYes (mTup (mCons (mVar 5) (mCons (mOp fMul (mIx (mPeek 4) (mOp1 fNeg (mCon (.int 1)))) (mOp fDiv (mPeek 3) (mIx (mPeek 4) (mVar 5)))) mNil))) [.dat (eT t), .dat (eL b), .dat (.int many), .dat (.int (comm t b)), .nul, .nul, .nul] ((t.zip b).map fun p => D.tup [eL p.1, .int p.2]) s = .ok (((t.zip b).map fun p => D.tup [eL p.1, .int p.2]).map fun d => match d with
      | D.tup [D.lst xs, D.int j] => D.tup [.int j, .int (lastD (xs.map fun d => match d with | D.int i => i | _ => 0) * (comm t b / nth (xs.map fun d => match d with | D.int i => i | _ => 0) j.toNat))]
      | d => d) s := run_lc _ _ fun d hd => by
    obtain ⟨p, hpz, rfl⟩ := List.mem_map.mp hd
    have h := hp p hpz
    refine ⟨_, rfl, ?_⟩
    have i1 := h.ix
    have i2 := fIx_last (xs := p.1) (by rw [h.len]; exact hn)
    have hs : (nth p.1 p.2.toNat).natAbs.log2 < 4000 := h.sm.get _
    have hs2 : (lastD p.1).natAbs.log2 < 4000 := h.sm.get _
    have d1 := fDiv_ii (i := comm t b) (j := nth p.1 p.2.toNat) h.pos (by omega)
    have d2 : fMul (.int (lastD p.1)) (.int (comm t b / nth p.1 p.2.toNat)) = some (.int (lastD p.1 * (comm t b / nth p.1 p.2.toNat))) := fMul_ii (by
      have : (comm t b / nth p.1 p.2.toNat).natAbs ≤ (comm t b).natAbs := Int.natAbs_ediv_le_natAbs _ _
      have := natAbs_le_log this
      omega)
    have z : (p.1.map D.int).map (fun d => match d with | D.int i => i | _ => 0) = p.1 := by
      rw [List.map_map]
      exact List.map_id'' (fun _ => rfl) _
    have z2 : few D.tup [D.int p.2, D.int (lastD p.1 * (comm t b / nth p.1 p.2.toNat))] = some (.tup [D.int p.2, D.int (lastD p.1 * (comm t b / nth p.1 p.2.toNat))]) := rfl
    simp only [mTup_run, mCons_run, mVar_run, mOp_run, mIx_run, mPeek_run, mOp1_run, mCon_run, mNil_run, List.set_cons_succ, List.set_cons_zero, List.getElem?_cons_succ, List.getElem?_cons_zero, R.bind_ok, deref_eL, fNeg_i, R.opt_some, i1, i2, d1, d2, z2]
    show _ = R.ok (D.tup [.int p.2, .int (lastD ((p.1.map D.int).map fun d => match d with | D.int i => i | _ => 0) * (comm t b / nth ((p.1.map D.int).map fun d => match d with | D.int i => i | _ => 0) p.2.toNat))]) s
    rw [z]
  let f : List Int × Int → Int := fun p => lastD p.1 * (comm t b / nth p.1 p.2.toNat)
  have e3 : (((t.zip b).map fun p => D.tup [eL p.1, .int p.2]).map fun d => match d with
      | D.tup [D.lst xs, D.int j] => D.tup [.int j, .int (lastD (xs.map fun d => match d with | D.int i => i | _ => 0) * (comm t b / nth (xs.map fun d => match d with | D.int i => i | _ => 0) j.toNat))]
      | d => d) = (t.zip b).map fun p => D.tup [.int p.2, .int (f p)] := by
    rw [List.map_map]
    refine List.map_congr_left fun p _ => ?_
    have z : (p.1.map D.int).map (fun d => match d with | D.int i => i | _ => 0) = p.1 := by
      rw [List.map_map]
      exact List.map_id'' (fun _ => rfl) _
    show D.tup [.int p.2, .int (lastD ((p.1.map D.int).map fun d => match d with | D.int i => i | _ => 0) * (comm t b / nth ((p.1.map D.int).map fun d => match d with | D.int i => i | _ => 0) p.2.toNat))] = _
    rw [z]
  rw [e3] at e2
  have hk : ((t.zip b).map (·.2)) = b := by
    rw [← List.unzip_snd, List.unzip_zip (by omega)]
  have e4 : fDict [.lst ((t.zip b).map fun p => D.tup [.int p.2, .int (f p)])] = some (.dki ((t.zip b).map (·.2)) ((t.zip b).map fun p => D.int (f p))) := by
    show ((pairsOf ((t.zip b).map fun p => D.tup [.int p.2, .int (f p)])).bind fun q => if q.1.Nodup ∧ q.1.length ≤ 100000 then some (D.dki q.1 q.2) else none) = _
    rw [pairs_map]
    show (if ((t.zip b).map (·.2)).Nodup ∧ ((t.zip b).map (·.2)).length ≤ 100000 then _ else _) = _
    rw [if_pos]
    rw [hk]
    exact ⟨hb, by omega⟩
  have e5 : lcGo (.nm 5) mYes (mDGet (mVar 6) (mVar 5) (mCon (.int 0))) [.dat (eT t), .dat (eL b), .dat (.int many), .dat (.int (comm t b)), y4, .nul, .dat (.dki ((t.zip b).map (·.2)) ((t.zip b).map fun p => D.int (f p)))] ((List.range many).map fun (k : Nat) => D.int (k : Int)) s = .ok (((List.range many).map fun (k : Nat) => D.int (k : Int)).map fun d => match d with
      | D.int k => D.int (valN t b (comm t b) k)
      | d => d) s := run_lc _ _ fun d hd => by
    obtain ⟨k, _, rfl⟩ := List.mem_map.mp hd
    refine ⟨_, rfl, ?_⟩
    show R.ok ((lookD ((t.zip b).map (·.2)) ((t.zip b).map fun p => D.int (f p)) (k : Int)).getD (.int 0)) s = _
    rw [look_map]
    rfl
  have r1 := fRng1_nat (n := many) (by omega)
  unfold m_numbers_of
  rw [mFn_run]
  simp only [b_numbers_of, startE]
  have q1 : ((t.zip b).map fun p => D.tup [eL p.1, .int p.2]).length ≤ 100000 := by rw [List.length_map]; omega
  have q2 : ((List.range many).map fun (k : Nat) => D.int (k : Int)).length ≤ 100000 := by rw [List.length_map, List.length_range]; omega
  simp only [List.map_cons, List.map_nil, List.length_cons, List.length_nil, mSeq_run, mAsg_run, mSd_run, mCon_run, R.bind_ok, mFor_run, mRng_run, mCons_run, mVar_run, mNil_run]
  show endD (((R.opt (fZip [eT t, eL b]) s).bind fun ds s1 => forGo (.tp [.nm 4, .nm 5]) numB ds [.dat (eT t), .dat (eL b), .dat (.int many), .dat (.int 1), .nul, .nul, .nul] s1).bind _) = _
  rw [fZip_TL]
  simp only [R.opt_some, R.bind_ok]
  rw [e]
  simp only [R.bind_ok, mSeq_run, mAsg_run, mSd_run, mBlt_run, mCons_run, mFrz_run, mLcL_run, mRng_run, mVar_run, mNil_run, List.getElem?_cons_succ, List.getElem?_cons_zero, fZip_TL, R.opt_some, wipeE, List.set_cons_succ, List.set_cons_zero]
  rw [if_pos q1, e2]
  simp only [R.bind_ok, e4, R.opt_some, mRet_run, mTup_run, mCons_run, mFrz_run, mLcL_run, mRng_run, mVar_run, mNil_run, List.getElem?_cons_succ, List.getElem?_cons_zero, r1, wipeE, List.set_cons_succ, List.set_cons_zero]
  rw [if_pos q2, e5]
  simp only [R.bind_ok, List.map_map, Function.comp_def]
  have e6 : D.lst ((List.range many).map fun (k : Nat) => D.int (valN t b (comm t b) (k : Int))) = eL ((List.range many).map fun (k : Nat) => valN t b (comm t b) (k : Int)) := by simp [eL, Function.comp_def]
  rw [e6]
  rfl
end PD
set_option maxRecDepth 100000
set_option maxHeartbeats 4000000
set_option exponentiation.threshold 20
namespace PD
open PySem PySem.Spec PyProof.Rows L2

/-! ### the table of some lines -/
def eLn (lines : List (List Int × Int)) : D := .lst (lines.map fun p => .tup [eL p.1, .int p.2])
def unitL (many k : Nat) : List Int := (List.range many).map fun j => if j = k then 1 else 0
def tabG (many : Nat) : Nat → List (List Int × Int) → List (List Int)
  | _, [] => []
  | k, p :: ps => (p.1 ++ unitL many k ++ [p.2]) :: tabG many (k + 1) ps
def tabOf (lines : List (List Int × Int)) : List (List Int) := tabG lines.length 0 lines
theorem tabG_len (many : Nat) : ∀ (ps : List (List Int × Int)) (k : Nat), (tabG many k ps).length = ps.length
  | [], _ => rfl
  | p :: ps, k => by simp [tabG, tabG_len many ps]
@[simp] theorem fLen_lst (xs : List D) : fLen [.lst xs] = some (.int xs.length) := rfl
theorem unit_run {Γ : Env} {s : Store} {ai ki many k : Nat} (hk : Γ[ki]? = some (.dat (.int (k : Int)))) (ha : ai < Γ.length) (hne : ki ≠ ai) :
    lcGo (.nm ai) mYes (mIte (mTest (mOp fEq (mPeek ai) (mPeek ki))) (mCon (.int 1)) (mCon (.int 0))) (Γ.set ai .nul) ((List.range many).map fun (j : Nat) => D.int (j : Int)) s = .ok ((unitL many k).map .int) s := by
  have e := run_lc (tg := .nm ai) (me := mIte (mTest (mOp fEq (mPeek ai) (mPeek ki))) (mCon (.int 1)) (mCon (.int 0))) (Γ := Γ.set ai .nul) (s := s) (fun d => match d with
    | .int j => .int (if j = (k : Int) then 1 else 0)
    | d => d) ((List.range many).map fun (j : Nat) => D.int (j : Int)) (fun d hd => by
    obtain ⟨j, hj, rfl⟩ := List.mem_map.mp hd
    refine ⟨_, rfl, ?_⟩
    have e1 : ((Γ.set ai .nul).set ai (.dat (.int (j : Int))))[ki]? = some (.dat (.int (k : Int))) := by
      rw [List.getElem?_set_ne (Ne.symm hne), List.getElem?_set_ne (Ne.symm hne)]; exact hk
    have e2 : ((Γ.set ai .nul).set ai (.dat (.int (j : Int))))[ai]? = some (.dat (.int (j : Int))) := by
      rw [List.getElem?_set_self (by simpa using ha)]
    simp only [mIte_run, mTest_run, mOp_run, mPeek_run, mCon_run, e1, e2, R.bind_ok, R.opt_some, fEq_ii, toB_bl]
    by_cases h : (j : Int) = (k : Int)
    · simp [h]
    · have h' : ((j : Int) == (k : Int)) = false := by simpa using h
      simp [h, h'])
  rw [e]
  congr 1
  simp only [List.map_map, unitL]
  refine List.map_congr_left fun j _ => ?_
  show D.int (if (j : Int) = (k : Int) then 1 else 0) = D.int (if j = k then 1 else 0)
  by_cases h : j = k
  · simp [h]
  · have : ¬ (j : Int) = (k : Int) := by omega
    simp [h, this]
abbrev tbB : MS := mSeq (mUnp (.tp [(.nm 5), (.nm 6)]) (mVar 4))
  (mSeq (mAsg 7 (mSd (mFrz (mLcL (mRng fRng1 (mCons (mVar 1) mNil)) (.nm 8) mYes (mIte (mTest (mOp fEq (mPeek 8) (mPeek 3))) (mCon (.int 1)) (mCon (.int 0))) [8]))))
  (mAsg 2 (mSd (mOp fAdd (mPeek 2) (mLst (mCons (mOp fAdd (mOp fAdd (mPeek 5) (mPeek 7)) (mLst (mCons (mVar 6) mNil))) mNil))))))
theorem fAdd_eT {t : List (List Int)} {l : List Int} (h : t.length < 100000) : fAdd (eT t) (.lst [eL l]) = some (eT (t ++ [l])) := by
  show (if (t.map eL).length + [eL l].length ≤ 100000 then some (D.lst (t.map eL ++ [eL l])) else none) = _
  rw [if_pos (by simp; omega)]
  simp [eT]
theorem tb_step {x0 x5 x6 x7 x8 : SV} {t : List (List Int)} {many k : Nat} {p : List Int × Int} {s : Store} (hm : many ≤ 1000) (hl : p.1.length ≤ 1000) (ht : t.length ≤ 1000) :
    tbB [x0, .dat (.int many), .dat (eT t), .dat (.int k), .dat (.tup [eL p.1, .int p.2]), x5, x6, x7, x8] s = .ok (.nx [x0, .dat (.int many), .dat (eT (t ++ [p.1 ++ unitL many k ++ [p.2]])), .dat (.int k), .dat (.tup [eL p.1, .int p.2]), .dat (eL p.1), .dat (.int p.2), .dat (eL (unitL many k)), x8]) s := by
  have r1 := fRng1_nat (n := many) (by omega)
  have u := unit_run (Γ := [x0, .dat (.int many), .dat (eT t), .dat (.int k), .dat (.tup [eL p.1, .int p.2]), .dat (eL p.1), .dat (.int p.2), x7, x8]) (s := s) (ai := 8) (ki := 3) (many := many) (k := k) rfl (by simp) (by decide)
  simp only [List.set_cons_succ, List.set_cons_zero] at u
  have ul : (unitL many k).length = many := by simp [unitL]
  have a1 := fAdd_eL (xs := p.1) (ys := unitL many k) (by omega)
  have a2 := fAdd_eL (xs := p.1 ++ unitL many k) (ys := [p.2]) (by simp; omega)
  have fw : few D.lst [D.int p.2] = some (eL [p.2]) := rfl
  have fw2 : few D.lst [eL (p.1 ++ unitL many k ++ [p.2])] = some (.lst [eL (p.1 ++ unitL many k ++ [p.2])]) := rfl
  have a3 := fAdd_eT (t := t) (l := p.1 ++ unitL many k ++ [p.2]) (by omega)
  have q : ((List.range many).map fun (j : Nat) => D.int (j : Int)).length ≤ 100000 := by rw [List.length_map, List.length_range]; omega
  have z : D.lst ((unitL many k).map .int) = eL (unitL many k) := rfl
  simp only [tbB, mSeq_run, mUnp_run, mVar_run, List.getElem?_cons_succ, List.getElem?_cons_zero, R.bind_ok, bindT, bindTs, Option.bind_some, List.set_cons_succ, List.set_cons_zero, mAsg_run, mSd_run, mFrz_run, mLcL_run, mRng_run, mCons_run, mNil_run, r1, R.opt_some, wipeE]
  rw [if_pos q, u]
  simp only [R.bind_ok, z, mOp_run, mPeek_run, mLst_run, mCons_run, mVar_run, mNil_run, List.getElem?_cons_succ, List.getElem?_cons_zero, List.set_cons_succ, List.set_cons_zero, a1, fw, a2, R.opt_some, fw2, a3]
theorem tb_loop {x0 : SV} {many : Nat} {s : Store} (hm : many ≤ 1000) : ∀ (ps : List (List Int × Int)) (k : Nat) (t : List (List Int)) (x3 x4 x5 x6 x7 x8 : SV), (∀ p ∈ ps, p.1.length ≤ 1000) → t.length + ps.length ≤ 1000 →
    ∃ y3 y4 y5 y6 y7 y8, forGo (.tp [.nm 3, .nm 4]) tbB (enumD k (ps.map fun p => .tup [eL p.1, .int p.2])) [x0, .dat (.int many), .dat (eT t), x3, x4, x5, x6, x7, x8] s = .ok (.nx [x0, .dat (.int many), .dat (eT (t ++ tabG many k ps)), y3, y4, y5, y6, y7, y8]) s
  | [], k, t, x3, x4, x5, x6, x7, x8, _, _ => ⟨x3, x4, x5, x6, x7, x8, by simp [enumD, forGo, tabG]⟩
  | p :: ps, k, t, x3, x4, x5, x6, x7, x8, hp, hl => by
    have e := tb_step (x0 := x0) (x5 := x5) (x6 := x6) (x7 := x7) (x8 := x8) (t := t) (k := k) (s := s) hm (hp p List.mem_cons_self) (by omega)
    obtain ⟨y3, y4, y5, y6, y7, y8, ih⟩ := tb_loop (x0 := x0) (s := s) hm ps (k + 1) (t ++ [p.1 ++ unitL many k ++ [p.2]]) (.dat (.int k)) (.dat (.tup [eL p.1, .int p.2])) (.dat (eL p.1)) (.dat (.int p.2)) (.dat (eL (unitL many k))) x8 (fun q hq => hp q (List.mem_cons_of_mem _ hq)) (by simp at hl ⊢; omega)
    refine ⟨y3, y4, y5, y6, y7, y8, ?_⟩
    rw [List.map_cons]
    show (match bindT (.tp [.nm 3, .nm 4]) (.tup [.int k, .tup [eL p.1, .int p.2]]) [x0, .dat (.int many), .dat (eT t), x3, x4, x5, x6, x7, x8] with
      | none => R.bad
      | some Γ1 => (tbB Γ1 s).bind _) = _
    simp only [bindT, bindTs, Option.bind_some, List.set_cons_succ, List.set_cons_zero]
    rw [e]
    have z : t ++ tabG many k (p :: ps) = t ++ [p.1 ++ unitL many k ++ [p.2]] ++ tabG many (k + 1) ps := by simp [tabG]
    rw [z]
    exact ih
theorem table_ok {lines : List (List Int × Int)} {s : Store} (hp : ∀ p ∈ lines, p.1.length ≤ 1000) (hl : lines.length ≤ 1000) : m_table_of [eLn lines] s = .ok (eT (tabOf lines)) s := by
  obtain ⟨y3, y4, y5, y6, y7, y8, e⟩ := tb_loop (x0 := .dat (eLn lines)) (many := lines.length) (s := s) hl lines 0 [] .nul .nul .nul .nul .nul .nul hp (by simpa using hl)
  have l1 : fLen [eLn lines] = some (.int lines.length) := by
    show some (D.int ((lines.map fun p => D.tup [eL p.1, .int p.2]).length : Nat)) = _
    rw [List.length_map]
  have l2 : fEnum [eLn lines] = some (enumD 0 (lines.map fun p => .tup [eL p.1, .int p.2])) := rfl
  have fw : few D.lst [] = some (eT []) := rfl
  unfold m_table_of
  rw [mFn_run]
  simp only [b_table_of, startE]
  simp only [List.map_cons, List.map_nil, List.length_cons, List.length_nil, mSeq_run, mPar_run, mRcons_run, mSd_run, mBlt_run, mCons_run, mPeek_run, mNil_run, mLst_run, mRnil_run, List.cons_append, List.nil_append, List.getElem?_cons_succ, List.getElem?_cons_zero, R.bind_ok, l1, R.opt_some, fw, setAllE, mFor_run, mRng_run, mVar_run]
  show endD (((R.opt (fEnum [eLn lines]) s).bind fun ds s1 => forGo (.tp [.nm 3, .nm 4]) tbB ds [.dat (eLn lines), .dat (.int lines.length), .dat (eT []), .nul, .nul, .nul, .nul, .nul, .nul] s1).bind _) = _
  rw [l2]
  simp only [R.opt_some, R.bind_ok]
  rw [e]
  rfl
end PD
set_option maxRecDepth 100000
set_option maxHeartbeats 4000000
set_option exponentiation.threshold 20
namespace PD
open PySem PySem.Spec PyProof.Rows L2

/-! ### greatest, solution -/
theorem fMul_rep {i : Int} {n : Nat} (h : n ≤ 1000) : fMul (.lst [.int i]) (.int (n : Int)) = some (eL (List.replicate n i)) := by
  unfold fMul
  show (if -1000 ≤ (n : Int) ∧ (n : Int) ≤ 1000 ∧ [D.int i].length ≤ 100 then some (D.lst (List.replicate (n : Int).toNat [D.int i]).flatten) else none) = _
  rw [if_pos ⟨by omega, by omega, by simp⟩, Int.toNat_natCast]
  congr 1
  simp [eL]
def LP.init (lines : List (List Int × Int)) (goal : List Int) : LP := ⟨tabOf lines, (List.range lines.length).map fun (k : Nat) => ((goal.length + k : Nat) : Int), goal ++ List.replicate (lines.length + 1) 0⟩
theorem greatest_ok {lines : List (List Int × Int)} {goal : List Int} {n : Nat} {s : Store} {d r : D} {bw : Bool} {y : LP} (hp : ∀ p ∈ lines, p.1.length ≤ 1000) (hl : lines.length ≤ 200) (hg : goal.length ≤ 500)
    (I : LP → Prop) (hI : ∀ x : LP, I x → x.Ok n) (h0 : I (LP.init lines goal)) (hst : ∀ (x : LP) (k : Nat) (ks : List Nat) (i : Nat), I x → stopB bw x = false → places x.g = k :: ks → leav x.t x.b k = some i → I (x.piv k i))
    (hd : fNotIs d .non = some (.bl bw)) (hy : grt bw wfuel (LP.init lines goal) = some y) (hr : m_numbers_of [eT y.t, eL y.b, .int goal.length] s = .ok r s) : m_greatest [eLn lines, eL goal, d] s = .ok r s := by
  have tb := table_ok (s := s) hp (by omega)
  have tl : (tabOf lines).length = lines.length := tabG_len _ _ _
  have r1 := fRng1_nat (n := lines.length) (by omega)
  have e1 : lcGo (.nm 6) mYes (mOp fAdd (mPeek 3) (mPeek 6)) [.dat (eLn lines), .dat (eL goal), .dat d, .dat (.int goal.length), .dat (eT (tabOf lines)), .nul, .nul, .nul, .nul, .nul, .nul, .nul] ((List.range lines.length).map fun (k : Nat) => D.int (k : Int)) s = .ok (((List.range lines.length).map fun (k : Nat) => D.int (k : Int)).map fun d => match d with
      | .int k => .int (goal.length + k)
      | d => d) s := run_lc _ _ fun d hd => by
    obtain ⟨k, _, rfl⟩ := List.mem_map.mp hd
    exact ⟨_, rfl, rfl⟩
  have e2 : D.lst (((List.range lines.length).map fun (k : Nat) => D.int (k : Int)).map fun d => match d with
      | .int k => .int (goal.length + k)
      | d => d) = eL (LP.init lines goal).b := by
    simp [eL, LP.init, Function.comp_def]
  have q : ((List.range lines.length).map fun (k : Nat) => D.int (k : Int)).length ≤ 100000 := by rw [List.length_map, List.length_range]; omega
  have fw : few D.lst [D.int 0] = some (.lst [.int 0]) := rfl
  have z1 : ((lines.length : Int) + 1) = ((lines.length + 1 : Nat) : Int) := by omega
  have a1 := fMul_rep (i := 0) (n := lines.length + 1) (by omega)
  have a2 := fAdd_eL (xs := goal) (ys := List.replicate (lines.length + 1) 0) (by simp; omega)
  have lp := gr_loop (L := .dat (eLn lines)) (mi := goal.length) (s := s) I hI hst hd hr wfuel (LP.init lines goal) .nul .nul .nul .nul .nul .nul h0 hy
  unfold m_greatest
  rw [mFn_run]
  show endD (b_greatest [.dat (eLn lines), .dat (eL goal), .dat d, .nul, .nul, .nul, .nul, .nul, .nul, .nul, .nul, .nul] s) = _
  unfold b_greatest
  simp only [List.length_cons, List.length_nil, mSeq_run, mPar_run, mRcons_run, mSd_run, mBlt_run, mCons_run, mPeek_run, mNil_run, mVar_run, mRnil_run, List.getElem?_cons_succ, List.getElem?_cons_zero, R.bind_ok, fLen_eL, R.opt_some, mCall_run, if_true, Nat.zero_add]
  rw [tb]
  simp only [R.bind_ok, List.length_cons, List.length_nil, Nat.zero_add, if_true, setAllE, List.set_cons_succ, List.set_cons_zero, mAsg_run, mSd_run, mFrz_run, mLcL_run, mRng_run, mCons_run, mBlt_run, mPeek_run, mNil_run, List.getElem?_cons_succ, List.getElem?_cons_zero, fLen_eT, tl, R.opt_some, r1, wipeE]
  rw [if_pos q, e1]
  simp only [R.bind_ok]
  rw [e2]
  simp only [mSeq_run, mAsg_run, mSd_run, mOp_run, mPeek_run, mLst_run, mCons_run, mCon_run, mNil_run, mBlt_run, List.getElem?_cons_succ, List.getElem?_cons_zero, List.set_cons_succ, List.set_cons_zero, R.bind_ok, fw, fLen_eT, tl, R.opt_some, fAdd_ii, z1, a1, a2]
  show endD (mWhile (mTest (mCon (.bl true))) grB wfuel [.dat (eLn lines), .dat (eL (LP.init lines goal).g), .dat d, .dat (.int goal.length), .dat (eT (LP.init lines goal).t), .dat (eL (LP.init lines goal).b), .nul, .nul, .nul, .nul, .nul, .nul] s) = _
  rw [lp]
  rfl
end PD
set_option maxRecDepth 100000
set_option maxHeartbeats 4000000
set_option exponentiation.threshold 20
namespace PD
open PySem PySem.Spec PyProof.Rows L2

/-! ### fractions in lowest terms -/
def lowL (a b : Int) : Int × Int := if 0 < b then (a / (part [a, b] : Int), b / (part [a, b] : Int)) else (a / -(part [a, b] : Int), b / -(part [a, b] : Int))
def eF (p : Int × Int) : D := .tup [.int p.1, .int p.2]
theorem lowest_ok {a b : Int} {s : Store} (hb : 0 < b) (ha : a.natAbs.log2 < 900000) (hl : b.natAbs.log2 < 9000) : m_lowest [.int a, .int b] s = .ok (eF (lowL a b)) s := by
  have e1 : m_divisor [eL [a, b]] s = .ok (.int (part [a, b])) s := divisor_ok rfl fun x hx => by
    simp at hx
    rcases hx with rfl | rfl
    · exact ha
    · omega
  have hp := part_pos (xs := [a, b])
  have hd := part_dvd (xs := [a, b]) (x := b) (by simp)
  have hle : part [a, b] ≤ b.natAbs := by
    have := Int.natAbs_dvd_natAbs.mpr hd
    simpa using Nat.le_of_dvd (by omega) this
  have hpl : ((part [a, b] : Nat) : Int).natAbs.log2 < 9000 := by
    have := natAbs_le_log hle
    simp
    omega
  have d1 := fDiv_ii (i := a) (j := (part [a, b] : Int)) (by omega) hpl
  have d2 := fDiv_ii (i := b) (j := (part [a, b] : Int)) (by omega) hpl
  have fw : few D.lst [D.int a, D.int b] = some (eL [a, b]) := rfl
  have fw2 : ∀ x y : Int, few D.tup [D.int x, D.int y] = some (.tup [D.int x, D.int y]) := fun _ _ => rfl
  have hbt : decide (0 < b) = true := decide_eq_true hb
  unfold m_lowest
  rw [mFn_run]
  show endD (b_lowest [.dat (.int a), .dat (.int b), .nul] s) = _
  unfold b_lowest
  simp only [mSeq_run, mAsg_run, mSd_run, mCall_run, mCons_run, mLst_run, mVar_run, mNil_run, List.getElem?_cons_succ, List.getElem?_cons_zero, R.bind_ok, fw, R.opt_some, List.length_cons, List.length_nil, Nat.zero_add, if_true]
  rw [e1]
  simp only [R.bind_ok, List.set_cons_succ, List.set_cons_zero, mSeq_run, mAsg_run, mSd_run, mIte_run, mTest_run, mOp_run, mPeek_run, mCon_run, mVar_run, mRet_run, mTup_run, mCons_run, mNil_run, List.getElem?_cons_succ, List.getElem?_cons_zero, R.opt_some, fGt_ii, toB_bl, hbt, d1, d2, fw2]
  simp [eF, lowL, hb]
/-! ### solution -/
/-- a row as a datum -/
def RowRel (d : D) (p : List Int × Bool) : Prop := ∃ X, d = .tup [X, .bl p.2] ∧ fItems X = some (p.1.map .int)
def lnOfRow (p : List Int × Bool) : List Int × Int := (p.1.map (- ·) ++ [if p.2 then 1 else 0], 0)
def solLines (rows : List (List Int × Bool)) (many : Nat) : List (List Int × Int) := rows.map lnOfRow ++ [(List.replicate many 0 ++ [-1, 1], 0), (List.replicate (many + 1) 1 ++ [0], 1)]
theorem neg_run {Γ : Env} {s : Store} {ai : Nat} (ha : ai < Γ.length) (xs : List Int) : lcGo (.nm ai) mYes (mOp1 fNeg (mPeek ai)) Γ (xs.map .int) s = .ok ((xs.map (- ·)).map .int) s := by
  have e := run_lc (tg := .nm ai) (me := mOp1 fNeg (mPeek ai)) (Γ := Γ) (s := s) (fun d => match d with
    | .int j => .int (-j)
    | d => d) (xs.map .int) (fun d hd => by
    obtain ⟨j, hj, rfl⟩ := List.mem_map.mp hd
    refine ⟨_, rfl, ?_⟩
    have e2 : (Γ.set ai (.dat (.int j)))[ai]? = some (.dat (.int j)) := by rw [List.getElem?_set_self ha]
    simp only [mOp1_run, mPeek_run, e2, R.bind_ok, fNeg_i, R.opt_some])
  rw [e]
  simp
abbrev slE : Env → M D := mTup (mCons (mOp fAdd (mFrz (mLcL (mItems (mVar 4)) (.nm 3) mYes (mOp1 fNeg (mPeek 3)) [3])) (mLst (mCons (mIte (mTest (mVar 5)) (mCon (.int 1)) (mCon (.int 0))) mNil))) (mCons (mCon (.int 0)) mNil))
theorem sl_run {x0 x1 x2 x3 x6 x7 x8 : SV} {s : Store} (enc : List Int × Bool → D) (rows : List (List Int × Bool)) (hr : ∀ p ∈ rows, RowRel (enc p) p) (hl : ∀ p ∈ rows, p.1.length ≤ 1000) :
    lcGo (.tp [.nm 4, .nm 5]) mYes slE [x0, x1, x2, x3, .nul, .nul, x6, x7, x8] (rows.map enc) s = .ok ((rows.map lnOfRow).map fun p => .tup [eL p.1, .int p.2]) s := by
  induction rows with
  | nil => rfl
  | cons p rows ih =>
    have ih := ih (fun q hq => hr q (List.mem_cons_of_mem _ hq)) (fun q hq => hl q (List.mem_cons_of_mem _ hq))
    obtain ⟨X, hX, hi⟩ := hr p List.mem_cons_self
    have hlen := hl p List.mem_cons_self
    have st : slE [x0, x1, x2, x3, .dat X, .dat (.bl p.2), x6, x7, x8] s = .ok (.tup [eL (lnOfRow p).1, .int (lnOfRow p).2]) s := by
      have n1 := neg_run (Γ := [x0, x1, x2, .nul, .dat X, .dat (.bl p.2), x6, x7, x8]) (s := s) (ai := 3) (by simp) p.1
      have q : (p.1.map D.int).length ≤ 100000 := by rw [List.length_map]; omega
      have z : D.lst ((p.1.map (- ·)).map .int) = eL (p.1.map (- ·)) := rfl
      have a1 : ∀ v : Int, fAdd (eL (p.1.map (- ·))) (eL [v]) = some (eL (p.1.map (- ·) ++ [v])) := fun v => fAdd_eL (by simp; omega)
      have fw : ∀ v : Int, few D.lst [D.int v] = some (eL [v]) := fun _ => rfl
      have fw2 : ∀ (x : D) (v : Int), few D.tup [x, D.int v] = some (.tup [x, D.int v]) := fun _ _ => rfl
      simp only [slE, mTup_run, mCons_run, mOp_run, mFrz_run, mLcL_run, mItems_run, mVar_run, List.getElem?_cons_succ, List.getElem?_cons_zero, R.bind_ok, hi, R.opt_some, wipeE, List.set_cons_succ, List.set_cons_zero]
      rw [if_pos q, n1]
      simp only [R.bind_ok, z, mLst_run, mCons_run, mIte_run, mTest_run, mVar_run, mCon_run, mNil_run, List.getElem?_cons_succ, List.getElem?_cons_zero, toB_bl, R.opt_some]
      cases hp2 : p.2 with
      | true =>
        simp only [R.bind_ok, fw, R.opt_some, a1, fw2]
        simp [lnOfRow, hp2]
      | false =>
        simp only [R.bind_ok, fw, R.opt_some, a1, fw2]
        simp [lnOfRow, hp2]
    rw [List.map_cons, hX]
    unfold lcGo
    simp only [bindT, bindTs, Option.bind_some, List.set_cons_succ, List.set_cons_zero, mYes_run]
    show (slE [x0, x1, x2, x3, .dat X, .dat (.bl p.2), x6, x7, x8] s).nox.bind _ = _
    rw [st]
    show (lcGo (.tp [.nm 4, .nm 5]) mYes slE [x0, x1, x2, x3, .nul, .nul, x6, x7, x8] (rows.map enc) s).bind _ = _
    rw [ih]
    rfl
/-- what solution gives: the row of numbers and the divisor, or nothing -/
def solOut (nums : List Int) (many : Nat) : D := if nth nums (many + 1) = 0 then .non else .lst ((nums.take many).map fun a => eF (lowL a (nth nums many)))
theorem solution_ok {rows : List (List Int × Bool)} {enc : List Int × Bool → D} {many n : Nat} {s : Store} {y : LP} {nums : List Int} {c : Int} (hr : ∀ p ∈ rows, RowRel (enc p) p) (hl : ∀ p ∈ rows, p.1.length ≤ 400) (hrl : rows.length ≤ 190) (hm : many ≤ 400)
    (I : LP → Prop) (hI : ∀ x : LP, I x → x.Ok n) (h0 : I (LP.init (solLines rows many) (List.replicate (many + 1) 0 ++ [1]))) (hst : ∀ (x : LP) (k : Nat) (ks : List Nat) (i : Nat), I x → stopB true x = false → places x.g = k :: ks → leav x.t x.b k = some i → I (x.piv k i))
    (hy : grt true wfuel (LP.init (solLines rows many) (List.replicate (many + 1) 0 ++ [1])) = some y) (hn : m_numbers_of [eT y.t, eL y.b, .int ((many + 2 : Nat) : Int)] s = .ok (.tup [eL nums, .int c]) s) (hnl : nums.length = many + 2)
    (hsz : nth nums (many + 1) ≠ 0 → 0 < nth nums many ∧ ∀ x ∈ nums, x.natAbs.log2 < 9000) : m_solution [.lst (rows.map enc), .int many] s = .ok (solOut nums many) s := by
  have sl := sl_run (x0 := .dat (.lst (rows.map enc))) (x1 := .dat (.int many)) (x2 := .nul) (x3 := .nul) (x6 := .nul) (x7 := .nul) (x8 := .nul) (s := s) enc rows hr fun p hp => Nat.le_trans (hl p hp) (by decide)
  have gr := greatest_ok (lines := solLines rows many) (goal := List.replicate (many + 1) 0 ++ [1]) (d := .int ((many + 1 : Nat) : Int)) (bw := true) (s := s) (fun p hp => by
      unfold solLines at hp
      rcases List.mem_append.mp hp with hp | hp
      · obtain ⟨q, hq, rfl⟩ := List.mem_map.mp hp
        have := hl q hq
        simp [lnOfRow]; omega
      · simp at hp
        rcases hp with rfl | rfl <;> simp <;> omega) (by simp [solLines]; omega) (by simp; omega) I hI h0 hst rfl hy (r := .tup [eL nums, .int c]) (by
      have : (List.replicate (many + 1) 0 ++ [(1 : Int)]).length = many + 2 := by simp
      rw [this]; exact hn)
  have r0 := fMul_rep (i := 0) (n := many) (by omega)
  have r01 := fMul_rep (i := 0) (n := many + 1) (by omega)
  have r1 := fMul_rep (i := 1) (n := many + 1) (by omega)
  have fw0 : few D.lst [D.int 0] = some (.lst [.int 0]) := rfl
  have fw1 : few D.lst [D.int 1] = some (.lst [.int 1]) := rfl
  have fw2 : few D.lst [D.int (-1), D.int 1] = some (eL [-1, 1]) := rfl
  have a1 := fAdd_eL (xs := List.replicate many 0) (ys := [-1, 1]) (by simp; omega)
  have a2 : fAdd (eL (List.replicate (many + 1) 1)) (.lst [.int 0]) = some (eL (List.replicate (many + 1) 1 ++ [0])) := fAdd_eL (xs := List.replicate (many + 1) 1) (ys := [0]) (by simp; omega)
  have a3 : fAdd (eL (List.replicate (many + 1) 0)) (.lst [.int 1]) = some (eL (List.replicate (many + 1) 0 ++ [1])) := fAdd_eL (xs := List.replicate (many + 1) 0) (ys := [1]) (by simp; omega)
  have z1 : ((many : Int) + 1) = ((many + 1 : Nat) : Int) := by omega
  have fwt : ∀ (x : D) (v : Int), few D.tup [x, D.int v] = some (.tup [x, D.int v]) := fun _ _ => rfl
  have fwl : ∀ x y : D, few D.lst [x, y] = some (.lst [x, y]) := fun _ _ => rfl
  have a4 : fAdd (.lst ((rows.map lnOfRow).map fun p => .tup [eL p.1, .int p.2])) (.lst [.tup [eL (List.replicate many 0 ++ [-1, 1]), .int 0], .tup [eL (List.replicate (many + 1) 1 ++ [0]), .int 1]]) = some (eLn (solLines rows many)) := by
    show (if ((rows.map lnOfRow).map fun p => D.tup [eL p.1, .int p.2]).length + 2 ≤ 100000 then some (D.lst (((rows.map lnOfRow).map fun p => D.tup [eL p.1, .int p.2]) ++ _)) else none) = _
    rw [if_pos (by simp; omega)]
    simp [eLn, solLines]
  have q : (rows.map enc).length ≤ 100000 := by rw [List.length_map]; omega
  have i1 := fIx_nat (xs := nums) (k := many + 1) (by omega)
  have i2 := fIx_nat (xs := nums) (k := many) (by omega)
  have s1 := fSl_to (xs := nums) (i := many) (by omega)
  unfold m_solution
  rw [mFn_run]
  show endD (b_solution [.dat (.lst (rows.map enc)), .dat (.int many), .nul, .nul, .nul, .nul, .nul, .nul, .nul] s) = _
  unfold b_solution
  simp only [mSeq_run, mAsg_run, mSd_run, mFrz_run, mLcL_run, mItems_run, mVar_run, List.getElem?_cons_succ, List.getElem?_cons_zero, R.bind_ok, fItems, R.opt_some, wipeE, List.set_cons_succ, List.set_cons_zero]
  rw [if_pos q, sl]
  simp only [R.bind_ok, List.set_cons_succ, List.set_cons_zero, mSeq_run, mAsg_run, mSd_run, mOp_run, mPeek_run, mLst_run, mCons_run, mTup_run, mCon_run, mNil_run, mOp1_run, List.getElem?_cons_succ, List.getElem?_cons_zero, R.opt_some, fNeg_i, fAdd_ii, z1, fw0, fw1, fw2, r0, r1, r01, a1, a2, a3, fwt, fwl, a4, mUnp_run, mCall_run, mVar_run, List.length_cons, List.length_nil, Nat.zero_add, if_true]
  rw [gr]
  simp only [R.bind_ok, bindT, bindTs, Option.bind_some, List.set_cons_succ, List.set_cons_zero]
  simp only [mIf_run, mTest_run, mOp_run, mIx_run, mPeek_run, mVar_run, mCon_run, List.getElem?_cons_succ, List.getElem?_cons_zero, R.bind_ok, fAdd_ii, z1, R.opt_some, deref_eL, i1, fEq_ii, toB_bl]
  by_cases h : nth nums (many + 1) = 0
  · have h' : (nth nums (many + 1) == 0) = true := by simpa using h
    rw [h']
    simp [solOut, h]
  · have h' : (nth nums (many + 1) == 0) = false := by simpa using h
    obtain ⟨hpos, hsm⟩ := hsz h
    have hx : (nth nums many).natAbs.log2 < 9000 := by
      have : nth nums many ∈ nums := by
        unfold nth
        rw [List.getD_eq_getElem?_getD, List.getElem?_eq_getElem (show many < nums.length by omega)]
        exact List.getElem_mem _
      exact hsm _ this
    have e := run_lc (tg := .nm 8) (me := mCall 2 m_lowest (mCons (mVar 8) (mCons (mIx (mPeek 6) (mVar 1)) mNil))) (Γ := [.dat (.lst (rows.map enc)), .dat (.int many), .dat (eLn (solLines rows many)), .nul, .nul, .nul, .dat (eL nums), .dat (.int c), .nul]) (s := s) (fun d => match d with
      | .int a => eF (lowL a (nth nums many))
      | d => d) ((nums.take many).map .int) (fun d hd => by
      obtain ⟨a, ha, rfl⟩ := List.mem_map.mp hd
      refine ⟨_, rfl, ?_⟩
      have := hsm a (List.mem_of_mem_take ha)
      have lo := lowest_ok (s := s) (a := a) hpos (by omega) hx
      simp only [mCall_run, mCons_run, mVar_run, mIx_run, mPeek_run, mNil_run, List.set_cons_succ, List.set_cons_zero, List.getElem?_cons_succ, List.getElem?_cons_zero, R.bind_ok, deref_eL, i2, R.opt_some, List.length_cons, List.length_nil, Nat.zero_add, if_true]
      exact lo)
    have q2 : ((nums.take many).map D.int).length ≤ 100000 := by rw [List.length_map, List.length_take]; omega
    have fi : fItems (eL (nums.take many)) = some ((nums.take many).map D.int) := rfl
    rw [h']
    simp only [R.bind_ok, mNext_run, mRet_run, mFrz_run, mLcL_run, mItems_run, mSl_run, mPeek_run, mNoPart_run, mPart_run, mVar_run, List.getElem?_cons_succ, List.getElem?_cons_zero, toI_int, s1, R.opt_some, fi, wipeE, List.set_cons_succ, List.set_cons_zero]
    rw [if_pos q2]
    have sl2 : [SV.dat (.lst (rows.map enc)), .dat (.int many), .dat (eLn (solLines rows many)), .nul, .nul, .nul, .dat (eL nums), .dat (.int c), .nul] = [SV.dat (.lst (rows.map enc)), .dat (.int many), .dat (eLn (solLines rows many)), .nul, .nul, .nul, .dat (eL nums), .dat (.int c), .nul] := rfl
    rw [e]
    simp [solOut, h, Function.comp_def]
end PD
set_option maxRecDepth 100000
set_option maxHeartbeats 4000000
namespace PD
open PySem PySem.Spec PyProof.Rows L2
/-! ## what values are: plain -/
@[simp] theorem isi_NoneType_int : fIsi "int" .non = some (.bl false) := rfl
@[simp] theorem isi_NoneType_bool : fIsi "bool" .non = some (.bl false) := rfl
@[simp] theorem isi_NoneType_str : fIsi "str" .non = some (.bl false) := rfl
@[simp] theorem isi_NoneType_tuple : fIsi "tuple" .non = some (.bl false) := rfl
@[simp] theorem isi_NoneType_list : fIsi "list" .non = some (.bl false) := rfl
@[simp] theorem isi_bool_int (b : Bool) : fIsi "int" (.bl b) = some (.bl true) := rfl
@[simp] theorem isi_bool_bool (b : Bool) : fIsi "bool" (.bl b) = some (.bl true) := rfl
@[simp] theorem isi_bool_str (b : Bool) : fIsi "str" (.bl b) = some (.bl false) := rfl
@[simp] theorem isi_bool_tuple (b : Bool) : fIsi "tuple" (.bl b) = some (.bl false) := rfl
@[simp] theorem isi_bool_list (b : Bool) : fIsi "list" (.bl b) = some (.bl false) := rfl
@[simp] theorem isi_int_int (i : Int) : fIsi "int" (.int i) = some (.bl true) := rfl
@[simp] theorem isi_int_bool (i : Int) : fIsi "bool" (.int i) = some (.bl false) := rfl
@[simp] theorem isi_int_str (i : Int) : fIsi "str" (.int i) = some (.bl false) := rfl
@[simp] theorem isi_int_tuple (i : Int) : fIsi "tuple" (.int i) = some (.bl false) := rfl
@[simp] theorem isi_int_list (i : Int) : fIsi "list" (.int i) = some (.bl false) := rfl
@[simp] theorem isi_str_int (x : Str) : fIsi "int" (.str x) = some (.bl false) := rfl
@[simp] theorem isi_str_bool (x : Str) : fIsi "bool" (.str x) = some (.bl false) := rfl
@[simp] theorem isi_str_str (x : Str) : fIsi "str" (.str x) = some (.bl true) := rfl
@[simp] theorem isi_str_tuple (x : Str) : fIsi "tuple" (.str x) = some (.bl false) := rfl
@[simp] theorem isi_str_list (x : Str) : fIsi "list" (.str x) = some (.bl false) := rfl
@[simp] theorem isi_list_int (xs : List D) : fIsi "int" (.lst xs) = some (.bl false) := rfl
@[simp] theorem isi_list_bool (xs : List D) : fIsi "bool" (.lst xs) = some (.bl false) := rfl
@[simp] theorem isi_list_str (xs : List D) : fIsi "str" (.lst xs) = some (.bl false) := rfl
@[simp] theorem isi_list_tuple (xs : List D) : fIsi "tuple" (.lst xs) = some (.bl false) := rfl
@[simp] theorem isi_list_list (xs : List D) : fIsi "list" (.lst xs) = some (.bl true) := rfl
@[simp] theorem isi_tuple_int (xs : List D) : fIsi "int" (.tup xs) = some (.bl false) := rfl
@[simp] theorem isi_tuple_bool (xs : List D) : fIsi "bool" (.tup xs) = some (.bl false) := rfl
@[simp] theorem isi_tuple_str (xs : List D) : fIsi "str" (.tup xs) = some (.bl false) := rfl
@[simp] theorem isi_tuple_tuple (xs : List D) : fIsi "tuple" (.tup xs) = some (.bl true) := rfl
@[simp] theorem isi_tuple_list (xs : List D) : fIsi "list" (.tup xs) = some (.bl false) := rfl
theorem mAndV_run {m n : Env → M D} {Γ : Env} {s : Store} : mAndV m n Γ s = (m Γ s).bind fun d s1 => match d with
  | .bl true => n Γ s1
  | .bl false => .ok (.bl false) s1
  | _ => .bad := rfl
theorem and_t {m n : Env → M D} {Γ : Env} {s s1 : Store} (h : m Γ s = .ok (.bl true) s1) : mAndV m n Γ s = n Γ s1 := by rw [mAndV_run, h]; rfl
theorem and_f {m n : Env → M D} {Γ : Env} {s s1 : Store} (h : m Γ s = .ok (.bl false) s1) : mAndV m n Γ s = .ok (.bl false) s1 := by rw [mAndV_run, h]; rfl
theorem and_b {m n : Env → M D} {Γ : Env} {s : Store} {p q : Bool} (h : m Γ s = .ok (.bl p) s) (h2 : p = true → n Γ s = .ok (.bl q) s) : mAndV m n Γ s = .ok (.bl (p && q)) s := by
  cases p with
  | true => rw [and_t h, h2 rfl]; rfl
  | false => rw [and_f h]; rfl
theorem or_b {m n : Env → M D} {Γ : Env} {s : Store} {p q : Bool} (h : m Γ s = .ok (.bl p) s) (h2 : p = false → n Γ s = .ok (.bl q) s) : mOrV m n Γ s = .ok (.bl (p || q)) s := by
  show (m Γ s).bind _ = _
  rw [h]
  cases p with
  | true => rfl
  | false => exact h2 rfl
theorem not_b {m : Env → M D} {Γ : Env} {s : Store} {p : Bool} (h : m Γ s = .ok (.bl p) s) : mNotV m Γ s = .ok (.bl (!p)) s := by
  show (m Γ s).bind _ = _
  rw [h]; rfl
theorem test_b {m : Env → M D} {Γ : Env} {s : Store} {p : Bool} (h : m Γ s = .ok (.bl p) s) : mTest m Γ s = .ok p s := by
  show (m Γ s).bind _ = _
  rw [h]; rfl
theorem notT_b {m : Env → M Bool} {Γ : Env} {s : Store} {p : Bool} (h : m Γ s = .ok p s) : mNotT m Γ s = .ok (!p) s := by
  show (m Γ s).bind _ = _
  rw [h]; rfl
theorem orT_b {m n : Env → M Bool} {Γ : Env} {s : Store} {p q : Bool} (h : m Γ s = .ok p s) (h2 : p = false → n Γ s = .ok q s) : mOrT m n Γ s = .ok (p || q) s := by
  show (m Γ s).bind _ = _
  rw [h]
  cases p with
  | true => rfl
  | false => exact h2 rfl
theorem andT_b {m n : Env → M Bool} {Γ : Env} {s : Store} {p q : Bool} (h : m Γ s = .ok p s) (h2 : p = true → n Γ s = .ok q s) : mAndT m n Γ s = .ok (p && q) s := by
  show (m Γ s).bind _ = _
  rw [h]
  cases p with
  | true => exact h2 rfl
  | false => rfl
theorem le_chain {ma mb mc : Env → M D} {Γ : Env} {s : Store} {a b c : Int} (h1 : ma Γ s = .ok (.int a) s) (h2 : mb Γ s = .ok (.int b) s) (h3 : mc Γ s = .ok (.int c) s) : mChain fLe fLe ma mb mc Γ s = .ok (.bl (decide (a ≤ b) && decide (b ≤ c))) s := by
  show (ma Γ s).bind _ = _
  rw [h1]
  show (mb Γ s).bind _ = _
  rw [h2]
  show (match fLe (.int a) (.int b) with | some (.bl true) => _ | some (.bl false) => _ | _ => _) = _
  rw [fLe_ii]
  by_cases h : a ≤ b
  · rw [decide_eq_true h]
    show (mc Γ s).bind _ = _
    rw [h3]
    show R.opt (fLe (.int b) (.int c)) s = _
    rw [fLe_ii]; rfl
  · rw [decide_eq_false h]; rfl
/-- a value's kind is known -/
def Ty (d : D) : Prop := match d with
  | .cel _ => False | .scr _ => False | .dki _ _ => False
  | _ => True
def isNum (lo hi : Int) (d : D) : Bool := match d with
  | .int i => decide (lo ≤ i) && decide (i ≤ hi)
  | _ => false
def isTup (few many : Int) (d : D) : Bool := match d with
  | .tup xs => decide (few ≤ xs.length) && decide ((xs.length : Int) ≤ many)
  | _ => false
theorem num_ok {d : D} {lo hi : Int} {s : Store} (h : Ty d) : m_is_number [d, .int lo, .int hi] s = .ok (.bl (isNum lo hi d)) s := by
  have c : ∀ i : Int, d = .int i → mChain fLe fLe (mPeek 1) (mPeek 0) (mPeek 2) [.dat d, .dat (.int lo), .dat (.int hi)] s = .ok (.bl (decide (lo ≤ i) && decide (i ≤ hi))) s := fun i e => le_chain (by simp) (by simp [e]) (by simp)
  cases d with
  | int i => simp [m_is_number, b_is_number, mFn_run, startE, mAndV, mNotV, c i rfl, isNum]
  | cel _ => exact h.elim
  | scr _ => exact h.elim
  | dki _ _ => exact h.elim
  | _ => simp [m_is_number, b_is_number, mFn_run, startE, mAndV, mNotV, isNum]
theorem tup_ok {d : D} {lo hi : Int} {s : Store} (h : Ty d) : m_is_tuple [d, .int lo, .int hi] s = .ok (.bl (isTup lo hi d)) s := by
  cases d with
  | tup xs =>
    have c : mChain fLe fLe (mPeek 1) (mBlt fLen (mCons (mPeek 0) mNil)) (mPeek 2) [.dat (.tup xs), .dat (.int lo), .dat (.int hi)] s = .ok (.bl (decide (lo ≤ (xs.length : Int)) && decide ((xs.length : Int) ≤ hi))) s := le_chain (by simp) (by simp [fLen]) (by simp)
    simp [m_is_tuple, b_is_tuple, mFn_run, startE, mAndV, c, isTup]
  | cel _ => exact h.elim
  | scr _ => exact h.elim
  | dki _ _ => exact h.elim
  | _ => simp [m_is_tuple, b_is_tuple, mFn_run, startE, mAndV, isTup]
/-! ### all of a list -/
theorem bls_map {α : Type} (xs : List α) (f : α → Bool) : blsOf (xs.map fun d => .bl (f d)) = some (xs.map f) := by
  induction xs with
  | nil => rfl
  | cons x xs ih => simp [blsOf, ih]
theorem all_map {α : Type} (xs : List α) (f : α → Bool) : fAll [.lst (xs.map fun d => .bl (f d))] = some (.bl (xs.all f)) := by
  show (blsOf _).map _ = _
  rw [bls_map]
  simp [List.all_map]
theorem all_run {mi : Env → M (List D)} {t : Tg} {e : Env → M D} {o : List Nat} {Γ : Env} {s : Store} {xs : List D} (f : D → Bool) (hi : mi Γ s = .ok xs s) (hx : xs.length ≤ 100000) (he : ∀ d ∈ xs, ∃ Γ1, bindT t d (wipeE Γ o) = some Γ1 ∧ e Γ1 s = .ok (.bl (f d)) s) :
    mBlt fAll (mCons (mFrz (mLcL mi t mYes e o)) mNil) Γ s = .ok (.bl (xs.all f)) s := by
  simp only [mBlt_run, mCons_run, mFrz_run, mLcL_run, hi, R.bind_ok, hx, if_true, run_lc (fun d => .bl (f d)) xs he, mNil_run, all_map, R.opt_some]
def tupAll (f : D → Bool) : D → Bool
  | .tup xs => xs.all f
  | _ => false
def isRow (n : Nat) (d : D) : Bool := isTup n n d && tupAll (isNum 0 12) d
def TyL (xs : List D) : Prop := ∀ x ∈ xs, Ty x
/-- kinds are known two rows down -/
def Ty1 (d : D) : Prop := Ty d ∧ ∀ xs, (d = .tup xs ∨ d = .lst xs) → TyL xs
def Ty2 (d : D) : Prop := Ty d ∧ ∀ xs, (d = .tup xs ∨ d = .lst xs) → ∀ x ∈ xs, Ty1 x
theorem row_ok {d : D} {n : Nat} {s : Store} (h : Ty1 d) (hn : n ≤ 1000) : m_is_row [d, .int n] s = .ok (.bl (isRow n d)) s := by
  have e1 := tup_ok (lo := n) (hi := n) (s := s) h.1
  unfold m_is_row b_is_row
  rw [mFn_run]
  show endD (mRet _ [.dat d, .dat (.int n), .nul] s) = _
  rw [mRet_run, and_b (p := isTup n n d) (q := tupAll (isNum 0 12) d) (by simp [e1]) fun ht => ?_]
  · rfl
  · cases d with
    | tup xs =>
      have : xs.length = n := by simp [isTup] at ht; omega
      exact all_run (isNum 0 12) (by simp [fItems]) (by omega) fun d hd => ⟨_, rfl, by
        have := num_ok (lo := 0) (hi := 12) (s := s) (h.2 xs (.inl rfl) d hd)
        simp [this]⟩
    | _ => simp [isTup] at ht
/-! ### debts -/
def isDiag : Nat → List D → Bool
  | _, [] => true
  | k, .tup xs :: ds => (match xs[k]? with | some d => D.eqv d (.int 0) | none => false) && isDiag (k + 1) ds
  | _, _ => false
def isDebts (d : D) : Bool := isTup 2 4 d && (match d with | .tup xs => xs.all (isRow xs.length) && isDiag 0 xs | _ => false)
def diagB (p : D) : Bool := match p with
  | .tup [.int k, .tup xs] => (match xs[k.toNat]? with | some d => D.eqv d (.int 0) | none => false)
  | _ => false
theorem diag_all : ∀ (ds : List D) (k : Nat), (∀ d ∈ ds, ∃ xs, d = .tup xs) → (enumD k ds).all diagB = isDiag k ds
  | [], _, _ => rfl
  | d :: ds, k, h => by
    obtain ⟨xs, rfl⟩ := h d List.mem_cons_self
    show (diagB (.tup [.int k, .tup xs]) && (enumD (k + 1) ds).all diagB) = _
    rw [diag_all ds (k + 1) fun d hd => h d (List.mem_cons_of_mem _ hd)]
    rfl
theorem enum_mem : ∀ {ds : List D} {k : Nat} {p : D}, p ∈ enumD k ds → ∃ (j : Nat) (d : D), k ≤ j ∧ j < k + ds.length ∧ d ∈ ds ∧ p = .tup [.int j, d]
  | d :: ds, k, p, h => by
    rcases List.mem_cons.mp h with rfl | h
    · exact ⟨k, d, Nat.le_refl k, by simp, List.mem_cons_self, rfl⟩
    · obtain ⟨j, d', h1, h2, h3, h4⟩ := enum_mem h
      exact ⟨j, d', by omega, by simp; omega, List.mem_cons_of_mem _ h3, h4⟩
theorem row_tup {n : Nat} {d : D} (h : isRow n d = true) : ∃ xs, d = .tup xs ∧ xs.length = n ∧ ∀ x ∈ xs, ∃ i : Int, x = .int i ∧ 0 ≤ i ∧ i ≤ 12 := by
  cases d with
  | tup xs =>
    simp [isRow, isTup, tupAll] at h
    refine ⟨xs, rfl, by omega, fun x hx => ?_⟩
    have := h.2 x hx
    cases x with
    | int i => simp [isNum] at this; exact ⟨i, rfl, this⟩
    | _ => simp [isNum] at this
  | _ => simp [isRow, isTup] at h
theorem fEq_iz (i j : Int) : fEq (.int i) (.int j) = some (.bl (D.eqv (.int i) (.int j))) := rfl
theorem debts_ok {d : D} {s : Store} (h : Ty2 d) : m_are_good_debts [d] s = .ok (.bl (isDebts d)) s := by
  have e1 := tup_ok (lo := 2) (hi := 4) (s := s) h.1
  unfold m_are_good_debts b_are_good_debts
  rw [mFn_run]
  show endD (mSeq _ _ [.dat d, .nul, .nul] s) = _
  have c1 : (mNotT (mTest (mCall 3 m_is_tuple (mCons (mVar 0) (mCons (mCon (.int 2)) (mCons (mCon (.int 4)) mNil)))))) [.dat d, .nul, .nul] s = .ok (!isTup 2 4 d) s := notT_b (test_b (by simp [e1]))
  rw [mSeq_run, mIf_run]
  cases ht : isTup 2 4 d with
  | false =>
    rw [ht] at c1
    rw [orT_b (p := true) (q := true) c1 (fun h => nomatch h)]
    simp [isDebts, ht]
  | true =>
    rw [ht] at c1
    cases d with
    | tup xs =>
      have hx : xs.length ≤ 4 := by simp [isTup] at ht; omega
      have el : fLen [.tup xs] = some (.int xs.length) := rfl
      have a1 : (mBlt fAll (mCons (mFrz (mLcL (mItems (mVar 0)) (.nm 1) mYes (mCall 2 m_is_row (mCons (mVar 1) (mCons (mBlt fLen (mCons (mPeek 0) mNil)) mNil))) [1])) mNil)) [.dat (.tup xs), .nul, .nul] s = .ok (.bl (xs.all (isRow xs.length))) s :=
        all_run (isRow xs.length) (by simp [fItems]) (by omega) fun d hd => ⟨_, rfl, by
          have := row_ok (n := xs.length) (s := s) (h.2 xs (.inl rfl) d hd) (by omega)
          simp [el, this]⟩
      rw [orT_b (p := false) (q := !xs.all (isRow xs.length)) c1 (fun _ => notT_b (test_b a1))]
      cases ha : xs.all (isRow xs.length) with
      | false => simp [isDebts, ht, ha]
      | true =>
        have hr : ∀ d ∈ xs, isRow xs.length d = true := List.all_eq_true.mp ha
        have a2 : (mBlt fAll (mCons (mFrz (mLcL (mRng fEnum (mCons (mVar 0) mNil)) (.tp [(.nm 2), (.nm 1)]) mYes (mOp fEq (mIx (mPeek 1) (mVar 2)) (mCon (.int 0))) [2, 1])) mNil)) [.dat (.tup xs), .nul, .nul] s = .ok (.bl ((enumD 0 xs).all diagB)) s :=
          all_run diagB (by simp [fEnum, fItems]) (by rw [enumD_len]; omega) fun d hd => by
            obtain ⟨j, r, _, h2, h3, rfl⟩ := enum_mem hd
            obtain ⟨ys, rfl, hl, hy⟩ := row_tup (hr r h3)
            have hj : j < ys.length := by omega
            have hi : fIx (.tup ys) (.int (j : Int)) = some ys[j] := by
              show atI ys (j : Int) = _
              exact atI_nat hj
            obtain ⟨i, e, _⟩ := hy _ (List.getElem_mem hj)
            refine ⟨_, rfl, ?_⟩
            simp [hi, diagB, hj, Store.deref, e, D.eqv]
        rw [diag_all xs 0 fun d hd => by obtain ⟨ys, e, _⟩ := row_tup (hr d hd); exact ⟨ys, e⟩] at a2
        simp only [Bool.not_true, Bool.or_false, R.bind_ok, mNext_run, mRet_run, a2, endD_rt]
        simp [isDebts, ht, ha]
    | _ => simp [isTup] at ht
end PD
set_option maxRecDepth 100000
set_option maxHeartbeats 4000000
set_option exponentiation.threshold 20
namespace PD
open PySem PySem.Spec PyProof.Rows L2
/-! ## lots, facts, amounts -/
/-- data of known kinds, so deep, no row longer than L -/
def Gd (L : Nat) : Nat → D → Prop
  | 0, .non => True | 0, .bl _ => True | 0, .int _ => True | 0, .str x => strFine x = true
  | _ + 1, .non => True | _ + 1, .bl _ => True | _ + 1, .int _ => True | _ + 1, .str x => strFine x = true
  | n + 1, .tup xs => xs.length ≤ L ∧ ∀ x ∈ xs, Gd L n x
  | n + 1, .lst xs => xs.length ≤ L ∧ ∀ x ∈ xs, Gd L n x
  | _, _ => False
theorem Gd.ty {L n : Nat} {d : D} (h : Gd L n d) : Ty d := by
  cases n <;> cases d <;> simp_all [Gd, Ty]
theorem Gd.tup {L n : Nat} {xs : List D} (h : Gd L n (.tup xs)) : xs.length ≤ L ∧ ∃ m, n = m + 1 ∧ ∀ x ∈ xs, Gd L m x := by
  cases n with
  | zero => exact h.elim
  | succ m => exact ⟨h.1, m, rfl, h.2⟩
theorem Gd.lst {L n : Nat} {xs : List D} (h : Gd L n (.lst xs)) : xs.length ≤ L ∧ ∃ m, n = m + 1 ∧ ∀ x ∈ xs, Gd L m x := by
  cases n with
  | zero => exact h.elim
  | succ m => exact ⟨h.1, m, rfl, h.2⟩
theorem Gd.kid {L n : Nat} {xs : List D} {x : D} (h : Gd L n (.tup xs)) (hx : x ∈ xs) : ∃ m, n = m + 1 ∧ Gd L m x := by
  obtain ⟨_, m, e, h⟩ := h.tup
  exact ⟨m, e, h x hx⟩
theorem Gd.ty1 {L n : Nat} {d : D} (h : Gd L n d) : Ty1 d := by
  refine ⟨h.ty, fun xs e x hx => ?_⟩
  rcases e with rfl | rfl
  · obtain ⟨_, m, e, q⟩ := h.tup
    exact (q x hx).ty
  · obtain ⟨_, m, e, q⟩ := h.lst
    exact (q x hx).ty
theorem Gd.ty2 {L n : Nat} {d : D} (h : Gd L n d) : Ty2 d := by
  refine ⟨h.ty, fun xs e x hx => ?_⟩
  rcases e with rfl | rfl
  · obtain ⟨_, m, e, q⟩ := h.tup
    exact (q x hx).ty1
  · obtain ⟨_, m, e, q⟩ := h.lst
    exact (q x hx).ty1
theorem isTup_len {few many : Int} {d : D} (h : isTup few many d = true) : ∃ xs, d = .tup xs ∧ few ≤ xs.length ∧ (xs.length : Int) ≤ many := by
  cases d with
  | tup xs => simp [isTup] at h; exact ⟨xs, rfl, h⟩
  | _ => simp [isTup] at h
def ltP (p : D) : Bool := match p with
  | .tup [.int a, .int b] => decide (a < b)
  | _ => false
def isUp (xs : List D) : Bool := (zipD xs xs.tail).all ltP
def isLot (n : Nat) (d : D) : Bool := (isTup 0 n d && tupAll (isNum 0 (n - 1)) d) && (match d with | .tup xs => isUp xs | _ => false)
theorem zip_mem' : ∀ {xs ys : List D} {p : D}, p ∈ zipD xs ys → ∃ a b, a ∈ xs ∧ b ∈ ys ∧ p = .tup [a, b]
  | [], _, p, h => by simp [zipD] at h
  | _ :: _, [], p, h => by simp [zipD] at h
  | x :: xs, y :: ys, p, h => by
    rw [zipD] at h
    rcases List.mem_cons.mp h with rfl | h
    · exact ⟨x, y, List.mem_cons_self, List.mem_cons_self, rfl⟩
    · obtain ⟨a, b, h1, h2, h3⟩ := zip_mem' h
      exact ⟨a, b, List.mem_cons_of_mem _ h1, List.mem_cons_of_mem _ h2, h3⟩
theorem zip_len : ∀ {xs ys : List D}, (zipD xs ys).length ≤ xs.length
  | [], _ => by simp [zipD]
  | _ :: _, [] => by simp [zipD]
  | x :: xs, y :: ys => by simp [zipD]; exact zip_len
theorem cut_fromN {α : Type} (xs : List α) (k : Nat) : cutD xs (some (k : Int)) none = xs.drop k := by
  unfold cutD
  rw [HT.sIx_nat, HT.sIx_none]
  by_cases h : k ≤ xs.length
  · rw [Nat.min_eq_left h]
    exact List.take_of_length_le (by simp)
  · rw [Nat.min_eq_right (by omega), List.drop_of_length_le (by omega), List.drop_of_length_le (by omega)]
    simp
theorem cut_toN {α : Type} (xs : List α) (k : Nat) : cutD xs none (some (k : Int)) = xs.take k := by
  unfold cutD
  rw [HT.sIx_nat, HT.sIx_none, List.drop_zero, Nat.sub_zero]
  by_cases h : k ≤ xs.length
  · rw [Nat.min_eq_left h]
  · rw [Nat.min_eq_right (by omega), List.take_of_length_le (by omega), List.take_of_length_le (by omega)]
theorem cut_tail (xs : List D) : cutD xs (some 1) none = xs.tail := by
  have := cut_fromN xs 1
  rw [List.drop_one] at this
  exact this
theorem lot_ok {d : D} {n : Nat} {s : Store} (h : Ty1 d) (hn : n ≤ 1000) : m_is_lot [d, .int n] s = .ok (.bl (isLot n d)) s := by
  have e1 := tup_ok (lo := 0) (hi := n) (s := s) h.1
  unfold m_is_lot b_is_lot
  rw [mFn_run]
  show endD (mSeq _ _ [.dat d, .dat (.int n), .nul, .nul] s) = _
  have c1 : (mNotT (mTest (mCall 3 m_is_tuple (mCons (mVar 0) (mCons (mCon (.int 0)) (mCons (mVar 1) mNil)))))) [.dat d, .dat (.int n), .nul, .nul] s = .ok (!isTup 0 n d) s := notT_b (test_b (by simp [e1]))
  rw [mSeq_run, mIf_run]
  cases ht : isTup 0 n d with
  | false =>
    rw [ht] at c1
    rw [orT_b (p := true) (q := true) c1 (fun h => nomatch h)]
    simp [isLot, ht]
  | true =>
    rw [ht] at c1
    obtain ⟨xs, rfl, _, hx⟩ := isTup_len ht
    have a1 : (mBlt fAll (mCons (mFrz (mLcL (mItems (mVar 0)) (.nm 2) mYes (mCall 3 m_is_number (mCons (mVar 2) (mCons (mCon (.int 0)) (mCons (mOp fSub (mPeek 1) (mCon (.int 1))) mNil)))) [2])) mNil)) [.dat (.tup xs), .dat (.int n), .nul, .nul] s = .ok (.bl (xs.all (isNum 0 (n - 1)))) s :=
      all_run (isNum 0 (n - 1)) (by simp [fItems]) (by omega) fun d hd => ⟨_, rfl, by
        have := num_ok (lo := 0) (hi := n - 1) (s := s) (h.2 xs (.inl rfl) d hd)
        simp [this]⟩
    rw [orT_b (p := false) (q := !xs.all (isNum 0 (n - 1))) c1 (fun _ => notT_b (test_b a1))]
    cases ha : xs.all (isNum 0 (n - 1)) with
    | false => simp [isLot, ht, tupAll, ha]
    | true =>
      have hr : ∀ d ∈ xs, isNum 0 (n - 1) d = true := List.all_eq_true.mp ha
      have a2 : (mBlt fAll (mCons (mFrz (mLcL (mRng fZip (mCons (mVar 0) (mCons (mSl (mPeek 0) (mPart (mCon (.int 1))) mNoPart) mNil))) (.tp [(.nm 2), (.nm 3)]) mYes (mOp fLt (mPeek 2) (mPeek 3)) [2, 3])) mNil)) [.dat (.tup xs), .dat (.int n), .nul, .nul] s = .ok (.bl (isUp xs)) s :=
        all_run ltP (by simp [fZip, fItems, fSl, cut_tail]) (Nat.le_trans zip_len (by omega)) fun d hd => by
          obtain ⟨a, b, h1, h2, rfl⟩ := zip_mem' hd
          have ra := hr a h1
          have rb := hr b (List.mem_of_mem_tail h2)
          cases a with
          | int i =>
            cases b with
            | int j => exact ⟨_, rfl, by simp [ltP]⟩
            | _ => simp [isNum] at rb
          | _ => simp [isNum] at ra
      simp only [Bool.not_true, Bool.or_false, R.bind_ok, mNext_run, mRet_run, a2, endD_rt]
      simp [isLot, ht, ha, tupAll]
/-! ### facts -/
def wordB (x : Str) : Bool := D.anyEq (.str x) (w_WORDS.map .str)
def isFact (n : Nat) (d : D) : Bool := match d with
  | .tup [.str w, a, b, k] => wordB w && (isLot n a && (isLot n b && isNum (-60) 60 k))
  | _ => false
theorem word_in {x : Str} (h : strFine x = true) : fNotIn (.str x) d_WORDS = some (.bl (!wordB x)) := by
  unfold fNotIn
  rw [if_pos]
  · rfl
  · have : D.fine 60 d_WORDS = true := by decide +kernel
    simp [D.fine, h, this]
theorem fact_ok {d dd : D} {n L m : Nat} {s : Store} (h : Gd L m d) (hd : fLen [dd] = some (.int n)) (hn : n ≤ 1000) : m_is_fact [dd, d] s = .ok (.bl (isFact n d)) s := by
  have e1 := tup_ok (lo := 4) (hi := 4) (s := s) h.ty
  unfold m_is_fact b_is_fact
  rw [mFn_run]
  show endD (mSeq _ _ [.dat dd, .dat d, .nul] s) = _
  have e0 : mAsg 2 (mSd (mBlt fLen (mCons (mPeek 0) mNil))) [.dat dd, .dat d, .nul] s = .ok (.nx [.dat dd, .dat d, .dat (.int n)]) s := by simp [hd]
  rw [mSeq_run, e0]
  show endD (mSeq _ _ [.dat dd, .dat d, .dat (.int n)] s) = _
  have c1 : (mNotT (mTest (mCall 3 m_is_tuple (mCons (mVar 1) (mCons (mCon (.int 4)) (mCons (mCon (.int 4)) mNil)))))) [.dat dd, .dat d, .dat (.int n)] s = .ok (!isTup 4 4 d) s := notT_b (test_b (by simp [e1]))
  rw [mSeq_run, mIf_run]
  cases ht : isTup 4 4 d with
  | false =>
    rw [ht] at c1
    rw [orT_b (p := true) (q := true) c1 (fun h => nomatch h)]
    have : isFact n d = false := by
      unfold isFact
      split
      · simp [isTup] at ht
      · rfl
    simp [this]
  | true =>
    rw [ht] at c1
    obtain ⟨xs, rfl, h1, h2⟩ := isTup_len ht
    obtain ⟨w, a, b, k, rfl⟩ : ∃ w a b k, xs = [w, a, b, k] := by
      match xs, h1, h2 with
      | [w, a, b, k], _, _ => exact ⟨w, a, b, k, rfl⟩
      | [], h1, _ => simp at h1
      | [_], h1, _ => simp at h1
      | [_, _], h1, _ => simp at h1
      | [_, _, _], h1, _ => simp at h1
      | _ :: _ :: _ :: _ :: _ :: _, _, h2 => simp at h2; omega
    obtain ⟨m', _, gw⟩ := h.kid (x := w) (by simp)
    obtain ⟨_, _, ga⟩ := h.kid (x := a) (by simp)
    obtain ⟨_, _, gb⟩ := h.kid (x := b) (by simp)
    obtain ⟨_, _, gk⟩ := h.kid (x := k) (by simp)
    have i0 : fIx (.tup [w, a, b, k]) (.int 0) = some w := rfl
    have i1 : fIx (.tup [w, a, b, k]) (.int 1) = some a := rfl
    have i2 : fIx (.tup [w, a, b, k]) (.int 2) = some b := rfl
    have i3 : fIx (.tup [w, a, b, k]) (.int 3) = some k := rfl
    have l1 := lot_ok (n := n) (s := s) ga.ty1 hn
    have l2 := lot_ok (n := n) (s := s) gb.ty1 hn
    have l3 := num_ok (lo := -60) (hi := 60) (s := s) gk.ty
    have fin : mRet (mAndV (mCall 2 m_is_lot (mCons (mIx (mPeek 1) (mCon (.int 1))) (mCons (mVar 2) mNil))) (mAndV (mCall 2 m_is_lot (mCons (mIx (mPeek 1) (mCon (.int 2))) (mCons (mVar 2) mNil))) (mCall 3 m_is_number (mCons (mIx (mPeek 1) (mCon (.int 3))) (mCons (mOp1 fNeg (mCon (.int 60))) (mCons (mCon (.int 60)) mNil)))))) [.dat dd, .dat (.tup [w, a, b, k]), .dat (.int n)] s = .ok (.rt (.bl (isLot n a && (isLot n b && isNum (-60) 60 k)))) s := by
      rw [mRet_run, and_b (p := isLot n a) (q := isLot n b && isNum (-60) 60 k) (by simp [Store.deref, i1, l1]) fun _ => and_b (p := isLot n b) (q := isNum (-60) 60 k) (by simp [Store.deref, i2, l2]) fun _ => by simp [Store.deref, i3, l3]]
      rfl
    cases w with
    | str w =>
      have hw : strFine w = true := by cases m' <;> exact gw
      rw [orT_b (p := false) (q := !wordB w) c1 (fun _ => orT_b (p := false) (q := !wordB w) (by simp [Store.deref, i0]) fun _ => by simp [Store.deref, i0, word_in hw])]
      cases hwb : wordB w with
      | false => simp [isFact, hwb]
      | true =>
        simp only [Bool.not_true, Bool.or_false, R.bind_ok, mNext_run, fin, endD_rt]
        simp [isFact, hwb]
    | cel _ => exact (Gd.ty gw).elim
    | scr _ => exact (Gd.ty gw).elim
    | dki _ _ => exact (Gd.ty gw).elim
    | _ =>
      rw [orT_b (p := false) (q := true) c1 (fun _ => orT_b (p := true) (q := true) (by simp [Store.deref, i0]) fun h => nomatch h)]
      simp [isFact]
def isFacts (n : Nat) (d : D) : Bool := isTup 0 5 d && tupAll (isFact n) d
theorem facts_ok {d dd : D} {n L m : Nat} {s : Store} (h : Gd L m d) (hd : fLen [dd] = some (.int n)) (hn : n ≤ 1000) : m_are_good_facts [dd, d] s = .ok (.bl (isFacts n d)) s := by
  have e1 := tup_ok (lo := 0) (hi := 5) (s := s) h.ty
  unfold m_are_good_facts b_are_good_facts
  rw [mFn_run]
  show endD (mRet _ [.dat dd, .dat d, .nul] s) = _
  rw [mRet_run, and_b (p := isTup 0 5 d) (q := tupAll (isFact n) d) (by simp [e1]) fun ht => ?_]
  · rfl
  · obtain ⟨xs, rfl, _, hx⟩ := isTup_len ht
    exact all_run (isFact n) (by simp [fItems]) (by omega) fun x hx => ⟨_, rfl, by
      obtain ⟨_, _, g⟩ := h.kid hx
      have := fact_ok (dd := dd) (n := n) (s := s) g hd hn
      simp [this]⟩
/-! ### amounts -/
def isAmt (most : Int) (d : D) : Bool := match d with
  | .tup [a, b] => isNum 0 most a && (isNum 1 most b && (match a, b with | .int a, .int b => decide (part [a, b] = 1) | _, _ => false))
  | _ => false
theorem isNum_int {lo hi : Int} {d : D} (h : isNum lo hi d = true) : ∃ i, d = .int i ∧ lo ≤ i ∧ i ≤ hi := by
  cases d with
  | int i => simp [isNum] at h; exact ⟨i, rfl, h⟩
  | _ => simp [isNum] at h
theorem amt_ok {d : D} {L m : Nat} {s : Store} (h : Gd L m d) : m_is_amount [d, .int 1000000000000] s = .ok (.bl (isAmt 1000000000000 d)) s := by
  have e1 := tup_ok (lo := 2) (hi := 2) (s := s) h.ty
  unfold m_is_amount b_is_amount
  rw [mFn_run]
  show endD (mSeq _ _ [.dat d, .dat (.int 1000000000000)] s) = _
  have c1 : (mNotT (mTest (mCall 3 m_is_tuple (mCons (mVar 0) (mCons (mCon (.int 2)) (mCons (mCon (.int 2)) mNil)))))) [.dat d, .dat (.int 1000000000000)] s = .ok (!isTup 2 2 d) s := notT_b (test_b (by simp [e1]))
  rw [mSeq_run, mIf_run]
  cases ht : isTup 2 2 d with
  | false =>
    rw [ht] at c1
    rw [orT_b (p := true) (q := true) c1 (fun h => nomatch h)]
    have : isAmt 1000000000000 d = false := by
      unfold isAmt
      split
      · simp [isTup] at ht
      · rfl
    simp [this]
  | true =>
    rw [ht] at c1
    obtain ⟨xs, rfl, h1, h2⟩ := isTup_len ht
    obtain ⟨a, b, rfl⟩ : ∃ a b, xs = [a, b] := by
      match xs, h1, h2 with
      | [a, b], _, _ => exact ⟨a, b, rfl⟩
      | [], h1, _ => simp at h1
      | [_], h1, _ => simp at h1
      | _ :: _ :: _ :: _, _, h2 => simp at h2; omega
    obtain ⟨_, _, ga⟩ := h.kid (x := a) (by simp)
    obtain ⟨_, _, gb⟩ := h.kid (x := b) (by simp)
    have i0 : fIx (.tup [a, b]) (.int 0) = some a := rfl
    have i1 : fIx (.tup [a, b]) (.int 1) = some b := rfl
    have l1 := num_ok (lo := 0) (hi := 1000000000000) (s := s) ga.ty
    have l2 := num_ok (lo := 1) (hi := 1000000000000) (s := s) gb.ty
    rw [orT_b (p := false) (q := !(isNum 0 1000000000000 a && isNum 1 1000000000000 b)) c1 (fun _ => by
      rw [Bool.not_and]
      exact orT_b (notT_b (test_b (by simp [Store.deref, i0, l1]))) fun _ => notT_b (test_b (by simp [Store.deref, i1, l2])))]
    cases ha : isNum 0 1000000000000 a with
    | false => simp [isAmt, ha]
    | true =>
      cases hb : isNum 1 1000000000000 b with
      | false => simp [isAmt, ha, hb]
      | true =>
        obtain ⟨i, rfl, k0, k1⟩ := isNum_int ha
        obtain ⟨j, rfl, j0, j1⟩ := isNum_int hb
        have lg : ∀ z : Int, 0 ≤ z → z ≤ 1000000000000 → z.natAbs.log2 < 900000 := fun z h0 h1 => log_lt (by omega) (Nat.lt_of_lt_of_le (show z.natAbs < 2 ^ 40 by omega) (Nat.pow_le_pow_right (by omega) (by omega)))
        have dv : m_divisor [.tup [.int i, .int j]] s = .ok (.int (part [i, j])) s := divisor_ok rfl fun x hx => by
          simp at hx
          rcases hx with rfl | rfl
          · exact lg _ k0 k1
          · exact lg _ (by omega) j1
        have fe : fEq (.int (part [i, j])) (.int 1) = some (.bl (decide (part [i, j] = 1))) := by
          rw [fEq_ii]
          congr 2
          rw [Bool.eq_iff_iff]
          simp; omega
        simp [dv, isAmt, ha, hb, fe]
def isAmts (n : Nat) (d : D) : Bool := isTup n n d && tupAll (isAmt 1000000000000) d
theorem amts_ok {d dd : D} {n L m : Nat} {s : Store} (h : Gd L m d) (hd : fLen [dd] = some (.int n)) (hn : n ≤ 1000) : m_are_good_amounts [dd, d] s = .ok (.bl (isAmts n d)) s := by
  have e1 := tup_ok (lo := n) (hi := n) (s := s) h.ty
  unfold m_are_good_amounts b_are_good_amounts
  rw [mFn_run]
  show endD (mSeq _ _ [.dat dd, .dat d, .nul, .nul] s) = _
  have e0 : mAsg 2 (mSd (mBlt fLen (mCons (mPeek 0) mNil))) [.dat dd, .dat d, .nul, .nul] s = .ok (.nx [.dat dd, .dat d, .dat (.int n), .nul]) s := by simp [hd]
  rw [mSeq_run, e0]
  show endD (mRet _ [.dat dd, .dat d, .dat (.int n), .nul] s) = _
  rw [mRet_run, and_b (p := isTup n n d) (q := tupAll (isAmt 1000000000000) d) (by simp [e1]) fun ht => ?_]
  · rfl
  · obtain ⟨xs, rfl, _, hx⟩ := isTup_len ht
    exact all_run (isAmt 1000000000000) (by simp [fItems]) (by omega) fun x hx => ⟨_, rfl, by
      obtain ⟨_, _, g⟩ := h.kid hx
      have := amt_ok (s := s) g
      simp [d_LARGEST, this]⟩
end PD
set_option maxRecDepth 100000
set_option maxHeartbeats 4000000
set_option exponentiation.threshold 20
namespace PD
open PySem PySem.Spec PyProof.Rows L2

/-! ## the law's own: part, unit, clear, out -/
theorem part_max {xs : List Int} : (if (gcdL xs : Int) > 1 then (gcdL xs : Int) else 1) = (part xs : Int) := by
  unfold part
  by_cases h : gcdL xs > 0
  · rw [if_pos h]
    by_cases h1 : (gcdL xs : Int) > 1
    · rw [if_pos h1]
    · rw [if_neg h1]; omega
  · rw [if_neg h, if_neg (by omega)]; rfl
theorem lpart_ok {d : D} {xs : List Int} {s : Store} (hd : fItems d = some (xs.map .int)) (hs : ∀ x ∈ xs, x.natAbs.log2 < 900000) : m__law_part [d] s = .ok (.int (part xs)) s := by
  unfold m__law_part
  rw [mFn_run]
  obtain ⟨y2, y3, y4, e⟩ := div_loop (x0 := .dat d) (s := s) xs 0 .nul .nul .nul hs
  have e : forGo (.nm 2) divB (xs.map .int) [.dat d, .dat (.int 0), .nul, .nul, .nul] s = .ok (.nx [.dat d, .dat (.int (gcdL xs : Nat)), y2, y3, y4]) s := e
  show endD (b__law_part [.dat d, .nul, .nul, .nul, .nul] s) = _
  unfold b__law_part
  simp only [mSeq_run, mAsg_run, mSd_run, mCon_run, R.bind_ok, List.set_cons_succ, List.set_cons_zero, mFor_run, mItems_run, mVar_run, List.getElem?_cons_succ, List.getElem?_cons_zero, hd, R.opt_some]
  rw [e]
  simp only [R.bind_ok, mRet_run, mBlt_run, mCons_run, mCon_run, mPeek_run, mNil_run, List.getElem?_cons_succ, List.getElem?_cons_zero, fMax_ii, R.opt_some, part_max, endD_rt]
theorem lunit_ok {many k : Nat} {s : Store} (hm : many ≤ 1000) : m__law_unit [.int many, .int k] s = .ok (eL (unitL many k)) s := by
  have r1 := fRng1_nat (n := many) (by omega)
  have u := unit_run (Γ := [.dat (.int many), .dat (.int k), .nul]) (s := s) (ai := 2) (ki := 1) (many := many) (k := k) rfl (by simp) (by decide)
  simp only [List.set_cons_succ, List.set_cons_zero] at u
  have q : ((List.range many).map fun (j : Nat) => D.int (j : Int)).length ≤ 100000 := by rw [List.length_map, List.length_range]; omega
  unfold m__law_unit
  rw [mFn_run]
  show endD (b__law_unit [.dat (.int many), .dat (.int k), .nul] s) = _
  unfold b__law_unit
  simp only [mRet_run, mFrz_run, mLcL_run, mRng_run, mCons_run, mVar_run, mNil_run, List.getElem?_cons_succ, List.getElem?_cons_zero, R.bind_ok, r1, R.opt_some, wipeE, List.set_cons_succ, List.set_cons_zero]
  rw [if_pos q, u]
  rfl
/-- the loops of _law_clear are those of divisor, two slots further -/
abbrev lgC : Env → M Bool := mTest (mOp fGt (mPeek 6) (mCon (.int 0)))
abbrev lgB : MS := mPar [5, 6] (mRcons (mSd (mVar 6)) (mRcons (mSd (mOp fMod (mPeek 5) (mPeek 6))) mRnil))
theorem lg_step {x0 x1 x2 x3 x4 x7 : SV} {a b : Nat} {s : Store} (hb : 0 < b) : lgB [x0, x1, x2, x3, x4, .dat (.int a), .dat (.int b), x7] s = .ok (.nx [x0, x1, x2, x3, x4, .dat (.int b), .dat (.int ((a % b : Nat) : Int)), x7]) s := by
  have e : fMod (.int (a : Int)) (.int (b : Int)) = some (.int ((a % b : Nat) : Int)) := by
    rw [fMod_ii (by omega)]; rfl
  simp [lgB, e]
theorem lg_test {x0 x1 x2 x3 x4 x5 x7 : SV} {b : Nat} {s : Store} : lgC [x0, x1, x2, x3, x4, x5, .dat (.int b), x7] s = .ok (decide (0 < b)) s := by
  simp [lgC]
theorem lg_loop {x0 x1 x2 x3 x4 x7 : SV} {s : Store} : ∀ (n m : Nat) (a b : Nat), b < 2 ^ n → 2 * n + 1 ≤ m → mWhile lgC lgB m [x0, x1, x2, x3, x4, .dat (.int a), .dat (.int b), x7] s = .ok (.nx [x0, x1, x2, x3, x4, .dat (.int (Nat.gcd a b)), .dat (.int 0), x7]) s
  | 0, m + 1, a, b, h, hm => by
    have : b = 0 := by simpa using h
    subst this
    rw [run_while_end (lg_test (b := 0))]
    simp
  | n + 1, m + 1, a, b, h, hm => by
    by_cases hb : b = 0
    · subst hb
      rw [run_while_end (lg_test (b := 0))]
      simp
    · rw [run_while_ok (s1 := s) (by rw [lg_test]; simp; omega) (lg_step (by omega))]
      cases m with
      | zero => omega
      | succ m =>
        by_cases hr : a % b = 0
        · rw [hr, run_while_end (lg_test (b := 0))]
          rw [Nat.gcd_comm a b, Nat.gcd_rec b a, hr, Nat.gcd_zero_left]
          rfl
        · rw [run_while_ok (s1 := s) (by rw [lg_test]; simp; omega) (lg_step (by omega))]
          have h1 : a % b < b := Nat.mod_lt _ (by omega)
          have h2 : b % (a % b) < a % b := Nat.mod_lt _ (by omega)
          have h3 : b % (a % b) ≤ b - a % b := by
            rw [Nat.mod_eq_sub_mod (Nat.le_of_lt h1)]
            exact Nat.mod_le _ _
          rw [lg_loop n m (a % b) (b % (a % b)) (by rw [Nat.pow_succ] at h; omega) (by omega)]
          have e : Nat.gcd (a % b) (b % (a % b)) = Nat.gcd a b := by
            rw [Nat.gcd_comm a b, Nat.gcd_rec b a, Nat.gcd_rec (a % b) b, Nat.gcd_comm]
          rw [e]
abbrev lgD : MS := mSeq (mPar [5, 6] (mRcons (mSd (mVar 4)) (mRcons (mSd (mBlt fAbs (mCons (mPeek 7) mNil))) mRnil))) (mSeq (mWhile lgC lgB wfuel) (mAsg 4 (mSd (mVar 5))))
theorem lg_all {x0 x1 x2 x3 : SV} {s : Store} : ∀ (xs : List Int) (g : Nat) (x5 x6 x7 : SV), (∀ x ∈ xs, x.natAbs.log2 < 900000) → ∃ y5 y6 y7, forGo (.nm 7) lgD (xs.map .int) [x0, x1, x2, x3, .dat (.int g), x5, x6, x7] s = .ok (.nx [x0, x1, x2, x3, .dat (.int ((xs.foldl (fun g x => Nat.gcd g x.natAbs) g : Nat) : Int)), y5, y6, y7]) s
  | [], g, x5, x6, x7, _ => ⟨x5, x6, x7, rfl⟩
  | x :: xs, g, x5, x6, x7, h => by
    obtain ⟨y2, y3, y4, ih⟩ := lg_all (x0 := x0) (x1 := x1) (x2 := x2) (x3 := x3) (s := s) xs (Nat.gcd g x.natAbs) (.dat (.int (Nat.gcd g x.natAbs))) (.dat (.int 0)) (.dat (.int x)) fun z hz => h z (List.mem_cons_of_mem _ hz)
    refine ⟨y2, y3, y4, ?_⟩
    have st : lgD [x0, x1, x2, x3, .dat (.int g), x5, x6, .dat (.int x)] s = .ok (.nx [x0, x1, x2, x3, .dat (.int (Nat.gcd g x.natAbs)), .dat (.int (Nat.gcd g x.natAbs)), .dat (.int 0), .dat (.int x)]) s := by
      have e := lg_loop (x0 := x0) (x1 := x1) (x2 := x2) (x3 := x3) (x4 := .dat (.int g)) (x7 := .dat (.int x)) (s := s) 900000 wfuel g x.natAbs (lt_of_log (h x List.mem_cons_self)) wfuel_big
      simp only [lgD, mSeq_run, mPar_run, mRcons_run, mSd_run, mVar_run, mBlt_run, mCons_run, mPeek_run, mNil_run, mRnil_run, mAsg_run]
      simp [e]
    rw [List.map_cons]
    show (match bindT (.nm 7) (.int x) [x0, x1, x2, x3, .dat (.int g), x5, x6, x7] with
      | none => R.bad
      | some Γ1 => (lgD Γ1 s).bind _) = _
    simp only [bindT, List.set_cons_succ, List.set_cons_zero]
    rw [st]
    exact ih
theorem lclear_ok {line pivot : List Int} {k : Nat} {s : Store} (h1 : SmL line) (h2 : SmL pivot) (hl : line.length = pivot.length) (hk : k < line.length) (hz : line.length ≤ 1000) : m__law_clear [eL line, eL pivot, .int k] s = .ok (eL (neatL (comb line pivot k))) s := by
  have e0 := fIx_nat hk
  have e1 := fIx_nat (xs := pivot) (hl ▸ hk)
  have e2 : lcGo (.tp [.nm 5, .nm 6]) mYes (mOp fSub (mOp fMul (mIx (mPeek 1) (mVar 2)) (mPeek 5)) (mOp fMul (mIx (mPeek 0) (mVar 2)) (mPeek 6))) [.dat (eL line), .dat (eL pivot), .dat (.int k), .nul, .nul, .nul, .nul, .nul] ((line.zip pivot).map fun p => D.tup [.int p.1, .int p.2]) s = .ok (((line.zip pivot).map fun p => D.tup [.int p.1, .int p.2]).map fun d => match d with
      | D.tup [D.int x, D.int y] => D.int (x * nth pivot k - y * nth line k)
      | d => d) s := run_lc _ _ fun d hd => by
    obtain ⟨p, hp, rfl⟩ := List.mem_map.mp hd
    obtain ⟨x, y⟩ := p
    obtain ⟨hx, hy⟩ := List.of_mem_zip hp
    refine ⟨_, rfl, ?_⟩
    simp [e0, e1, fMul_sm (h2.get k) (h1 x hx), fMul_sm (h1.get k) (h2 y hy)]
    rw [Int.mul_comm x, Int.mul_comm y]
  have e4 : D.lst (((line.zip pivot).map fun p => D.tup [.int p.1, .int p.2]).map fun d => match d with
      | D.tup [D.int x, D.int y] => D.int (x * nth pivot k - y * nth line k)
      | d => d) = eL (comb line pivot k) := by simp [eL, comb, Function.comp_def]
  have cs := comb_sm (k := k) h1 h2
  obtain ⟨y5, y6, y7, e5⟩ := lg_all (x0 := .dat (eL line)) (x1 := .dat (eL pivot)) (x2 := .dat (.int k)) (x3 := .dat (eL (comb line pivot k))) (s := s) (comb line pivot k) 0 .nul .nul .nul fun x hx => Nat.lt_trans (cs x hx) (by decide)
  have e5 : forGo (.nm 7) lgD ((comb line pivot k).map .int) [.dat (eL line), .dat (eL pivot), .dat (.int k), .dat (eL (comb line pivot k)), .dat (.int 0), .nul, .nul, .nul] s = .ok (.nx [.dat (eL line), .dat (eL pivot), .dat (.int k), .dat (eL (comb line pivot k)), .dat (.int (gcdL (comb line pivot k) : Nat)), y5, y6, y7]) s := e5
  have pl : (part (comb line pivot k)).log2 < 9000 := Nat.lt_trans (part_log (by decide) cs) (by decide)
  have pp := part_pos (xs := comb line pivot k)
  have e6 : lcGo (.nm 7) mYes (mOp fDiv (mPeek 7) (mBlt fMax (mCons (mCon (.int 1)) (mCons (mPeek 4) mNil)))) [.dat (eL line), .dat (eL pivot), .dat (.int k), .dat (eL (comb line pivot k)), .dat (.int (gcdL (comb line pivot k) : Nat)), y5, y6, .nul] ((comb line pivot k).map .int) s = .ok (((comb line pivot k).map D.int).map fun d => match d with
      | .int x => .int (x / (part (comb line pivot k) : Int))
      | d => d) s := run_lc _ _ fun d hd => by
    obtain ⟨x, hx, rfl⟩ := List.mem_map.mp hd
    refine ⟨_, rfl, ?_⟩
    have dv := fDiv_ii (i := x) (j := (part (comb line pivot k) : Int)) (by omega) (by simpa using pl)
    simp only [mOp_run, mPeek_run, mBlt_run, mCons_run, mCon_run, mNil_run, List.set_cons_succ, List.set_cons_zero, List.getElem?_cons_succ, List.getElem?_cons_zero, R.bind_ok, fMax_ii, R.opt_some, part_max, dv]
  have zl : (comb line pivot k).length ≤ 1000 := by unfold comb; simp; omega
  have q1 : ((line.zip pivot).map fun p => D.tup [.int p.1, .int p.2]).length ≤ 100000 := by simp; omega
  have q2 : ((comb line pivot k).map D.int).length ≤ 100000 := by rw [List.length_map]; omega
  have fi : fItems (eL (comb line pivot k)) = some ((comb line pivot k).map D.int) := rfl
  unfold m__law_clear
  rw [mFn_run]
  show endD (b__law_clear [.dat (eL line), .dat (eL pivot), .dat (.int k), .nul, .nul, .nul, .nul, .nul] s) = _
  unfold b__law_clear
  simp only [mSeq_run, mPar_run, mRcons_run, mSd_run, mFrz_run, mLcL_run, mRng_run, mCons_run, mVar_run, mNil_run, mRnil_run, mCon_run, List.getElem?_cons_succ, List.getElem?_cons_zero, R.bind_ok, fZip_eL, R.opt_some, wipeE, List.set_cons_succ, List.set_cons_zero]
  rw [if_pos q1, e2]
  simp only [R.bind_ok]
  rw [e4]
  simp only [List.length_cons, List.length_nil, Nat.zero_add, if_true, setAllE, List.set_cons_succ, List.set_cons_zero, mFor_run, mItems_run, mVar_run, List.getElem?_cons_succ, List.getElem?_cons_zero, R.bind_ok, fi, R.opt_some]
  rw [e5]
  simp only [R.bind_ok, mRet_run, mFrz_run, mLcL_run, mItems_run, mVar_run, List.getElem?_cons_succ, List.getElem?_cons_zero, fi, R.opt_some, wipeE, List.set_cons_succ, List.set_cons_zero]
  rw [if_pos q2, e6]
  simp [neatL, eL, Function.comp_def]
end PD
set_option maxRecDepth 100000
set_option maxHeartbeats 4000000
set_option exponentiation.threshold 20
namespace PD
open PySem PySem.Spec PyProof.Rows L2
/-! ## the law's reading of values -/
theorem lint_ok {d : D} {lo hi : Int} {s : Store} (h : Ty d) : m__law_is_int [d, .int lo, .int hi] s = .ok (.bl (isNum lo hi d)) s := by
  have c : ∀ i : Int, d = .int i → mChain fLe fLe (mPeek 1) (mPeek 0) (mPeek 2) [.dat d, .dat (.int lo), .dat (.int hi)] s = .ok (.bl (decide (lo ≤ i) && decide (i ≤ hi))) s := fun i e => le_chain (by simp) (by simp [e]) (by simp)
  cases d with
  | int i => simp [m__law_is_int, b__law_is_int, mFn_run, startE, mAndV, mNotV, c i rfl, isNum]
  | cel _ => exact h.elim
  | scr _ => exact h.elim
  | dki _ _ => exact h.elim
  | _ => simp [m__law_is_int, b__law_is_int, mFn_run, startE, mAndV, mNotV, isNum]
mutual
theorem Gd.fine {L : Nat} : ∀ {n k : Nat} {d : D}, Gd L n d → n ≤ k → D.fine k d = true
  | _, _, .non, _, _ => by simp [D.fine]
  | _, _, .bl _, _, _ => by simp [D.fine]
  | _, _, .int _, _, _ => by simp [D.fine]
  | 0, _, .str _, h, _ => by simp only [D.fine]; exact h
  | _ + 1, _, .str _, h, _ => by simp only [D.fine]; exact h
  | n + 1, k, .tup xs, h, hk => by
    rw [D.fine, Gd.fineL (n := n) (k := k - 1) h.2 (by omega)]
    simp; omega
  | n + 1, k, .lst xs, h, hk => by
    rw [D.fine, Gd.fineL (n := n) (k := k - 1) h.2 (by omega)]
    simp; omega
  | 0, _, .tup _, h, _ => h.elim
  | 0, _, .lst _, h, _ => h.elim
  | 0, _, .cel _, h, _ => h.elim
  | 0, _, .scr _, h, _ => h.elim
  | 0, _, .dki _ _, h, _ => h.elim
  | _ + 1, _, .cel _, h, _ => h.elim
  | _ + 1, _, .scr _, h, _ => h.elim
  | _ + 1, _, .dki _ _, h, _ => h.elim
theorem Gd.fineL {L : Nat} : ∀ {n k : Nat} {xs : List D}, (∀ x ∈ xs, Gd L n x) → n ≤ k → D.fineL k xs = true
  | _, _, [], _, _ => by simp [D.fineL]
  | n, k, x :: xs, h, hk => by
    rw [D.fineL, Gd.fine (h x List.mem_cons_self) hk, Gd.fineL (fun y hy => h y (List.mem_cons_of_mem _ hy)) hk]; rfl
end
theorem fEq_emp {xs : List D} (h : D.fineL 59 xs = true) : fEq (.lst xs) (.lst []) = some (.bl xs.isEmpty) := by
  unfold fEq
  rw [if_pos (by simp [D.fine, h, D.fineL])]
  cases xs <;> rfl
theorem filt_empty {xs : List D} {f : D → Bool} : (xs.filter fun d => !f d).isEmpty = xs.all f := by
  rw [Bool.eq_iff_iff, List.isEmpty_iff, List.filter_eq_nil_iff, List.all_eq_true]
  constructor
  · intro h x hx; simpa using h x hx
  · intro h x hx; simpa using h x hx
theorem lints_ok {d : D} {few many lo hi : Int} {L n : Nat} {s : Store} (h : Gd L n d) (hn : n ≤ 50) (hL : L ≤ 100000) : m__law_are_ints [d, .int few, .int many, .int lo, .int hi] s = .ok (.bl (isTup few many d && tupAll (isNum lo hi) d)) s := by
  unfold m__law_are_ints b__law_are_ints
  rw [mFn_run]
  show endD (mSeq _ _ [.dat d, .dat (.int few), .dat (.int many), .dat (.int lo), .dat (.int hi), .nul] s) = _
  rw [mSeq_run, mIf_run]
  cases d with
  | tup xs =>
    have c : mChain fLe fLe (mPeek 1) (mBlt fLen (mCons (mPeek 0) mNil)) (mPeek 2) [.dat (.tup xs), .dat (.int few), .dat (.int many), .dat (.int lo), .dat (.int hi), .nul] s = .ok (.bl (isTup few many (.tup xs))) s := le_chain (by simp) (by simp [fLen]) (by simp)
    rw [orT_b (p := false) (q := !isTup few many (.tup xs)) (by simp) fun _ => notT_b (test_b c)]
    cases ht : isTup few many (.tup xs) with
    | false => simp
    | true =>
      obtain ⟨hx, m, rfl, g⟩ := h.tup
      have run := run_lcf (tg := .nm 5) (mc := mNotT (mTest (mCall 3 m__law_is_int (mCons (mVar 5) (mCons (mVar 3) (mCons (mVar 4) mNil)))))) (me := mVar 5) (Γ := [.dat (.tup xs), .dat (.int few), .dat (.int many), .dat (.int lo), .dat (.int hi), .nul]) (s := s) (fun d => !isNum lo hi d) id xs fun d hd => ⟨_, rfl, by
        have := lint_ok (lo := lo) (hi := hi) (s := s) (g d hd).ty
        exact notT_b (test_b (by simp [this])), fun _ => by simp⟩
      have fe := fEq_emp (xs := xs.filter fun d => !isNum lo hi d) (Gd.fineL (L := L) (n := m) (fun x hx => g x (List.mem_filter.mp hx).1) (by omega))
      rw [filt_empty] at fe
      rw [List.map_id] at run
      have w : (mRet (mOp fEq (mFrz (mLcL (mItems (mVar 0)) (.nm 5) (mNotT (mTest (mCall 3 m__law_is_int (mCons (mVar 5) (mCons (mVar 3) (mCons (mVar 4) mNil)))))) (mVar 5) [5])) (mLst mNil))) [.dat (.tup xs), .dat (.int few), .dat (.int many), .dat (.int lo), .dat (.int hi), .nul] s = .ok (.rt (.bl (xs.all (isNum lo hi)))) s := by
        simp only [mRet_run, mOp_run, mFrz_run, mLcL_run, mItems_run, mVar_run, List.getElem?_cons_zero, fItems, R.opt_some, R.bind_ok, wipeE_cons, wipeE_nil, List.set_cons_succ, List.set_cons_zero]
        rw [if_pos (by omega), run]
        simp [fe]
      simp only [Bool.not_true, Bool.or_false, R.bind_ok, mNext_run, w, endD_rt, tupAll, Bool.true_and]
  | cel _ => exact h.ty.elim
  | scr _ => exact h.ty.elim
  | dki _ _ => exact h.ty.elim
  | _ =>
    rw [orT_b (p := true) (q := true) (by simp) fun h => nomatch h]
    simp [isTup]
/-! ### loops that look for a bad one -/
theorem for_all {I : Env → Prop} {t : Tg} {b : MS} {s : Store} (f : D → Bool) : ∀ (ds : List D) (Γ : Env), I Γ → (∀ d ∈ ds, ∀ Γ, I Γ → ∃ Γ1, bindT t d Γ = some Γ1 ∧ (f d = true → ∃ Γ', b Γ1 s = .ok (.nx Γ') s ∧ I Γ') ∧ (f d = false → b Γ1 s = .ok (.rt (.bl false)) s)) →
    ∃ Γ', I Γ' ∧ forGo t b ds Γ s = .ok (if ds.all f = true then .nx Γ' else .rt (.bl false)) s
  | [], Γ, h, _ => ⟨Γ, h, rfl⟩
  | d :: ds, Γ, h, hb => by
    obtain ⟨Γ1, e1, ht, hf⟩ := hb d List.mem_cons_self Γ h
    cases hd : f d with
    | true =>
      obtain ⟨Γ', e2, hI⟩ := ht hd
      obtain ⟨Γ2, hI2, e3⟩ := for_all f ds Γ' hI fun d hd => hb d (List.mem_cons_of_mem _ hd)
      refine ⟨Γ2, hI2, ?_⟩
      unfold forGo
      rw [e1]
      show (b Γ1 s).bind _ = _
      rw [e2]
      show forGo t b ds Γ' s = _
      rw [e3, List.all_cons, hd, Bool.true_and]
    | false =>
      refine ⟨Γ, h, ?_⟩
      unfold forGo
      rw [e1]
      show (b Γ1 s).bind _ = _
      rw [hf hd, List.all_cons, hd, Bool.false_and]
      rfl
theorem fNe_iz (i j : Int) : fNe (.int i) (.int j) = some (.bl (!D.eqv (.int i) (.int j))) := rfl
theorem all_and {α : Type} (f g : α → Bool) : ∀ xs : List α, (xs.all fun x => f x && g x) = (xs.all f && xs.all g)
  | [] => rfl
  | x :: xs => by
    simp only [List.all_cons, all_and f g xs]
    cases f x <;> cases g x <;> simp
def rowP (n : Nat) (p : D) : Bool := match p with
  | .tup [_, r] => isRow n r
  | _ => false
theorem rowP_all {n : Nat} : ∀ (ds : List D) (k : Nat), (enumD k ds).all (rowP n) = ds.all (isRow n)
  | [], _ => rfl
  | d :: ds, k => by
    show (isRow n d && (enumD (k + 1) ds).all (rowP n)) = _
    rw [rowP_all ds (k + 1)]; rfl
theorem ldebts_ok {d : D} {L n : Nat} {s : Store} (h : Gd L n d) (hn : n ≤ 50) (hL : L ≤ 100000) : m__law_are_debts [d] s = .ok (.bl (isDebts d)) s := by
  unfold m__law_are_debts b__law_are_debts
  rw [mFn_run]
  show endD (mSeq _ _ [.dat d, .nul, .nul] s) = _
  rw [mSeq_run, mIf_run]
  cases d with
  | tup xs =>
    have c : mChain fLe fLe (mCon (.int 2)) (mBlt fLen (mCons (mPeek 0) mNil)) (mCon (.int 4)) [.dat (.tup xs), .nul, .nul] s = .ok (.bl (isTup 2 4 (.tup xs))) s := le_chain (by simp) (by simp [fLen]) (by simp)
    rw [orT_b (p := false) (q := !isTup 2 4 (.tup xs)) (by simp) fun _ => notT_b (test_b c)]
    cases ht : isTup 2 4 (.tup xs) with
    | false => simp [isDebts, ht]
    | true =>
      have hx4 : xs.length ≤ 4 := by simp [isTup] at ht; omega
      obtain ⟨hx, m, rfl, g⟩ := h.tup
      have el : fLen [.tup xs] = some (.int xs.length) := rfl
      obtain ⟨Γ', ⟨y1, y2, rfl⟩, fr⟩ := for_all (I := fun Γ => ∃ x1 x2, Γ = [.dat (.tup xs), x1, x2]) (t := .tp [.nm 1, .nm 2]) (b := mIf (mOrT (mNotT (mTest (mCall 5 m__law_are_ints (mCons (mVar 2) (mCons (mBlt fLen (mCons (mPeek 0) mNil)) (mCons (mBlt fLen (mCons (mPeek 0) mNil)) (mCons (mCon (.int 0)) (mCons (mCon (.int 12)) mNil)))))))) (mTest (mOp fNe (mIx (mPeek 2) (mVar 1)) (mCon (.int 0))))) (mRet (mCon (.bl false))) mNext) (s := s)
        (fun p => rowP xs.length p && diagB p) (enumD 0 xs) [.dat (.tup xs), .nul, .nul] ⟨_, _, rfl⟩ fun p hp Γ hI => by
          obtain ⟨x1, x2, rfl⟩ := hI
          obtain ⟨j, r, _, h2, h3, rfl⟩ := enum_mem hp
          have li := lints_ok (few := xs.length) (many := xs.length) (lo := 0) (hi := 12) (s := s) (g r h3) (by omega) hL
          refine ⟨[.dat (.tup xs), .dat (.int j), .dat r], rfl, ?_⟩
          have c0 : (mNotT (mTest (mCall 5 m__law_are_ints (mCons (mVar 2) (mCons (mBlt fLen (mCons (mPeek 0) mNil)) (mCons (mBlt fLen (mCons (mPeek 0) mNil)) (mCons (mCon (.int 0)) (mCons (mCon (.int 12)) mNil)))))))) [.dat (.tup xs), .dat (.int j), .dat r] s = .ok (!isRow xs.length r) s := notT_b (test_b (by simp [el, li]; rfl))
          have fe : ∀ hr : isRow xs.length r = true, (mTest (mOp fNe (mIx (mPeek 2) (mVar 1)) (mCon (.int 0)))) [.dat (.tup xs), .dat (.int j), .dat r] s = .ok (!diagB (.tup [.int j, r])) s := fun hr => by
            obtain ⟨ys, rfl, hl, hy⟩ := row_tup hr
            have hj : j < ys.length := by omega
            have hi : fIx (.tup ys) (.int (j : Int)) = some ys[j] := by
              show atI ys (j : Int) = _
              exact atI_nat hj
            obtain ⟨i, e, _⟩ := hy _ (List.getElem_mem hj)
            refine test_b ?_
            simp [hi, diagB, hj, Store.deref, e, D.eqv]
          have cc : (mOrT (mNotT (mTest (mCall 5 m__law_are_ints (mCons (mVar 2) (mCons (mBlt fLen (mCons (mPeek 0) mNil)) (mCons (mBlt fLen (mCons (mPeek 0) mNil)) (mCons (mCon (.int 0)) (mCons (mCon (.int 12)) mNil)))))))) (mTest (mOp fNe (mIx (mPeek 2) (mVar 1)) (mCon (.int 0))))) [.dat (.tup xs), .dat (.int j), .dat r] s = .ok (!(rowP xs.length (.tup [.int j, r]) && diagB (.tup [.int j, r]))) s := by
            rw [Bool.not_and]
            exact orT_b c0 fun hz => fe (by simpa [rowP] using hz)
          refine ⟨fun hr => ⟨[.dat (.tup xs), .dat (.int j), .dat r], ?_, .dat (.int j), .dat r, rfl⟩, fun hr => ?_⟩
          · rw [mIf_run, cc, hr]; rfl
          · rw [mIf_run, cc, hr]; rfl
      rw [all_and, rowP_all] at fr
      have el2 : fEnum [.tup xs] = some (enumD 0 xs) := rfl
      have fin : (xs.all (isRow xs.length) && (enumD 0 xs).all diagB) = (xs.all (isRow xs.length) && isDiag 0 xs) := by
        cases ha : xs.all (isRow xs.length) with
        | false => rfl
        | true => rw [diag_all xs 0 fun d hd => by obtain ⟨ys, e, _⟩ := row_tup (List.all_eq_true.mp ha d hd); exact ⟨ys, e⟩]
      rw [fin] at fr
      have z : isDebts (.tup xs) = (xs.all (isRow xs.length) && isDiag 0 xs) := by simp [isDebts, ht]
      rw [z]
      simp only [Bool.not_true, Bool.or_false, R.bind_ok, mNext_run]
      rw [mSeq_run, mFor_run]
      simp only [mRng_run, mCons_run, mVar_run, List.getElem?_cons_zero, R.bind_ok, mNil_run, el2, R.opt_some, fr]
      cases xs.all (isRow xs.length) && isDiag 0 xs <;> simp
  | cel _ => exact h.ty.elim
  | scr _ => exact h.ty.elim
  | dki _ _ => exact h.ty.elim
  | _ =>
    rw [orT_b (p := true) (q := true) (by simp) fun h => nomatch h]
    simp [isDebts, isTup]
end PD
set_option maxRecDepth 100000
set_option maxHeartbeats 4000000
set_option exponentiation.threshold 20
namespace PD
open PySem PySem.Spec PyProof.Rows L2
theorem ones_fine : ∀ n : Nat, D.fineL 59 (List.replicate n (.int 1)) = true
  | 0 => rfl
  | n + 1 => by
    show (D.fine 59 (.int 1) && D.fineL 59 (List.replicate n (.int 1))) = true
    rw [ones_fine n]; rfl
theorem llot_ok {d : D} {n : Nat} {L m : Nat} {s : Store} (h : Gd L m d) (hm : m ≤ 50) (hL : L ≤ 100000) (hn : n ≤ 1000) : m__law_is_lot [d, .int n] s = .ok (.bl (isLot n d)) s := by
  have li := lints_ok (few := 0) (many := n) (lo := 0) (hi := n - 1) (s := s) h hm hL
  unfold m__law_is_lot b__law_is_lot
  rw [mFn_run]
  show endD (mSeq _ _ [.dat d, .dat (.int n), .nul, .nul] s) = _
  have c1 : (mNotT (mTest (mCall 5 m__law_are_ints (mCons (mVar 0) (mCons (mCon (.int 0)) (mCons (mVar 1) (mCons (mCon (.int 0)) (mCons (mOp fSub (mPeek 1) (mCon (.int 1))) mNil)))))))) [.dat d, .dat (.int n), .nul, .nul] s = .ok (!(isTup 0 n d && tupAll (isNum 0 (n - 1)) d)) s := notT_b (test_b (by simp [li]))
  rw [mSeq_run, mIf_run, c1]
  cases ht : isTup 0 n d && tupAll (isNum 0 (n - 1)) d with
  | false =>
    have z : isLot n d = false := by unfold isLot; rw [ht]; rfl
    rw [z]
    simp
  | true =>
    obtain ⟨h1, h2⟩ := Bool.and_eq_true_iff.mp ht
    obtain ⟨xs, rfl, _, hx⟩ := isTup_len h1
    have hr : ∀ d ∈ xs, isNum 0 (n - 1) d = true := List.all_eq_true.mp h2
    have run := run_lcf (tg := .tp [.nm 2, .nm 3]) (mc := mTest (mOp fGe (mPeek 2) (mPeek 3))) (me := mCon (.int 1)) (Γ := [.dat (.tup xs), .dat (.int n), .nul, .nul]) (s := s) (fun d => !ltP d) (fun _ => .int 1) (zipD xs xs.tail) fun d hd => by
      obtain ⟨a, b, h1, h2, rfl⟩ := zip_mem' hd
      obtain ⟨i, rfl, _⟩ := isNum_int (hr a h1)
      obtain ⟨j, rfl, _⟩ := isNum_int (hr b (List.mem_of_mem_tail h2))
      refine ⟨_, rfl, test_b ?_, fun _ => by simp⟩
      simp [ltP]
      rw [Bool.eq_iff_iff]; simp
    rw [List.map_const'] at run
    have fe := fEq_emp (ones_fine ((zipD xs xs.tail).filter fun d => !ltP d).length)
    have em : (List.replicate ((zipD xs xs.tail).filter fun d => !ltP d).length (D.int 1)).isEmpty = isUp xs := by
      unfold isUp
      rw [← filt_empty]
      cases (zipD xs xs.tail).filter fun d => !ltP d <;> rfl
    rw [em] at fe
    have w : (mRet (mOp fEq (mFrz (mLcL (mRng fZip (mCons (mVar 0) (mCons (mSl (mPeek 0) (mPart (mCon (.int 1))) mNoPart) mNil))) (.tp [(.nm 2), (.nm 3)]) (mTest (mOp fGe (mPeek 2) (mPeek 3))) (mCon (.int 1)) [2, 3])) (mLst mNil))) [.dat (.tup xs), .dat (.int n), .nul, .nul] s = .ok (.rt (.bl (isUp xs))) s := by
      have e1 : mRng fZip (mCons (mVar 0) (mCons (mSl (mPeek 0) (mPart (mCon (.int 1))) mNoPart) mNil)) [.dat (.tup xs), .dat (.int n), .nul, .nul] s = .ok (zipD xs xs.tail) s := by simp [fZip, fItems, fSl, cut_tail]
      have hz : (zipD xs xs.tail).length ≤ 100000 := Nat.le_trans zip_len (by omega)
      simp only [mRet_run, mOp_run, mFrz_run, mLcL_run, e1, R.bind_ok, wipeE_cons, wipeE_nil, List.set_cons_succ, List.set_cons_zero]
      rw [if_pos hz, run]
      simp [fe]
    have z : isLot n (.tup xs) = isUp xs := by unfold isLot; rw [ht]; rfl
    rw [z]
    simp only [Bool.not_true, R.bind_ok, mNext_run, w, endD_rt]
theorem lfact_ok {d : D} {n L m : Nat} {s : Store} (h : Gd L m d) (hm : m ≤ 50) (hL : L ≤ 100000) (hn : n ≤ 1000) : m__law_is_fact [d, .int n] s = .ok (.bl (isFact n d)) s := by
  unfold m__law_is_fact b__law_is_fact
  rw [mFn_run]
  show endD (mSeq _ _ [.dat d, .dat (.int n)] s) = _
  rw [mSeq_run, mIf_run]
  cases d with
  | tup xs =>
    have el : fLen [.tup xs] = some (.int xs.length) := rfl
    by_cases h4 : xs.length = 4
    · obtain ⟨w, a, b, k, rfl⟩ : ∃ w a b k, xs = [w, a, b, k] := by
        match xs, h4 with
        | [w, a, b, k], _ => exact ⟨w, a, b, k, rfl⟩
      obtain ⟨m', e', gw⟩ := h.kid (x := w) (by simp)
      obtain ⟨m1, e1, ga⟩ := h.kid (x := a) (by simp)
      obtain ⟨m2, e2, gb⟩ := h.kid (x := b) (by simp)
      obtain ⟨_, _, gk⟩ := h.kid (x := k) (by simp)
      have i0 : fIx (.tup [w, a, b, k]) (.int 0) = some w := rfl
      have i1 : fIx (.tup [w, a, b, k]) (.int 1) = some a := rfl
      have i2 : fIx (.tup [w, a, b, k]) (.int 2) = some b := rfl
      have i3 : fIx (.tup [w, a, b, k]) (.int 3) = some k := rfl
      have l1 := llot_ok (n := n) (s := s) ga (by omega) hL hn
      have l2 := llot_ok (n := n) (s := s) gb (by omega) hL hn
      have l3 := lint_ok (lo := -60) (hi := 60) (s := s) gk.ty
      have fin : mRet (mAndV (mCall 2 m__law_is_lot (mCons (mIx (mPeek 0) (mCon (.int 1))) (mCons (mVar 1) mNil))) (mCall 2 m__law_is_lot (mCons (mIx (mPeek 0) (mCon (.int 2))) (mCons (mVar 1) mNil)))) [.dat (.tup [w, a, b, k]), .dat (.int n)] s = .ok (.rt (.bl (isLot n a && isLot n b))) s := by
        rw [mRet_run, and_b (p := isLot n a) (q := isLot n b) (by simp [Store.deref, i1, l1]) fun _ => by simp [Store.deref, i2, l2]]
        rfl
      cases w with
      | str w =>
        have hw : strFine w = true := by cases m' <;> exact gw
        have hwi : fNotIn (.str w) (.tup [.str "atleast", .str "more", .str "same"]) = some (.bl (!wordB w)) := word_in hw
        rw [orT_b (p := false) (q := false) (by simp) fun _ => orT_b (p := false) (q := false) (by simp [el]) fun _ => by simp [Store.deref, i0]]
        simp only [Bool.or_false, R.bind_ok, mNext_run]
        rw [mSeq_run, mIf_run, orT_b (p := !wordB w) (q := !isNum (-60) 60 k) (test_b (by simp [Store.deref, i0, few, hwi])) fun _ => notT_b (test_b (by simp [Store.deref, i3, l3]))]
        cases hwb : wordB w with
        | false => simp [isFact, hwb]
        | true =>
          cases hk : isNum (-60) 60 k with
          | false => simp [isFact, hk]
          | true =>
            simp only [Bool.not_true, Bool.or_false, R.bind_ok, mNext_run, fin, endD_rt]
            simp [isFact, hwb, hk]
      | cel _ => exact (Gd.ty gw).elim
      | scr _ => exact (Gd.ty gw).elim
      | dki _ _ => exact (Gd.ty gw).elim
      | _ =>
        rw [orT_b (p := false) (q := true) (by simp) fun _ => orT_b (p := false) (q := true) (by simp [el]) fun _ => by simp [Store.deref, i0]]
        simp [isFact]
    · have z : isFact n (.tup xs) = false := by
        unfold isFact
        split
        · rename_i e; cases e; simp at h4
        · rfl
      rw [orT_b (p := false) (q := true) (by simp) fun _ => orT_b (p := true) (q := true) (test_b (by
        simp only [mOp_run, mBlt_run, mCons_run, mPeek_run, List.getElem?_cons_zero, R.bind_ok, mNil_run, el, R.opt_some, mCon_run, fNe_ii]
        rw [show (((xs.length : Int) == 4)) = false by simp; omega]; rfl)) (fun h => nomatch h)]
      simp [z]
  | cel _ => exact h.ty.elim
  | scr _ => exact h.ty.elim
  | dki _ _ => exact h.ty.elim
  | _ =>
    rw [orT_b (p := true) (q := true) (by simp) fun h => nomatch h]
    simp [isFact]
theorem lfrac_ok {d : D} {L m : Nat} {s : Store} (h : Gd L m d) : m__law_is_fraction [d] s = .ok (.bl (isAmt 1000000000000 d)) s := by
  unfold m__law_is_fraction b__law_is_fraction
  rw [mFn_run]
  show endD (mSeq _ _ [.dat d] s) = _
  rw [mSeq_run, mIf_run]
  have p12 : fPow (.int 10) (.int 12) = some (.int 1000000000000) := by rfl
  cases d with
  | tup xs =>
    have el : fLen [.tup xs] = some (.int xs.length) := rfl
    by_cases h4 : xs.length = 2
    · obtain ⟨a, b, rfl⟩ : ∃ a b, xs = [a, b] := by
        match xs, h4 with
        | [a, b], _ => exact ⟨a, b, rfl⟩
      obtain ⟨_, _, ga⟩ := h.kid (x := a) (by simp)
      obtain ⟨_, _, gb⟩ := h.kid (x := b) (by simp)
      have i0 : fIx (.tup [a, b]) (.int 0) = some a := rfl
      have i1 : fIx (.tup [a, b]) (.int 1) = some b := rfl
      have l1 := lint_ok (lo := 0) (hi := 1000000000000) (s := s) ga.ty
      have l2 := lint_ok (lo := 1) (hi := 1000000000000) (s := s) gb.ty
      rw [orT_b (p := false) (q := false) (by simp) fun _ => by simp [el]]
      simp only [Bool.or_false, R.bind_ok, mNext_run]
      rw [mSeq_run, mIf_run, orT_b (p := !isNum 0 1000000000000 a) (q := !isNum 1 1000000000000 b) (notT_b (test_b (by simp [Store.deref, i0, p12, l1]))) fun _ => notT_b (test_b (by simp [Store.deref, i1, p12, l2]))]
      cases ha : isNum 0 1000000000000 a with
      | false => simp [isAmt, ha]
      | true =>
        cases hb : isNum 1 1000000000000 b with
        | false => simp [isAmt, ha, hb]
        | true =>
          obtain ⟨i, rfl, k0, k1⟩ := isNum_int ha
          obtain ⟨j, rfl, j0, j1⟩ := isNum_int hb
          have lg : ∀ z : Int, 0 ≤ z → z ≤ 1000000000000 → z.natAbs.log2 < 900000 := fun z h0 h1 => log_lt (by omega) (Nat.lt_of_lt_of_le (show z.natAbs < 2 ^ 40 by omega) (Nat.pow_le_pow_right (by omega) (by omega)))
          have dv : m__law_part [.lst [.int i, .int j]] s = .ok (.int (part [i, j])) s := lpart_ok rfl fun x hx => by
            simp at hx
            rcases hx with rfl | rfl
            · exact lg _ k0 k1
            · exact lg _ (by omega) j1
          have fe : fEq (.int (part [i, j])) (.int 1) = some (.bl (decide (part [i, j] = 1))) := by
            rw [fEq_ii]
            congr 2
            rw [Bool.eq_iff_iff]
            simp; omega
          simp [Store.deref, i0, i1, few, dv, isAmt, ha, hb, fe]
    · have z : isAmt 1000000000000 (.tup xs) = false := by
        unfold isAmt
        split
        · rename_i e; cases e; simp at h4
        · rfl
      rw [orT_b (p := false) (q := true) (by simp) fun _ => test_b (by
        simp only [mOp_run, mBlt_run, mCons_run, mPeek_run, List.getElem?_cons_zero, R.bind_ok, mNil_run, el, R.opt_some, mCon_run, fNe_ii]
        rw [show (((xs.length : Int) == 2)) = false by simp; omega]; rfl), z]
      simp
  | cel _ => exact h.ty.elim
  | scr _ => exact h.ty.elim
  | dki _ _ => exact h.ty.elim
  | _ =>
    rw [orT_b (p := true) (q := true) (by simp) fun h => nomatch h]
    simp [isAmt]
/-! ### what three functions tell -/
theorem fEq_bb (a b : Bool) : fEq (.bl a) (.bl b) = some (.bl (a == b)) := rfl
theorem fNe_bb (a b : Bool) : fNe (.bl a) (.bl b) = some (.bl (!(a == b))) := rfl
theorem fold_loop {I : Bool → Env → Prop} {t : Tg} {b : MS} {s : Store} (f : D → Bool) : ∀ (ds : List D) (g : Bool) (Γ : Env), I g Γ → (∀ d ∈ ds, ∀ g Γ, I g Γ → ∃ Γ1 Γ', bindT t d Γ = some Γ1 ∧ b Γ1 s = .ok (.nx Γ') s ∧ I (g && f d) Γ') → ∃ Γ', I (g && ds.all f) Γ' ∧ forGo t b ds Γ s = .ok (.nx Γ') s
  | [], g, Γ, h, _ => ⟨Γ, by simpa using h, rfl⟩
  | d :: ds, g, Γ, h, hb => by
    obtain ⟨Γ1, Γ', h1, h2, h3⟩ := hb d List.mem_cons_self g Γ h
    obtain ⟨Γ2, h4, h5⟩ := fold_loop f ds (g && f d) Γ' h3 fun d hd => hb d (List.mem_cons_of_mem _ hd)
    refine ⟨Γ2, by simpa [Bool.and_assoc] using h4, ?_⟩
    unfold forGo
    rw [h1]
    show (b Γ1 s).bind _ = _
    rw [h2]
    exact h5
theorem ndebts_ok {d : D} {s : Store} (h : Ty2 d) (hd : isDebts d = true) : m_need_debts [d] s = .ok .non s := by
  have e := debts_ok (s := s) h
  unfold m_need_debts b_need_debts
  rw [mFn_run]
  show endD (mIf _ _ _ [.dat d] s) = _
  rw [mIf_run, notT_b (p := isDebts d) (test_b (by simp [e])), hd]
  rfl
theorem isdebts_ok {d : D} {s : Store} (h : Ty2 d) : m_is_debts [d] s = .ok (.bl (isDebts d)) s := by
  have e := debts_ok (s := s) h
  simp [m_is_debts, b_is_debts, mFn_run, startE, e]
theorem arefacts_ok {d dd : D} {n L m : Nat} {s : Store} (hg : Ty2 dd) (hdd : isDebts dd = true) (h : Gd L m d) (hd : fLen [dd] = some (.int n)) (hn : n ≤ 1000) : m_are_facts [dd, d] s = .ok (.bl (isFacts n d)) s := by
  have e0 := ndebts_ok (s := s) hg hdd
  have e1 := facts_ok (s := s) h hd hn
  simp [m_are_facts, b_are_facts, mFn_run, startE, e0, e1]
theorem areamts_ok {d dd : D} {n L m : Nat} {s : Store} (hg : Ty2 dd) (hdd : isDebts dd = true) (h : Gd L m d) (hd : fLen [dd] = some (.int n)) (hn : n ≤ 1000) : m_are_amounts [dd, d] s = .ok (.bl (isAmts n d)) s := by
  have e0 := ndebts_ok (s := s) hg hdd
  have e1 := amts_ok (s := s) h hd hn
  simp [m_are_amounts, b_are_amounts, mFn_run, startE, e0, e1]
abbrev trF : MS := mIf (mTest (mVar 2)) (mFor (mItems (mVar 1)) (.nm 4) (mAsg 2 (mSd (mAndV (mVar 2) (mCall 2 m__law_is_fact (mCons (mVar 4) (mCons (mBlt fLen (mCons (mPeek 0) mNil)) mNil))))))) mNext
abbrev trA : MS := mIf (mTest (mVar 3)) (mFor (mItems (mVar 1)) (.nm 5) (mAsg 3 (mSd (mAndV (mVar 3) (mCall 1 m__law_is_fraction (mCons (mVar 5) mNil)))))) mNext
theorem trF_ok {d dd : D} {n L m : Nat} {x4 x5 : SV} {g : Bool} {s : Store} (h : Gd L m d) (hm : m ≤ 50) (hL : L ≤ 100000) (hd : fLen [dd] = some (.int n)) (hn : n ≤ 1000) : ∃ y4, trF [.dat dd, .dat d, .dat (.bl (isTup 0 5 d)), .dat (.bl g), x4, x5] s = .ok (.nx [.dat dd, .dat d, .dat (.bl (isFacts n d)), .dat (.bl g), y4, x5]) s := by
  unfold isFacts
  rw [trF, mIf_run]
  cases ht : isTup 0 5 d with
  | false => exact ⟨x4, by simp⟩
  | true =>
    obtain ⟨xs, rfl, _, hx⟩ := isTup_len ht
    obtain ⟨Γ', ⟨y4, rfl⟩, fr⟩ := fold_loop (I := fun b Γ => ∃ y4, Γ = [.dat dd, .dat (.tup xs), .dat (.bl b), .dat (.bl g), y4, x5]) (t := .nm 4) (b := mAsg 2 (mSd (mAndV (mVar 2) (mCall 2 m__law_is_fact (mCons (mVar 4) (mCons (mBlt fLen (mCons (mPeek 0) mNil)) mNil)))))) (s := s) (isFact n) xs true [.dat dd, .dat (.tup xs), .dat (.bl true), .dat (.bl g), x4, x5] ⟨_, rfl⟩ fun f hf b Γ hI => by
      obtain ⟨y, rfl⟩ := hI
      obtain ⟨m', e, gf⟩ := h.kid hf
      have e1 := lfact_ok (n := n) (s := s) gf (by omega) hL hn
      refine ⟨[.dat dd, .dat (.tup xs), .dat (.bl b), .dat (.bl g), .dat f, x5], [.dat dd, .dat (.tup xs), .dat (.bl (b && isFact n f)), .dat (.bl g), .dat f, x5], rfl, ?_, _, rfl⟩
      rw [mAsg_run, mSd_run, and_b (p := b) (q := isFact n f) (by simp) fun _ => by simp [hd, e1]]
      rfl
    refine ⟨y4, ?_⟩
    have it : fItems (.tup xs) = some xs := rfl
    simp only [mTest_run, mVar_run, List.getElem?_cons_succ, List.getElem?_cons_zero, R.bind_ok, toB_bl, mFor_run, mItems_run, it, R.opt_some, fr]
    rfl
theorem trA_ok {d dd : D} {n L m : Nat} {x4 x5 : SV} {g : Bool} {s : Store} (h : Gd L m d) (hm : m ≤ 50) (hL : L ≤ 100000) (hn : n ≤ 1000) : ∃ y5, trA [.dat dd, .dat d, .dat (.bl g), .dat (.bl (isTup n n d)), x4, x5] s = .ok (.nx [.dat dd, .dat d, .dat (.bl g), .dat (.bl (isAmts n d)), x4, y5]) s := by
  unfold isAmts
  rw [trA, mIf_run]
  cases ht : isTup n n d with
  | false => exact ⟨x5, by simp⟩
  | true =>
    obtain ⟨xs, rfl, _, hx⟩ := isTup_len ht
    obtain ⟨Γ', ⟨y5, rfl⟩, fr⟩ := fold_loop (I := fun b Γ => ∃ y5, Γ = [.dat dd, .dat (.tup xs), .dat (.bl g), .dat (.bl b), x4, y5]) (t := .nm 5) (b := mAsg 3 (mSd (mAndV (mVar 3) (mCall 1 m__law_is_fraction (mCons (mVar 5) mNil))))) (s := s) (isAmt 1000000000000) xs true [.dat dd, .dat (.tup xs), .dat (.bl g), .dat (.bl true), x4, x5] ⟨_, rfl⟩ fun f hf b Γ hI => by
      obtain ⟨y, rfl⟩ := hI
      obtain ⟨m', e, gf⟩ := h.kid hf
      have e1 := lfrac_ok (s := s) gf
      refine ⟨[.dat dd, .dat (.tup xs), .dat (.bl g), .dat (.bl b), x4, .dat f], [.dat dd, .dat (.tup xs), .dat (.bl g), .dat (.bl (b && isAmt 1000000000000 f)), x4, .dat f], rfl, ?_, _, rfl⟩
      rw [mAsg_run, mSd_run, and_b (p := b) (q := isAmt 1000000000000 f) (by simp) fun _ => by simp [e1]]
      rfl
    refine ⟨y5, ?_⟩
    have it : fItems (.tup xs) = some xs := rfl
    simp only [mTest_run, mVar_run, List.getElem?_cons_succ, List.getElem?_cons_zero, R.bind_ok, toB_bl, mFor_run, mItems_run, it, R.opt_some, fr]
    rfl
theorem told_ok {d dd : D} {n L m : Nat} {s : Store} (hg : Ty2 dd) (hdd : isDebts dd = true) (h : Gd L m d) (hm : m ≤ 50) (hL : L ≤ 100000) (hd : fLen [dd] = some (.int n)) (hn : n ≤ 1000) : m__law_told_right [dd, d] s = .ok (.bl true) s := by
  have e1 := isdebts_ok (s := s) h.ty2
  have e2 := ldebts_ok (s := s) h hm hL
  have e3 := arefacts_ok (s := s) hg hdd h hd hn
  have e4 := areamts_ok (s := s) hg hdd h hd hn
  obtain ⟨y4, f1⟩ := trF_ok (x4 := .nul) (x5 := .nul) (g := isTup n n d) (s := s) h hm hL hd hn
  obtain ⟨y5, f2⟩ := trA_ok (dd := dd) (x4 := y4) (x5 := .nul) (g := isFacts n d) (s := s) h hm hL hn
  unfold m__law_told_right b__law_told_right
  rw [mFn_run]
  show endD (mSeq _ _ [.dat dd, .dat d, .nul, .nul, .nul, .nul] s) = _
  have a1 : mAndV (mOp1 (fIsi "tuple") (mPeek 1)) (mOp fLe (mBlt fLen (mCons (mPeek 1) mNil)) (mCon (.int 5))) [.dat dd, .dat d, .nul, .nul, .nul, .nul] s = .ok (.bl (isTup 0 5 d)) s := by
    cases d with
    | tup xs => rw [and_t (s1 := s) (by simp)]; simp [fLen, isTup]
    | cel _ => exact h.ty.elim
    | scr _ => exact h.ty.elim
    | dki _ _ => exact h.ty.elim
    | _ => rw [and_f (s1 := s) (by simp)]; rfl
  have a2 : mAndV (mOp1 (fIsi "tuple") (mPeek 1)) (mOp fEq (mBlt fLen (mCons (mPeek 1) mNil)) (mBlt fLen (mCons (mPeek 0) mNil))) [.dat dd, .dat d, .dat (.bl (isTup 0 5 d)), .nul, .nul, .nul] s = .ok (.bl (isTup n n d)) s := by
    cases d with
    | tup xs =>
      rw [and_t (s1 := s) (by simp)]
      have el : fLen [.tup xs] = some (.int xs.length) := rfl
      have fe : fEq (.int (xs.length : Int)) (.int (n : Int)) = some (.bl (isTup n n (.tup xs))) := by
        rw [fEq_ii]
        congr 2
        rw [Bool.eq_iff_iff]; simp [isTup]; omega
      simp [el, hd, fe]
    | cel _ => exact h.ty.elim
    | scr _ => exact h.ty.elim
    | dki _ _ => exact h.ty.elim
    | _ => rw [and_f (s1 := s) (by simp)]; rfl
  rw [mSeq_run, mIf_run]
  simp only [mTest_run, mOp_run, mCall_run, mCons_run, mVar_run, List.getElem?_cons_succ, List.getElem?_cons_zero, R.bind_ok, mNil_run, List.length_cons, List.length_nil, if_true, Nat.reduceAdd, e1, e2, fNe_bb, R.opt_some, toB_bl, beq_self_eq_true, Bool.not_true, mNext_run]
  rw [mSeq_run, mAsg_run, mSd_run, a1]
  simp only [R.bind_ok, List.set_cons_succ, List.set_cons_zero]
  rw [mSeq_run, mAsg_run, mSd_run, a2]
  simp only [R.bind_ok, List.set_cons_succ, List.set_cons_zero]
  rw [mSeq_run]
  show endD ((trF _ s).bind _) = _
  rw [f1]
  simp only [R.bind_ok]
  rw [mSeq_run]
  show endD ((trA _ s).bind _) = _
  rw [f2]
  simp only [R.bind_ok]
  rw [mRet_run, and_b (p := true) (q := true) (by simp [e3, fEq_bb]) fun _ => by simp [e4, fEq_bb]]
  rfl
end PD
set_option maxRecDepth 100000
set_option maxHeartbeats 4000000
set_option exponentiation.threshold 20
namespace PD
open PySem PySem.Spec PyProof.Rows L2
/-! ## facts as lines -/
structure Fct where
  w : Str
  a : List Nat
  b : List Nat
  k : Int
def natT (xs : List Nat) : D := .tup (xs.map fun (k : Nat) => D.int (k : Int))
def eFc (f : Fct) : D := .tup [.str f.w, natT f.a, natT f.b, .int f.k]
structure Fct.Ok (f : Fct) (n : Nat) : Prop where
  w : f.w = "atleast" ∨ f.w = "more" ∨ f.w = "same"
  a : ∀ x ∈ f.a, x < n
  b : ∀ x ∈ f.b, x < n
  k : -60 ≤ f.k ∧ f.k ≤ 60
def ind (p : Nat) (xs : List Nat) : Int := if p ∈ xs then 1 else 0
def sideI (f : Fct) (p : Nat) : Int := ind p f.a - ind p f.b
def flow (n : Nat) (f : Fct) : List Int := (List.range n).map (sideI f)
def fline (n : Nat) (f : Fct) : List Int := flow n f ++ [-f.k]
theorem any_nat (p : Nat) : ∀ xs : List Nat, D.anyEq (.int p) (xs.map fun (k : Nat) => D.int (k : Int)) = decide (p ∈ xs)
  | [] => rfl
  | x :: xs => by
    show (D.eqv (.int x) (.int p) || D.anyEq (.int p) (xs.map fun (k : Nat) => D.int (k : Int))) = _
    rw [any_nat p xs]
    show (((x : Int) == (p : Int)) || decide (p ∈ xs)) = _
    by_cases e : x = p
    · subst e; simp
    · have e1 : ((x : Int) == (p : Int)) = false := by simpa using (show ¬(x : Int) = p by omega)
      rw [e1, Bool.false_or, decide_eq_decide]
      simp [show p ≠ x from fun h => e h.symm]
theorem nat_fine (m : Nat) : ∀ xs : List Nat, D.fineL m (xs.map fun (k : Nat) => D.int (k : Int)) = true
  | [] => by simp [D.fineL]
  | x :: xs => by simp only [List.map_cons, D.fineL, D.fine, nat_fine m xs, Bool.and_self]
theorem in_nat (p : Nat) (xs : List Nat) : fIn (.int p) (natT xs) = some (.bl (decide (p ∈ xs))) := by
  unfold fIn
  rw [if_pos]
  · show some (D.bl (D.anyEq (.int p) (xs.map fun (k : Nat) => D.int (k : Int)))) = _
    rw [any_nat]
  · simp [natT, D.fine, nat_fine]
@[simp] theorem fc0 (f : Fct) : fIx (eFc f) (.int 0) = some (.str f.w) := rfl
@[simp] theorem fc1 (f : Fct) : fIx (eFc f) (.int 1) = some (natT f.a) := rfl
@[simp] theorem fc2 (f : Fct) : fIx (eFc f) (.int 2) = some (natT f.b) := rfl
@[simp] theorem fc3 (f : Fct) : fIx (eFc f) (.int 3) = some (.int f.k) := rfl
@[simp] theorem deref_fc (s : Store) (f : Fct) : s.deref (eFc f) = eFc f := rfl
abbrev flB : MS := mAsg 2 (mSd (mOp fAdd (mPeek 2) (mLst (mCons (mOp fSub (mIte (mTest (mOp fIn (mPeek 3) (mIx (mPeek 1) (mCon (.int 1))))) (mCon (.int 1)) (mCon (.int 0))) (mIte (mTest (mOp fIn (mPeek 3) (mIx (mPeek 1) (mCon (.int 2))))) (mCon (.int 1)) (mCon (.int 0)))) mNil))))
theorem flB_ok {dd : D} {f : Fct} {acc : List Int} {p : Nat} {s : Store} (h : acc.length < 1000) : flB [.dat dd, .dat (eFc f), .dat (eL acc), .dat (.int p)] s = .ok (.nx [.dat dd, .dat (eFc f), .dat (eL (acc ++ [sideI f p])), .dat (.int p)]) s := by
  have i1 := in_nat p f.a
  have i2 := in_nat p f.b
  have t1 : (mIte (mTest (mOp fIn (mPeek 3) (mIx (mPeek 1) (mCon (.int 1))))) (mCon (.int 1)) (mCon (.int 0))) [.dat dd, .dat (eFc f), .dat (eL acc), .dat (.int p)] s = .ok (.int (ind p f.a)) s := by
    simp only [mIte_run, mTest_run, mOp_run, mPeek_run, mIx_run, mCon_run, List.getElem?_cons_succ, List.getElem?_cons_zero, R.bind_ok, deref_fc, fc1, R.opt_some, i1, toB_bl]
    unfold ind
    by_cases h : p ∈ f.a <;> simp [h]
  have t2 : (mIte (mTest (mOp fIn (mPeek 3) (mIx (mPeek 1) (mCon (.int 2))))) (mCon (.int 1)) (mCon (.int 0))) [.dat dd, .dat (eFc f), .dat (eL acc), .dat (.int p)] s = .ok (.int (ind p f.b)) s := by
    simp only [mIte_run, mTest_run, mOp_run, mPeek_run, mIx_run, mCon_run, List.getElem?_cons_succ, List.getElem?_cons_zero, R.bind_ok, deref_fc, fc2, R.opt_some, i2, toB_bl]
    unfold ind
    by_cases h : p ∈ f.b <;> simp [h]
  have ad : fAdd (eL acc) (.lst [.int (ind p f.a - ind p f.b)]) = some (eL (acc ++ [sideI f p])) := by
    show (if (acc.map D.int).length + 1 ≤ 100000 then some (D.lst (acc.map D.int ++ [.int (ind p f.a - ind p f.b)])) else none) = _
    rw [if_pos (by simp; omega)]
    simp [eL, sideI]
  simp only [flB, mAsg_run, mSd_run, mOp_run fAdd, mPeek_run, List.getElem?_cons_succ, List.getElem?_cons_zero, R.bind_ok, mLst_run, mCons_run, mOp_run fSub, t1, t2, fSub_ii, R.opt_some, mNil_run]
  rw [few_ok _ _ (by simp)]
  simp only [R.opt_some, R.bind_ok, ad, List.set_cons_succ, List.set_cons_zero]
theorem fl_loop {dd : D} {f : Fct} {s : Store} : ∀ (ps : List Nat) (acc : List Int) (x3 : SV), acc.length + ps.length ≤ 1000 → ∃ y3, forGo (.nm 3) flB (ps.map fun (p : Nat) => D.int (p : Int)) [.dat dd, .dat (eFc f), .dat (eL acc), x3] s = .ok (.nx [.dat dd, .dat (eFc f), .dat (eL (acc ++ ps.map (sideI f))), y3]) s
  | [], acc, x3, _ => ⟨x3, by simp [forGo]⟩
  | p :: ps, acc, x3, h => by
    rw [List.length_cons] at h
    have e := flB_ok (dd := dd) (f := f) (acc := acc) (p := p) (s := s) (by omega)
    obtain ⟨y3, ih⟩ := fl_loop (dd := dd) (f := f) (s := s) ps (acc ++ [sideI f p]) (.dat (.int p)) (by simp; omega)
    refine ⟨y3, ?_⟩
    rw [List.map_cons]
    show ((flB [.dat dd, .dat (eFc f), .dat (eL acc), .dat (.int p)] s).bind _) = _
    rw [e]
    show forGo _ _ _ _ _ = _
    rw [ih]
    simp
theorem fline_ok {dd : D} {f : Fct} {n : Nat} {s : Store} (hd : fLen [dd] = some (.int n)) (hn : n ≤ 900) : m_fact_line [dd, eFc f] s = .ok (.tup ((fline n f).map .int)) s := by
  obtain ⟨y3, e⟩ := fl_loop (dd := dd) (f := f) (s := s) (List.range n) [] .nul (by simp; omega)
  have r := fRng1_nat (n := n) (by omega)
  have ft : fTuple [eL ((List.range n).map (sideI f))] = some (.tup (((List.range n).map (sideI f)).map .int)) := rfl
  have ad : fAdd (.tup (((List.range n).map (sideI f)).map .int)) (.tup [.int (-f.k)]) = some (.tup ((fline n f).map .int)) := by
    show (if _ + 1 ≤ 100000 then some (D.tup (((List.range n).map (sideI f)).map D.int ++ [.int (-f.k)])) else none) = _
    rw [if_pos (by simp; omega)]
    simp [fline, flow]
  unfold m_fact_line b_fact_line
  rw [mFn_run]
  show endD (mSeq _ _ [.dat dd, .dat (eFc f), .nul, .nul] s) = _
  have l0 : mAsg 2 (mSd (mLst mNil)) [.dat dd, .dat (eFc f), .nul, .nul] s = .ok (.nx [.dat dd, .dat (eFc f), .dat (eL []), .nul]) s := rfl
  rw [mSeq_run, l0]
  simp only [R.bind_ok]
  rw [mSeq_run, mFor_run]
  simp only [mRng_run, mCons_run, mBlt_run, mPeek_run, mNil_run, List.getElem?_cons_succ, List.getElem?_cons_zero, R.bind_ok, hd, R.opt_some, r]
  rw [e]
  simp only [R.bind_ok, List.nil_append, mRet_run, mOp_run, mBlt_run, mCons_run, mPeek_run, mNil_run, List.getElem?_cons_succ, List.getElem?_cons_zero, ft, R.opt_some, mTup_run, mOp1_run, mIx_run, mCon_run, deref_fc, fc3, fNeg_i]
  rw [few_ok _ _ (by simp)]
  simp only [R.opt_some, R.bind_ok, ad, endD_rt]
/-! ## what a line comes to -/
def sstep (r : Int × Int) (q : Int × (Int × Int)) : Int × Int := (r.1 * q.2.2 + q.1 * q.2.1 * r.2, r.2 * q.2.2)
def eAm (p : Int × Int) : D := .tup [.int p.1, .int p.2]
def AmOk (p : Int × Int) : Prop := 0 ≤ p.1 ∧ p.1 ≤ 1000000000000 ∧ 1 ≤ p.2 ∧ p.2 ≤ 1000000000000
theorem abs_log {z : Int} {n : Nat} (h : z.natAbs < 2 ^ n) (hn : 0 < n) : z.natAbs.log2 < n := log_lt hn h
theorem sstep_lt {r : Int × Int} {q : Int × (Int × Int)} {m : Nat} (hq : AmOk q.2) (h1 : q.1.natAbs ≤ 1) (hr : r.1.natAbs < 2 ^ m ∧ r.2.natAbs < 2 ^ m) : (sstep r q).1.natAbs < 2 ^ (m + 41) ∧ (sstep r q).2.natAbs < 2 ^ (m + 41) := by
  obtain ⟨a, b, c, d⟩ := hq
  have e : 2 ^ (m + 41) = 2 ^ m * 2199023255552 := by rw [Nat.pow_add]; rfl
  rw [e]
  generalize 2 ^ m = P at *
  have x1 : (r.1 * q.2.2).natAbs ≤ P * 1000000000000 := by
    rw [Int.natAbs_mul]; exact Nat.mul_le_mul (by omega) (by omega)
  have x2 : (q.1 * q.2.1 * r.2).natAbs ≤ 1 * 1000000000000 * P := by
    rw [Int.natAbs_mul, Int.natAbs_mul]; exact Nat.mul_le_mul (Nat.mul_le_mul h1 (by omega)) (by omega)
  have x3 : (r.2 * q.2.2).natAbs ≤ P * 1000000000000 := by
    rw [Int.natAbs_mul]; exact Nat.mul_le_mul (by omega) (by omega)
  unfold sstep
  constructor
  · show (r.1 * q.2.2 + q.1 * q.2.1 * r.2).natAbs < _
    omega
  · show (r.2 * q.2.2).natAbs < _
    omega
end PD
set_option maxRecDepth 100000
set_option maxHeartbeats 4000000
set_option exponentiation.threshold 20
namespace PD
open PySem PySem.Spec PyProof.Rows L2
theorem run_lcm {α : Type} {tg : Tg} {me : Env → M D} {Γ : Env} {s : Store} (enc : α → D) (g : α → D) : ∀ xs : List α, (∀ x ∈ xs, ∃ Γ1, bindT tg (enc x) Γ = some Γ1 ∧ me Γ1 s = .ok (g x) s) → lcGo tg mYes me Γ (xs.map enc) s = .ok (xs.map g) s
  | [], _ => rfl
  | x :: xs, h => by
    obtain ⟨Γ1, h1, h2⟩ := h x List.mem_cons_self
    rw [List.map_cons]
    unfold lcGo
    rw [h1]
    show (me Γ1 s).nox.bind _ = _
    rw [h2]
    show (lcGo tg mYes me Γ (xs.map enc) s).bind _ = _
    rw [run_lcm enc g xs fun x hx => h x (List.mem_cons_of_mem _ hx)]
    rfl
theorem all_runm {α : Type} {mi : Env → M (List D)} {t : Tg} {e : Env → M D} {o : List Nat} {Γ : Env} {s : Store} {xs : List α} (enc : α → D) (f : α → Bool) (hi : mi Γ s = .ok (xs.map enc) s) (hx : xs.length ≤ 100000) (he : ∀ x ∈ xs, ∃ Γ1, bindT t (enc x) (wipeE Γ o) = some Γ1 ∧ e Γ1 s = .ok (.bl (f x)) s) :
    mBlt fAll (mCons (mFrz (mLcL mi t mYes e o)) mNil) Γ s = .ok (.bl (xs.all f)) s := by
  simp only [mBlt_run, mCons_run, mFrz_run, mLcL_run, hi, R.bind_ok, List.length_map, hx, if_true, run_lcm enc (fun x => .bl (f x)) xs he, mNil_run, all_map, R.opt_some]
/-! ## what a line comes to, by the program -/
def pf (g : Nat → Int) : Nat → Int × Int → List (Int × Int) → Int × Int
  | _, r, [] => r
  | j, r, a :: as => pf g (j + 1) (sstep r (g j, a)) as
theorem pf_zip (g : Nat → Int) (rest : List Int) : ∀ (as : List (Int × Int)) (j m : Nat) (r : Int × Int), as.length ≤ m → ((((List.range' j m).map g) ++ rest).zip as).foldl sstep r = pf g j r as
  | [], j, m, r, _ => by simp [pf]
  | a :: as, j, 0, r, h => by simp at h
  | a :: as, j, m + 1, r, h => by
    rw [List.range'_succ, List.map_cons, List.cons_append, List.zip_cons_cons, List.foldl_cons, pf]
    exact pf_zip g rest as (j + 1) m _ (by simpa using h)
theorem zipD_am : ∀ {xs : List Int} {as : List (Int × Int)}, zipD (xs.map .int) (as.map eAm) = (xs.zip as).map fun p => .tup [.int p.1, eAm p.2]
  | [], _ => by simp [zipD]
  | _ :: _, [] => by simp [zipD]
  | x :: xs, y :: ys => by simp [zipD, zipD_am]
abbrev smB : MS := mPar [2, 3] (mRcons (mSd (mOp fAdd (mOp fMul (mPeek 2) (mPeek 6)) (mOp fMul (mOp fMul (mPeek 4) (mPeek 5)) (mPeek 3)))) (mRcons (mSd (mOp fMul (mPeek 3) (mPeek 6))) mRnil))
theorem mulN {i j : Int} {n m : Nat} (hi : i.natAbs < 2 ^ n) (hj : j.natAbs < 2 ^ m) (hn : 0 < n ∧ 0 < m) (h : n + m ≤ 900000) : fMul (.int i) (.int j) = some (.int (i * j)) := fMul_ii (by
  have := abs_log hi hn.1
  have := abs_log hj hn.2
  omega)
theorem smB_ok {x0 x1 : SV} {r : Int × Int} {q : Int × (Int × Int)} {m : Nat} {s : Store} (hq : AmOk q.2) (h1 : q.1.natAbs ≤ 1) (hr : r.1.natAbs < 2 ^ m ∧ r.2.natAbs < 2 ^ m) (hm : 0 < m ∧ m ≤ 100000) :
    smB [x0, x1, .dat (.int r.1), .dat (.int r.2), .dat (.int q.1), .dat (.int q.2.1), .dat (.int q.2.2)] s = .ok (.nx [x0, x1, .dat (.int (sstep r q).1), .dat (.int (sstep r q).2), .dat (.int q.1), .dat (.int q.2.1), .dat (.int q.2.2)]) s := by
  have c41 : (2 : Nat) ^ 41 = 2199023255552 := by decide
  obtain ⟨a, b, c, d⟩ := hq
  have m1 := mulN (i := r.1) (j := q.2.2) (n := m) (m := 41) hr.1 (by rw [c41]; omega) (by omega) (by omega)
  have m2 := mulN (i := r.2) (j := q.2.2) (n := m) (m := 41) hr.2 (by rw [c41]; omega) (by omega) (by omega)
  have m3 := mulN (i := q.1) (j := q.2.1) (n := 1) (m := 41) (by omega) (by rw [c41]; omega) (by omega) (by omega)
  have m4 := mulN (i := q.1 * q.2.1) (j := r.2) (n := 41) (m := m) (by
    rw [Int.natAbs_mul]
    refine Nat.lt_of_le_of_lt (Nat.mul_le_mul h1 (Nat.le_refl _)) (by rw [c41]; omega)) hr.2 (by omega) (by omega)
  simp [smB, m1, m2, m3, m4, sstep]
theorem sm_loop {x0 x1 : SV} {s : Store} : ∀ (qs : List (Int × (Int × Int))) (r : Int × Int) (m : Nat) (x4 x5 x6 : SV), (∀ q ∈ qs, AmOk q.2 ∧ q.1.natAbs ≤ 1) → (r.1.natAbs < 2 ^ m ∧ r.2.natAbs < 2 ^ m) → 0 < m → m + 41 * qs.length ≤ 100000 →
    ∃ y4 y5 y6, forGo (.tp [.nm 4, .tp [.nm 5, .nm 6]]) smB (qs.map fun p => .tup [.int p.1, eAm p.2]) [x0, x1, .dat (.int r.1), .dat (.int r.2), x4, x5, x6] s = .ok (.nx [x0, x1, .dat (.int (qs.foldl sstep r).1), .dat (.int (qs.foldl sstep r).2), y4, y5, y6]) s
  | [], r, m, x4, x5, x6, _, _, _, _ => ⟨x4, x5, x6, rfl⟩
  | q :: qs, r, m, x4, x5, x6, hq, hr, h0, hm => by
    rw [List.length_cons] at hm
    have h1 := hq q List.mem_cons_self
    have e := smB_ok (x0 := x0) (x1 := x1) (s := s) h1.1 h1.2 hr (by omega)
    obtain ⟨y4, y5, y6, ih⟩ := sm_loop (x0 := x0) (x1 := x1) (s := s) qs (sstep r q) (m + 41) (.dat (.int q.1)) (.dat (.int q.2.1)) (.dat (.int q.2.2)) (fun p hp => hq p (List.mem_cons_of_mem _ hp)) (sstep_lt h1.1 h1.2 hr) (by omega) (by omega)
    refine ⟨y4, y5, y6, ?_⟩
    rw [List.map_cons]
    show ((smB [x0, x1, .dat (.int r.1), .dat (.int r.2), .dat (.int q.1), .dat (.int q.2.1), .dat (.int q.2.2)] s).bind _) = _
    rw [e]
    exact ih
def eAs (as : List (Int × Int)) : D := .tup (as.map eAm)
def comes (n : Nat) (f : Fct) (as : List (Int × Int)) : Int × Int := ((fline n f).zip as).foldl sstep (-f.k, 1)
theorem ind_le (p : Nat) (xs : List Nat) : ind p xs = 0 ∨ ind p xs = 1 := by
  unfold ind
  split
  · exact .inr rfl
  · exact .inl rfl
theorem side_le (f : Fct) (p : Nat) : (sideI f p).natAbs ≤ 1 := by
  unfold sideI
  rcases ind_le p f.a with h | h <;> rcases ind_le p f.b with h' | h' <;> rw [h, h'] <;> decide
theorem summed_ok {n : Nat} {f : Fct} {as : List (Int × Int)} {s : Store} (hf : f.Ok n) (ha : ∀ a ∈ as, AmOk a) (hl : as.length = n) (hn : n ≤ 900) : m_summed [.tup ((fline n f).map .int), eAs as] s = .ok (eF (comes n f as)) s := by
  have hz : ∀ q ∈ (fline n f).zip as, AmOk q.2 ∧ q.1.natAbs ≤ 1 := fun q hq => by
    have h2 := (List.of_mem_zip (a := q.1) (b := q.2) hq).2
    refine ⟨ha _ h2, ?_⟩
    have e : (fline n f).zip as = (flow n f).zip as := by
      unfold fline
      have lf : (flow n f).length = as.length := by simp [flow, hl]
      rw [show as = as ++ [] by simp, List.zip_append lf]
      simp
    rw [e] at hq
    have h3 := (List.of_mem_zip (a := q.1) (b := q.2) hq).1
    unfold flow at h3
    obtain ⟨p, _, e⟩ := List.mem_map.mp h3
    rw [← e]
    exact side_le f p
  have hzl : ((fline n f).zip as).length ≤ 900 := by rw [List.length_zip]; omega
  obtain ⟨y4, y5, y6, e⟩ := sm_loop (x0 := .dat (.tup ((fline n f).map .int))) (x1 := .dat (eAs as)) (s := s) ((fline n f).zip as) (-f.k, 1) 10 .nul .nul .nul hz (by
    have := hf.k
    have c10 : (2 : Nat) ^ 10 = 1024 := by decide
    rw [c10]
    constructor
    · show (-f.k).natAbs < 1024
      omega
    · show (1 : Int).natAbs < 1024
      decide) (by omega) (by omega)
  have i1 : fIx (.tup ((fline n f).map .int)) (.int (-1)) = some (.int (-f.k)) := by
    have := fIx_last (xs := fline n f) (by simp [fline])
    have e : lastD (fline n f) = -f.k := by
      unfold lastD nth fline
      simp
    rw [e] at this
    exact this
  have fz : fZip [.tup ((fline n f).map .int), eAs as] = some (((fline n f).zip as).map fun p => .tup [.int p.1, eAm p.2]) := by
    show some (zipD _ _) = _
    rw [zipD_am]
  unfold m_summed b_summed
  rw [mFn_run]
  show endD (mSeq _ _ [.dat (.tup ((fline n f).map .int)), .dat (eAs as), .nul, .nul, .nul, .nul, .nul] s) = _
  have a1 : mPar [2, 3] (mRcons (mSd (mIx (mPeek 0) (mOp1 fNeg (mCon (.int 1))))) (mRcons (mSd (mCon (.int 1))) mRnil)) [.dat (.tup ((fline n f).map .int)), .dat (eAs as), .nul, .nul, .nul, .nul, .nul] s = .ok (.nx [.dat (.tup ((fline n f).map .int)), .dat (eAs as), .dat (.int (-f.k)), .dat (.int 1), .nul, .nul, .nul]) s := by
    simp [Store.deref, i1]
  rw [mSeq_run, a1]
  simp only [R.bind_ok]
  rw [mSeq_run, mFor_run]
  simp only [mRng_run, mCons_run, mVar_run, mNil_run, List.getElem?_cons_succ, List.getElem?_cons_zero, R.bind_ok, fz, R.opt_some, e]
  simp only [mRet_run, mTup_run, mCons_run, mVar_run, mNil_run, List.getElem?_cons_succ, List.getElem?_cons_zero, R.bind_ok, R.opt_some]
  rw [few_ok _ _ (by simp)]
  rfl
/-! ### whether a fact is so -/
def soB (f : Fct) (t : Int) : Bool := if f.w = "same" then decide (t = 0) else if f.w = "more" then decide (0 < t) else decide (0 ≤ t)
theorem word_fine {f : Fct} {n : Nat} (h : f.Ok n) : strFine f.w = true := by
  rcases h.w with e | e | e <;> rw [e] <;> decide +kernel
theorem word_eq {x y : Str} (h1 : strFine x = true) (h2 : strFine y = true) : fEq (.str x) (.str y) = some (.bl (x == y)) := by
  unfold fEq
  rw [if_pos (by simp [D.fine, h1, h2])]
  rfl
theorem same_fine : strFine "same" = true := by decide +kernel
theorem more_fine : strFine "more" = true := by decide +kernel
theorem isso_ok {dd : D} {n : Nat} {f : Fct} {as : List (Int × Int)} {s : Store} (hd : fLen [dd] = some (.int n)) (hf : f.Ok n) (ha : ∀ a ∈ as, AmOk a) (hl : as.length = n) (hn : n ≤ 900) : m_is_so [dd, eFc f, eAs as] s = .ok (.bl (soB f (comes n f as).1)) s := by
  have e1 := fline_ok (dd := dd) (f := f) (s := s) hd hn
  have e2 := summed_ok (s := s) hf ha hl hn
  have w1 := word_eq (word_fine hf) same_fine
  have w2 := word_eq (word_fine hf) more_fine
  have i0 : ∀ p : Int × Int, fIx (eF p) (.int 0) = some (.int p.1) := fun _ => rfl
  have dr : ∀ p : Int × Int, s.deref (eF p) = eF p := fun _ => rfl
  unfold m_is_so b_is_so
  rw [mFn_run]
  show endD (mSeq _ _ [.dat dd, .dat (eFc f), .dat (eAs as), .nul] s) = _
  simp only [mSeq_run, mAsg_run, mSd_run, mIx_run, mCall_run, mCons_run, mVar_run, mNil_run, mCon_run, List.getElem?_cons_succ, List.getElem?_cons_zero, R.bind_ok, List.length_cons, List.length_nil, Nat.reduceAdd, if_true, e1, e2, dr, i0, R.opt_some, List.set_cons_succ, List.set_cons_zero, mIf_run, mTest_run, mOp_run, mPeek_run, deref_fc, fc0, w1, toB_bl]
  unfold soB
  by_cases h1 : f.w = "same"
  · have : (f.w == ("same" : Str)) = true := by rw [h1]; decide +kernel
    rw [this, if_pos h1]
    simp
    rfl
  · have z : (f.w == ("same" : Str)) = false := by
      cases e : f.w == ("same" : Str) with
      | false => rfl
      | true => exact absurd (eq_of_beq e) h1
    rw [z, if_neg h1]
    by_cases h2 : f.w = "more"
    · have this : (f.w == ("more" : Str)) = true := by rw [h2]; decide +kernel
      have w3 : fEq (.str f.w) (.str "more") = some (.bl true) := by rw [w2, this]
      rw [if_pos h2]
      simp [w3]
      try rfl
    · have z2 : (f.w == ("more" : Str)) = false := by
        cases e : f.w == ("more" : Str) with
        | false => rfl
        | true => exact absurd (eq_of_beq e) h2
      rw [if_neg h2]
      simp [w2, z2]
      try rfl
end PD
set_option maxRecDepth 100000
set_option maxHeartbeats 4000000
set_option exponentiation.threshold 20
namespace PD
open PySem PySem.Spec PyProof.Rows L2
/-! ## the law's fractions -/
theorem llow_ok {a b : Int} {s : Store} (hb : 0 < b) (ha : a.natAbs.log2 < 900000) (hl : b.natAbs.log2 < 9000) : m__law_lowest [.int a, .int b] s = .ok (eF (lowL a b)) s := by
  have e1 : m__law_part [.lst [.int a, .int b]] s = .ok (.int (part [a, b])) s := lpart_ok rfl fun x hx => by
    simp at hx
    rcases hx with rfl | rfl
    · exact ha
    · omega
  have hp := part_pos (xs := [a, b])
  have hd := part_dvd (xs := [a, b]) (x := b) (by simp)
  have hle : part [a, b] ≤ b.natAbs := by
    have := Int.natAbs_dvd_natAbs.mpr hd
    simpa using Nat.le_of_dvd (by omega) this
  have hpl : ((part [a, b] : Nat) : Int).natAbs.log2 < 9000 := by
    have := natAbs_le_log hle
    simp
    omega
  have d1 := fDiv_ii (i := a) (j := (part [a, b] : Int)) (by omega) hpl
  have d2 := fDiv_ii (i := b) (j := (part [a, b] : Int)) (by omega) hpl
  have hbt : decide (0 < b) = true := decide_eq_true hb
  unfold m__law_lowest
  rw [mFn_run]
  show endD (b__law_lowest [.dat (.int a), .dat (.int b), .nul] s) = _
  unfold b__law_lowest
  simp [hbt, e1, d1, d2, eF, lowL, hb]
theorem lowL_spec {a b : Int} (hb : 0 < b) : (lowL a b).1 * b = a * (lowL a b).2 ∧ 0 < (lowL a b).2 ∧ (lowL a b).1.natAbs ≤ a.natAbs ∧ (lowL a b).2.natAbs ≤ b.natAbs := by
  have hp := part_pos (xs := [a, b])
  obtain ⟨u, hu⟩ := part_dvd (xs := [a, b]) (x := a) (by simp)
  obtain ⟨v, hv⟩ := part_dvd (xs := [a, b]) (x := b) (by simp)
  unfold lowL
  rw [if_pos hb]
  refine ⟨?_, ?_, Int.natAbs_ediv_le_natAbs _ _, Int.natAbs_ediv_le_natAbs _ _⟩
  · generalize part [a, b] = P at *
    show a / (P : Int) * b = a * (b / (P : Int))
    have z : (P : Int) ≠ 0 := by omega
    have q1 : a / (P : Int) = u := by rw [hu]; exact Int.mul_ediv_cancel_left _ z
    have q2 : b / (P : Int) = v := by rw [hv]; exact Int.mul_ediv_cancel_left _ z
    rw [q1, q2]
    conv => lhs; rw [hv]
    conv => rhs; rw [hu]
    rw [← Int.mul_assoc, Int.mul_comm u]
  · generalize part [a, b] = P at *
    show 0 < b / (P : Int)
    have z : (P : Int) ≠ 0 := by omega
    have q2 : b / (P : Int) = v := by rw [hv]; exact Int.mul_ediv_cancel_left _ z
    rw [q2]
    rw [hv] at hb
    exact Int.pos_of_mul_pos_right hb (show (0 : Int) < P by omega)
def lby (x : Int × Int) (k : Int) : Int × Int := lowL (x.1 * k) (x.2 * 1)
def lplus (x y : Int × Int) : Int × Int := lowL (x.1 * y.2 + y.1 * x.2) (x.2 * y.2)
theorem lby_ok {p : Int × Int} {k : Int} {s : Store} (hp : AmOk p) (hk : k.natAbs ≤ 1) : m__law_by [eAm p, .tup [.int k, .int 1]] s = .ok (eF (lby p k)) s := by
  have c41 : (2 : Nat) ^ 41 = 2199023255552 := by decide
  obtain ⟨a, b, c, d⟩ := hp
  have m1 := mulN (i := p.1) (j := k) (n := 41) (m := 1) (by rw [c41]; omega) (by omega) (by omega) (by omega)
  have m2 := mulN (i := p.2) (j := 1) (n := 41) (m := 1) (by rw [c41]; omega) (by decide) (by omega) (by omega)
  have b1 : (p.1 * k).natAbs < 2 ^ 41 := by
    rw [Int.natAbs_mul]
    refine Nat.lt_of_le_of_lt (Nat.mul_le_mul (Nat.le_refl _) hk) (by rw [c41]; omega)
  have b2 : (p.2 * 1).natAbs < 2 ^ 41 := by rw [c41]; omega
  have l := llow_ok (a := p.1 * k) (b := p.2 * 1) (s := s) (by omega) (by have := abs_log b1 (by omega); omega) (by have := abs_log b2 (by omega); omega)
  have i0 : fIx (eAm p) (.int 0) = some (.int p.1) := rfl
  have i1 : fIx (eAm p) (.int 1) = some (.int p.2) := rfl
  have j0 : fIx (.tup [.int k, .int 1]) (.int 0) = some (.int k) := rfl
  have j1 : fIx (.tup [.int k, .int 1]) (.int 1) = some (.int 1) := rfl
  have dr : s.deref (eAm p) = eAm p := rfl
  have dr2 : s.deref (.tup [.int k, .int 1]) = .tup [.int k, .int 1] := rfl
  unfold m__law_by b__law_by
  rw [mFn_run]
  show endD (mRet _ [.dat (eAm p), .dat (.tup [.int k, .int 1])] s) = _
  simp only [mRet_run, mCall_run, mCons_run, mOp_run, mIx_run, mPeek_run, mCon_run, mNil_run, List.getElem?_cons_succ, List.getElem?_cons_zero, R.bind_ok, dr, dr2, i0, i1, j0, j1, R.opt_some, m1, m2, List.length_cons, List.length_nil, Nat.reduceAdd, if_true, l, endD_rt]
  rfl
theorem lplus_ok {x y : Int × Int} {m : Nat} {s : Store} (hx : x.1.natAbs < 2 ^ m ∧ x.2.natAbs < 2 ^ m ∧ 0 < x.2) (hy : y.1.natAbs < 2 ^ 41 ∧ y.2.natAbs < 2 ^ 41 ∧ 0 < y.2) (hm : 0 < m ∧ m ≤ 8000) : m__law_plus [eF x, eF y] s = .ok (eF (lplus x y)) s := by
  have m1 := mulN (i := x.1) (j := y.2) hx.1 hy.2.1 (by omega) (by omega)
  have m2 := mulN (i := y.1) (j := x.2) hy.1 hx.2.1 (by omega) (by omega)
  have m3 := mulN (i := x.2) (j := y.2) hx.2.1 hy.2.1 (by omega) (by omega)
  have hpos := Int.mul_pos hx.2.2 hy.2.2
  have t1 : (x.1 * y.2).natAbs.log2 < m + 41 := mul_log (abs_log hx.1 (by omega)) (abs_log hy.2.1 (by omega))
  have t2 : (y.1 * x.2).natAbs.log2 < m + 41 := by
    have := mul_log (abs_log hy.1 (by omega)) (abs_log hx.2.1 (by omega))
    omega
  have t3 : (x.2 * y.2).natAbs.log2 < m + 41 := mul_log (abs_log hx.2.1 (by omega)) (abs_log hy.2.1 (by omega))
  have t4 : (x.1 * y.2 + y.1 * x.2).natAbs.log2 < m + 42 := by
    have := sub_log (a := x.1 * y.2) (b := -(y.1 * x.2)) t1 (by simpa using t2)
    rw [Int.sub_neg] at this
    omega
  have l := llow_ok (a := x.1 * y.2 + y.1 * x.2) (b := x.2 * y.2) (s := s) hpos (by omega) (by omega)
  have i0 : ∀ p : Int × Int, fIx (eF p) (.int 0) = some (.int p.1) := fun _ => rfl
  have i1 : ∀ p : Int × Int, fIx (eF p) (.int 1) = some (.int p.2) := fun _ => rfl
  have dr : ∀ p : Int × Int, s.deref (eF p) = eF p := fun _ => rfl
  unfold m__law_plus b__law_plus
  rw [mFn_run]
  show endD (mRet _ [.dat (eF x), .dat (eF y)] s) = _
  simp only [mRet_run, mCall_run, mCons_run, mOp_run, mIx_run, mPeek_run, mCon_run, mNil_run, List.getElem?_cons_succ, List.getElem?_cons_zero, R.bind_ok, dr, i0, i1, R.opt_some, m1, m2, m3, fAdd_ii, List.length_cons, List.length_nil, Nat.reduceAdd, if_true, l, endD_rt]
  rfl
/-- both come to the same -/
structure Both (m : Nat) (r x : Int × Int) : Prop where
  eq : r.1 * x.2 = x.1 * r.2
  rp : 0 < r.2
  xp : 0 < x.2
  b : x.1.natAbs < 2 ^ m ∧ x.2.natAbs < 2 ^ m
theorem lby_spec {p : Int × Int} {k : Int} (hp : AmOk p) (hk : k.natAbs ≤ 1) : (lby p k).1 * p.2 = p.1 * k * (lby p k).2 ∧ 0 < (lby p k).2 ∧ (lby p k).1.natAbs < 2 ^ 41 ∧ (lby p k).2.natAbs < 2 ^ 41 := by
  have c41 : (2 : Nat) ^ 41 = 2199023255552 := by decide
  obtain ⟨a, b, c, d⟩ := hp
  obtain ⟨h1, h2, h3, h4⟩ := lowL_spec (a := p.1 * k) (b := p.2 * 1) (by omega)
  have h1 : (lby p k).1 * (p.2 * 1) = p.1 * k * (lby p k).2 := h1
  rw [Int.mul_one] at h1
  refine ⟨h1, h2, Nat.lt_of_le_of_lt h3 ?_, Nat.lt_of_le_of_lt h4 (by rw [c41]; omega)⟩
  rw [Int.natAbs_mul]
  exact Nat.lt_of_le_of_lt (Nat.mul_le_mul (Nat.le_refl _) hk) (by rw [c41]; omega)
theorem both_step {m : Nat} {r x p : Int × Int} {k : Int} (h : Both m r x) (hp : AmOk p) (hk : k.natAbs ≤ 1) : Both (m + 42) (sstep r (k, p)) (lplus x (lby p k)) := by
  obtain ⟨e1, e2, e3, e4⟩ := lby_spec hp hk
  have hv := Int.mul_pos h.xp e2
  obtain ⟨g1, g2, g3, g4⟩ := lowL_spec (a := x.1 * (lby p k).2 + (lby p k).1 * x.2) (b := x.2 * (lby p k).2) hv
  have hrp := h.rp
  have hxp := h.xp
  have heq := h.eq
  obtain ⟨hb1, hb2⟩ := h.b
  obtain ⟨pa, pb, pc, pd⟩ := hp
  have e : 2 ^ (m + 42) = 2 ^ m * 4398046511104 := by rw [Nat.pow_add]; rfl
  have c41 : (2 : Nat) ^ 41 = 2199023255552 := by decide
  rw [c41] at e3 e4
  clear c41
  have x3 : 0 < 2 ^ m := Nat.pow_pos (by omega)
  obtain ⟨P, hP⟩ : ∃ P, P = 2 ^ m := ⟨_, rfl⟩
  rw [← hP] at hb1 hb2 e x3
  refine ⟨?_, Int.mul_pos hrp (show (0 : Int) < p.2 by omega), g2, Nat.lt_of_le_of_lt g3 ?_, Nat.lt_of_le_of_lt g4 ?_⟩
  · show (r.1 * p.2 + k * p.1 * r.2) * (lplus x (lby p k)).2 = (lplus x (lby p k)).1 * (r.2 * p.2)
    have g1 : (lplus x (lby p k)).1 * (x.2 * (lby p k).2) = (x.1 * (lby p k).2 + (lby p k).1 * x.2) * (lplus x (lby p k)).2 := g1
    generalize lplus x (lby p k) = z at *
    generalize lby p k = y at *
    have cancel : (x.2 * y.2) * ((r.1 * p.2 + k * p.1 * r.2) * z.2) = (x.2 * y.2) * (z.1 * (r.2 * p.2)) := by
      have a1 : (x.2 * y.2) * (z.1 * (r.2 * p.2)) = (z.1 * (x.2 * y.2)) * (r.2 * p.2) := by grind
      rw [a1, g1]
      have a2 : (x.1 * y.2 + y.1 * x.2) * z.2 * (r.2 * p.2) = ((x.1 * r.2) * p.2 * y.2 + (y.1 * p.2) * r.2 * x.2) * z.2 := by grind
      rw [a2, ← heq, e1]
      grind
    exact Int.eq_of_mul_eq_mul_left (Int.ne_of_gt hv) cancel
  · rw [e]
    have x2 : ((lby p k).1 * x.2).natAbs ≤ 2199023255552 * P := by
      rw [Int.natAbs_mul]; exact Nat.mul_le_mul (by omega) (by omega)
    have x5 : (x.1 * (lby p k).2).natAbs < P * 2199023255552 := by
      rw [Int.natAbs_mul]; exact Nat.mul_lt_mul'' hb1 e4
    omega
  · rw [e]
    rw [Int.natAbs_mul]
    exact Nat.lt_of_lt_of_le (Nat.mul_lt_mul'' hb2 e4) (Nat.mul_le_mul_left P (by decide))
theorem both_sign {m : Nat} {r x : Int × Int} (h : Both m r x) : (r.1 = 0 ↔ x.1 = 0) ∧ (0 < r.1 ↔ 0 < x.1) := by
  have e := h.eq
  have h1 := h.rp
  have h2 := h.xp
  constructor
  · constructor
    · intro z
      rw [z, Int.zero_mul] at e
      rcases Int.mul_eq_zero.mp e.symm with h | h <;> omega
    · intro z
      rw [z, Int.zero_mul] at e
      rcases Int.mul_eq_zero.mp e with h | h <;> omega
  · constructor
    · intro z
      have := Int.mul_pos z h2
      rw [e] at this
      exact Int.pos_of_mul_pos_left this h1
    · intro z
      have := Int.mul_pos z h1
      rw [← e] at this
      exact Int.pos_of_mul_pos_left this h2
end PD
set_option maxRecDepth 100000
set_option maxHeartbeats 4000000
set_option exponentiation.threshold 20
namespace PD
open PySem PySem.Spec PyProof.Rows L2
/-! ## keeps: the law's and the program's -/
theorem for_allm {α : Type} {I : Env → Prop} {t : Tg} {b : MS} {s : Store} (enc : α → D) (f : α → Bool) : ∀ (xs : List α) (Γ : Env), I Γ → (∀ x ∈ xs, ∀ Γ, I Γ → ∃ Γ1, bindT t (enc x) Γ = some Γ1 ∧ (f x = true → ∃ Γ', b Γ1 s = .ok (.nx Γ') s ∧ I Γ') ∧ (f x = false → b Γ1 s = .ok (.rt (.bl false)) s)) →
    ∃ Γ', I Γ' ∧ forGo t b (xs.map enc) Γ s = .ok (if xs.all f = true then .nx Γ' else .rt (.bl false)) s
  | [], Γ, h, _ => ⟨Γ, h, rfl⟩
  | d :: ds, Γ, h, hb => by
    obtain ⟨Γ1, e1, ht, hf⟩ := hb d List.mem_cons_self Γ h
    cases hd : f d with
    | true =>
      obtain ⟨Γ', e2, hI⟩ := ht hd
      obtain ⟨Γ2, hI2, e3⟩ := for_allm enc f ds Γ' hI fun d hd => hb d (List.mem_cons_of_mem _ hd)
      refine ⟨Γ2, hI2, ?_⟩
      rw [List.map_cons]
      unfold forGo
      rw [e1]
      show (b Γ1 s).bind _ = _
      rw [e2]
      show forGo t b (ds.map enc) Γ' s = _
      rw [e3, List.all_cons, hd, Bool.true_and]
    | false =>
      refine ⟨Γ, h, ?_⟩
      rw [List.map_cons]
      unfold forGo
      rw [e1]
      show (b Γ1 s).bind _ = _
      rw [hf hd, List.all_cons, hd, Bool.false_and]
      rfl
abbrev kB : MS := mSeq (mAsg 6 (mSd (mOp fSub (mBlt fInt (mCons (mOp fIn (mPeek 4) (mIx (mPeek 2) (mCon (.int 1)))) mNil)) (mBlt fInt (mCons (mOp fIn (mPeek 4) (mIx (mPeek 2) (mCon (.int 2)))) mNil)))))
  (mAsg 3 (mSd (mCall 2 m__law_plus (mCons (mVar 3) (mCons (mCall 2 m__law_by (mCons (mVar 5) (mCons (mTup (mCons (mVar 6) (mCons (mCon (.int 1)) mNil))) mNil))) mNil)))))
theorem fInt_bl (b : Bool) : fInt [.bl b] = some (.int (if b then 1 else 0)) := by cases b <;> rfl
theorem kB_ok {x0 x1 x6 x7 : SV} {f : Fct} {x p : Int × Int} {j m : Nat} {s : Store} (hx : x.1.natAbs < 2 ^ m ∧ x.2.natAbs < 2 ^ m ∧ 0 < x.2) (hp : AmOk p) (hm : 0 < m ∧ m ≤ 8000) :
    kB [x0, x1, .dat (eFc f), .dat (eF x), .dat (.int j), .dat (eAm p), x6, x7] s = .ok (.nx [x0, x1, .dat (eFc f), .dat (eF (lplus x (lby p (sideI f j)))), .dat (.int j), .dat (eAm p), .dat (.int (sideI f j)), x7]) s := by
  have i1 := in_nat j f.a
  have i2 := in_nat j f.b
  have e1 := lby_ok (s := s) hp (side_le f j)
  obtain ⟨b1, b2, b3, b4⟩ := lby_spec hp (side_le f j)
  have e2 := lplus_ok (s := s) hx ⟨b3, b4, b2⟩ hm
  have sd : (mOp fSub (mBlt fInt (mCons (mOp fIn (mPeek 4) (mIx (mPeek 2) (mCon (.int 1)))) mNil)) (mBlt fInt (mCons (mOp fIn (mPeek 4) (mIx (mPeek 2) (mCon (.int 2)))) mNil))) [x0, x1, .dat (eFc f), .dat (eF x), .dat (.int j), .dat (eAm p), x6, x7] s = .ok (.int (sideI f j)) s := by
    simp only [mOp_run, mBlt_run, mCons_run, mPeek_run, mIx_run, mCon_run, mNil_run, List.getElem?_cons_succ, List.getElem?_cons_zero, R.bind_ok, deref_fc, fc1, fc2, R.opt_some, i1, i2, fInt_bl, fSub_ii]
    unfold sideI ind
    simp
  simp only [kB, mSeq_run, mAsg_run, mSd_run, sd, R.bind_ok, List.set_cons_succ, List.set_cons_zero, mCall_run, mCons_run, mVar_run, mTup_run, mCon_run, mNil_run, List.getElem?_cons_succ, List.getElem?_cons_zero]
  rw [few_ok _ _ (by simp)]
  simp only [R.opt_some, R.bind_ok, List.length_cons, List.length_nil, Nat.reduceAdd, if_true, e1, e2, List.set_cons_succ, List.set_cons_zero]
theorem k_loop {x0 x1 x7 : SV} {f : Fct} {s : Store} : ∀ (as : List (Int × Int)) (j m : Nat) (r x : Int × Int) (x4 x5 x6 : SV), (∀ a ∈ as, AmOk a) → Both m r x → 0 < m → m + 42 * as.length ≤ 8000 →
    ∃ y4 y5 y6 x' m', forGo (.tp [.nm 4, .nm 5]) kB (enumD j (as.map eAm)) [x0, x1, .dat (eFc f), .dat (eF x), x4, x5, x6, x7] s = .ok (.nx [x0, x1, .dat (eFc f), .dat (eF x'), y4, y5, y6, x7]) s ∧ Both m' (pf (sideI f) j r as) x'
  | [], j, m, r, x, x4, x5, x6, _, hb, _, _ => ⟨x4, x5, x6, x, m, rfl, hb⟩
  | a :: as, j, m, r, x, x4, x5, x6, ha, hb, h0, hm => by
    rw [List.length_cons] at hm
    have h1 := ha a List.mem_cons_self
    have e := kB_ok (x0 := x0) (x1 := x1) (x6 := x6) (x7 := x7) (f := f) (x := x) (p := a) (j := j) (m := m) (s := s) ⟨hb.b.1, hb.b.2, hb.xp⟩ h1 (by omega)
    obtain ⟨y4, y5, y6, x', m', ih, ih2⟩ := k_loop (x0 := x0) (x1 := x1) (x7 := x7) (f := f) (s := s) as (j + 1) (m + 42) (sstep r (sideI f j, a)) (lplus x (lby a (sideI f j))) (.dat (.int j)) (.dat (eAm a)) (.dat (.int (sideI f j))) (fun b hb => ha b (List.mem_cons_of_mem _ hb)) (both_step hb h1 (side_le f j)) (by omega) (by omega)
    refine ⟨y4, y5, y6, x', m', ?_, ih2⟩
    show ((kB [x0, x1, .dat (eFc f), .dat (eF x), .dat (.int j), .dat (eAm a), x6, x7] s).bind _) = _
    rw [e]
    exact ih
theorem comes_pf {n : Nat} {f : Fct} {as : List (Int × Int)} (h : as.length ≤ n) : comes n f as = pf (sideI f) 0 (-f.k, 1) as := by
  unfold comes fline flow
  rw [List.range_eq_range']
  exact pf_zip _ _ as 0 n _ h
abbrev kG : MS := mAsg 7 (mSd (mOrV (mOp fGt (mIx (mPeek 3) (mCon (.int 0))) (mCon (.int 0))) (mAndV (mOp fEq (mIx (mPeek 3) (mCon (.int 0))) (mCon (.int 0))) (mOp fNe (mIx (mPeek 2) (mCon (.int 0))) (mCon (.str "more"))))))
abbrev kI : MS := mIf (mOrT (mNotT (mTest (mVar 7))) (mAndT (mTest (mOp fEq (mIx (mPeek 2) (mCon (.int 0))) (mCon (.str "same")))) (mTest (mOp fNe (mIx (mPeek 3) (mCon (.int 0))) (mCon (.int 0)))))) (mRet (mCon (.bl false))) mNext
abbrev kF : MS := mSeq (mAsg 3 (mSd (mTup (mCons (mOp1 fNeg (mIx (mPeek 2) (mCon (.int 3)))) (mCons (mCon (.int 1)) mNil)))))
  (mSeq (mFor (mRng fEnum (mCons (mVar 1) mNil)) (.tp [(.nm 4), (.nm 5)]) kB) (mSeq kG kI))
def goodB (f : Fct) (t : Int) : Bool := decide (0 < t) || (decide (t = 0) && !(f.w == ("more" : Str)))
theorem word_ne {x y : Str} (h1 : strFine x = true) (h2 : strFine y = true) : fNe (.str x) (.str y) = some (.bl (!(x == y))) := by
  unfold fNe
  rw [if_pos (by simp [D.fine, h1, h2])]
  rfl
theorem kG_ok {x0 x1 x4 x5 x6 x7 : SV} {f : Fct} {n : Nat} {x : Int × Int} {s : Store} (hf : f.Ok n) : kG [x0, x1, .dat (eFc f), .dat (eF x), x4, x5, x6, x7] s = .ok (.nx [x0, x1, .dat (eFc f), .dat (eF x), x4, x5, x6, .dat (.bl (goodB f x.1))]) s := by
  have i0 : fIx (eF x) (.int 0) = some (.int x.1) := rfl
  have dr : s.deref (eF x) = eF x := rfl
  have w := word_ne (word_fine hf) more_fine
  have fe : fEq (.int x.1) (.int 0) = some (.bl (decide (x.1 = 0))) := by
    rw [fEq_ii]; rfl
  rw [kG, mAsg_run, mSd_run, or_b (p := decide (0 < x.1)) (q := decide (x.1 = 0) && !(f.w == ("more" : Str))) (by simp [dr, i0]) fun _ => and_b (p := decide (x.1 = 0)) (q := !(f.w == ("more" : Str))) (by simp [dr, i0, fe]) fun _ => by
    simp only [mOp_run, mIx_run, mPeek_run, mCon_run, List.getElem?_cons_succ, List.getElem?_cons_zero, R.bind_ok, deref_fc, fc0, R.opt_some, w]]
  rfl
theorem kI_ok {x0 x1 x4 x5 x6 : SV} {f : Fct} {n : Nat} {x : Int × Int} {s : Store} (hf : f.Ok n) : kI [x0, x1, .dat (eFc f), .dat (eF x), x4, x5, x6, .dat (.bl (goodB f x.1))] s = .ok (if (goodB f x.1 && !((f.w == ("same" : Str)) && !decide (x.1 = 0))) = true then .nx [x0, x1, .dat (eFc f), .dat (eF x), x4, x5, x6, .dat (.bl (goodB f x.1))] else .rt (.bl false)) s := by
  have i0 : fIx (eF x) (.int 0) = some (.int x.1) := rfl
  have dr : s.deref (eF x) = eF x := rfl
  have w := word_eq (word_fine hf) same_fine
  have fe : fNe (.int x.1) (.int 0) = some (.bl (!decide (x.1 = 0))) := by
    rw [fNe_ii]; rfl
  rw [kI, mIf_run, orT_b (p := !goodB f x.1) (q := (f.w == ("same" : Str)) && !decide (x.1 = 0)) (notT_b (test_b (by simp))) fun _ => andT_b (p := f.w == ("same" : Str)) (q := !decide (x.1 = 0)) (test_b (by
    simp only [mOp_run, mIx_run, mPeek_run, mCon_run, List.getElem?_cons_succ, List.getElem?_cons_zero, R.bind_ok, deref_fc, fc0, R.opt_some, w])) fun _ => test_b (by simp [dr, i0, fe])]
  generalize goodB f x.1 = g
  generalize hh : ((f.w == ("same" : Str)) && !decide (x.1 = 0)) = h
  cases g <;> cases h <;> rfl
theorem str_neq {x y : Str} (h : x ≠ y) : (x == y) = false := by
  cases e : x == y with
  | false => rfl
  | true => exact absurd (eq_of_beq e) h
theorem so_eq {f : Fct} {n m : Nat} {r x : Int × Int} (hf : f.Ok n) (h : Both m r x) : (goodB f x.1 && !((f.w == ("same" : Str)) && !decide (x.1 = 0))) = soB f r.1 := by
  obtain ⟨h1, h2⟩ := both_sign h
  unfold soB goodB
  have ms : ("more" : Str) ≠ ("same" : Str) := by decide +kernel
  have am : ("atleast" : Str) ≠ ("more" : Str) := by decide +kernel
  have as : ("atleast" : Str) ≠ ("same" : Str) := by decide +kernel
  have tri : ∀ {p q : Prop} [Decidable p] [Decidable q], (p ↔ q) → decide p = decide q := fun h => by rw [decide_eq_decide]; exact h
  rcases hf.w with e | e | e <;> rw [e]
  · rw [if_neg as, if_neg am, str_neq am, str_neq as]
    simp only [Bool.not_false, Bool.and_true, Bool.false_and]
    rw [← Bool.decide_or, decide_eq_decide]
    omega
  · rw [if_neg ms, if_pos rfl, str_neq ms, beq_self_eq_true]
    simp only [Bool.not_true, Bool.and_false, Bool.or_false, Bool.false_and, Bool.not_false, Bool.and_true]
    rw [decide_eq_decide]
    omega
  · rw [if_pos rfl, str_neq (Ne.symm ms), beq_self_eq_true]
    simp only [Bool.not_false, Bool.and_true, Bool.true_and, Bool.not_not]
    rw [← Bool.decide_or, ← Bool.decide_and, decide_eq_decide]
    omega
def keepsB (n : Nat) (fs : List Fct) (as : List (Int × Int)) : Bool := fs.all fun f => soB f (comes n f as).1
def eFs (fs : List Fct) : D := .tup (fs.map eFc)
theorem lkeeps_ok {n : Nat} {fs : List Fct} {as : List (Int × Int)} {s : Store} (hf : ∀ f ∈ fs, f.Ok n) (ha : ∀ a ∈ as, AmOk a) (hl : as.length = n) (hn : n ≤ 100) : m__law_keeps [eFs fs, eAs as] s = .ok (.bl (keepsB n fs as)) s := by
  obtain ⟨Γ', -, e⟩ := for_allm (I := fun Γ => ∃ x2 x3 x4 x5 x6 x7, Γ = [.dat (eFs fs), .dat (eAs as), x2, x3, x4, x5, x6, x7]) (t := .nm 2) (b := kF) (s := s) eFc (fun f => soB f (comes n f as).1) fs [.dat (eFs fs), .dat (eAs as), .nul, .nul, .nul, .nul, .nul, .nul] ⟨_, _, _, _, _, _, rfl⟩ fun f hfm Γ hI => by
    obtain ⟨x2, x3, x4, x5, x6, x7, rfl⟩ := hI
    have ok := hf f hfm
    have b0 : Both 10 (-f.k, 1) (-f.k, 1) := by
      have := ok.k
      have c10 : (2 : Nat) ^ 10 = 1024 := by decide
      refine ⟨rfl, show (0 : Int) < 1 by decide, show (0 : Int) < 1 by decide, ?_⟩
      rw [c10]
      constructor
      · show (-f.k).natAbs < 1024
        omega
      · show (1 : Int).natAbs < 1024
        decide
    obtain ⟨y4, y5, y6, x', m', el, bb⟩ := k_loop (x0 := .dat (eFs fs)) (x1 := .dat (eAs as)) (x7 := x7) (f := f) (s := s) as 0 10 (-f.k, 1) (-f.k, 1) x4 x5 x6 ha b0 (by omega) (by omega)
    rw [← comes_pf (n := n) (by omega)] at bb
    have en : fEnum [eAs as] = some (enumD 0 (as.map eAm)) := rfl
    have run : kF [.dat (eFs fs), .dat (eAs as), .dat (eFc f), x3, x4, x5, x6, x7] s = kI [.dat (eFs fs), .dat (eAs as), .dat (eFc f), .dat (eF x'), y4, y5, y6, .dat (.bl (goodB f x'.1))] s := by
      have a1 : mAsg 3 (mSd (mTup (mCons (mOp1 fNeg (mIx (mPeek 2) (mCon (.int 3)))) (mCons (mCon (.int 1)) mNil)))) [.dat (eFs fs), .dat (eAs as), .dat (eFc f), x3, x4, x5, x6, x7] s = .ok (.nx [.dat (eFs fs), .dat (eAs as), .dat (eFc f), .dat (eF (-f.k, 1)), x4, x5, x6, x7]) s := by
        simp only [mAsg_run, mSd_run, mTup_run, mCons_run, mOp1_run, mIx_run, mPeek_run, mCon_run, mNil_run, List.getElem?_cons_succ, List.getElem?_cons_zero, R.bind_ok, deref_fc, fc3, R.opt_some, fNeg_i]
        rw [few_ok _ _ (by simp)]
        rfl
      rw [kF, mSeq_run, a1]
      simp only [R.bind_ok]
      rw [mSeq_run, mFor_run]
      simp only [mRng_run, mCons_run, mVar_run, mNil_run, List.getElem?_cons_succ, List.getElem?_cons_zero, R.bind_ok, en, R.opt_some, el]
      rw [mSeq_run, kG_ok ok]
      rfl
    refine ⟨[.dat (eFs fs), .dat (eAs as), .dat (eFc f), x3, x4, x5, x6, x7], rfl, fun h => ?_, fun h => ?_⟩
    · refine ⟨[.dat (eFs fs), .dat (eAs as), .dat (eFc f), .dat (eF x'), y4, y5, y6, .dat (.bl (goodB f x'.1))], ?_, _, _, _, _, _, _, rfl⟩
      rw [run, kI_ok ok, so_eq ok bb, h, if_pos rfl]
    · rw [run, kI_ok ok, so_eq ok bb, h, if_neg (by decide)]
  have it : fItems (eFs fs) = some (fs.map eFc) := rfl
  unfold m__law_keeps b__law_keeps
  rw [mFn_run]
  show endD (mSeq (mFor (mItems (mVar 0)) (.nm 2) kF) (mRet (mCon (.bl true))) [.dat (eFs fs), .dat (eAs as), .nul, .nul, .nul, .nul, .nul, .nul] s) = _
  rw [mSeq_run, mFor_run]
  simp only [mItems_run, mVar_run, List.getElem?_cons_zero, R.bind_ok, it, R.opt_some, e]
  unfold keepsB
  cases fs.all fun f => soB f (comes n f as).1 <;> simp
/-! ### the program's -/
theorem nfacts_ok {d dd : D} {n L m : Nat} {s : Store} (h : Gd L m d) (hd : fLen [dd] = some (.int n)) (hn : n ≤ 1000) (hg : isFacts n d = true) : m_need_facts [dd, d] s = .ok .non s := by
  have e := facts_ok (s := s) h hd hn
  unfold m_need_facts b_need_facts
  rw [mFn_run]
  show endD (mIf _ _ _ [.dat dd, .dat d] s) = _
  rw [mIf_run, notT_b (p := isFacts n d) (test_b (by simp [e])), hg]
  rfl
theorem namts_ok {d dd : D} {n L m : Nat} {s : Store} (h : Gd L m d) (hd : fLen [dd] = some (.int n)) (hn : n ≤ 1000) (hg : isAmts n d = true) : m_need_amounts [dd, d] s = .ok .non s := by
  have e := amts_ok (s := s) h hd hn
  unfold m_need_amounts b_need_amounts
  rw [mFn_run]
  show endD (mIf _ _ _ [.dat dd, .dat d] s) = _
  rw [mIf_run, notT_b (p := isAmts n d) (test_b (by simp [e])), hg]
  rfl
theorem nasked_ok {d dd : D} {n L m : Nat} {s : Store} (hg : Ty2 dd) (hdd : isDebts dd = true) (h : Gd L m d) (hd : fLen [dd] = some (.int n)) (hn : n ≤ 1000) (hf : isFacts n d = true) : m_need_asked [dd, d] s = .ok .non s := by
  have e1 := ndebts_ok (s := s) hg hdd
  have e2 := nfacts_ok (s := s) h hd hn hf
  simp [m_need_asked, b_need_asked, mFn_run, startE, e1, e2]
theorem keeps_ok {dd : D} {n L m m' : Nat} {fs : List Fct} {as : List (Int × Int)} {s : Store} (hg : Ty2 dd) (hdd : isDebts dd = true) (hd : fLen [dd] = some (.int n)) (hn : n ≤ 100) (gf : Gd L m (eFs fs)) (hfs : isFacts n (eFs fs) = true) (ga : Gd L m' (eAs as)) (has : isAmts n (eAs as) = true)
    (hf : ∀ f ∈ fs, f.Ok n) (hfl : fs.length ≤ 1000) (ha : ∀ a ∈ as, AmOk a) (hl : as.length = n) : m_keeps [dd, eFs fs, eAs as] s = .ok (.bl (keepsB n fs as)) s := by
  have e1 := nasked_ok (s := s) hg hdd gf hd (by omega) hfs
  have e2 := namts_ok (s := s) ga hd (by omega) has
  have al : (mBlt fAll (mCons (mFrz (mLcL (mItems (mVar 1)) (.nm 3) mYes (mCall 3 m_is_so (mCons (mVar 0) (mCons (mVar 3) (mCons (mVar 2) mNil)))) [3])) mNil)) [.dat dd, .dat (eFs fs), .dat (eAs as), .nul] s = .ok (.bl (keepsB n fs as)) s :=
    all_runm eFc (fun f => soB f (comes n f as).1) (by simp [fItems, eFs]) (by omega) fun f hfm => ⟨_, rfl, by
      have := isso_ok (s := s) hd (hf f hfm) ha hl (by omega)
      simp [this]⟩
  unfold m_keeps b_keeps
  rw [mFn_run]
  show endD (mSeq _ _ [.dat dd, .dat (eFs fs), .dat (eAs as), .nul] s) = _
  simp only [mSeq_run, mDrop_run, mCall_run, mCons_run, mVar_run, mNil_run, List.getElem?_cons_succ, List.getElem?_cons_zero, R.bind_ok, List.length_cons, List.length_nil, Nat.reduceAdd, if_true, e1, e2, mRet_run, al, endD_rt]
end PD
set_option maxRecDepth 100000
set_option maxHeartbeats 4000000
set_option exponentiation.threshold 20
namespace PD
open PySem PySem.Spec PyProof.Rows L2

/-! ## the law's own: out -/
theorem deref_cel {s : Store} {ci : Nat} {b : List Int} (h : s[ci]? = some (.lst (b.map .int))) : s.deref (.cel ci) = eL b := by
  show s.lstAt ci = _
  unfold Store.lstAt
  rw [h]; rfl
abbrev loB : MS := mIf (mAndT (mTest (mOp fGt (mIx (mPeek 5) (mVar 2)) (mCon (.int 0)))) (mTest (mOp fIs (mPeek 3) (mCon .non)))) (mAsg 3 (mSd (mVar 4))) (mIf (mTest (mOp fGt (mIx (mPeek 5) (mVar 2)) (mCon (.int 0)))) (mSeq (mAsg 6 (mSd (mOp fMul (mIx (mPeek 5) (mOp1 fNeg (mCon (.int 1)))) (mIx (mIx (mPeek 0) (mVar 3)) (mVar 2)))))
  (mSeq (mAsg 7 (mSd (mOp fSub (mPeek 6) (mOp fMul (mIx (mIx (mPeek 0) (mVar 3)) (mOp1 fNeg (mCon (.int 1)))) (mIx (mPeek 5) (mVar 2))))))
  (mIf (mOrT (mTest (mOp fLt (mPeek 7) (mCon (.int 0)))) (mAndT (mTest (mOp fEq (mPeek 7) (mCon (.int 0)))) (mTest (mOp fLt (mIx (mPeek 1) (mVar 4)) (mIx (mPeek 1) (mVar 3)))))) (mAsg 3 (mSd (mVar 4))) mNext))) mNext)
theorem lo_step {t : List (List Int)} {basis : List Int} {n k i ci : Nat} {line : List Int} {f : Option Nat} {x6 x7 : SV} {s : Store} (hc : s[ci]? = some (.lst (basis.map .int))) (ht : TabOk t n) (hk : k < n) (hl : line.length = n) (hs : SmL line) (hi : i < basis.length) (hb : basis.length = t.length) (hf : ∀ g, f = some g → g < t.length) :
    ∃ y6 y7, loB [.dat (eT t), .dat (.cel ci), .dat (.int k), .dat (eO f), .dat (.int i), .dat (eL line), x6, x7] s = .ok (.nx [.dat (eT t), .dat (.cel ci), .dat (.int k), .dat (eO (leavS t basis k f i line)), .dat (.int i), .dat (eL line), y6, y7]) s := by
  have e0 := fIx_nat (xs := line) (hl ▸ hk)
  have e1 := fIx_last (xs := line) (by have := ht.pos; omega)
  have e2 := fIx_nat (xs := basis) hi
  have dc := deref_cel hc
  by_cases h0 : 0 < nth line k
  · cases f with
    | none =>
      refine ⟨x6, x7, ?_⟩
      simp [loB, e0, h0, eO, leavS]
    | some g =>
      have hg := hf g rfl
      obtain ⟨rl, rs⟩ := ht.row hg
      have e3 := fIx_row hg
      have e4 := fIx_nat (xs := row t g) (rl ▸ hk)
      have e5 := fIx_last (xs := row t g) (by have := ht.pos; omega)
      have e6 := fIx_nat (xs := basis) (hb ▸ hg)
      have m1 := fMul_sm (show Sm (lastD line) from hs.get _) (rs.get k)
      have m2 := fMul_sm (show Sm (lastD (row t g)) from rs.get _) (hs.get k)
      refine ⟨.dat (.int (lastD line * nth (row t g) k)), .dat (.int (lastD line * nth (row t g) k - lastD (row t g) * nth line k)), ?_⟩
      have hn : nearer t basis k i line g = (decide (lastD line * nth (row t g) k < lastD (row t g) * nth line k) || (lastD line * nth (row t g) k == lastD (row t g) * nth line k && decide (nth basis i < nth basis g))) := rfl
      generalize lastD line * nth (row t g) k = p at m1 hn ⊢
      generalize lastD (row t g) * nth line k = q at m2 hn ⊢
      have hh : ¬ (p - q < 0) ↔ ¬ p < q := by omega
      by_cases h1 : p < q
      · have hn : nearer t basis k i line g = true := by rw [hn]; simp [h1]
        have h1' : p - q < 0 := by omega
        simp [loB, e0, e1, e2, e3, e4, e5, e6, dc, h0, eO, leavS, m1, m2, hn, h1']
      · have h1' : ¬ p - q < 0 := by omega
        by_cases h2 : p = q
        · have h2' : p - q = 0 := by omega
          by_cases h3 : nth basis i < nth basis g
          · have hn : nearer t basis k i line g = true := by rw [hn]; simp [h2, h3]
            simp [loB, e0, e1, e2, e3, e4, e5, e6, dc, h0, eO, leavS, m1, m2, hn, h2', h3]
          · have hn : nearer t basis k i line g = false := by rw [hn]; simp [h2, h3]
            simp [loB, e0, e1, e2, e3, e4, e5, e6, dc, h0, eO, leavS, m1, m2, hn, h2', h3]
        · have hn : nearer t basis k i line g = false := by rw [hn]; simp [h1, h2]
          have h2' : (p - q == 0) = false := by simp; omega
          simp [loB, e0, e1, e2, e3, e4, e5, e6, dc, h0, eO, leavS, m1, m2, hn, h1', h2']
  · refine ⟨x6, x7, ?_⟩
    simp [loB, e0, h0, leavS]
theorem lo_loop {t : List (List Int)} {basis : List Int} {n k ci : Nat} {s : Store} (hc : s[ci]? = some (.lst (basis.map .int))) (ht : TabOk t n) (hk : k < n) (hb : basis.length = t.length) : ∀ (ls : List (List Int)) (i : Nat) (f : Option Nat) (x4 x5 x6 x7 : SV), (∀ l ∈ ls, l ∈ t) → i + ls.length = t.length → (∀ g, f = some g → g < t.length) →
    ∃ y4 y5 y6 y7, forGo (.tp [.nm 4, .nm 5]) loB (enumD i (ls.map eL)) [.dat (eT t), .dat (.cel ci), .dat (.int k), .dat (eO f), x4, x5, x6, x7] s = .ok (.nx [.dat (eT t), .dat (.cel ci), .dat (.int k), .dat (eO (leavG t basis k i ls f)), y4, y5, y6, y7]) s
  | [], i, f, x4, x5, x6, x7, _, _, _ => ⟨x4, x5, x6, x7, rfl⟩
  | l :: ls, i, f, x4, x5, x6, x7, hm, hi, hf => by
    obtain ⟨y6, y7, e⟩ := lo_step (x6 := x6) (x7 := x7) (s := s) hc ht hk (ht.len l (hm l List.mem_cons_self)) (ht.sm l (hm l List.mem_cons_self)) (i := i) (by rw [hb, ← hi]; simp) hb hf
    obtain ⟨z4, z5, z6, z7, ih⟩ := lo_loop (s := s) hc ht hk hb ls (i + 1) (leavS t basis k f i l) (.dat (.int i)) (.dat (eL l)) y6 y7 (fun l hl => hm l (List.mem_cons_of_mem _ hl)) (by rw [← hi]; simp; omega) (leavS_lt (by rw [← hi]; simp) hf)
    refine ⟨z4, z5, z6, z7, ?_⟩
    rw [List.map_cons]
    show (match bindT (.tp [.nm 4, .nm 5]) (.tup [.int i, eL l]) [.dat (eT t), .dat (.cel ci), .dat (.int k), .dat (eO f), x4, x5, x6, x7] with
      | none => R.bad
      | some Γ1 => (loB Γ1 s).bind _) = _
    simp only [bindT, bindTs, Option.bind_some, List.set_cons_succ, List.set_cons_zero]
    rw [e]
    exact ih
theorem lout_ok {t : List (List Int)} {basis : List Int} {n k ci : Nat} {s : Store} (hc : s[ci]? = some (.lst (basis.map .int))) (ht : TabOk t n) (hk : k < n) (hb : basis.length = t.length) : m__law_out [eT t, .cel ci, .int k] s = .ok (eO (leav t basis k)) s := by
  obtain ⟨y4, y5, y6, y7, e⟩ := lo_loop (s := s) hc ht hk hb t 0 none .nul .nul .nul .nul (fun _ h => h) (by simp) (fun _ h => nomatch h)
  have e : forGo (.tp [.nm 4, .nm 5]) loB (enumD 0 (t.map eL)) [.dat (eT t), .dat (.cel ci), .dat (.int k), .dat .non, .nul, .nul, .nul, .nul] s = .ok (.nx [.dat (eT t), .dat (.cel ci), .dat (.int k), .dat (eO (leav t basis k)), y4, y5, y6, y7]) s := e
  unfold m__law_out
  rw [mFn_run]
  show endD (b__law_out [.dat (eT t), .dat (.cel ci), .dat (.int k), .nul, .nul, .nul, .nul, .nul] s) = _
  unfold b__law_out
  simp [e]
/-! ## one turn of _law_can -/
@[simp] theorem mSetC_run (a b c : Env → M D) (Γ : Env) (s : Store) : mSetC a b c Γ s = ((c Γ s).bind fun d s1 => (a Γ s1).bind fun o s2 => (b Γ s2).bind fun k s3 => match o, k with
  | .cel i, .int k => (match s3[i]? with
    | some (.lst ds) => (match ixN ds.length k with
      | some j => .ok (.nx Γ) (s3.set i (.lst (ds.set j d)))
      | none => .bad)
    | _ => .bad)
  | _, _ => .bad) := rfl
def LP.pivL (x : LP) (k i : Nat) : LP := ⟨pivG x.t (row x.t i) k i 0 x.t, x.b.set i (k : Int), clr x.g (row x.t i) k⟩
theorem set_take {α : Type} {xs : List α} {i : Nat} {a : α} (h : i < xs.length) : xs.take i ++ [a] ++ xs.drop (i + 1) = xs.set i a := by
  rw [List.set_eq_take_append_cons_drop, if_pos h, List.append_assoc]; rfl
theorem LP.piv_eq {x : LP} {k i : Nat} (h : i < x.b.length) : x.pivL k i = x.piv k i := by
  unfold LP.pivL LP.piv
  rw [set_take h]
def canS : Nat → LP → Option Bool
  | 0, _ => none
  | n + 1, x => if lastD x.g = 0 then (match places x.g with
    | [] => some false
    | k :: _ => (match leav x.t x.b k with
      | none => none
      | some i => canS n (x.piv k i))) else some true
end PD
set_option maxRecDepth 100000
set_option maxHeartbeats 4000000
set_option exponentiation.threshold 20
namespace PD
open PySem PySem.Spec PyProof.Rows L2

abbrev caA : MS := mAsg 11 (mSd (mFrz (mLcL (mRng fRng1 (mCons (mOp fSub (mBlt fLen (mCons (mPeek 10) mNil)) (mCon (.int 1))) mNil)) (.nm 8) (mTest (mOp fGt (mIx (mPeek 10) (mVar 8)) (mCon (.int 0)))) (mVar 8) [8])))
abbrev caI : MS := mIf (mTest (mOp fEq (mPeek 11) (mLst mNil))) (mRet (mCon (.bl false))) mNext
abbrev caO : MS := mAsg 13 (mSd (mCall 3 m__law_out (mCons (mVar 7) (mCons (mVar 9) (mCons (mVar 12) mNil)))))
abbrev caP : MS := mPar [14, 15] (mRcons (mSd (mIx (mPeek 7) (mVar 13))) (mRcons (mSo (mLstO mNil)) mRnil))
abbrev caR : MS := mApp 15 (mIte (mOrT (mTest (mOp fEq (mPeek 8) (mPeek 13))) (mTest (mOp fEq (mIx (mPeek 4) (mVar 12)) (mCon (.int 0))))) (mVar 4) (mCall 3 m__law_clear (mCons (mVar 4) (mCons (mVar 14) (mCons (mVar 12) mNil)))))
abbrev caF : MS := mFor (mRng fEnum (mCons (mVar 7) mNil)) (.tp [(.nm 8), (.nm 4)]) caR
abbrev caG : MS := mGhost 15 (mPar [10, 7] (mRcons (mSd (mCall 3 m__law_clear (mCons (mVar 10) (mCons (mVar 14) (mCons (mVar 12) mNil))))) (mRcons (mSd (mVar 15)) mRnil)))
abbrev caS : MS := mSetC (mVar 9) (mVar 13) (mVar 12)
abbrev caB : MS := mSeq caA (mSeq caI (mSeq (mAsg 12 (mSd (mIx (mPeek 11) (mCon (.int 0))))) (mSeq caO (mSeq caP (mSeq caF (mSeq caG caS))))))
theorem caA_ok {x0 x1 x2 x3 x4 x5 x6 x7 x8 x9 x11 x12 x13 x14 x15 : SV} {g : List Int} {s : Store} (hl : g.length ≤ 1000) (h1 : 0 < g.length) : caA [x0, x1, x2, x3, x4, x5, x6, x7, x8, x9, .dat (eL g), x11, x12, x13, x14, x15] s = .ok (.nx [x0, x1, x2, x3, x4, x5, x6, x7, x8, x9, .dat (eL g), .dat (natL (places g)), x12, x13, x14, x15]) s := by
  have e := places_run (Γ := [x0, x1, x2, x3, x4, x5, x6, x7, x8, x9, .dat (eL g), x11, x12, x13, x14, x15]) (s := s) (g := g) (gi := 10) (ai := 8) rfl (by simp) (by decide) hl h1
  simp only [List.set_cons_succ, List.set_cons_zero] at e
  have e0 : ((g.length : Int) - 1) = ((g.length - 1 : Nat) : Int) := by omega
  have e1 := fRng1_nat (n := g.length - 1) (by omega)
  have q : ((List.range (g.length - 1)).map fun (k : Nat) => D.int (k : Int)).length ≤ 100000 := by rw [List.length_map, List.length_range]; omega
  have z : D.lst ((places g).map fun (k : Nat) => D.int (k : Int)) = natL (places g) := by simp [natL]
  simp only [caA, mAsg_run, mSd_run, mFrz_run, mLcL_run, mRng_run, mCons_run, mOp_run, mBlt_run, mPeek_run, mNil_run, mCon_run, List.getElem?_cons_succ, List.getElem?_cons_zero, R.bind_ok, fLen_eL, R.opt_some, fSub_ii, e0, e1, wipeE, List.set_cons_succ, List.set_cons_zero]
  rw [if_pos q, e]
  simp only [R.bind_ok, z, List.set_cons_succ, List.set_cons_zero]
theorem ca_rows {x0 x1 x2 x3 x5 x6 x7 x9 x10 x11 : SV} {t : List (List Int)} {p : List Int} {n k i : Nat} {s : Store} (ht : TabOk t n) (hp : p.length = n ∧ SmL p) (hk : k < n) : ∀ (ls : List (List Int)) (j : Nat) (acc : List (List Int)) (x4 x8 : SV), (∀ l ∈ ls, l ∈ t) → (∀ (m : Nat) (l : List Int), ls[m]? = some l → j + m = i → l = p) → acc.length + ls.length ≤ 1000 →
    ∃ y4 y8, forGo (.tp [.nm 8, .nm 4]) caR (enumD j (ls.map eL)) [x0, x1, x2, x3, x4, x5, x6, x7, x8, x9, x10, x11, .dat (.int k), .dat (.int i), .dat (eL p), .own (acc.map eL)] s = .ok (.nx [x0, x1, x2, x3, y4, x5, x6, x7, y8, x9, x10, x11, .dat (.int k), .dat (.int i), .dat (eL p), .own ((acc ++ pivG t p k i j ls).map eL)]) s
  | [], j, acc, x4, x8, _, _, _ => ⟨x4, x8, by simp [enumD, forGo, pivG]⟩
  | l :: ls, j, acc, x4, x8, hm, hi, hz => by
    have hlt := hm l List.mem_cons_self
    have ll := ht.len l hlt
    have e0 := fIx_nat (xs := l) (k := k) (by omega)
    have lc := lclear_ok (s := s) (line := l) (pivot := p) (k := k) (ht.sm l hlt) hp.2 (by rw [ll, hp.1]) (by omega) (by have := ht.few; omega)
    obtain ⟨y4, y8, ih⟩ := ca_rows (x0 := x0) (x1 := x1) (x2 := x2) (x3 := x3) (x5 := x5) (x6 := x6) (x7 := x7) (x9 := x9) (x10 := x10) (x11 := x11) (s := s) (i := i) ht hp hk ls (j + 1) (acc ++ [if j = i then p else clr l p k]) (.dat (eL l)) (.dat (.int j)) (fun q hq => hm q (List.mem_cons_of_mem _ hq)) (fun m q hq he => hi (m + 1) q (by simpa using hq) (by omega)) (by simp at hz ⊢; omega)
    refine ⟨y4, y8, ?_⟩
    have st : caR [x0, x1, x2, x3, .dat (eL l), x5, x6, x7, .dat (.int j), x9, x10, x11, .dat (.int k), .dat (.int i), .dat (eL p), .own (acc.map eL)] s = .ok (.nx [x0, x1, x2, x3, .dat (eL l), x5, x6, x7, .dat (.int j), x9, x10, x11, .dat (.int k), .dat (.int i), .dat (eL p), .own ((acc ++ [if j = i then p else clr l p k]).map eL)]) s := by
      have ha : (acc.map eL).length < 100000 := by simp at hz ⊢; omega
      by_cases hj : j = i
      · have hlp : l = p := hi 0 l rfl (by omega)
        subst hj
        simp [caR, hlp]
        omega
      · have hj' : ((j : Int) == (i : Int)) = false := by simp; omega
        by_cases h0 : nth l k = 0
        · have hc : clr l p k = l := if_pos h0
          have h0' : (nth l k == 0) = true := by simpa using h0
          simp [caR, hj, hj', e0, h0', hc]
          omega
        · have hc : clr l p k = neatL (comb l p k) := if_neg h0
          have h0' : (nth l k == 0) = false := by simpa using h0
          simp [caR, hj, hj', e0, h0', hc, lc]
          omega
    rw [List.map_cons]
    show (match bindT (.tp [.nm 8, .nm 4]) (.tup [.int j, eL l]) [x0, x1, x2, x3, x4, x5, x6, x7, x8, x9, x10, x11, .dat (.int k), .dat (.int i), .dat (eL p), .own (acc.map eL)] with
      | none => R.bad
      | some Γ1 => (caR Γ1 s).bind _) = _
    simp only [bindT, bindTs, Option.bind_some, List.set_cons_succ, List.set_cons_zero]
    rw [st]
    have z : acc ++ pivG t p k i j (l :: ls) = acc ++ [if j = i then p else clr l p k] ++ pivG t p k i (j + 1) ls := by simp [pivG]
    rw [z]
    exact ih
theorem ca_step {x0 x1 x2 x3 x4 x5 x6 x8 x11 x12 x13 x14 x15 : SV} {x : LP} {n k i ci : Nat} {ks : List Nat} {s : Store} (ok : x.Ok n) (hc : s[ci]? = some (.lst (x.b.map .int))) (hp : places x.g = k :: ks) (hi : leav x.t x.b k = some i) :
    ∃ y4 y8, caB [x0, x1, x2, x3, x4, x5, x6, .dat (eT x.t), x8, .dat (.cel ci), .dat (eL x.g), x11, x12, x13, x14, x15] s = .ok (.nx [x0, x1, x2, x3, y4, x5, x6, .dat (eT (x.piv k i).t), y8, .dat (.cel ci), .dat (eL (x.piv k i).g), .dat (natL (places x.g)), .dat (.int k), .dat (.int i), .dat (eL (row x.t i)), .dat (eT (x.piv k i).t)]) (s.set ci (.lst ((x.piv k i).b.map .int))) := by
  obtain ⟨tok, hb, hg, sg⟩ := ok
  have hit := leav_lt hi
  have hk := places_lt (g := x.g) (k := k) (by rw [hp]; exact List.mem_cons_self)
  have hkn : k < n := by omega
  have few := tok.few
  have eA := caA_ok (x0 := x0) (x1 := x1) (x2 := x2) (x3 := x3) (x4 := x4) (x5 := x5) (x6 := x6) (x7 := .dat (eT x.t)) (x8 := x8) (x9 := .dat (.cel ci)) (x11 := x11) (x12 := x12) (x13 := x13) (x14 := x14) (x15 := x15) (g := x.g) (s := s) (by omega) (by have := tok.pos; omega)
  have eI := natL_ix hp
  have eN : fEq (natL (places x.g)) (.lst []) = some (.bl false) := by rw [natL_nil, hp]; rfl
  have eO' := lout_ok (s := s) hc tok hkn hb
  rw [hi] at eO'
  have eR := fIx_row hit
  have rk := tok.row hit
  have h0 : ¬ nth x.g k = 0 := by omega
  have lc := lclear_ok (s := s) (line := x.g) (pivot := row x.t i) (k := k) sg rk.2 (by rw [hg, rk.1]) (by omega) (by omega)
  have gc : neatL (comb x.g (row x.t i) k) = (x.piv k i).g := (if_neg h0).symm
  obtain ⟨y4, y8, eF⟩ := ca_rows (x0 := x0) (x1 := x1) (x2 := x2) (x3 := x3) (x5 := x5) (x6 := x6) (x7 := .dat (eT x.t)) (x9 := .dat (.cel ci)) (x10 := .dat (eL x.g)) (x11 := .dat (natL (places x.g))) (s := s) (i := i) tok rk hkn x.t 0 [] x4 x8 (fun _ h => h) (fun m l hm he => by
    unfold row
    have : m = i := by omega
    subst this
    rw [List.getD_eq_getElem?_getD, hm]; rfl) (by simp; omega)
  have eF : forGo (.tp [.nm 8, .nm 4]) caR (enumD 0 (x.t.map eL)) [x0, x1, x2, x3, x4, x5, x6, .dat (eT x.t), x8, .dat (.cel ci), .dat (eL x.g), .dat (natL (places x.g)), .dat (.int k), .dat (.int i), .dat (eL (row x.t i)), .own []] s = .ok (.nx [x0, x1, x2, x3, y4, x5, x6, .dat (eT x.t), y8, .dat (.cel ci), .dat (eL x.g), .dat (natL (places x.g)), .dat (.int k), .dat (.int i), .dat (eL (row x.t i)), .own ((x.piv k i).t.map eL)]) s := eF
  refine ⟨y4, y8, ?_⟩
  rw [show caB = mSeq caA (mSeq caI (mSeq (mAsg 12 (mSd (mIx (mPeek 11) (mCon (.int 0))))) (mSeq caO (mSeq caP (mSeq caF (mSeq caG caS)))))) from rfl]
  rw [mSeq_run, eA]
  simp only [R.bind_ok, mSeq_run, mIf_run, mTest_run, mOp_run, mPeek_run, mLst_run, mNil_run, mNext_run, List.getElem?_cons_succ, List.getElem?_cons_zero, few_ok _ _ (show ([] : List D).length ≤ 100000 by simp), R.opt_some, eN, toB_bl]
  simp only [mAsg_run, mSd_run, mIx_run, mPeek_run, mCon_run, List.getElem?_cons_succ, List.getElem?_cons_zero, R.bind_ok, deref_natL, eI, R.opt_some, List.set_cons_succ, List.set_cons_zero]
  simp only [mCall_run, mCons_run, mVar_run, mNil_run, List.getElem?_cons_succ, List.getElem?_cons_zero, R.bind_ok, List.length_cons, List.length_nil, Nat.zero_add, if_true]
  rw [eO']
  simp only [R.bind_ok, eO, List.set_cons_succ, List.set_cons_zero, mPar_run, mRcons_run, mSd_run, mIx_run, mPeek_run, mVar_run, mSo_run, mLstO_run, mNil_run, mRnil_run, List.getElem?_cons_succ, List.getElem?_cons_zero, deref_eT, eR, R.opt_some, List.length_cons, List.length_nil, Nat.zero_add, if_true, setAllE]
  rw [if_pos (by omega : 0 ≤ 100000)]
  simp only [R.bind_ok, List.length_cons, List.length_nil, Nat.zero_add, if_true, setAllE, List.set_cons_succ, List.set_cons_zero, List.getElem?_cons_succ, List.getElem?_cons_zero, fEnum_eT, R.opt_some, mFor_run, mRng_run, mCons_run, mVar_run, mNil_run]
  rw [eF]
  have eG : caG [x0, x1, x2, x3, y4, x5, x6, .dat (eT x.t), y8, .dat (.cel ci), .dat (eL x.g), .dat (natL (places x.g)), .dat (.int k), .dat (.int i), .dat (eL (row x.t i)), .own ((x.piv k i).t.map eL)] s = .ok (.nx [x0, x1, x2, x3, y4, x5, x6, .dat (eT (x.piv k i).t), y8, .dat (.cel ci), .dat (eL (x.piv k i).g), .dat (natL (places x.g)), .dat (.int k), .dat (.int i), .dat (eL (row x.t i)), .dat (eT (x.piv k i).t)]) s := by
    have fz : frzE 15 [x0, x1, x2, x3, y4, x5, x6, .dat (eT x.t), y8, .dat (.cel ci), .dat (eL x.g), .dat (natL (places x.g)), .dat (.int k), .dat (.int i), .dat (eL (row x.t i)), .own ((x.piv k i).t.map eL)] = [x0, x1, x2, x3, y4, x5, x6, .dat (eT x.t), y8, .dat (.cel ci), .dat (eL x.g), .dat (natL (places x.g)), .dat (.int k), .dat (.int i), .dat (eL (row x.t i)), .dat (eT (x.piv k i).t)] := rfl
    simp only [caG, mGhost_run, fz, mPar_run, mRcons_run, mSd_run, mCall_run, mCons_run, mVar_run, mNil_run, mRnil_run, List.getElem?_cons_succ, List.getElem?_cons_zero, R.bind_ok, List.length_cons, List.length_nil, Nat.zero_add, if_true]
    rw [lc, gc]
    rfl
  simp only [R.bind_ok]
  rw [eG]
  simp only [R.bind_ok]
  have ix : ixN (x.b.map D.int).length (i : Int) = some i := by
    unfold ixN
    rw [if_pos (by omega), if_pos (by rw [List.length_map]; omega), Int.toNat_natCast]
  have hb2 : (x.b.map D.int).set i (.int (k : Int)) = (x.piv k i).b.map D.int := by
    rw [show (x.piv k i).b = x.b.set i (k : Int) from set_take (by omega)]
    rw [List.map_set]
  simp only [caS, mSetC_run, mVar_run, List.getElem?_cons_succ, List.getElem?_cons_zero, R.bind_ok, hc]
  show (match ixN (x.b.map D.int).length (i : Int) with
      | some j => R.ok (Out.nx _) (s.set ci (.lst ((x.b.map D.int).set j (.int (k : Int)))))
      | none => R.bad) = _
  rw [ix]
  simp only [hb2]
theorem ca_end {x0 x1 x2 x3 x4 x5 x6 x7 x8 x9 x11 x12 x13 x14 x15 : SV} {g : List Int} {s : Store} (hl : g.length ≤ 1000) (h1 : 0 < g.length) (hp : places g = []) : caB [x0, x1, x2, x3, x4, x5, x6, x7, x8, x9, .dat (eL g), x11, x12, x13, x14, x15] s = .ok (.rt (.bl false)) s := by
  have eA := caA_ok (x0 := x0) (x1 := x1) (x2 := x2) (x3 := x3) (x4 := x4) (x5 := x5) (x6 := x6) (x7 := x7) (x8 := x8) (x9 := x9) (x11 := x11) (x12 := x12) (x13 := x13) (x14 := x14) (x15 := x15) (g := g) (s := s) hl h1
  have eN : fEq (natL (places g)) (.lst []) = some (.bl true) := by rw [natL_nil, hp]; rfl
  rw [show caB = mSeq caA (mSeq caI (mSeq (mAsg 12 (mSd (mIx (mPeek 11) (mCon (.int 0))))) (mSeq caO (mSeq caP (mSeq caF (mSeq caG caS)))))) from rfl]
  rw [mSeq_run, eA]
  simp only [R.bind_ok, mSeq_run, mIf_run, mTest_run, mOp_run, mPeek_run, mLst_run, mNil_run, mRet_run, mCon_run, List.getElem?_cons_succ, List.getElem?_cons_zero, few_ok _ _ (show ([] : List D).length ≤ 100000 by simp), R.opt_some, eN, toB_bl]
abbrev caT : Env → M Bool := mTest (mOp fEq (mIx (mPeek 10) (mOp1 fNeg (mCon (.int 1)))) (mCon (.int 0)))
theorem caT_ok {x0 x1 x2 x3 x4 x5 x6 x7 x8 x9 x11 x12 x13 x14 x15 : SV} {g : List Int} {s : Store} (h1 : 0 < g.length) : caT [x0, x1, x2, x3, x4, x5, x6, x7, x8, x9, .dat (eL g), x11, x12, x13, x14, x15] s = .ok (lastD g == 0) s := by
  have e := fIx_last (xs := g) h1
  simp [caT, e]
theorem ca_loop {n : Nat} {x0 x1 x2 x3 x5 x6 : SV} {ci : Nat} {r : Bool} (I : LP → Prop) (hI : ∀ x : LP, I x → x.Ok n) (hst : ∀ (x : LP) (k : Nat) (ks : List Nat) (i : Nat), I x → lastD x.g = 0 → places x.g = k :: ks → leav x.t x.b k = some i → I (x.piv k i)) : ∀ (m : Nat) (x : LP) (s : Store) (x4 x8 x11 x12 x13 x14 x15 : SV), I x → s[ci]? = some (.lst (x.b.map .int)) → canS m x = some r →
    ∃ o c', mWhile caT caB m [x0, x1, x2, x3, x4, x5, x6, .dat (eT x.t), x8, .dat (.cel ci), .dat (eL x.g), x11, x12, x13, x14, x15] s = .ok o (s.set ci c') ∧ ((r = true ∧ ∃ Γ, o = .nx Γ) ∨ (r = false ∧ o = .rt (.bl false)))
  | 0, x, _, _, _, _, _, _, _, _, _, _, h => nomatch h
  | m + 1, x, s, x4, x8, x11, x12, x13, x14, x15, hx, hc, h => by
    obtain ⟨tok, hb, hg, sg⟩ := hI x hx
    have h1 : 0 < x.g.length := by have := tok.pos; omega
    have eT' := caT_ok (x0 := x0) (x1 := x1) (x2 := x2) (x3 := x3) (x4 := x4) (x5 := x5) (x6 := x6) (x7 := .dat (eT x.t)) (x8 := x8) (x9 := .dat (.cel ci)) (x11 := x11) (x12 := x12) (x13 := x13) (x14 := x14) (x15 := x15) (s := s) h1
    have same : s.set ci (.lst (x.b.map .int)) = s := List.set_same hc
    unfold canS at h
    by_cases h0 : lastD x.g = 0
    · rw [if_pos h0] at h
      have hT : (lastD x.g == 0) = true := by simpa using h0
      rw [hT] at eT'
      cases hp : places x.g with
      | nil =>
        rw [hp] at h
        cases h
        have e := ca_end (x0 := x0) (x1 := x1) (x2 := x2) (x3 := x3) (x4 := x4) (x5 := x5) (x6 := x6) (x7 := .dat (eT x.t)) (x8 := x8) (x9 := .dat (.cel ci)) (x11 := x11) (x12 := x12) (x13 := x13) (x14 := x14) (x15 := x15) (s := s) (by have := tok.few; omega) h1 hp
        refine ⟨_, .lst (x.b.map .int), ?_, .inr ⟨rfl, rfl⟩⟩
        rw [same, mWhile_succ, eT']
        show (caB _ s).bind _ = _
        rw [e]; rfl
      | cons k ks =>
        rw [hp] at h
        have h : (match leav x.t x.b k with
          | none => none
          | some i => canS m (x.piv k i)) = some r := h
        cases hl : leav x.t x.b k with
        | none => rw [hl] at h; cases h
        | some i =>
          rw [hl] at h
          have h : canS m (x.piv k i) = some r := h
          obtain ⟨y4, y8, e⟩ := ca_step (x0 := x0) (x1 := x1) (x2 := x2) (x3 := x3) (x4 := x4) (x5 := x5) (x6 := x6) (x8 := x8) (x11 := x11) (x12 := x12) (x13 := x13) (x14 := x14) (x15 := x15) (s := s) (hI x hx) hc hp hl
          obtain ⟨o, c', e2, w⟩ := ca_loop I hI hst m (x.piv k i) (s.set ci (.lst ((x.piv k i).b.map .int))) y4 y8 _ _ _ _ _ (hst x k ks i hx h0 hp hl) (by rw [List.getElem?_set_self (List.getElem?_eq_some_iff.mp hc).1]) h
          refine ⟨o, c', ?_, w⟩
          rw [run_while_ok eT' e, e2, List.set_set]
    · rw [if_neg h0] at h
      cases h
      have hT : (lastD x.g == 0) = false := by simpa using h0
      rw [hT] at eT'
      refine ⟨.nx [x0, x1, x2, x3, x4, x5, x6, .dat (eT x.t), x8, .dat (.cel ci), .dat (eL x.g), x11, x12, x13, x14, x15], .lst (x.b.map .int), ?_, .inl ⟨rfl, _, rfl⟩⟩
      rw [same, run_while_end eT']
end PD
set_option maxRecDepth 100000
set_option maxHeartbeats 4000000
set_option exponentiation.threshold 20
namespace PD
open PySem PySem.Spec PyProof.Rows L2

/-! ## _law_can: what stands ahead of the loop -/
@[simp] theorem fInt_b (b : Bool) : fInt [.bl b] = some (.int (if b then 1 else 0)) := by cases b <;> rfl
abbrev ldE : Env → M D := mOp fAdd (mFrz (mLcL (mItems (mVar 4)) (.nm 3) mYes (mOp1 fNeg (mPeek 3)) [3])) (mLst (mCons (mBlt fInt (mCons (mPeek 5) mNil)) mNil))
theorem ld_run {x0 x1 x2 x3 x6 x7 x8 x9 x10 x11 x12 x13 x14 x15 : SV} {s : Store} (enc : List Int × Bool → D) (rows : List (List Int × Bool)) (hr : ∀ p ∈ rows, RowRel (enc p) p) (hl : ∀ p ∈ rows, p.1.length ≤ 1000) :
    lcGo (.tp [.nm 4, .nm 5]) mYes ldE [x0, x1, x2, x3, .nul, .nul, x6, x7, x8, x9, x10, x11, x12, x13, x14, x15] (rows.map enc) s = .ok ((rows.map lnOfRow).map fun p => eL p.1) s := by
  induction rows with
  | nil => rfl
  | cons p rows ih =>
    have ih := ih (fun q hq => hr q (List.mem_cons_of_mem _ hq)) (fun q hq => hl q (List.mem_cons_of_mem _ hq))
    obtain ⟨X, hX, hi⟩ := hr p List.mem_cons_self
    have hlen := hl p List.mem_cons_self
    have st : ldE [x0, x1, x2, x3, .dat X, .dat (.bl p.2), x6, x7, x8, x9, x10, x11, x12, x13, x14, x15] s = .ok (eL (lnOfRow p).1) s := by
      have n1 := neg_run (Γ := [x0, x1, x2, .nul, .dat X, .dat (.bl p.2), x6, x7, x8, x9, x10, x11, x12, x13, x14, x15]) (s := s) (ai := 3) (by simp) p.1
      have q : (p.1.map D.int).length ≤ 100000 := by rw [List.length_map]; omega
      have z : D.lst ((p.1.map (- ·)).map .int) = eL (p.1.map (- ·)) := rfl
      have a1 : ∀ v : Int, fAdd (eL (p.1.map (- ·))) (eL [v]) = some (eL (p.1.map (- ·) ++ [v])) := fun v => fAdd_eL (by simp; omega)
      have fw : ∀ v : Int, few D.lst [D.int v] = some (eL [v]) := fun _ => rfl
      simp only [ldE, mCons_run, mOp_run, mFrz_run, mLcL_run, mItems_run, mVar_run, List.getElem?_cons_succ, List.getElem?_cons_zero, R.bind_ok, hi, R.opt_some, wipeE, List.set_cons_succ, List.set_cons_zero]
      rw [if_pos q, n1]
      simp only [R.bind_ok, z, mLst_run, mCons_run, mBlt_run, mPeek_run, mNil_run, List.getElem?_cons_succ, List.getElem?_cons_zero, R.opt_some, fInt_b, fw, a1]
      rfl
    rw [List.map_cons, hX]
    unfold lcGo
    simp only [bindT, bindTs, Option.bind_some, List.set_cons_succ, List.set_cons_zero, mYes_run]
    show (ldE [x0, x1, x2, x3, .dat X, .dat (.bl p.2), x6, x7, x8, x9, x10, x11, x12, x13, x14, x15] s).nox.bind _ = _
    rw [st]
    show (lcGo (.tp [.nm 4, .nm 5]) mYes ldE [x0, x1, x2, x3, .nul, .nul, x6, x7, x8, x9, x10, x11, x12, x13, x14, x15] (rows.map enc) s).bind _ = _
    rw [ih]
    rfl
abbrev ltB : MS := mApp 7 (mOp fAdd (mOp fAdd (mPeek 4) (mCall 2 m__law_unit (mCons (mVar 6) (mCons (mVar 8) mNil)))) (mLst (mCons (mBlt fInt (mCons (mOp fEq (mPeek 8) (mOp fSub (mPeek 6) (mCon (.int 1)))) mNil)) mNil)))
theorem lt_loop {x0 x1 x2 x3 x5 x9 x10 x11 x12 x13 x14 x15 : SV} {size : Nat} {s : Store} (hs : size ≤ 1000) : ∀ (ps : List (List Int × Int)) (k : Nat) (acc : List (List Int)) (x4 x8 : SV), (∀ p ∈ ps, p.1.length ≤ 1000) → (∀ (m : Nat) (p : List Int × Int), ps[m]? = some p → p.2 = if k + m + 1 = size then 1 else 0) → acc.length + ps.length ≤ 1000 →
    ∃ y4 y8, forGo (.tp [.nm 8, .nm 4]) ltB (enumD k (ps.map fun p => eL p.1)) [x0, x1, x2, x3, x4, x5, .dat (.int size), .own (acc.map eL), x8, x9, x10, x11, x12, x13, x14, x15] s = .ok (.nx [x0, x1, x2, x3, y4, x5, .dat (.int size), .own ((acc ++ tabG size k ps).map eL), y8, x9, x10, x11, x12, x13, x14, x15]) s
  | [], k, acc, x4, x8, _, _, _ => ⟨x4, x8, by simp [enumD, forGo, tabG]⟩
  | p :: ps, k, acc, x4, x8, hp, hb, hz => by
    have hpl := hp p List.mem_cons_self
    obtain ⟨y4, y8, ih⟩ := lt_loop (x0 := x0) (x1 := x1) (x2 := x2) (x3 := x3) (x5 := x5) (x9 := x9) (x10 := x10) (x11 := x11) (x12 := x12) (x13 := x13) (x14 := x14) (x15 := x15) (s := s) hs ps (k + 1) (acc ++ [p.1 ++ unitL size k ++ [p.2]]) (.dat (eL p.1)) (.dat (.int k)) (fun q hq => hp q (List.mem_cons_of_mem _ hq)) (fun m q hq => by rw [hb (m + 1) q (by simpa using hq), show k + (m + 1) + 1 = k + 1 + m + 1 by omega]) (by simp at hz ⊢; omega)
    refine ⟨y4, y8, ?_⟩
    have hp2 : p.2 = if k + 0 + 1 = size then 1 else 0 := hb 0 p rfl
    have st : ltB [x0, x1, x2, x3, .dat (eL p.1), x5, .dat (.int size), .own (acc.map eL), .dat (.int k), x9, x10, x11, x12, x13, x14, x15] s = .ok (.nx [x0, x1, x2, x3, .dat (eL p.1), x5, .dat (.int size), .own ((acc ++ [p.1 ++ unitL size k ++ [p.2]]).map eL), .dat (.int k), x9, x10, x11, x12, x13, x14, x15]) s := by
      have u := lunit_ok (s := s) (many := size) (k := k) hs
      have ul : (unitL size k).length = size := by simp [unitL]
      have a1 := fAdd_eL (xs := p.1) (ys := unitL size k) (by omega)
      have a2 := fAdd_eL (xs := p.1 ++ unitL size k) (ys := [p.2]) (by simp; omega)
      have bq : (if ((k : Int) == (size : Int) - 1) = true then (1 : Int) else 0) = p.2 := by
        rw [hp2]
        by_cases h : k + 0 + 1 = size
        · have : ((k : Int) == (size : Int) - 1) = true := by simp; omega
          rw [this, if_pos h, if_pos rfl]
        · have : ((k : Int) == (size : Int) - 1) = false := by simp; omega
          rw [this, if_neg h]; rfl
      have fw : few D.lst [D.int p.2] = some (eL [p.2]) := rfl
      have ha : (acc.map eL).length < 100000 := by simp at hz ⊢; omega
      simp only [ltB, mApp_run, mOp_run, mPeek_run, mCall_run, mCons_run, mVar_run, mNil_run, mLst_run, mBlt_run, mCon_run, List.getElem?_cons_succ, List.getElem?_cons_zero, R.bind_ok, List.length_cons, List.length_nil, Nat.zero_add, if_true]
      rw [u]
      simp only [R.bind_ok, a1, R.opt_some, fSub_ii, fEq_ii, fInt_b, bq, fw, a2]
      rw [if_pos ha]
      simp [eT]
    rw [List.map_cons]
    show (match bindT (.tp [.nm 8, .nm 4]) (.tup [.int k, eL p.1]) [x0, x1, x2, x3, x4, x5, .dat (.int size), .own (acc.map eL), x8, x9, x10, x11, x12, x13, x14, x15] with
      | none => R.bad
      | some Γ1 => (ltB Γ1 s).bind _) = _
    simp only [bindT, bindTs, Option.bind_some, List.set_cons_succ, List.set_cons_zero]
    rw [st]
    have z : acc ++ tabG size k (p :: ps) = acc ++ [p.1 ++ unitL size k ++ [p.2]] ++ tabG size (k + 1) ps := by simp [tabG]
    rw [z]
    exact ih
end PD
set_option maxRecDepth 100000
set_option maxHeartbeats 4000000
set_option exponentiation.threshold 20
namespace PD
open PySem PySem.Spec PyProof.Rows L2
def goalOf (many : Nat) : List Int := List.replicate (many + 1) 0 ++ [1]
def lpOf (rows : List (List Int × Bool)) (many : Nat) : LP := LP.init (solLines rows many) (goalOf many)
theorem sol_last {rows : List (List Int × Bool)} {many : Nat} {m : Nat} {p : List Int × Int} (h : (solLines rows many)[m]? = some p) : p.2 = if 0 + m + 1 = (solLines rows many).length then 1 else 0 := by
  unfold solLines at h ⊢
  by_cases h1 : m < (rows.map lnOfRow).length
  · rw [List.getElem?_append_left h1, List.getElem?_map] at h
    have hm : m < rows.length := by simpa using h1
    rw [List.getElem?_eq_getElem hm] at h
    cases h
    rw [if_neg (by simp; omega)]
    rfl
  · rw [List.getElem?_append_right (by omega)] at h
    have hl : (rows.map lnOfRow).length = rows.length := by simp
    cases hd : m - (rows.map lnOfRow).length with
    | zero =>
      rw [hd] at h
      cases h
      rw [if_neg (by simp; omega)]
    | succ d =>
      cases d with
      | zero =>
        rw [hd] at h
        cases h
        rw [if_pos (by simp; omega)]
      | succ d => rw [hd] at h; simp at h
theorem lcan_ok {rows : List (List Int × Bool)} {enc : List Int × Bool → D} {many n : Nat} {s : Store} {r : Bool} (hr : ∀ p ∈ rows, RowRel (enc p) p) (hl : ∀ p ∈ rows, p.1.length ≤ 400) (hrl : rows.length ≤ 190) (hm : many ≤ 400)
    (I : LP → Prop) (hI : ∀ x : LP, I x → x.Ok n) (h0 : I (lpOf rows many)) (hst : ∀ (x : LP) (k : Nat) (ks : List Nat) (i : Nat), I x → lastD x.g = 0 → places x.g = k :: ks → leav x.t x.b k = some i → I (x.piv k i))
    (hy : canS wfuel (lpOf rows many) = some r) : ∃ c', m__law_can [.lst (rows.map enc), .int many] s = .ok (.bl r) (s ++ [c']) := by
  have ld := ld_run (x0 := .dat (.lst (rows.map enc))) (x1 := .dat (.int many)) (x2 := .nul) (x3 := .nul) (x6 := .nul) (x7 := .nul) (x8 := .nul) (x9 := .nul) (x10 := .nul) (x11 := .nul) (x12 := .nul) (x13 := .nul) (x14 := .nul) (x15 := .nul) (s := s) enc rows hr fun p hp => Nat.le_trans (hl p hp) (by decide)
  have r0 := fMul_rep (i := 0) (n := many) (by omega)
  have r01 := fMul_rep (i := 0) (n := many + 1) (by omega)
  have r1 := fMul_rep (i := 1) (n := many + 1) (by omega)
  have size : (solLines rows many).length = rows.length + 2 := by simp [solLines]
  have fw0 : few D.lst [D.int 0] = some (.lst [.int 0]) := rfl
  have fw1 : few D.lst [D.int 1] = some (.lst [.int 1]) := rfl
  have fw2 : few D.lst [D.int (-1), D.int 1] = some (eL [-1, 1]) := rfl
  have a1 := fAdd_eL (xs := List.replicate many 0) (ys := [-1, 1]) (by simp; omega)
  have a2 : fAdd (eL (List.replicate (many + 1) 1)) (.lst [.int 0]) = some (eL (List.replicate (many + 1) 1 ++ [0])) := fAdd_eL (xs := List.replicate (many + 1) 1) (ys := [0]) (by simp; omega)
  have a3 : fAdd (eL (List.replicate (many + 1) 0)) (.lst [.int 1]) = some (eL (goalOf many)) := fAdd_eL (xs := List.replicate (many + 1) 0) (ys := [1]) (by simp; omega)
  have z1 : ((many : Int) + 1) = ((many + 1 : Nat) : Int) := by omega
  have fwl : ∀ x y : D, few D.lst [x, y] = some (.lst [x, y]) := fun _ _ => rfl
  have a4 : fAdd (.lst ((rows.map lnOfRow).map fun p => eL p.1)) (.lst [eL (List.replicate many 0 ++ [-1, 1]), eL (List.replicate (many + 1) 1 ++ [0])]) = some (.lst ((solLines rows many).map fun p => eL p.1)) := by
    show (if ((rows.map lnOfRow).map fun p => eL p.1).length + 2 ≤ 100000 then some (D.lst (((rows.map lnOfRow).map fun p => eL p.1) ++ _)) else none) = _
    rw [if_pos (by simp; omega)]
    simp [solLines]
  have q : (rows.map enc).length ≤ 100000 := by rw [List.length_map]; omega
  obtain ⟨y4, y8, lt⟩ := lt_loop (x0 := .dat (.lst (rows.map enc))) (x1 := .dat (.int many)) (x2 := .dat (.lst ((solLines rows many).map fun p => eL p.1))) (x3 := .nul) (x5 := .nul) (x9 := .nul) (x10 := .nul) (x11 := .nul) (x12 := .nul) (x13 := .nul) (x14 := .nul) (x15 := .nul) (size := (solLines rows many).length) (s := s) (by omega) (solLines rows many) 0 [] .nul .nul (fun p hp => by
      unfold solLines at hp
      rcases List.mem_append.mp hp with hp | hp
      · obtain ⟨q, hq, rfl⟩ := List.mem_map.mp hp
        have := hl q hq
        simp [lnOfRow]; omega
      · simp at hp
        rcases hp with rfl | rfl <;> simp <;> omega) (fun m p h => sol_last h) (by simp; omega)
  have lt : forGo (.tp [.nm 8, .nm 4]) ltB (enumD 0 ((solLines rows many).map fun p => eL p.1)) [.dat (.lst (rows.map enc)), .dat (.int many), .dat (.lst ((solLines rows many).map fun p => eL p.1)), .nul, .nul, .nul, .dat (.int (solLines rows many).length), .own [], .nul, .nul, .nul, .nul, .nul, .nul, .nul, .nul] s = .ok (.nx [.dat (.lst (rows.map enc)), .dat (.int many), .dat (.lst ((solLines rows many).map fun p => eL p.1)), .nul, y4, .nul, .dat (.int (solLines rows many).length), .own ((tabOf (solLines rows many)).map eL), y8, .nul, .nul, .nul, .nul, .nul, .nul, .nul]) s := lt
  have gl : (goalOf many).length = many + 2 := by simp [goalOf]
  have lr : fLR [.int ((many : Int) + 2), .int ((many : Int) + 2 + ((solLines rows many).length : Int))] = some ((lpOf rows many).b.map .int) := by
    show (if -100000 ≤ ((many : Int) + 2) ∧ ((many : Int) + 2) ≤ 100000 ∧ ((many : Int) + 2 + ((solLines rows many).length : Int)) ≤ 100000 ∧ -100000 ≤ ((many : Int) + 2 + ((solLines rows many).length : Int)) then some (rangeD ((many : Int) + 2) (((many : Int) + 2 + ((solLines rows many).length : Int)) - ((many : Int) + 2)).toNat) else none) = _
    rw [if_pos ⟨by omega, by omega, by omega, by omega⟩, show (((many : Int) + 2 + ((solLines rows many).length : Int)) - ((many : Int) + 2)).toNat = (solLines rows many).length by omega]
    congr 1
    unfold rangeD
    simp only [lpOf, LP.init, List.map_map, gl]
    refine List.map_congr_left fun k _ => ?_
    show D.int ((many : Int) + 2 + (k : Int)) = D.int (((many + 2 + k : Nat)) : Int)
    congr 1
  have r02 := fMul_rep (i := 0) (n := (solLines rows many).length + 1) (by omega)
  have a5 := fAdd_eL (xs := goalOf many) (ys := List.replicate ((solLines rows many).length + 1) 0) (by simp [goalOf]; omega)
  have z2 : (((solLines rows many).length : Int) + 1) = (((solLines rows many).length + 1 : Nat) : Int) := by omega
  obtain ⟨o, c', lp, w⟩ := ca_loop (x0 := .dat (.lst (rows.map enc))) (x1 := .dat (.int many)) (x2 := .dat (.lst ((solLines rows many).map fun p => eL p.1))) (x3 := .nul) (x5 := .nul) (x6 := .dat (.int (solLines rows many).length)) (ci := s.length) I hI hst wfuel (lpOf rows many) (s ++ [.lst ((lpOf rows many).b.map .int)]) y4 y8 .nul .nul .nul .nul .nul h0 (by simp) hy
  have ss : (s ++ [Cell.lst ((lpOf rows many).b.map .int)]).set s.length c' = s ++ [c'] := by
    rw [List.set_append_right _ _ (Nat.le_refl _)]
    simp
  rw [ss] at lp
  have l1 : ∀ xs : List (List Int × Int), fLen [.lst (xs.map fun p => eL p.1)] = some (.int xs.length) := fun xs => by
    show some (D.int ((xs.map fun p => eL p.1).length : Nat)) = _
    rw [List.length_map]
  have l2 : fEnum [.lst ((solLines rows many).map fun p => eL p.1)] = some (enumD 0 ((solLines rows many).map fun p => eL p.1)) := rfl
  refine ⟨c', ?_⟩
  unfold m__law_can
  rw [mFn_run]
  show endD (b__law_can [.dat (.lst (rows.map enc)), .dat (.int many), .nul, .nul, .nul, .nul, .nul, .nul, .nul, .nul, .nul, .nul, .nul, .nul, .nul, .nul] s) = _
  unfold b__law_can
  simp only [mSeq_run, mAsg_run, mSd_run, mFrz_run, mLcL_run, mItems_run, mVar_run, List.getElem?_cons_succ, List.getElem?_cons_zero, R.bind_ok, fItems, R.opt_some, wipeE, List.set_cons_succ, List.set_cons_zero]
  rw [if_pos q, ld]
  simp only [R.bind_ok, List.set_cons_succ, List.set_cons_zero, mSeq_run, mAsg_run, mSd_run, mOp_run, mPeek_run, mLst_run, mCons_run, mCon_run, mNil_run, mOp1_run, List.getElem?_cons_succ, List.getElem?_cons_zero, R.opt_some, fNeg_i, fAdd_ii, z1, fw0, fw1, fw2, r0, r1, r01, a1, a2, a3, fwl, a4, mPar_run, mRcons_run, mBlt_run, mSo_run, mLstO_run, mRnil_run, l1, List.length_cons, List.length_nil, Nat.zero_add, if_true, setAllE]
  rw [if_pos (by omega : 0 ≤ 100000)]
  simp only [R.bind_ok, List.length_cons, List.length_nil, Nat.zero_add, if_true, setAllE, List.set_cons_succ, List.set_cons_zero, mFor_run, mRng_run, mCons_run, mVar_run, mNil_run, List.getElem?_cons_succ, List.getElem?_cons_zero, l2, R.opt_some]
  rw [lt]
  have fz : frzE 7 [.dat (.lst (rows.map enc)), .dat (.int many), .dat (.lst ((solLines rows many).map fun p => eL p.1)), .nul, y4, .nul, .dat (.int (solLines rows many).length), .own ((tabOf (solLines rows many)).map eL), y8, .nul, .nul, .nul, .nul, .nul, .nul, .nul] = [.dat (.lst (rows.map enc)), .dat (.int many), .dat (.lst ((solLines rows many).map fun p => eL p.1)), .nul, y4, .nul, .dat (.int (solLines rows many).length), .dat (eT (tabOf (solLines rows many))), y8, .nul, .nul, .nul, .nul, .nul, .nul, .nul] := rfl
  simp only [R.bind_ok, mGhost_run, fz, mCell_run, mLR_run, mCons_run, mOp_run, mPeek_run, mCon_run, mNil_run, List.getElem?_cons_succ, List.getElem?_cons_zero, fAdd_ii, R.opt_some, lr, List.set_cons_succ, List.set_cons_zero]
  simp only [mAsg_run, mSd_run, mOp_run, mPeek_run, mLst_run, mCons_run, mCon_run, mNil_run, List.getElem?_cons_succ, List.getElem?_cons_zero, R.bind_ok, R.opt_some, fAdd_ii, z1, z2, fw0, fw1, r01, a3, r02, a5, List.set_cons_succ, List.set_cons_zero]
  show endD (R.bind (mWhile caT caB wfuel [.dat (.lst (rows.map enc)), .dat (.int many), .dat (.lst ((solLines rows many).map fun p => eL p.1)), .nul, y4, .nul, .dat (.int (solLines rows many).length), .dat (eT (lpOf rows many).t), y8, .dat (.cel s.length), .dat (eL (lpOf rows many).g), .nul, .nul, .nul, .nul, .nul] (s ++ [.lst ((lpOf rows many).b.map .int)])) _) = _
  rw [lp]
  rcases w with ⟨rfl, Γ, rfl⟩ | ⟨rfl, rfl⟩
  · rfl
  · rfl
end PD
set_option maxRecDepth 100000
set_option maxHeartbeats 4000000
set_option exponentiation.threshold 20
namespace PD
open PySem PySem.Spec PyProof.Rows L2
/-! ## the two loops go the same way -/
theorem grt_can (I : LP → Prop) (hI : ∀ x : LP, I x → lastD x.g ≤ 0) (hst : ∀ (x : LP) (k : Nat) (ks : List Nat) (i : Nat), I x → lastD x.g = 0 → places x.g = k :: ks → leav x.t x.b k = some i → I (x.piv k i)) : ∀ (m : Nat) (x : LP) (r : Bool), I x → canS m x = some r →
    ∃ y, grt true m x = some y ∧ I y ∧ r = decide (lastD y.g ≠ 0)
  | 0, _, _, _, h => nomatch h
  | m + 1, x, r, hx, h => by
    unfold canS at h
    unfold grt
    by_cases h0 : lastD x.g = 0
    · rw [if_pos h0] at h
      cases hp : places x.g with
      | nil =>
        rw [hp] at h
        have hs : stopB true x = true := by unfold stopB; rw [hp]; rfl
        rw [if_pos hs]
        refine ⟨x, rfl, hx, ?_⟩
        have : r = false := (Option.some.inj h).symm
        rw [this, h0]; rfl
      | cons k ks =>
        rw [hp] at h
        have hs : ¬ stopB true x = true := by
          unfold stopB; rw [hp, h0]; simp
        rw [if_neg hs]
        have h : (match leav x.t x.b k with
          | none => none
          | some i => canS m (x.piv k i)) = some r := h
        show ∃ y, (match leav x.t x.b k with
          | none => none
          | some i => grt true m (x.piv k i)) = some y ∧ _
        cases hl : leav x.t x.b k with
        | none => rw [hl] at h; cases h
        | some i =>
          rw [hl] at h
          exact grt_can I hI hst m (x.piv k i) r (hst x k ks i hx h0 hp hl) h
    · rw [if_neg h0] at h
      have hlt : lastD x.g < 0 := by have := hI x hx; omega
      have hs : stopB true x = true := by
        unfold stopB
        rw [decide_eq_true hlt]
        simp
      rw [if_pos hs]
      refine ⟨x, rfl, hx, ?_⟩
      have : r = true := (Option.some.inj h).symm
      rw [this]
      simp [h0]
end PD
set_option maxRecDepth 100000
set_option maxHeartbeats 4000000
set_option exponentiation.threshold 20
namespace PD
open PySem PySem.Spec PyProof.Rows L2
/-! ## exchanging, by entries -/
theorem nth_map_div {xs : List Int} {j : Nat} {c : Int} : nth (xs.map fun x => x / c) j = nth xs j / c := by
  unfold nth
  rw [List.getD_eq_getElem?_getD, List.getD_eq_getElem?_getD, List.getElem?_map]
  cases xs[j]? with
  | none => simp
  | some x => rfl
theorem nth_mem {xs : List Int} {j : Nat} (h : j < xs.length) : nth xs j ∈ xs := by
  unfold nth
  rw [List.getD_eq_getElem?_getD, List.getElem?_eq_getElem h]
  exact List.getElem_mem _
theorem nth_out {xs : List Int} {j : Nat} (h : xs.length ≤ j) : nth xs j = 0 := by
  unfold nth
  rw [List.getD_eq_getElem?_getD, List.getElem?_eq_none h]; rfl
theorem neat_nth {xs : List Int} (j : Nat) : (part xs : Int) * nth (neatL xs) j = nth xs j := by
  unfold neatL
  rw [nth_map_div]
  by_cases h : j < xs.length
  · exact Int.mul_ediv_cancel' (part_dvd (nth_mem h))
  · rw [nth_out (by omega)]; simp
theorem comb_nth {l p : List Int} {k : Nat} (hl : l.length = p.length) (j : Nat) : nth (comb l p k) j = nth l j * nth p k - nth p j * nth l k := by
  unfold comb
  by_cases h : j < l.length
  · have h2 : j < p.length := by omega
    have e : nth ((l.zip p).map fun q => q.1 * nth p k - q.2 * nth l k) j = nth l j * nth p k - nth p j * nth l k := by
      have a1 : nth l j = l[j] := by unfold nth; rw [List.getD_eq_getElem?_getD, List.getElem?_eq_getElem h]; rfl
      have a2 : nth p j = p[j] := by unfold nth; rw [List.getD_eq_getElem?_getD, List.getElem?_eq_getElem h2]; rfl
      rw [a1, a2]
      conv => lhs; unfold nth
      rw [List.getD_eq_getElem?_getD, List.getElem?_map, show (l.zip p)[j]? = some (l[j], p[j]) from List.getElem?_zip_eq_some.mpr ⟨List.getElem?_eq_getElem h, List.getElem?_eq_getElem h2⟩]
      rfl
    exact e
  · rw [nth_out (xs := List.map _ _) (by simp; omega), nth_out (xs := l) (j := j) (by omega), nth_out (xs := p) (j := j) (by omega)]
    simp
/-- a cleared row is a positive multiple of the row less a multiple of the pivot -/
theorem clr_spec {l p : List Int} {k : Nat} (hl : l.length = p.length) (hp : 0 < nth p k) : ∃ c m v : Int, 0 < c ∧ 0 < m ∧ (∀ j, c * nth (clr l p k) j = m * nth l j - v * nth p j) ∧ v * nth p k = m * nth l k ∧ (clr l p k).length = l.length := by
  unfold clr
  by_cases h : nth l k = 0
  · refine ⟨1, 1, 0, by decide, by decide, fun j => ?_, ?_, ?_⟩
    · rw [if_pos h]; simp
    · rw [h]; simp
    · rw [if_pos h]
  · refine ⟨part (comb l p k), nth p k, nth l k, ?_, hp, fun j => ?_, ?_, ?_⟩
    · have := part_pos (xs := comb l p k); omega
    · rw [if_neg h, neat_nth, comb_nth hl, Int.mul_comm (nth p k), Int.mul_comm (nth l k)]
    · rw [Int.mul_comm]
    · rw [if_neg h]; unfold neatL comb; simp; omega
/-! ### products with a vector -/
def dotN (l : List Int) (v : Nat → Int) : Nat → Int
  | 0 => 0
  | n + 1 => dotN l v n + nth l n * v n
theorem dot_lin {c m w : Int} {l l1 p : List Int} {v : Nat → Int} (h : ∀ j, c * nth l1 j = m * nth l j - w * nth p j) : ∀ n, c * dotN l1 v n = m * dotN l v n - w * dotN p v n
  | 0 => by simp [dotN]
  | n + 1 => by
    have ih := dot_lin (v := v) h n
    have hn := h n
    simp only [dotN, Int.mul_add]
    have e1 : c * (nth l1 n * v n) = m * (nth l n * v n) - w * (nth p n * v n) := by
      rw [← Int.mul_assoc, hn, Int.sub_mul, Int.mul_assoc, Int.mul_assoc]
    omega
end PD
set_option maxRecDepth 100000
set_option maxHeartbeats 4000000
set_option exponentiation.threshold 20
namespace PD
open PySem PySem.Spec PyProof.Rows L2
/-! ## the leaving row -/
/-- row a (last ra, entry ea, basis ba) is at least as near as row b -/
def Nr (ra ea ba rb eb bb : Int) : Prop := ra * eb ≤ rb * ea ∧ (ra * eb = rb * ea → ba ≤ bb)
theorem Nr.trans {ra ea ba rb eb bb rc ec bc : Int} (ha : 0 < ea) (hb : 0 < eb) (hc : 0 < ec) (h1 : Nr ra ea ba rb eb bb) (h2 : Nr rb eb bb rc ec bc) : Nr ra ea ba rc ec bc := by
  obtain ⟨h1, t1⟩ := h1
  obtain ⟨h2, t2⟩ := h2
  have m1 : ra * eb * ec ≤ rb * ea * ec := Int.mul_le_mul_of_nonneg_right h1 (by omega)
  have m2 : rb * ec * ea ≤ rc * eb * ea := Int.mul_le_mul_of_nonneg_right h2 (by omega)
  have e1 : rb * ea * ec = rb * ec * ea := by rw [Int.mul_assoc, Int.mul_comm ea, ← Int.mul_assoc]
  have e2 : ra * eb * ec = ra * ec * eb := by rw [Int.mul_assoc, Int.mul_comm eb, ← Int.mul_assoc]
  have e3 : rc * eb * ea = rc * ea * eb := by rw [Int.mul_assoc, Int.mul_comm eb, ← Int.mul_assoc]
  have le : ra * ec * eb ≤ rc * ea * eb := by omega
  have le2 : ra * ec ≤ rc * ea := Int.le_of_mul_le_mul_right le hb
  refine ⟨le2, fun e => ?_⟩
  have e' : ra * ec * eb = rc * ea * eb := by rw [e]
  have q1 : ra * eb * ec = rb * ea * ec := by omega
  have q2 : rb * ec * ea = rc * eb * ea := by omega
  have p1 := t1 (Int.eq_of_mul_eq_mul_right (by omega) q1)
  have p2 := t2 (Int.eq_of_mul_eq_mul_right (by omega) q2)
  omega
theorem Nr.of_near {ra ea ba rb eb bb : Int} (h : ra * eb < rb * ea ∨ (ra * eb = rb * ea ∧ ba < bb)) : Nr ra ea ba rb eb bb := by
  rcases h with h | ⟨h, h'⟩
  · exact ⟨by omega, fun e => by omega⟩
  · exact ⟨by omega, fun _ => by omega⟩
theorem Nr.of_not {ra ea ba rb eb bb : Int} (h : ¬ (ra * eb < rb * ea ∨ (ra * eb = rb * ea ∧ ba < bb))) : Nr rb eb bb ra ea ba := by
  refine ⟨by omega, fun e => ?_⟩
  have : ¬ (ra * eb = rb * ea ∧ ba < bb) := fun z => h (.inr z)
  omega
def NrR (t : List (List Int)) (b : List Int) (k g j : Nat) : Prop := Nr (lastD (row t g)) (nth (row t g) k) (nth b g) (lastD (row t j)) (nth (row t j) k) (nth b j)
def LeavOk (t : List (List Int)) (b : List Int) (k i : Nat) : Option Nat → Prop
  | none => ∀ j, j < i → ¬ 0 < nth (row t j) k
  | some g => g < i ∧ 0 < nth (row t g) k ∧ ∀ j, j < i → 0 < nth (row t j) k → NrR t b k g j
theorem leavS_ok {t : List (List Int)} {b : List Int} {k i : Nat} {f : Option Nat} (h : LeavOk t b k i f) : LeavOk t b k (i + 1) (leavS t b k f i (row t i)) := by
  unfold leavS
  by_cases h0 : 0 < nth (row t i) k
  · rw [if_pos h0]
    cases f with
    | none =>
      refine ⟨by omega, h0, fun j hj hp => ?_⟩
      by_cases hji : j = i
      · subst hji; exact ⟨Int.le_refl _, fun _ => Int.le_refl _⟩
      · exact absurd hp (h j (by omega))
    | some g =>
      obtain ⟨hg, hgp, hn⟩ := h
      have nb : nearer t b k i (row t i) g = true ↔ (lastD (row t i) * nth (row t g) k < lastD (row t g) * nth (row t i) k ∨ (lastD (row t i) * nth (row t g) k = lastD (row t g) * nth (row t i) k ∧ nth b i < nth b g)) := by
        unfold nearer
        simp
      show LeavOk t b k (i + 1) (if nearer t b k i (row t i) g = true then some i else some g)
      by_cases hq : nearer t b k i (row t i) g = true
      · rw [if_pos hq]
        have q1 : NrR t b k i g := Nr.of_near (nb.mp hq)
        refine ⟨by omega, h0, fun j hj hp => ?_⟩
        by_cases hji : j = i
        · subst hji; exact ⟨Int.le_refl _, fun _ => Int.le_refl _⟩
        · exact Nr.trans h0 hgp hp q1 (hn j (by omega) hp)
      · rw [if_neg hq]
        have q1 : NrR t b k g i := Nr.of_not fun z => hq (nb.mpr z)
        refine ⟨by omega, hgp, fun j hj hp => ?_⟩
        by_cases hji : j = i
        · subst hji; exact q1
        · exact hn j (by omega) hp
  · rw [if_neg h0]
    cases f with
    | none =>
      intro j hj
      by_cases hji : j = i
      · subst hji; exact h0
      · exact h j (by omega)
    | some g =>
      obtain ⟨hg, hgp, hn⟩ := h
      refine ⟨by omega, hgp, fun j hj hp => ?_⟩
      by_cases hji : j = i
      · subst hji; exact absurd hp h0
      · exact hn j (by omega) hp
theorem leavG_ok {t : List (List Int)} {b : List Int} {k : Nat} : ∀ (ls : List (List Int)) (i : Nat) (f : Option Nat), (∀ (m : Nat) (l : List Int), ls[m]? = some l → l = row t (i + m)) → LeavOk t b k i f → LeavOk t b k (i + ls.length) (leavG t b k i ls f)
  | [], i, f, _, h => h
  | l :: ls, i, f, hl, h => by
    have e : l = row t i := hl 0 l rfl
    have := leavG_ok (t := t) (b := b) (k := k) ls (i + 1) (leavS t b k f i l) (fun m l' h' => by rw [hl (m + 1) l' (by simpa using h'), show i + (m + 1) = i + 1 + m by omega]) (by rw [e]; exact leavS_ok h)
    rw [List.length_cons, show i + (ls.length + 1) = i + 1 + ls.length by omega]
    exact this
theorem leav_ok {t : List (List Int)} {b : List Int} {k : Nat} : LeavOk t b k t.length (leav t b k) := by
  have := leavG_ok (t := t) (b := b) (k := k) t 0 none (fun m l h => by unfold row; rw [Nat.zero_add, List.getD_eq_getElem?_getD, h]; rfl) (fun j hj => by omega)
  rwa [Nat.zero_add] at this
end PD
set_option maxRecDepth 100000
set_option maxHeartbeats 4000000
set_option exponentiation.threshold 20
namespace PD
open PySem PySem.Spec PyProof.Rows L2
/-! ## a state is kept well by exchanging -/
theorem pivG_len {t : List (List Int)} {p : List Int} {k i : Nat} : ∀ (ls : List (List Int)) (j : Nat), (pivG t p k i j ls).length = ls.length
  | [], _ => rfl
  | l :: ls, j => by simp [pivG, pivG_len ls (j + 1)]
theorem pivG_get {t : List (List Int)} {p : List Int} {k i : Nat} : ∀ (ls : List (List Int)) (j m : Nat) (l : List Int), ls[m]? = some l → (pivG t p k i j ls)[m]? = some (if j + m = i then p else clr l p k)
  | [], _, _, _, h => by simp at h
  | l :: ls, j, 0, l', h => by
    simp at h
    subst h
    simp [pivG]
  | l :: ls, j, m + 1, l', h => by
    have := pivG_get (t := t) (p := p) (k := k) (i := i) ls (j + 1) m l' (by simpa using h)
    show (pivG t p k i (j + 1) ls)[m]? = _
    rw [this, show j + 1 + m = j + (m + 1) by omega]
theorem row_get {t : List (List Int)} {j : Nat} (h : j < t.length) : t[j]? = some (row t j) := by
  unfold row
  rw [List.getD_eq_getElem?_getD, List.getElem?_eq_getElem h]; rfl
theorem piv_t {x : LP} {k i j : Nat} (h : j < x.t.length) : row (x.piv k i).t j = if j = i then row x.t i else clr (row x.t j) (row x.t i) k := by
  have := pivG_get (t := x.t) (p := row x.t i) (k := k) (i := i) x.t 0 j _ (row_get h)
  show (pivG x.t (row x.t i) k i 0 x.t).getD j [] = _
  rw [List.getD_eq_getElem?_getD, this, Nat.zero_add]
  rfl
theorem piv_len {x : LP} {k i : Nat} : (x.piv k i).t.length = x.t.length := pivG_len _ _
theorem piv_b {x : LP} {k i : Nat} (hi : i < x.b.length) : (x.piv k i).b = x.b.set i (k : Int) := set_take hi
theorem nth_set {xs : List Int} {i j : Nat} {a : Int} (h : i < xs.length) : nth (xs.set i a) j = if j = i then a else nth xs j := by
  unfold nth
  rw [List.getD_eq_getElem?_getD, List.getD_eq_getElem?_getD]
  by_cases e : j = i
  · subst e
    rw [List.getElem?_set_self h, if_pos rfl]; rfl
  · rw [List.getElem?_set_ne (Ne.symm e), if_neg e]
/-- the column of basis place i -/
def bs (x : LP) (i : Nat) : Nat := (nth x.b i).toNat
structure WF (x : LP) (n : Nat) : Prop where
  len : ∀ j, j < x.t.length → (row x.t j).length = n
  glen : x.g.length = n
  bl : x.b.length = x.t.length
  bp : ∀ i, i < x.t.length → 0 ≤ nth x.b i ∧ nth x.b i + 1 < n
  pos : ∀ i, i < x.t.length → 0 < nth (row x.t i) (bs x i)
  zero : ∀ i j, i < x.t.length → j < x.t.length → j ≠ i → nth (row x.t j) (bs x i) = 0
  gz : ∀ i, i < x.t.length → nth x.g (bs x i) = 0
  rhs : ∀ i, i < x.t.length → 0 ≤ nth (row x.t i) (n - 1)
theorem WF.last {x : LP} {n i : Nat} (w : WF x n) (h : i < x.t.length) : lastD (row x.t i) = nth (row x.t i) (n - 1) := by
  unfold lastD; rw [w.len i h]
theorem pos_of_mul {c a b : Int} (hc : 0 < c) (h : c * a = b) (hb : 0 ≤ b) : 0 ≤ a := by
  by_cases ha : 0 ≤ a
  · exact ha
  · have : c * a < 0 := Int.mul_neg_of_pos_of_neg hc (by omega)
    omega
theorem pos_of_mul' {c a b : Int} (hc : 0 < c) (h : c * a = b) (hb : 0 < b) : 0 < a := by
  by_cases ha : 0 < a
  · exact ha
  · have : c * a ≤ 0 := Int.mul_nonpos_of_nonneg_of_nonpos (by omega) (by omega)
    omega
theorem zero_of_mul {c a : Int} (hc : 0 < c) (h : c * a = 0) : a = 0 := by
  rcases Int.mul_eq_zero.mp h with h | h
  · omega
  · exact h
theorem WF.piv {x : LP} {n k i : Nat} (w : WF x n) (hk : k + 1 < n) (hg : 0 < nth x.g k) (hl : leav x.t x.b k = some i) : WF (x.piv k i) n := by
  have hi := leav_lt hl
  have lo : LeavOk x.t x.b k x.t.length (some i) := by rw [← hl]; exact leav_ok
  obtain ⟨_, hp, near⟩ := lo
  have hib : i < x.b.length := by rw [w.bl]; exact hi
  have bsn : ∀ j, bs (x.piv k i) j = if j = i then k else bs x j := fun j => by
    unfold bs
    rw [piv_b hib, nth_set hib]
    split
    · simp
    · rfl
  have cs : ∀ j, j < x.t.length → ∃ c m v : Int, 0 < c ∧ 0 < m ∧ (∀ q, c * nth (clr (row x.t j) (row x.t i) k) q = m * nth (row x.t j) q - v * nth (row x.t i) q) ∧ v * nth (row x.t i) k = m * nth (row x.t j) k ∧ (clr (row x.t j) (row x.t i) k).length = (row x.t j).length := fun j hj => clr_spec (by rw [w.len j hj, w.len i hi]) hp
  obtain ⟨gc, gm, gv, gc0, gm0, ge, gvk, gl⟩ := clr_spec (l := x.g) (p := row x.t i) (k := k) (by rw [w.glen, w.len i hi]) hp
  refine ⟨fun j hj => ?_, ?_, ?_, fun j hj => ?_, fun j hj => ?_, fun a j ha hj hne => ?_, fun j hj => ?_, fun j hj => ?_⟩
  · rw [piv_len] at hj
    rw [piv_t hj]
    split
    · exact w.len i hi
    · obtain ⟨_, _, _, _, _, _, _, l⟩ := cs j hj
      rw [l, w.len j hj]
  · show (clr x.g (row x.t i) k).length = n
    rw [gl, w.glen]
  · rw [piv_b hib, List.length_set, piv_len, w.bl]
  · rw [piv_len] at hj
    rw [piv_b hib, nth_set hib]
    split
    · omega
    · exact w.bp j hj
  · rw [piv_len] at hj
    rw [piv_t hj, bsn]
    by_cases e : j = i
    · rw [if_pos e, if_pos e]; exact hp
    · rw [if_neg e, if_neg e]
      obtain ⟨c, m, v, hc, hm, he, _, _⟩ := cs j hj
      have := he (bs x j)
      rw [w.zero j i hj hi (Ne.symm e)] at this
      exact pos_of_mul' hc this (by have := Int.mul_pos hm (w.pos j hj); omega)
  · rw [piv_len] at ha hj
    rw [piv_t hj, bsn]
    by_cases e : a = i
    · rw [if_pos e]
      have ej : ¬ j = i := fun z => hne (z.trans e.symm)
      rw [if_neg ej]
      obtain ⟨c, m, v, hc, hm, he, hv, _⟩ := cs j hj
      exact zero_of_mul hc (by rw [he k, hv]; omega)
    · rw [if_neg e]
      by_cases ej : j = i
      · rw [if_pos ej]
        exact w.zero a i ha hi (fun z => e z.symm)
      · rw [if_neg ej]
        obtain ⟨c, m, v, hc, hm, he, hv, _⟩ := cs j hj
        exact zero_of_mul hc (by rw [he, w.zero a j ha hj hne, w.zero a i ha hi (fun z => e z.symm)]; simp)
  · rw [piv_len] at hj
    show nth (clr x.g (row x.t i) k) _ = 0
    rw [bsn]
    by_cases e : j = i
    · rw [if_pos e]
      exact zero_of_mul gc0 (by rw [ge k, gvk]; omega)
    · rw [if_neg e]
      exact zero_of_mul gc0 (by rw [ge, w.gz j hj, w.zero j i hj hi (fun z => e z.symm)]; simp)
  · rw [piv_len] at hj
    rw [piv_t hj]
    by_cases e : j = i
    · rw [if_pos e]; exact w.rhs i hi
    · rw [if_neg e]
      obtain ⟨c, m, v, hc, hm, he, hv, _⟩ := cs j hj
      refine pos_of_mul hc (he (n - 1)) ?_
      have r1 := w.rhs i hi
      have r2 := w.rhs j hj
      by_cases hjk : 0 < nth (row x.t j) k
      · have nr := (near j hj hjk).1
        rw [w.last hi, w.last hj] at nr
        -- m * rj - v * ri >= 0, where v * pk = m * jk
        have h1 : v * nth (row x.t i) (n - 1) * nth (row x.t i) k ≤ m * nth (row x.t j) (n - 1) * nth (row x.t i) k := by
          have a1 : v * nth (row x.t i) (n - 1) * nth (row x.t i) k = m * (nth (row x.t i) (n - 1) * nth (row x.t j) k) := by
            rw [Int.mul_assoc, Int.mul_comm (nth (row x.t i) (n - 1)), ← Int.mul_assoc, hv, Int.mul_assoc, Int.mul_comm (nth (row x.t j) k)]
          rw [a1, Int.mul_assoc]
          exact Int.mul_le_mul_of_nonneg_left nr (by omega)
        have := Int.le_of_mul_le_mul_right h1 hp
        omega
      · have hv0 : v ≤ 0 := by
          by_cases hvp : v ≤ 0
          · exact hvp
          · have h1 := Int.mul_pos (show 0 < v by omega) hp
            have h2 : m * nth (row x.t j) k ≤ 0 := Int.mul_nonpos_of_nonneg_of_nonpos (by omega) (by omega)
            omega
        have h1 : 0 ≤ m * nth (row x.t j) (n - 1) := Int.mul_nonneg (by omega) r2
        have h2 : v * nth (row x.t i) (n - 1) ≤ 0 := Int.mul_nonpos_of_nonpos_of_nonneg hv0 r1
        omega
end PD
set_option maxRecDepth 100000
set_option maxHeartbeats 4000000
set_option exponentiation.threshold 20
namespace PD
open PySem PySem.Spec PyProof.Rows L2
/-! ## Bland -/
def Sol (x : LP) (n : Nat) (v : Nat → Int) : Prop := ∀ j, j < x.t.length → dotN (row x.t j) v n = 0
def Bas (x : LP) (j : Nat) : Prop := ∃ i, i < x.t.length ∧ bs x i = j
def Sup (x : LP) (n : Nat) (j : Nat) : Prop := ∃ i, i < x.t.length ∧ bs x i = j ∧ 0 < nth (row x.t i) (n - 1)
structure Rel (q n : Nat) (x y : LP) : Prop where
  sol : ∀ v, Sol x n v ↔ Sol y n v
  goal : ∃ a b : Int, 0 < a ∧ 0 < b ∧ ∀ v, Sol x n v → a * dotN x.g v n = b * dotN y.g v n
  bas : ∀ j, q < j → (Bas x j ↔ Bas y j)
  sup : ∀ j, Sup x n j ↔ Sup y n j
theorem Rel.refl {q n : Nat} (x : LP) : Rel q n x x := ⟨fun _ => .rfl, ⟨1, 1, by decide, by decide, fun _ _ => rfl⟩, fun _ _ => .rfl, fun _ => .rfl⟩
theorem Rel.symm {q n : Nat} {x y : LP} (h : Rel q n x y) : Rel q n y x := by
  obtain ⟨h1, ⟨a, b, ha, hb, h2⟩, h3, h4⟩ := h
  exact ⟨fun v => (h1 v).symm, ⟨b, a, hb, ha, fun v hv => (h2 v ((h1 v).mpr hv)).symm⟩, fun j hj => (h3 j hj).symm, fun j => (h4 j).symm⟩
theorem Rel.trans {q n : Nat} {x y z : LP} (h : Rel q n x y) (h' : Rel q n y z) : Rel q n x z := by
  obtain ⟨h1, ⟨a, b, ha, hb, h2⟩, h3, h4⟩ := h
  obtain ⟨k1, ⟨c, d, hc, hd, k2⟩, k3, k4⟩ := h'
  refine ⟨fun v => (h1 v).trans (k1 v), ⟨c * a, b * d, Int.mul_pos hc ha, Int.mul_pos hb hd, fun v hv => ?_⟩, fun j hj => (h3 j hj).trans (k3 j hj), fun j => (h4 j).trans (k4 j)⟩
  rw [Int.mul_assoc, h2 v hv, Int.mul_assoc, ← k2 v ((h1 v).mp hv), ← Int.mul_assoc, ← Int.mul_assoc, Int.mul_comm c b]
theorem Rel.mono {q q' n : Nat} {x y : LP} (h : Rel q n x y) (hq : q ≤ q') : Rel q' n x y := ⟨h.sol, h.goal, fun j hj => h.bas j (by omega), h.sup⟩
theorem Rel.step {q n k i : Nat} {x : LP} (w : WF x n) (hl : leav x.t x.b k = some i) (h0 : nth (row x.t i) (n - 1) = 0) (hk : k ≤ q) (hb : bs x i ≤ q) : Rel q n x (x.piv k i) := by
  have hi := leav_lt hl
  have lo : LeavOk x.t x.b k x.t.length (some i) := by rw [← hl]; exact leav_ok
  obtain ⟨_, hp, _⟩ := lo
  have hib : i < x.b.length := by rw [w.bl]; exact hi
  have bsn : ∀ j, bs (x.piv k i) j = if j = i then k else bs x j := fun j => by
    unfold bs
    rw [piv_b hib, nth_set hib]
    split
    · simp
    · rfl
  have cs : ∀ j, j < x.t.length → ∃ c m v : Int, 0 < c ∧ 0 < m ∧ (∀ q, c * nth (clr (row x.t j) (row x.t i) k) q = m * nth (row x.t j) q - v * nth (row x.t i) q) ∧ v * nth (row x.t i) k = m * nth (row x.t j) k ∧ (clr (row x.t j) (row x.t i) k).length = (row x.t j).length := fun j hj => clr_spec (by rw [w.len j hj, w.len i hi]) hp
  obtain ⟨gc, gm, gv, gc0, gm0, ge, _, _⟩ := clr_spec (l := x.g) (p := row x.t i) (k := k) (by rw [w.glen, w.len i hi]) hp
  refine ⟨fun v => ⟨fun s j hj => ?_, fun s j hj => ?_⟩, ⟨gm, gc, gm0, gc0, fun v s => ?_⟩, fun j hj => ⟨?_, ?_⟩, fun j => ⟨?_, ?_⟩⟩
  · rw [piv_len] at hj
    rw [piv_t hj]
    split
    · exact s i hi
    · obtain ⟨c, m, u, hc, hm, he, _, _⟩ := cs j hj
      exact zero_of_mul hc (by rw [dot_lin he n, s j hj, s i hi]; simp)
  · have si : dotN (row x.t i) v n = 0 := by
      have := s i (by rw [piv_len]; exact hi)
      rwa [piv_t hi, if_pos rfl] at this
    by_cases e : j = i
    · rw [e]; exact si
    · have sj := s j (by rw [piv_len]; exact hj)
      rw [piv_t hj, if_neg e] at sj
      obtain ⟨c, m, u, hc, hm, he, _, _⟩ := cs j hj
      have := dot_lin (v := v) he n
      rw [sj, si] at this
      exact zero_of_mul hm (by omega)
  · have := dot_lin (v := v) ge n
    rw [s i hi] at this
    show gm * dotN x.g v n = gc * dotN (clr x.g (row x.t i) k) v n
    omega
  · rintro ⟨a, ha, e⟩
    refine ⟨a, by rw [piv_len]; exact ha, ?_⟩
    rw [bsn, if_neg (fun z => by subst z; omega)]
    exact e
  · rintro ⟨a, ha, e⟩
    rw [piv_len] at ha
    rw [bsn] at e
    by_cases z : a = i
    · rw [if_pos z] at e; omega
    · rw [if_neg z] at e
      exact ⟨a, ha, e⟩
  · rintro ⟨a, ha, e, hr⟩
    have z : ¬ a = i := fun z => by subst z; omega
    refine ⟨a, by rw [piv_len]; exact ha, by rw [bsn, if_neg z]; exact e, ?_⟩
    rw [piv_t ha, if_neg z]
    obtain ⟨c, m, u, hc, hm, he, _, _⟩ := cs a ha
    refine pos_of_mul' hc (he (n - 1)) ?_
    rw [h0]
    have := Int.mul_pos hm hr
    omega
  · rintro ⟨a, ha, e, hr⟩
    rw [piv_len] at ha
    rw [piv_t ha] at hr
    by_cases z : a = i
    · rw [if_pos z] at hr; omega
    · rw [if_neg z] at hr
      rw [bsn, if_neg z] at e
      refine ⟨a, ha, e, ?_⟩
      obtain ⟨c, m, u, hc, hm, he, _, _⟩ := cs a ha
      have := he (n - 1)
      rw [h0] at this
      have p := Int.mul_pos hc hr
      exact pos_of_mul' hm (show m * nth (row x.t a) (n - 1) = m * nth (row x.t a) (n - 1) from rfl) (by omega)
/-! ### sums with few terms -/
theorem dot_zero {l : List Int} {v : Nat → Int} : ∀ n, (∀ j, j < n → nth l j * v j = 0) → dotN l v n = 0
  | 0, _ => rfl
  | n + 1, h => by
    rw [dotN, dot_zero n fun j hj => h j (by omega), h n (by omega)]; rfl
theorem dot_one {l : List Int} {v : Nat → Int} {a : Nat} : ∀ n, a < n → (∀ j, j < n → j ≠ a → nth l j * v j = 0) → dotN l v n = nth l a * v a
  | 0, h, _ => by omega
  | n + 1, h, hz => by
    rw [dotN]
    by_cases e : a = n
    · subst e
      rw [dot_zero a fun j hj => hz j (by omega) (by omega)]; simp
    · rw [dot_one n (by omega) fun j hj hne => hz j (by omega) hne, hz n (by omega) (fun z => e z.symm)]; simp
theorem dot_two {l : List Int} {v : Nat → Int} {a b : Nat} (hab : a ≠ b) : ∀ n, a < n → b < n → (∀ j, j < n → j ≠ a → j ≠ b → nth l j * v j = 0) → dotN l v n = nth l a * v a + nth l b * v b
  | 0, h, _, _ => by omega
  | n + 1, ha, hb, hz => by
    rw [dotN]
    by_cases e : a = n
    · subst e
      rw [dot_one a (a := b) (by omega) fun j hj hne => hz j (by omega) (by omega) hne]
      exact Int.add_comm _ _
    · by_cases e2 : b = n
      · subst e2
        rw [dot_one b (a := a) (by omega) fun j hj hne => hz j (by omega) hne (by omega)]
      · rw [dot_two hab n (by omega) (by omega) fun j hj h1 h2 => hz j (by omega) h1 h2, hz n (by omega) (fun z => e z.symm) (fun z => e2 z.symm)]; simp
theorem dot_pos {l : List Int} {v : Nat → Int} : ∀ n, 0 < dotN l v n → ∃ j, j < n ∧ 0 < nth l j * v j
  | 0, h => by simp [dotN] at h
  | n + 1, h => by
    rw [dotN] at h
    by_cases hn : 0 < nth l n * v n
    · exact ⟨n, by omega, hn⟩
    · obtain ⟨j, hj, hp⟩ := dot_pos n (show 0 < dotN l v n by omega)
      exact ⟨j, by omega, hp⟩
end PD
set_option maxRecDepth 100000
set_option maxHeartbeats 4000000
set_option exponentiation.threshold 20
namespace PD
open PySem PySem.Spec PyProof.Rows L2
def prodP (x : LP) : Nat → Int
  | 0 => 1
  | m + 1 => prodP x m * nth (row x.t m) (bs x m)
theorem prodP_pos {x : LP} {n : Nat} (w : WF x n) : ∀ m, m ≤ x.t.length → 0 < prodP x m
  | 0, _ => show (0 : Int) < 1 by decide
  | m + 1, h => Int.mul_pos (prodP_pos w m (by omega)) (w.pos m (by omega))
theorem prodP_dvd {x : LP} {k : Nat} : ∀ m, k < m → nth (row x.t k) (bs x k) ∣ prodP x m
  | 0, h => by omega
  | m + 1, h => by
    by_cases e : k = m
    · subst e; exact Int.dvd_mul_left _ _
    · exact Int.dvd_trans (prodP_dvd m (by omega)) (Int.dvd_mul_right _ _)
theorem WF.inj {x : LP} {n a b : Nat} (w : WF x n) (ha : a < x.t.length) (hb : b < x.t.length) (h : bs x a = bs x b) : a = b := by
  by_cases e : a = b
  · exact e
  · have z := w.zero a b ha hb (fun q => e q.symm)
    have p := w.pos b hb
    rw [h] at z; omega
/-- the place of a basic column -/
def plc (x : LP) (j : Nat) : Option Nat := (List.range x.t.length).find? fun i => bs x i == j
theorem plc_some {x : LP} {j i : Nat} (h : plc x j = some i) : i < x.t.length ∧ bs x i = j := by
  unfold plc at h
  have h1 := List.mem_of_find?_eq_some h
  have h2 := List.find?_some h
  exact ⟨List.mem_range.mp h1, by simpa using h2⟩
theorem plc_bs {x : LP} {n i : Nat} (w : WF x n) (hi : i < x.t.length) : plc x (bs x i) = some i := by
  cases h : plc x (bs x i) with
  | none =>
    unfold plc at h
    rw [List.find?_eq_none] at h
    exact absurd (h i (List.mem_range.mpr hi)) (by simp)
  | some a =>
    obtain ⟨h1, h2⟩ := plc_some h
    rw [w.inj h1 hi h2]
/-- the direction in which s grows -/
def dir (x : LP) (s : Nat) (j : Nat) : Int := if j = s then prodP x x.t.length else (match plc x j with
  | some k => -(nth (row x.t k) s * (prodP x x.t.length / nth (row x.t k) (bs x k)))
  | none => 0)
theorem dir_s {x : LP} {s : Nat} : dir x s s = prodP x x.t.length := if_pos rfl
theorem dir_b {x : LP} {n s k : Nat} (w : WF x n) (hk : k < x.t.length) (hs : bs x k ≠ s) : dir x s (bs x k) = -(nth (row x.t k) s * (prodP x x.t.length / nth (row x.t k) (bs x k))) := by
  unfold dir
  rw [if_neg hs, plc_bs w hk]
theorem dir_0 {x : LP} {s j : Nat} (hs : j ≠ s) (h : ¬ Bas x j) : dir x s j = 0 := by
  unfold dir
  rw [if_neg hs]
  cases e : plc x j with
  | none => rfl
  | some k =>
    obtain ⟨h1, h2⟩ := plc_some e
    exact absurd ⟨k, h1, h2⟩ h
theorem bs_lt {x : LP} {n i : Nat} (w : WF x n) (hi : i < x.t.length) : bs x i + 1 < n := by
  have := w.bp i hi
  unfold bs
  omega
theorem dir_sol {x : LP} {n s : Nat} (w : WF x n) (hs : s + 1 < n) (hb : ¬ Bas x s) : Sol x n (dir x s) := fun k hk => by
  have hne : bs x k ≠ s := fun e => hb ⟨k, hk, e⟩
  have hbl := bs_lt w hk
  rw [dot_two (a := s) (b := bs x k) (fun e => hne e.symm) n (by omega) (by omega) fun j hj h1 h2 => ?_]
  · rw [dir_s, dir_b w hk hne]
    have d := Int.mul_ediv_cancel' (prodP_dvd (x := x) (k := k) x.t.length hk)
    have e : nth (row x.t k) (bs x k) * -(nth (row x.t k) s * (prodP x x.t.length / nth (row x.t k) (bs x k))) = -(nth (row x.t k) s * prodP x x.t.length) := by
      rw [Int.mul_neg, ← Int.mul_assoc, Int.mul_comm (nth (row x.t k) (bs x k)), Int.mul_assoc, d]
    rw [e]
    omega
  · by_cases hB : Bas x j
    · obtain ⟨a, ha, rfl⟩ := hB
      have : k ≠ a := fun e => h2 (by rw [e])
      rw [w.zero a k ha hk this]; simp
    · rw [dir_0 h1 hB]; simp
/-- no variable both leaves and enters while none above it moves -/
theorem no_both {q n s i : Nat} {x y : LP} (wx : WF x n) (wy : WF y n) (r : Rel q n x y) (hs : s + 1 < n) (hsq : s ≤ q) (hg : 0 < nth x.g s) (hl : leav x.t x.b s = some i) (h0 : nth (row x.t i) (n - 1) = 0) (hq : bs x i = q)
    (hy : 0 < nth y.g q) (hf : ∀ j, j < q → nth y.g j ≤ 0) : False := by
  have hi := leav_lt hl
  have lo : LeavOk x.t x.b s x.t.length (some i) := by rw [← hl]; exact leav_ok
  obtain ⟨_, hp, near⟩ := lo
  have nb : ¬ Bas x s := fun ⟨a, ha, e⟩ => by
    have := wx.gz a ha
    rw [e] at this; omega
  have yz : ∀ j, Bas y j → nth y.g j = 0 := fun j ⟨a, ha, e⟩ => by rw [← e]; exact wy.gz a ha
  have sol := dir_sol wx hs nb
  have P0 := prodP_pos wx x.t.length (Nat.le_refl _)
  have gx : dotN x.g (dir x s) n = nth x.g s * prodP x x.t.length := by
    rw [dot_one (a := s) n (by omega) fun j hj hne => ?_, dir_s]
    by_cases hB : Bas x j
    · obtain ⟨a, ha, rfl⟩ := hB
      rw [wx.gz a ha]; simp
    · rw [dir_0 hne hB]; simp
  obtain ⟨a, b, ha, hb, hgoal⟩ := r.goal
  have e := hgoal _ sol
  rw [gx] at e
  have pos : 0 < a * (nth x.g s * prodP x x.t.length) := Int.mul_pos ha (Int.mul_pos hg P0)
  have gy : 0 < dotN y.g (dir x s) n := pos_of_mul' hb e.symm pos
  obtain ⟨j, hj, hjp⟩ := dot_pos n gy
  by_cases js : j = s
  · subst js
    rw [dir_s] at hjp
    have : ¬ j = q := fun z => nb ⟨i, hi, hq.trans z.symm⟩
    have h1 := hf j (by omega)
    have := Int.mul_nonpos_of_nonpos_of_nonneg h1 (show 0 ≤ prodP x x.t.length by omega)
    omega
  · by_cases hB : Bas x j
    · obtain ⟨k, hk, rfl⟩ := hB
      have ny : ¬ Bas y (bs x k) := fun z => by rw [yz _ z] at hjp; simp at hjp
      have hle : bs x k ≤ q := by
        by_cases z : q < bs x k
        · exact absurd ((r.bas _ z).mp ⟨k, hk, rfl⟩) ny
        · omega
      rw [dir_b wx hk js] at hjp
      have Q0 : 0 < prodP x x.t.length / nth (row x.t k) (bs x k) := by
        have d := Int.mul_ediv_cancel' (prodP_dvd (x := x) (k := k) x.t.length hk)
        exact pos_of_mul' (wx.pos k hk) d P0
      generalize prodP x x.t.length / nth (row x.t k) (bs x k) = Q at Q0 hjp
      by_cases kq : bs x k = q
      · have ki : k = i := wx.inj hk hi (kq.trans hq.symm)
        subst ki
        rw [kq] at hjp
        have h1 := Int.mul_pos hp Q0
        have h2 : nth y.g q * -(nth (row x.t k) s * Q) ≤ 0 := Int.mul_nonpos_of_nonneg_of_nonpos (by omega) (by omega)
        omega
      · have h1 := hf (bs x k) (by omega)
        have hks : 0 < nth (row x.t k) s := by
          by_cases z : 0 < nth (row x.t k) s
          · exact z
          · have h2 : nth (row x.t k) s * Q ≤ 0 := Int.mul_nonpos_of_nonpos_of_nonneg (by omega) (by omega)
            have h3 := Int.mul_nonpos_of_nonpos_of_nonneg h1 (show 0 ≤ -(nth (row x.t k) s * Q) by omega)
            omega
        have nr := near k hk hks
        have r0 := wx.rhs k hk
        by_cases rz : 0 < nth (row x.t k) (n - 1)
        · obtain ⟨c, hc, e1, _⟩ := (r.sup (bs x k)).mp ⟨k, hk, rfl, rz⟩
          exact ny ⟨c, hc, e1⟩
        · have rz : nth (row x.t k) (n - 1) = 0 := by omega
          have nb := nr.2
          rw [wx.last hi, wx.last hk, h0, rz] at nb
          have h5 := nb (by simp)
          have b1 := wx.bp i hi
          have b2 := wx.bp k hk
          unfold bs at hq kq hle
          omega
    · rw [dir_0 js hB] at hjp
      simp at hjp
end PD
set_option maxRecDepth 100000
set_option maxHeartbeats 4000000
set_option exponentiation.threshold 20
namespace PD
open PySem PySem.Spec PyProof.Rows L2
/-- one degenerate turn -/
structure DStep (n : Nat) (x : LP) (k i : Nat) : Prop where
  hk : ∃ ks, places x.g = k :: ks
  hl : leav x.t x.b k = some i
  h0 : nth (row x.t i) (n - 1) = 0
inductive Turns (n q : Nat) : Nat → LP → LP → Prop where
  | nil (x : LP) : Turns n q 0 x x
  | cons {N k i : Nat} {x y : LP} (d : DStep n x k i) (hk : k < q) (hb : bs x i < q) (r : Turns n q N (x.piv k i) y) : Turns n q (N + 1) x y
theorem filter_head {p : Nat → Bool} : ∀ (m s k : Nat) (ks : List Nat), (List.range' s m).filter p = k :: ks → p k = true ∧ s ≤ k ∧ k < s + m ∧ ∀ j, s ≤ j → j < k → p j = false
  | 0, s, k, ks, h => by simp at h
  | m + 1, s, k, ks, h => by
    rw [List.range'_succ, List.filter_cons] at h
    by_cases e : p s = true
    · rw [if_pos e] at h
      have : s = k := (List.cons.inj h).1
      subst this
      exact ⟨e, Nat.le_refl _, by omega, fun j h1 h2 => by omega⟩
    · rw [if_neg e] at h
      obtain ⟨h1, h2, h3, h4⟩ := filter_head m (s + 1) k ks h
      refine ⟨h1, by omega, by omega, fun j hj1 hj2 => ?_⟩
      by_cases hjs : j = s
      · subst hjs; simpa using e
      · exact h4 j (by omega) hj2
theorem places_head {g : List Int} {k : Nat} {ks : List Nat} (h : places g = k :: ks) : 0 < nth g k ∧ k < g.length - 1 ∧ ∀ j, j < k → nth g j ≤ 0 := by
  unfold places at h
  rw [List.range_eq_range'] at h
  obtain ⟨h1, _, h3, h4⟩ := filter_head _ _ _ _ h
  refine ⟨by simpa using h1, by omega, fun j hj => ?_⟩
  have := h4 j (Nat.zero_le _) hj
  simp at this
  exact this
theorem DStep.facts {n k i : Nat} {x : LP} (w : WF x n) (d : DStep n x k i) : 0 < nth x.g k ∧ k + 1 < n ∧ ∀ j, j < k → nth x.g j ≤ 0 := by
  obtain ⟨ks, h⟩ := d.hk
  obtain ⟨h1, h2, h3⟩ := places_head h
  rw [w.glen] at h2
  exact ⟨h1, by omega, h3⟩
theorem DStep.wf {n k i : Nat} {x : LP} (w : WF x n) (d : DStep n x k i) : WF (x.piv k i) n := w.piv (d.facts w).2.1 (d.facts w).1 d.hl
theorem Turns.rel {n q N : Nat} {x y : LP} (r : Turns n q N x y) : WF x n → WF y n ∧ Rel q n x y ∧ (Bas x q ↔ Bas y q) := by
  induction r with
  | nil x => exact fun w => ⟨w, Rel.refl x, .rfl⟩
  | cons d hk hb r ih =>
    intro w
    obtain ⟨h1, h2, h3⟩ := ih (d.wf w)
    have st := Rel.step (q := q) w d.hl d.h0 (by omega) (by omega)
    have st' := Rel.step (q := q - 1) w d.hl d.h0 (by omega) (by omega)
    exact ⟨h1, st.trans h2, (st'.bas q (by omega)).trans h3⟩
/-- up to the first turn that moves q -/
theorem Turns.split {n q N : Nat} {x y : LP} (r : Turns n (q + 1) N x y) : Turns n q N x y ∨ ∃ N1 N2 k i z, N = N1 + 1 + N2 ∧ Turns n q N1 x z ∧ DStep n z k i ∧ k ≤ q ∧ bs z i ≤ q ∧ (k = q ∨ bs z i = q) ∧ Turns n (q + 1) N2 (z.piv k i) y := by
  induction r with
  | nil x => exact .inl (.nil x)
  | @cons N k i x y d hk hb r ih =>
    by_cases e : k = q ∨ bs x i = q
    · exact .inr ⟨0, N, k, i, x, by omega, .nil x, d, by omega, by omega, e, r⟩
    · have e1 : k < q := by omega
      have e2 : bs x i < q := by omega
      rcases ih with h | ⟨N1, N2, k', i', z, h1, h2, h3, h4, h5, h6, h7⟩
      · exact .inl (.cons d e1 e2 h)
      · exact .inr ⟨N1 + 1, N2, k', i', z, by omega, .cons d e1 e2 h2, h3, h4, h5, h6, h7⟩
theorem bland {n : Nat} : ∀ (q N : Nat) (x y : LP), WF x n → Turns n q N x y → N < 2 ^ q
  | 0, N, x, y, w, r => by
    cases r with
    | nil => decide
    | cons d hk hb r => omega
  | q + 1, N, x, y, w, r => by
    rw [Nat.pow_succ]
    rcases r.split with h | ⟨N1, N2, k, i, z, hN, r1, d, hk, hb, e, r2⟩
    · have := bland q N x y w h; omega
    · have b1 := bland q N1 x z w r1
      obtain ⟨wz, rel1, _⟩ := r1.rel w
      have wz' := d.wf wz
      have st := Rel.step (q := q) wz d.hl d.h0 hk hb
      obtain ⟨g1, g2, g3⟩ := d.facts wz
      have hi := leav_lt d.hl
      rcases r2.split with h | ⟨M1, M2, k', i', z', hM, s1, d', hk', hb', e', s2⟩
      · have := bland q N2 _ y wz' h; omega
      · exfalso
        obtain ⟨wz2, rel2, bq⟩ := s1.rel wz'
        obtain ⟨f1, f2, f3⟩ := d'.facts wz2
        have hi' := leav_lt d'.hl
        have rel := st.trans rel2
        have hib : i < z.b.length := by rw [wz.bl]; exact hi
        have bsn : ∀ j, bs (z.piv k i) j = if j = i then k else bs z j := fun j => by
          unfold bs
          rw [piv_b hib, nth_set hib]
          split
          · simp
          · rfl
        by_cases ek : k = q
        · -- q enters at z
          subst ek
          by_cases ek' : k' = k
          · -- and again at z'
            subst ek'
            have : Bas (z.piv k' i) k' := ⟨i, by rw [piv_len]; exact hi, by rw [bsn, if_pos rfl]⟩
            obtain ⟨a, ha, hab⟩ := bq.mp this
            have := wz2.gz a ha
            rw [hab] at this; omega
          · have el : bs z' i' = k := by omega
            exact no_both wz2 wz rel.symm (by omega) hk' f1 d'.hl d'.h0 el g1 g3
        · have el : bs z i = q := by omega
          by_cases ek' : k' = q
          · subst ek'
            exact no_both wz wz2 rel (by omega) hk g1 d.hl d.h0 el f1 f3
          · have el' : bs z' i' = q := by omega
            have : Bas z' q := ⟨i', hi', el'⟩
            obtain ⟨a, ha, hab⟩ := bq.mpr this
            rw [piv_len] at ha
            rw [bsn] at hab
            by_cases ea : a = i
            · rw [if_pos ea] at hab; exact ek hab
            · rw [if_neg ea] at hab
              exact ea (wz.inj ha hi (hab.trans el.symm))
end PD
set_option maxRecDepth 100000
set_option maxHeartbeats 4000000
set_option exponentiation.threshold 2000
namespace PD
open PySem PySem.Spec PyProof.Rows L2
/-! ## the loop ends -/
theorem piv_goal {x : LP} {n k i : Nat} (w : WF x n) (hg : 0 < nth x.g k) (hl : leav x.t x.b k = some i) (hz : lastD x.g = 0) : lastD (x.piv k i).g ≤ 0 ∧ (lastD (x.piv k i).g = 0 ↔ nth (row x.t i) (n - 1) = 0) := by
  have hi := leav_lt hl
  have lo : LeavOk x.t x.b k x.t.length (some i) := by rw [← hl]; exact leav_ok
  obtain ⟨_, hp, _⟩ := lo
  obtain ⟨c, m, v, hc, hm, he, hv, hlen⟩ := clr_spec (l := x.g) (p := row x.t i) (k := k) (by rw [w.glen, w.len i hi]) hp
  have e1 : lastD (x.piv k i).g = nth (clr x.g (row x.t i) k) (n - 1) := by
    show lastD (clr x.g (row x.t i) k) = _
    unfold lastD
    rw [hlen, w.glen]
  have e2 : nth x.g (n - 1) = 0 := by
    unfold lastD at hz
    rwa [w.glen] at hz
  have h := he (n - 1)
  rw [e2] at h
  have v0 : 0 < v := by
    by_cases z : 0 < v
    · exact z
    · have h1 := Int.mul_pos hm hg
      have h2 : v * nth (row x.t i) k ≤ 0 := Int.mul_nonpos_of_nonpos_of_nonneg (by omega) (by omega)
      omega
  have r0 := w.rhs i hi
  rw [e1]
  refine ⟨?_, fun z => ?_, fun z => ?_⟩
  · by_cases z : nth (clr x.g (row x.t i) k) (n - 1) ≤ 0
    · exact z
    · have h1 := Int.mul_pos hc (show 0 < nth (clr x.g (row x.t i) k) (n - 1) by omega)
      have h2 : 0 ≤ v * nth (row x.t i) (n - 1) := Int.mul_nonneg (by omega) r0
      omega
  · rw [z] at h
    exact zero_of_mul v0 (by omega)
  · rw [z] at h
    exact zero_of_mul hc (by omega)
theorem canS_mono : ∀ (m : Nat) (x : LP) (r : Bool), canS m x = some r → canS (m + 1) x = some r
  | 0, _, _, h => nomatch h
  | m + 1, x, r, h => by
    rw [canS] at h ⊢
    by_cases h0 : lastD x.g = 0
    · rw [if_pos h0] at h ⊢
      cases hp : places x.g with
      | nil => rw [hp] at h; exact h
      | cons k ks =>
        rw [hp] at h
        have h : (match leav x.t x.b k with
          | none => none
          | some i => canS m (x.piv k i)) = some r := h
        show (match leav x.t x.b k with
          | none => none
          | some i => canS (m + 1) (x.piv k i)) = some r
        cases hl : leav x.t x.b k with
        | none => rw [hl] at h; cases h
        | some i => rw [hl] at h; exact canS_mono m _ r h
    · rw [if_neg h0] at h ⊢
      exact h
theorem canS_le {m : Nat} {x : LP} {r : Bool} (h : canS m x = some r) : ∀ d, canS (m + d) x = some r
  | 0 => h
  | d + 1 => canS_mono _ x r (canS_le h d)
theorem canS_step {x : LP} {k i N : Nat} {ks : List Nat} (h0 : lastD x.g = 0) (hp : places x.g = k :: ks) (hi : leav x.t x.b k = some i) : canS (N + 1) x = canS N (x.piv k i) := by
  rw [canS, if_pos h0, hp]
  show (match leav x.t x.b k with
    | none => none
    | some i => canS N (x.piv k i)) = _
  rw [hi]
theorem canS_or {n : Nat} (J : LP → Prop) (hJ : ∀ x, J x → WF x n) (hs : ∀ x k ks i, J x → lastD x.g = 0 → places x.g = k :: ks → leav x.t x.b k = some i → J (x.piv k i)) (hl : ∀ x k ks, J x → places x.g = k :: ks → ∃ i, leav x.t x.b k = some i) :
    ∀ (m : Nat) (x : LP), J x → lastD x.g = 0 → (∃ r, canS (m + 2) x = some r) ∨ ∃ y, Turns n n m x y
  | 0, x, _, _ => .inr ⟨x, .nil x⟩
  | m + 1, x, hx, h0 => by
    rw [show m + 1 + 2 = (m + 2) + 1 by omega]
    cases hp : places x.g with
    | nil => exact .inl ⟨false, by rw [canS, if_pos h0, hp]⟩
    | cons k ks =>
      obtain ⟨i, hi⟩ := hl x k ks hx hp
      have w := hJ x hx
      have hx' := hs x k ks i hx h0 hp hi
      obtain ⟨g1, g2, _⟩ := places_head hp
      rw [w.glen] at g2
      obtain ⟨p1, p2⟩ := piv_goal w g1 hi h0
      rw [canS_step h0 hp hi]
      by_cases hz : nth (row x.t i) (n - 1) = 0
      · rcases canS_or J hJ hs hl m _ hx' (p2.mpr hz) with h | ⟨y, h⟩
        · exact .inl h
        · exact .inr ⟨y, .cons ⟨⟨ks, hp⟩, hi, hz⟩ (by omega) (by have := bs_lt w (leav_lt hi); omega) h⟩
      · refine .inl ⟨true, ?_⟩
        rw [show m + 2 = (m + 1) + 1 by omega, canS, if_neg (fun z => hz (p2.mp z))]
theorem canS_some {n : Nat} (J : LP → Prop) (hJ : ∀ x, J x → WF x n) (hs : ∀ x k ks i, J x → lastD x.g = 0 → places x.g = k :: ks → leav x.t x.b k = some i → J (x.piv k i)) (hl : ∀ x k ks, J x → places x.g = k :: ks → ∃ i, leav x.t x.b k = some i) (hn : n ≤ 300)
    (x : LP) (hx : J x) (h0 : lastD x.g = 0) : ∃ r, canS wfuel x = some r := by
  rcases canS_or J hJ hs hl (2 ^ n) x hx h0 with ⟨r, h⟩ | ⟨y, h⟩
  · refine ⟨r, ?_⟩
    have hb : 2 ^ n + 2 ≤ wfuel := by
      have h1 : 2 ^ n ≤ 2 ^ 300 := Nat.pow_le_pow_right (by decide) hn
      have h2 : 2 ^ 300 + 2 ≤ wfuel := by unfold wfuel; decide
      omega
    have := canS_le h (wfuel - (2 ^ n + 2))
    rwa [show 2 ^ n + 2 + (wfuel - (2 ^ n + 2)) = wfuel by omega] at this
  · have := bland n _ x y (hJ x hx) h
    omega
end PD
set_option maxRecDepth 100000
set_option maxHeartbeats 4000000
set_option exponentiation.threshold 20
namespace PD
open PySem PySem.Spec PyProof.Rows L2
/-! ## the first table -/
theorem nth_app {a b : List Int} {j : Nat} : nth (a ++ b) j = if j < a.length then nth a j else nth b (j - a.length) := by
  unfold nth
  rw [List.getD_eq_getElem?_getD]
  by_cases h : j < a.length
  · rw [if_pos h, List.getElem?_append_left h, List.getD_eq_getElem?_getD]
  · rw [if_neg h, List.getElem?_append_right (by omega), List.getD_eq_getElem?_getD]
theorem tabG_get {many : Nat} : ∀ (ps : List (List Int × Int)) (k m : Nat) (p : List Int × Int), ps[m]? = some p → (tabG many k ps)[m]? = some (p.1 ++ unitL many (k + m) ++ [p.2])
  | [], _, _, _, h => by simp at h
  | q :: ps, k, 0, p, h => by
    simp at h; subst h
    simp [tabG]
  | q :: ps, k, m + 1, p, h => by
    have := tabG_get (many := many) ps (k + 1) m p (by simpa using h)
    show (tabG many (k + 1) ps)[m]? = _
    rw [this, show k + 1 + m = k + (m + 1) by omega]
theorem tab_row {lines : List (List Int × Int)} {j : Nat} {p : List Int × Int} (h : lines[j]? = some p) : row (tabOf lines) j = p.1 ++ unitL lines.length j ++ [p.2] := by
  unfold row tabOf
  rw [List.getD_eq_getElem?_getD, tabG_get lines 0 j p h, Nat.zero_add]; rfl
theorem unit_nth {m k j : Nat} (h : j < m) : nth (unitL m k) j = if j = k then 1 else 0 := by
  unfold nth unitL
  rw [List.getD_eq_getElem?_getD, List.getElem?_map, List.getElem?_range h]; rfl
theorem unit_len {m k : Nat} : (unitL m k).length = m := by simp [unitL]
/-- the lines: each of so many factors, a bound from 0 on -/
structure LnOk (lines : List (List Int × Int)) (w : Nat) : Prop where
  len : ∀ p ∈ lines, p.1.length = w
  nn : ∀ p ∈ lines, 0 ≤ p.2
theorem row_low {lines : List (List Int × Int)} {w j q : Nat} {p : List Int × Int} (ok : LnOk lines w) (h : lines[j]? = some p) (hq : q < w) : nth (row (tabOf lines) j) q = nth p.1 q := by
  have hl := ok.len p (List.mem_of_getElem? h)
  rw [tab_row h, nth_app, if_pos (by simp [unit_len]; omega), nth_app, if_pos (by omega)]
theorem row_mid {lines : List (List Int × Int)} {w j q : Nat} {p : List Int × Int} (ok : LnOk lines w) (h : lines[j]? = some p) (hq : q < lines.length) : nth (row (tabOf lines) j) (w + q) = if q = j then 1 else 0 := by
  have hl := ok.len p (List.mem_of_getElem? h)
  rw [tab_row h, nth_app, if_pos (by simp [unit_len]; omega), nth_app, if_neg (by omega), hl, show w + q - w = q by omega, unit_nth hq]
theorem row_top {lines : List (List Int × Int)} {w j : Nat} {p : List Int × Int} (ok : LnOk lines w) (h : lines[j]? = some p) : nth (row (tabOf lines) j) (w + lines.length) = p.2 := by
  have hl := ok.len p (List.mem_of_getElem? h)
  rw [tab_row h, nth_app, if_neg (by simp [unit_len]; omega)]
  have : w + lines.length - (p.1 ++ unitL lines.length j).length = 0 := by simp [unit_len]; omega
  rw [this]; rfl
theorem init_wf {lines : List (List Int × Int)} {goal : List Int} (ok : LnOk lines goal.length) : WF (LP.init lines goal) (goal.length + lines.length + 1) := by
  have tl : (LP.init lines goal).t.length = lines.length := tabG_len _ _ _
  have at_ : ∀ j, j < (LP.init lines goal).t.length → ∃ p, lines[j]? = some p := fun j hj => ⟨lines[j]'(by omega), List.getElem?_eq_getElem (by omega)⟩
  have bn : ∀ i, i < (LP.init lines goal).t.length → nth (LP.init lines goal).b i = ((goal.length + i : Nat) : Int) := fun i hi => by
    show nth ((List.range lines.length).map fun (k : Nat) => ((goal.length + k : Nat) : Int)) i = _
    unfold nth
    rw [List.getD_eq_getElem?_getD, List.getElem?_map, List.getElem?_range (by omega)]; rfl
  have bsn : ∀ i, i < (LP.init lines goal).t.length → bs (LP.init lines goal) i = goal.length + i := fun i hi => by
    unfold bs
    rw [bn i hi]; exact Int.toNat_natCast _
  refine ⟨fun j hj => ?_, ?_, ?_, fun i hi => ?_, fun i hi => ?_, fun i j hi hj hne => ?_, fun i hi => ?_, fun i hi => ?_⟩
  · obtain ⟨p, hp⟩ := at_ j hj
    show (row (tabOf lines) j).length = _
    rw [tab_row hp]
    have := ok.len p (List.mem_of_getElem? hp)
    simp [unit_len, this]; omega
  · show (goal ++ List.replicate (lines.length + 1) 0).length = _
    simp; omega
  · show ((List.range lines.length).map _).length = _
    rw [tl]; simp
  · rw [bn i hi]; rw [tl] at hi; omega
  · obtain ⟨p, hp⟩ := at_ i hi
    rw [bsn i hi]
    show 0 < nth (row (tabOf lines) i) _
    rw [row_mid ok hp (by omega), if_pos rfl]; decide
  · obtain ⟨p, hp⟩ := at_ j hj
    rw [bsn i hi]
    show nth (row (tabOf lines) j) _ = 0
    rw [row_mid ok hp (by omega), if_neg (fun z => hne z.symm)]
  · rw [bsn i hi]
    show nth (goal ++ List.replicate (lines.length + 1) 0) _ = 0
    rw [nth_app, if_neg (by omega)]
    unfold nth
    rw [List.getD_eq_getElem?_getD, List.getElem?_replicate]
    split <;> rfl
  · obtain ⟨p, hp⟩ := at_ i hi
    show 0 ≤ nth (row (tabOf lines) i) _
    rw [show goal.length + lines.length + 1 - 1 = goal.length + lines.length by omega, row_top ok hp]
    exact ok.nn p (List.mem_of_getElem? hp)
theorem init_last {lines : List (List Int × Int)} {goal : List Int} : lastD (LP.init lines goal).g = 0 := by
  show lastD (goal ++ List.replicate (lines.length + 1) 0) = 0
  unfold lastD
  rw [nth_app, if_neg (by simp)]
  unfold nth
  rw [List.getD_eq_getElem?_getD, List.getElem?_replicate]
  split <;> rfl
/-! ### the columns are bounded -/
theorem dot_split {l : List Int} {v : Nat → Int} : ∀ n, (∀ j, j < n → 0 ≤ nth l j * v j) → dotN l v n = 0 → ∀ j, j < n → nth l j * v j = 0
  | 0, _, _, j, hj => by omega
  | n + 1, h, e, j, hj => by
    rw [dotN] at e
    have h1 : 0 ≤ dotN l v n := dot_nn n fun j hj => h j (by omega)
    have h2 := h n (by omega)
    by_cases hjn : j = n
    · subst hjn; omega
    · exact dot_split n (fun j hj => h j (by omega)) (by omega) j (by omega)
where dot_nn {l : List Int} {v : Nat → Int} : ∀ n, (∀ j, j < n → 0 ≤ nth l j * v j) → 0 ≤ dotN l v n
  | 0, _ => by simp [dotN]
  | n + 1, h => by
    rw [dotN]
    have := dot_nn n fun j hj => h j (by omega)
    have := h n (by omega)
    omega
/-- the system: two last lines bound all unknowns -/
theorem sol_zero {rows : List (List Int × Bool)} {many : Nat} (hl : ∀ p ∈ rows, p.1.length = many + 1) {v : Nat → Int} {n : Nat} (hn : n = (many + 2) + (solLines rows many).length + 1) (hv : ∀ j, 0 ≤ v j) (hz : v (n - 1) = 0) (s : Sol (lpOf rows many) n v) : ∀ j, j < n → v j = 0 := by
  have lo : LnOk (solLines rows many) (many + 2) := by
    refine ⟨fun p hp => ?_, fun p hp => ?_⟩
    · unfold solLines at hp
      rcases List.mem_append.mp hp with hp | hp
      · obtain ⟨q, hq, rfl⟩ := List.mem_map.mp hp
        simp [lnOfRow, hl q hq]
      · simp at hp
        rcases hp with rfl | rfl <;> simp
    · unfold solLines at hp
      rcases List.mem_append.mp hp with hp | hp
      · obtain ⟨q, hq, rfl⟩ := List.mem_map.mp hp
        exact Int.le_refl _
      · simp at hp
        rcases hp with rfl | rfl <;> simp
  have size : (solLines rows many).length = rows.length + 2 := by simp [solLines]
  have tl : (lpOf rows many).t.length = rows.length + 2 := by
    show (tabOf (solLines rows many)).length = _
    rw [← size]; exact tabG_len _ _ _
  have lz : (solLines rows many)[rows.length]? = some (List.replicate many 0 ++ [-1, 1], 0) := by
    unfold solLines
    rw [List.getElem?_append_right (by simp)]
    simp
  have lb : (solLines rows many)[rows.length + 1]? = some (List.replicate (many + 1) 1 ++ [0], 1) := by
    unfold solLines
    rw [List.getElem?_append_right (by simp)]
    simp
  -- a line whose low products are from 0 on gives zeros
  have key : ∀ (j : Nat) (p : List Int × Int), (solLines rows many)[j]? = some p → (∀ q, q < many + 2 → 0 ≤ nth p.1 q * v q) → (∀ q, q < many + 2 → nth p.1 q * v q = 0) ∧ v (many + 2 + j) = 0 := fun j p hp hq => by
    have hj : j < (solLines rows many).length := (List.getElem?_eq_some_iff.mp hp).1
    have d := s j (by rw [tl, ← size]; exact hj)
    have nn : ∀ q, q < n → 0 ≤ nth (row (tabOf (solLines rows many)) j) q * v q := fun q hqn => by
      by_cases h1 : q < many + 2
      · rw [row_low lo hp h1]; exact hq q h1
      · by_cases h2 : q < many + 2 + (solLines rows many).length
        · have e : q = many + 2 + (q - (many + 2)) := by omega
          rw [e, row_mid lo hp (by omega)]
          split
          · have := hv (many + 2 + (q - (many + 2))); omega
          · omega
        · have e : q = n - 1 := by omega
          rw [e, hz]; simp
    have z := dot_split n nn d
    refine ⟨fun q hq => ?_, ?_⟩
    · have := z q (by omega)
      rwa [row_low lo hp hq] at this
    · have := z (many + 2 + j) (by omega)
      rw [row_mid lo hp hj, if_pos rfl] at this
      omega
  have n1 : ∀ q, q < many + 1 → nth (List.replicate (many + 1) (1 : Int) ++ [0]) q = 1 := fun q hq => by
    rw [nth_app, if_pos (by simpa using hq)]
    unfold nth
    rw [List.getD_eq_getElem?_getD, List.getElem?_replicate, if_pos hq]; rfl
  have n0 : nth (List.replicate (many + 1) (1 : Int) ++ [0]) (many + 1) = 0 := by
    rw [nth_app, if_neg (by simp)]
    simp [nth]
  obtain ⟨a1, a2⟩ := key _ _ lb fun q hq => by
    by_cases h : q < many + 1
    · show 0 ≤ nth (List.replicate (many + 1) (1 : Int) ++ [0]) q * v q
      rw [n1 q h]; have := hv q; omega
    · have : q = many + 1 := by omega
      subst this
      show 0 ≤ nth (List.replicate (many + 1) (1 : Int) ++ [0]) (many + 1) * _
      rw [n0]; omega
  have low : ∀ q, q < many + 1 → v q = 0 := fun q hq => by
    have : nth (List.replicate (many + 1) (1 : Int) ++ [0]) q * v q = 0 := a1 q (by omega)
    rw [n1 q hq] at this
    omega
  have m1 : nth (List.replicate many (0 : Int) ++ [-1, 1]) (many + 1) = 1 := by
    rw [nth_app, if_neg (by simp)]
    simp [nth]
  obtain ⟨b1, b2⟩ := key _ _ lz fun q hq => by
    by_cases h : q < many + 1
    · rw [low q h]; simp
    · have : q = many + 1 := by omega
      subst this
      show 0 ≤ nth (List.replicate many (0 : Int) ++ [-1, 1]) (many + 1) * _
      rw [m1]; have := hv (many + 1); omega
  have mid : v (many + 1) = 0 := by
    have : nth (List.replicate many (0 : Int) ++ [-1, 1]) (many + 1) * v (many + 1) = 0 := b1 _ (by omega)
    rw [m1] at this
    omega
  have lows : ∀ q, q < many + 2 → v q = 0 := fun q hq => by
    by_cases h : q < many + 1
    · exact low q h
    · have : q = many + 1 := by omega
      rw [this]; exact mid
  intro q hq
  by_cases h1 : q < many + 2
  · exact lows q h1
  · by_cases h2 : q < many + 2 + (solLines rows many).length
    · have hp := List.getElem?_eq_getElem (l := solLines rows many) (i := q - (many + 2)) (by omega)
      obtain ⟨_, c⟩ := key _ _ hp fun q hq => by rw [lows q hq]; simp
      rwa [show many + 2 + (q - (many + 2)) = q by omega] at c
    · have e : q = n - 1 := by omega
      rw [e]; exact hz
end PD
set_option maxRecDepth 100000
set_option maxHeartbeats 4000000
set_option exponentiation.threshold 2000
namespace PD
open PySem PySem.Spec PyProof.Rows L2
theorem piv_sol {n k i : Nat} {x : LP} (w : WF x n) (hl : leav x.t x.b k = some i) (v : Nat → Int) : Sol x n v ↔ Sol (x.piv k i) n v := by
  have hi := leav_lt hl
  have lo : LeavOk x.t x.b k x.t.length (some i) := by rw [← hl]; exact leav_ok
  obtain ⟨_, hp, _⟩ := lo
  have cs : ∀ j, j < x.t.length → ∃ c m v : Int, 0 < c ∧ 0 < m ∧ (∀ q, c * nth (clr (row x.t j) (row x.t i) k) q = m * nth (row x.t j) q - v * nth (row x.t i) q) ∧ v * nth (row x.t i) k = m * nth (row x.t j) k ∧ (clr (row x.t j) (row x.t i) k).length = (row x.t j).length := fun j hj => clr_spec (by rw [w.len j hj, w.len i hi]) hp
  refine ⟨fun s j hj => ?_, fun s j hj => ?_⟩
  · rw [piv_len] at hj
    rw [piv_t hj]
    split
    · exact s i hi
    · obtain ⟨c, m, u, hc, hm, he, _, _⟩ := cs j hj
      exact zero_of_mul hc (by rw [dot_lin he n, s j hj, s i hi]; simp)
  · have si : dotN (row x.t i) v n = 0 := by
      have := s i (by rw [piv_len]; exact hi)
      rwa [piv_t hi, if_pos rfl] at this
    by_cases e : j = i
    · rw [e]; exact si
    · have sj := s j (by rw [piv_len]; exact hj)
      rw [piv_t hj, if_neg e] at sj
      obtain ⟨c, m, u, hc, hm, he, _, _⟩ := cs j hj
      have := dot_lin (v := v) he n
      rw [sj, si] at this
      exact zero_of_mul hm (by omega)
theorem leav_some {n k : Nat} {ks : List Nat} {x : LP} (w : WF x n) (hz : ∀ v : Nat → Int, (∀ j, 0 ≤ v j) → v (n - 1) = 0 → Sol x n v → ∀ j, j < n → v j = 0) (hp : places x.g = k :: ks) : ∃ i, leav x.t x.b k = some i := by
  cases hl : leav x.t x.b k with
  | some i => exact ⟨i, rfl⟩
  | none =>
    exfalso
    have lo : LeavOk x.t x.b k x.t.length none := by rw [← hl]; exact leav_ok
    obtain ⟨g1, g2, _⟩ := places_head hp
    rw [w.glen] at g2
    have nb : ¬ Bas x k := fun ⟨a, ha, e⟩ => by
      have := w.gz a ha
      rw [e] at this; omega
    have P0 := prodP_pos w x.t.length (Nat.le_refl _)
    have nn : ∀ j, 0 ≤ dir x k j := fun j => by
      by_cases e : j = k
      · subst e; rw [dir_s]; omega
      · by_cases hB : Bas x j
        · obtain ⟨a, ha, rfl⟩ := hB
          rw [dir_b w ha e]
          have Q0 : 0 < prodP x x.t.length / nth (row x.t a) (bs x a) := by
            have d := Int.mul_ediv_cancel' (prodP_dvd (x := x) (k := a) x.t.length ha)
            exact pos_of_mul' (w.pos a ha) d P0
          have h1 : nth (row x.t a) k ≤ 0 := by have := lo a ha; omega
          have := Int.mul_nonpos_of_nonpos_of_nonneg h1 (show 0 ≤ prodP x x.t.length / nth (row x.t a) (bs x a) by omega)
          omega
        · rw [dir_0 e hB]; omega
    have last : dir x k (n - 1) = 0 := dir_0 (by omega) fun ⟨a, ha, e⟩ => by
      have := bs_lt w ha
      omega
    have := hz _ nn last (dir_sol w (by omega) nb) k (by omega)
    rw [dir_s] at this
    omega
/-- the invariant of the loop, but for the sizes -/
structure Inv0 (rows : List (List Int × Bool)) (many n : Nat) (x : LP) : Prop where
  wf : WF x n
  sol : ∀ v, Sol (lpOf rows many) n v ↔ Sol x n v
  neg : lastD x.g ≤ 0
  goal : ∃ a b : Int, 0 < a ∧ 0 < b ∧ ∀ v, Sol (lpOf rows many) n v → a * dotN (lpOf rows many).g v n = b * dotN x.g v n
theorem inv0_start {rows : List (List Int × Bool)} {many : Nat} (hl : ∀ p ∈ rows, p.1.length = many + 1) : Inv0 rows many ((many + 2) + (rows.length + 2) + 1) (lpOf rows many) := by
  have lo : LnOk (solLines rows many) (goalOf many).length := by
    refine ⟨fun p hp => ?_, fun p hp => ?_⟩
    · unfold solLines at hp
      rcases List.mem_append.mp hp with hp | hp
      · obtain ⟨q, hq, rfl⟩ := List.mem_map.mp hp
        simp [lnOfRow, hl q hq, goalOf]
      · simp at hp
        rcases hp with rfl | rfl <;> simp [goalOf]
    · unfold solLines at hp
      rcases List.mem_append.mp hp with hp | hp
      · obtain ⟨q, hq, rfl⟩ := List.mem_map.mp hp
        exact Int.le_refl _
      · simp at hp
        rcases hp with rfl | rfl <;> simp
  have w := init_wf lo
  have e : (goalOf many).length + (solLines rows many).length + 1 = (many + 2) + (rows.length + 2) + 1 := by simp [goalOf, solLines]
  rw [e] at w
  refine ⟨w, fun v => .rfl, ?_, 1, 1, by decide, by decide, fun _ _ => rfl⟩
  have : lastD (lpOf rows many).g = 0 := init_last
  omega
theorem inv0_step {rows : List (List Int × Bool)} {many n k i : Nat} {ks : List Nat} {x : LP} (h : Inv0 rows many n x) (h0 : lastD x.g = 0) (hp : places x.g = k :: ks) (hl : leav x.t x.b k = some i) : Inv0 rows many n (x.piv k i) := by
  obtain ⟨g1, g2, _⟩ := places_head hp
  rw [h.wf.glen] at g2
  have hi := leav_lt hl
  have lo : LeavOk x.t x.b k x.t.length (some i) := by rw [← hl]; exact leav_ok
  obtain ⟨_, hpp, _⟩ := lo
  obtain ⟨gc, gm, gv, gc0, gm0, ge, _, _⟩ := clr_spec (l := x.g) (p := row x.t i) (k := k) (by rw [h.wf.glen, h.wf.len i hi]) hpp
  obtain ⟨a, b, ha, hb, hg⟩ := h.goal
  refine ⟨h.wf.piv (by omega) g1 hl, fun v => (h.sol v).trans (piv_sol h.wf hl v), (piv_goal h.wf g1 hl h0).1, gm * a, b * gc, Int.mul_pos gm0 ha, Int.mul_pos hb gc0, fun v s => ?_⟩
  have sx := (h.sol v).mp s
  have := dot_lin (v := v) ge n
  rw [sx i hi] at this
  have e : gm * dotN x.g v n = gc * dotN (x.piv k i).g v n := by
    show gm * dotN x.g v n = gc * dotN (clr x.g (row x.t i) k) v n
    omega
  rw [Int.mul_assoc, hg v s, Int.mul_assoc, ← e, ← Int.mul_assoc, ← Int.mul_assoc, Int.mul_comm gm b]
/-- THE LOOP ENDS -/
theorem can_ends {rows : List (List Int × Bool)} {many : Nat} (hl : ∀ p ∈ rows, p.1.length = many + 1) (hz : many + rows.length ≤ 290) : ∃ r, canS wfuel (lpOf rows many) = some r := by
  have i0 := inv0_start hl
  refine canS_some (n := (many + 2) + (rows.length + 2) + 1) (Inv0 rows many ((many + 2) + (rows.length + 2) + 1)) (fun x h => h.wf) (fun x k ks i h h0 hp hl => inv0_step h h0 hp hl) (fun x k ks h hp => leav_some h.wf (fun v hv hz s => ?_) hp) (by omega) _ i0 init_last
  exact sol_zero hl (by simp [solLines]) hv hz ((h.sol v).mpr s)
end PD
set_option maxRecDepth 100000
set_option maxHeartbeats 4000000
set_option exponentiation.threshold 20
namespace PD
open PySem PySem.Spec PyProof.Rows L2
/-! ## sizes: each row is a sum of first rows, by its slack part -/
def sumN (f : Nat → Int) : Nat → Int
  | 0 => 0
  | n + 1 => sumN f n + f n
theorem sum_congr {f g : Nat → Int} : ∀ n, (∀ a, a < n → f a = g a) → sumN f n = sumN g n
  | 0, _ => rfl
  | n + 1, h => by rw [sumN, sumN, sum_congr n fun a ha => h a (by omega), h n (by omega)]
theorem sum_mul {f : Nat → Int} {c : Int} : ∀ n, c * sumN f n = sumN (fun a => c * f a) n
  | 0 => by simp [sumN]
  | n + 1 => by rw [sumN, sumN, Int.mul_add, sum_mul n]
theorem sum_sub {f g : Nat → Int} : ∀ n, sumN f n - sumN g n = sumN (fun a => f a - g a) n
  | 0 => rfl
  | n + 1 => by
    rw [sumN, sumN, sumN, ← sum_sub n]
    omega
theorem sum_pick {f : Nat → Int} {j : Nat} : ∀ n, j < n → (∀ a, a < n → a ≠ j → f a = 0) → sumN f n = f j
  | 0, h, _ => by omega
  | n + 1, h, hz => by
    rw [sumN]
    by_cases e : j = n
    · subst e
      have : sumN f j = sumN (fun _ => 0) j := sum_congr j fun a ha => hz a (by omega) (by omega)
      rw [this]
      have : ∀ m, sumN (fun _ => 0) m = 0 := fun m => by
        induction m with
        | zero => rfl
        | succ m ih => rw [sumN, ih]; rfl
      rw [this]; simp
    · rw [sum_pick n (by omega) fun a ha hne => hz a (by omega) hne, hz n (by omega) (fun z => e z.symm)]; simp
/-- r is told by its slack part -/
def Span (R : Nat → List Int) (w m : Nat) (r : List Int) : Prop := ∀ q, nth r q = sumN (fun a => nth r (w + a) * nth (R a) q) m
theorem Span.comb {R : Nat → List Int} {w m : Nat} {c u v : Int} {r l p : List Int} (hc : 0 < c) (h : ∀ j, c * nth r j = u * nth l j - v * nth p j) (hl : Span R w m l) (hp : Span R w m p) : Span R w m r := fun q => by
  have e : c * nth r q = c * sumN (fun a => nth r (w + a) * nth (R a) q) m := by
    rw [h q, hl q, hp q, sum_mul, sum_mul, sum_sub, sum_mul]
    refine sum_congr m fun a _ => ?_
    rw [← Int.mul_assoc c, h (w + a), Int.sub_mul, Int.mul_assoc u, Int.mul_assoc v]
  exact Int.eq_of_mul_eq_mul_left (by omega) e
theorem span_init {lines : List (List Int × Int)} {w j : Nat} (ok : LnOk lines w) (hj : j < lines.length) : Span (fun a => row (tabOf lines) a) w lines.length (row (tabOf lines) j) := fun q => by
  have hp := List.getElem?_eq_getElem (l := lines) (i := j) hj
  rw [sum_pick (j := j) lines.length hj fun a ha hne => ?_]
  · rw [row_mid ok hp hj, if_pos rfl]; simp
  · rw [row_mid ok hp ha, if_neg hne]; simp
theorem span_piv {x : LP} {n k i w m : Nat} {R : Nat → List Int} (wf : WF x n) (hl : leav x.t x.b k = some i) (h : ∀ j, j < x.t.length → Span R w m (row x.t j)) : ∀ j, j < (x.piv k i).t.length → Span R w m (row (x.piv k i).t j) := fun j hj => by
  rw [piv_len] at hj
  have hi := leav_lt hl
  have lo : LeavOk x.t x.b k x.t.length (some i) := by rw [← hl]; exact leav_ok
  obtain ⟨_, hp, _⟩ := lo
  rw [piv_t hj]
  split
  · exact h i hi
  · obtain ⟨c, u, v, hc, _, he, _, _⟩ := clr_spec (l := row x.t j) (p := row x.t i) (k := k) (by rw [wf.len j hj, wf.len i hi]) hp
    exact Span.comb hc he (h j hj) (h i hi)
/-! ### primitive rows -/
theorem foldl_gcd {xs : List Int} : ∀ (g : Nat) (c : Nat), c ∣ g → (∀ x ∈ xs, (c : Int) ∣ x) → c ∣ xs.foldl (fun g x => Nat.gcd g x.natAbs) g := by
  induction xs with
  | nil => exact fun g c h _ => h
  | cons x xs ih =>
    intro g c h hx
    refine ih _ c (Nat.dvd_gcd h ?_) fun y hy => hx y (List.mem_cons_of_mem _ hy)
    exact Int.natCast_dvd_natCast.mp (Int.dvd_natAbs.mpr (hx x List.mem_cons_self))
/-- no number above 1 divides all -/
def Prim (xs : List Int) : Prop := ∀ c : Nat, (∀ x ∈ xs, (c : Int) ∣ x) → c = 1
theorem prim_neat {xs : List Int} (h : ∃ x ∈ xs, x ≠ 0) : Prim (neatL xs) := fun c hc => by
  have hg : 0 < gcdL xs := by
    obtain ⟨x, hx, h0⟩ := h
    have hd := (gcdL_dvd (xs := xs) (g := 0)).2 x hx
    by_cases z : gcdL xs = 0
    · have : (gcdL xs : Int) ∣ x := hd
      rw [z] at this
      exact absurd (Int.zero_dvd.mp this) h0
    · omega
  have hp : part xs = gcdL xs := by unfold part; rw [if_pos hg]
  have all : ∀ x ∈ xs, ((c * gcdL xs : Nat) : Int) ∣ x := fun x hx => by
    have hm : x / (part xs : Int) ∈ neatL xs := List.mem_map.mpr ⟨x, hx, rfl⟩
    obtain ⟨t, ht⟩ := hc _ hm
    have e := Int.mul_ediv_cancel' (part_dvd hx)
    refine ⟨t, ?_⟩
    rw [← e, ht, hp, Int.natCast_mul]
    rw [← Int.mul_assoc, Int.mul_comm (gcdL xs : Int) (c : Int)]
  have d : c * gcdL xs ∣ gcdL xs := foldl_gcd 0 _ (Nat.dvd_zero _) all
  have := Nat.le_of_dvd hg d
  have c0 : c ≠ 0 := fun z => by subst z; simp at d; omega
  have : c * gcdL xs ≤ 1 * gcdL xs := by omega
  have := Nat.le_of_mul_le_mul_right this hg
  omega
end PD
set_option maxRecDepth 100000
set_option maxHeartbeats 4000000
set_option exponentiation.threshold 20
namespace PD
open PySem PySem.Spec PyProof.Rows L2
/-! ## a primitive vector is the shortest of its line -/
theorem foldl_scale {c : Int} : ∀ (xs : List Int) (g : Nat), (xs.map (c * ·)).foldl (fun g x => Nat.gcd g x.natAbs) (c.natAbs * g) = c.natAbs * xs.foldl (fun g x => Nat.gcd g x.natAbs) g
  | [], g => rfl
  | x :: xs, g => by
    rw [List.map_cons, List.foldl_cons, List.foldl_cons, Int.natAbs_mul, Nat.gcd_mul_left]
    exact foldl_scale xs _
theorem gcdL_scale {c : Int} {xs : List Int} : gcdL (xs.map (c * ·)) = c.natAbs * gcdL xs := by
  have := foldl_scale (c := c) xs 0
  rwa [Nat.mul_zero] at this
theorem prim_gcd {xs : List Int} (h : Prim xs) : gcdL xs = 1 := h _ fun x hx => (gcdL_dvd (xs := xs) (g := 0)).2 x hx
/-- if E z = c Y, Y primitive, z not 0, then Y is not longer than z -/
theorem prim_le {Y z : List Int} {E c : Int} (hE : E ≠ 0) (hl : z.length = Y.length) (h : ∀ a, E * nth z a = c * nth Y a) (hp : Prim Y) (hz : ∃ a, nth z a ≠ 0) : ∀ a, (nth Y a).natAbs ≤ (nth z a).natAbs := by
  have dv : ∀ x ∈ Y.map (c * ·), ((E.natAbs : Nat) : Int) ∣ x := fun x hx => by
    obtain ⟨y, hy, rfl⟩ := List.mem_map.mp hx
    obtain ⟨a, ha, rfl⟩ := List.mem_iff_getElem.mp hy
    have e : nth Y a = Y[a] := by
      unfold nth; rw [List.getD_eq_getElem?_getD, List.getElem?_eq_getElem ha]; rfl
    show _ ∣ c * Y[a]
    rw [← e, ← h a]
    exact Int.dvd_trans (Int.natAbs_dvd.mpr (Int.dvd_refl _)) (Int.dvd_mul_right _ _)
  have d : E.natAbs ∣ gcdL (Y.map (c * ·)) := foldl_gcd 0 _ (Nat.dvd_zero _) dv
  rw [gcdL_scale, prim_gcd hp, Nat.mul_one] at d
  have c0 : c ≠ 0 := fun z0 => by
    obtain ⟨a, ha⟩ := hz
    have := h a
    rw [z0, Int.zero_mul] at this
    rcases Int.mul_eq_zero.mp this with q | q
    · exact hE q
    · exact ha q
  obtain ⟨t, ht⟩ := Int.natAbs_dvd_natAbs.mp d
  intro a
  have e := h a
  rw [ht, Int.mul_assoc] at e
  have e2 := Int.eq_of_mul_eq_mul_left hE e
  rw [e2, Int.natAbs_mul]
  have t0 : t ≠ 0 := fun q => c0 (by rw [ht, q]; simp)
  have : 1 ≤ t.natAbs := by omega
  exact Nat.le_mul_of_pos_left _ this
/-! ## pigeons -/
theorem pigeon {α β : Type} [DecidableEq β] (f : α → β) : ∀ (xs : List α) (ys : List β), xs.Nodup → (∀ x ∈ xs, f x ∈ ys) → ys.length < xs.length → ∃ a b, a ∈ xs ∧ b ∈ xs ∧ a ≠ b ∧ f a = f b
  | [], ys, _, _, h => by simp at h
  | x :: xs, ys, hn, hm, h => by
    by_cases e : ∃ b ∈ xs, f b = f x
    · obtain ⟨b, hb, he⟩ := e
      rw [List.nodup_cons] at hn
      exact ⟨x, b, List.mem_cons_self, List.mem_cons_of_mem _ hb, fun z => hn.1 (z ▸ hb), he.symm⟩
    · rw [List.nodup_cons] at hn
      have hx := hm x List.mem_cons_self
      obtain ⟨a, b, h1, h2, h3, h4⟩ := pigeon f xs (ys.erase (f x)) hn.2 (fun y hy => by
        refine (List.mem_erase_of_ne fun z => e ⟨y, hy, z⟩).mpr (hm y (List.mem_cons_of_mem _ hy))) (by
        rw [List.length_erase_of_mem hx]
        have := List.length_pos_of_mem hx
        simp at h
        omega)
      exact ⟨a, b, List.mem_cons_of_mem _ h1, List.mem_cons_of_mem _ h2, h3, h4⟩
/-- all lists of so many numbers from 0 to B -/
def box (B : Nat) : Nat → List (List Int)
  | 0 => [[]]
  | d + 1 => (List.range (B + 1)).flatMap fun (k : Nat) => (box B d).map fun l => (k : Int) :: l
theorem box_len (B : Nat) : ∀ d, (box B d).length = (B + 1) ^ d
  | 0 => rfl
  | d + 1 => by
    have : ∀ ks : List Nat, (ks.flatMap fun (k : Nat) => (box B d).map fun l => (k : Int) :: l).length = ks.length * (B + 1) ^ d := fun ks => by
      induction ks with
      | nil => simp
      | cons k ks ih => rw [List.flatMap_cons, List.length_append, ih, List.length_map, box_len B d, List.length_cons, Nat.add_mul, Nat.one_mul, Nat.add_comm]
    show ((List.range (B + 1)).flatMap fun (k : Nat) => (box B d).map fun l => (k : Int) :: l).length = _
    rw [this, List.length_range, Nat.pow_succ, Nat.mul_comm]
theorem box_mem {B : Nat} : ∀ {d : Nat} {l : List Int}, l ∈ box B d ↔ l.length = d ∧ ∀ x ∈ l, 0 ≤ x ∧ x ≤ B
  | 0, l => by
    simp only [box, List.mem_singleton]
    constructor
    · rintro rfl; simp
    · rintro ⟨h, _⟩; exact List.length_eq_zero_iff.mp h
  | d + 1, l => by
    simp only [box, List.mem_flatMap, List.mem_range, List.mem_map]
    constructor
    · rintro ⟨k, hk, l', hl', rfl⟩
      obtain ⟨h1, h2⟩ := box_mem.mp hl'
      refine ⟨by simp [h1], fun x hx => ?_⟩
      rcases List.mem_cons.mp hx with rfl | hx
      · omega
      · exact h2 x hx
    · rintro ⟨h1, h2⟩
      cases l with
      | nil => simp at h1
      | cons x l =>
        have hx := h2 x List.mem_cons_self
        exact ⟨x.toNat, by omega, l, box_mem.mpr ⟨by simpa using h1, fun y hy => h2 y (List.mem_cons_of_mem _ hy)⟩, by rw [Int.toNat_of_nonneg hx.1]⟩
theorem box_nodup (B : Nat) : ∀ d, (box B d).Nodup
  | 0 => by simp [box]
  | d + 1 => by
    have : ∀ ks : List Nat, ks.Nodup → (ks.flatMap fun (k : Nat) => (box B d).map fun l => (k : Int) :: l).Nodup := fun ks => by
      induction ks with
      | nil => intro _; simp
      | cons k ks ih =>
        intro hn
        rw [List.nodup_cons] at hn
        rw [List.flatMap_cons, List.nodup_append]
        refine ⟨?_, ih hn.2, fun a ha b hb e => ?_⟩
        · exact List.Pairwise.map _ (fun a b h z => h (List.cons.inj z).2) (box_nodup B d)
        · obtain ⟨l1, _, rfl⟩ := List.mem_map.mp ha
          obtain ⟨k2, hk2, hb2⟩ := List.mem_flatMap.mp hb
          obtain ⟨l2, _, rfl⟩ := List.mem_map.mp hb2
          have := (List.cons.inj e).1
          have : k = k2 := by omega
          exact hn.1 (this ▸ hk2)
    exact this _ List.nodup_range
end PD
set_option maxRecDepth 100000
set_option maxHeartbeats 4000000
set_option exponentiation.threshold 20
namespace PD
open PySem PySem.Spec PyProof.Rows L2
/-! ## a short solution of e equations in e + 1 numbers -/
theorem sum_bound {f : Nat → Int} {C : Nat} : ∀ n, (∀ a, a < n → (f a).natAbs ≤ C) → (sumN f n).natAbs ≤ n * C
  | 0, _ => by simp [sumN]
  | n + 1, h => by
    have h1 := sum_bound n fun a ha => h a (by omega)
    have h2 := h n (by omega)
    rw [sumN, Nat.add_mul, Nat.one_mul]
    omega
def valA (A : List (Nat → Int)) (d S : Nat) (z : List Int) : List Int := A.map fun r => sumN (fun a => nth z a * r a) d + S
theorem siegel (A : List (Nat → Int)) (M : Nat) (hA : ∀ r ∈ A, ∀ a, a < A.length + 1 → (r a).natAbs ≤ M) :
    ∃ z : List Int, z.length = A.length + 1 ∧ (∃ a, nth z a ≠ 0) ∧ (∀ r ∈ A, sumN (fun a => nth z a * r a) (A.length + 1) = 0) ∧ ∀ a, (nth z a).natAbs ≤ (2 * ((A.length + 1) * M) + 1) ^ A.length := by
  let e := A.length
  let K := (e + 1) * M
  let B := (2 * K + 1) ^ e
  let S := K * B
  have nb : ∀ z ∈ box B (e + 1), ∀ a, 0 ≤ nth z a ∧ nth z a ≤ B := fun z hz a => by
    obtain ⟨h1, h2⟩ := box_mem.mp hz
    by_cases h : a < z.length
    · exact h2 _ (nth_mem h)
    · rw [nth_out (by omega)]; omega
  have inb : ∀ z ∈ box B (e + 1), valA A (e + 1) S z ∈ box (2 * S) e := fun z hz => by
    refine box_mem.mpr ⟨by simp [valA, e], fun x hx => ?_⟩
    obtain ⟨r, hr, rfl⟩ := List.mem_map.mp hx
    have sb := sum_bound (f := fun a => nth z a * r a) (C := B * M) (e + 1) fun a ha => by
      rw [Int.natAbs_mul]
      have := nb z hz a
      exact Nat.mul_le_mul (by omega) (hA r hr a ha)
    have : (e + 1) * (B * M) = S := by
      show _ = (e + 1) * M * B
      rw [Nat.mul_assoc, Nat.mul_comm B M]
    omega
  have count : (box (2 * S) e).length < (box B (e + 1)).length := by
    rw [box_len, box_len, Nat.pow_succ]
    have gen : ∀ K B : Nat, 2 * (K * B) + 1 ≤ (2 * K + 1) * (B + 1) := fun K B => by
      rw [Nat.add_mul, Nat.mul_add, Nat.mul_assoc]
      omega
    have h1 : 2 * S + 1 ≤ (2 * K + 1) * (B + 1) := gen K B
    have h2 : (2 * S + 1) ^ e ≤ ((2 * K + 1) * (B + 1)) ^ e := Nat.pow_le_pow_left h1 e
    rw [Nat.mul_pow] at h2
    have h3 : (2 * K + 1) ^ e * (B + 1) ^ e < (B + 1) ^ e * (B + 1) := by
      rw [Nat.mul_comm ((B + 1) ^ e)]
      exact Nat.mul_lt_mul_of_pos_right (Nat.lt_succ_self B) (Nat.pow_pos (by omega))
    omega
  obtain ⟨p, q, hp, hq, hne, hv⟩ := pigeon (valA A (e + 1) S) _ _ (box_nodup B (e + 1)) inb count
  obtain ⟨lp, _⟩ := box_mem.mp hp
  obtain ⟨lq, _⟩ := box_mem.mp hq
  let z := List.zipWith (fun a b : Int => a - b) p q
  have zl : z.length = e + 1 := by simp [z, lp, lq]
  have zn : ∀ a, nth z a = nth p a - nth q a := fun a => by
    by_cases h : a < e + 1
    · have h1 : a < p.length := by omega
      have h2 : a < q.length := by omega
      have e1 : nth p a = p[a] := by unfold nth; rw [List.getD_eq_getElem?_getD, List.getElem?_eq_getElem h1]; rfl
      have e2 : nth q a = q[a] := by unfold nth; rw [List.getD_eq_getElem?_getD, List.getElem?_eq_getElem h2]; rfl
      rw [e1, e2]
      show nth (List.zipWith _ p q) a = _
      unfold nth
      rw [List.getD_eq_getElem?_getD, List.getElem?_eq_getElem (by simp; omega)]
      simp
    · rw [nth_out (by omega), nth_out (xs := p) (by omega), nth_out (xs := q) (by omega)]; rfl
  refine ⟨z, zl, ?_, fun r hr => ?_, fun a => ?_⟩
  · refine Classical.byContradiction fun hz => hne ?_
    have all : ∀ a, nth p a = nth q a := fun a => by
      have : nth z a = 0 := Classical.byContradiction fun w => hz ⟨a, w⟩
      rw [zn] at this; omega
    apply List.ext_getElem (by omega)
    intro a h1 h2
    have e1 : nth p a = p[a] := by unfold nth; rw [List.getD_eq_getElem?_getD, List.getElem?_eq_getElem h1]; rfl
    have e2 : nth q a = q[a] := by unfold nth; rw [List.getD_eq_getElem?_getD, List.getElem?_eq_getElem h2]; rfl
    rw [← e1, ← e2]; exact all a
  · have hv' : A.map (fun r => sumN (fun a => nth p a * r a) (e + 1) + (S : Int)) = A.map (fun r => sumN (fun a => nth q a * r a) (e + 1) + (S : Int)) := hv
    have := List.map_inj_left.mp hv' r hr
    have s := sum_sub (f := fun a => nth p a * r a) (g := fun a => nth q a * r a) (e + 1)
    have c : sumN (fun a => nth z a * r a) (e + 1) = sumN (fun a => nth p a * r a - nth q a * r a) (e + 1) := sum_congr _ fun a _ => by rw [zn, Int.sub_mul]
    show sumN (fun a => nth z a * r a) (e + 1) = 0
    rw [c, ← s]
    omega
  · have b1 := nb p hp a
    have b2 := nb q hq a
    rw [zn]
    show _ ≤ B
    omega
end PD
set_option maxRecDepth 100000
set_option maxHeartbeats 4000000
set_option exponentiation.threshold 20
namespace PD
open PySem PySem.Spec PyProof.Rows L2
/-! ## rows stay short -/
/-- sums exchanged -/
theorem sum_swap {f : Nat → Nat → Int} (m : Nat) : ∀ n, sumN (fun a => sumN (fun b => f a b) m) n = sumN (fun b => sumN (fun a => f a b) n) m
  | 0 => by
    have : ∀ m, sumN (fun _ => (0 : Int)) m = 0 := fun m => by
      induction m with
      | zero => rfl
      | succ m ih => rw [sumN, ih]; rfl
    show 0 = sumN (fun b => 0) m
    rw [this]
  | n + 1 => by
    have ih := sum_swap (f := f) m n
    have add : ∀ k, sumN (fun b => sumN (fun a => f a b) n + f n b) k = sumN (fun b => sumN (fun a => f a b) n) k + sumN (fun b => f n b) k := fun k => by
      induction k with
      | zero => rfl
      | succ k ihk => rw [sumN, sumN, sumN, ihk]; omega
    show sumN (fun a => sumN (fun b => f a b) m) n + sumN (fun b => f n b) m = sumN (fun b => sumN (fun a => f a b) n + f n b) m
    rw [add, ih]
theorem dot_sum {l : List Int} {v : Nat → Int} : ∀ n, dotN l v n = sumN (fun q => nth l q * v q) n
  | 0 => rfl
  | n + 1 => by rw [dotN, sumN, dot_sum n]
/-- the row with so many of each first row -/
def rz (R : Nat → List Int) (m n : Nat) (z : List Int) : List Int := (List.range n).map fun q => sumN (fun a => nth z a * nth (R a) q) m
theorem rz_nth {R : Nat → List Int} {m n q : Nat} {z : List Int} (h : q < n) : nth (rz R m n z) q = sumN (fun a => nth z a * nth (R a) q) m := by
  unfold rz
  conv => lhs; unfold nth
  rw [List.getD_eq_getElem?_getD, List.getElem?_map, List.getElem?_range h]; rfl
theorem rz_dot {R : Nat → List Int} {m n : Nat} {z : List Int} {v : Nat → Int} (h : ∀ a, a < m → dotN (R a) v n = 0) : dotN (rz R m n z) v n = 0 := by
  have e1 : dotN (rz R m n z) v n = sumN (fun q => sumN (fun a => nth z a * nth (R a) q * v q) m) n := by
    rw [dot_sum]
    refine sum_congr n fun q hq => ?_
    rw [rz_nth hq, Int.mul_comm, sum_mul]
    exact sum_congr m fun a _ => Int.mul_comm _ _
  rw [e1, sum_swap]
  have e2 : ∀ a, a < m → sumN (fun q => nth z a * nth (R a) q * v q) n = 0 := fun a ha => by
    have : sumN (fun q => nth z a * nth (R a) q * v q) n = nth z a * dotN (R a) v n := by
      rw [dot_sum, sum_mul]
      exact sum_congr n fun q _ => Int.mul_assoc _ _ _
    rw [this, h a ha]; simp
  have e3 : ∀ k, k ≤ m → sumN (fun a => sumN (fun q => nth z a * nth (R a) q * v q) n) k = 0 := fun k => by
    induction k with
    | zero => intro _; rfl
    | succ k ih => intro hk; rw [sumN, ih (by omega), e2 k (by omega)]; rfl
  exact e3 m (Nat.le_refl m)
/-- ONE DIMENSION: what is 0 at the other basis columns is a multiple of row j -/
theorem one_dim {x : LP} {n w m j : Nat} {R : Nat → List Int} {z : List Int} (wf : WF x n) (hj : j < x.t.length) (hs : ∀ v, Sol x n v → ∀ a, a < m → dotN (R a) v n = 0) (hwm : w + m + 1 ≤ n) (sp : Span R w m (row x.t j)) (hR : ∀ a b, a < m → b < m → nth (R a) (w + b) = if b = a then 1 else 0)
    (hz : ∀ k, k < x.t.length → k ≠ j → sumN (fun a => nth z a * nth (R a) (bs x k)) m = 0) : ∀ a, a < m → nth (row x.t j) (bs x j) * nth z a = sumN (fun a => nth z a * nth (R a) (bs x j)) m * nth (row x.t j) (w + a) := by
  have key : ∀ q, q + 1 < n → nth (row x.t j) (bs x j) * nth (rz R m n z) q = nth (rz R m n z) (bs x j) * nth (row x.t j) q := fun q hq => by
    have zb : ∀ k, k < x.t.length → k ≠ j → nth (rz R m n z) (bs x k) = 0 := fun k hk hne => by
      rw [rz_nth (by have := bs_lt wf hk; omega)]; exact hz k hk hne
    by_cases hB : Bas x q
    · obtain ⟨k, hk, rfl⟩ := hB
      by_cases e : k = j
      · subst e; exact Int.mul_comm _ _
      · rw [zb k hk e, wf.zero k j hk hj (fun z => e z.symm)]; simp
    · have sol := dir_sol wf hq hB
      have P0 := prodP_pos wf x.t.length (Nat.le_refl _)
      have d1 : dotN (rz R m n z) (dir x q) n = 0 := rz_dot (hs _ sol)
      have d2 : dotN (row x.t j) (dir x q) n = 0 := sol j hj
      have hne : bs x j ≠ q := fun e => hB ⟨j, hj, e⟩
      have hbl := bs_lt wf hj
      have two : ∀ l : List Int, (∀ k, k < x.t.length → k ≠ j → nth l (bs x k) = 0) → dotN l (dir x q) n = nth l q * dir x q q + nth l (bs x j) * dir x q (bs x j) := fun l hl => by
        refine dot_two (fun e => hne e.symm) n (by omega) (by omega) fun c hc h1 h2 => ?_
        by_cases hBc : Bas x c
        · obtain ⟨k, hk, rfl⟩ := hBc
          rw [hl k hk fun e => h2 (by rw [e])]; simp
        · rw [dir_0 h1 hBc]; simp
      have t1 := two _ zb
      have t2 := two (row x.t j) fun k hk hne => wf.zero k j hk hj (fun z => hne z.symm)
      rw [d1, dir_s] at t1
      rw [d2, dir_s] at t2
      -- P * (E * u - r * y) = 0
      have m1 : nth (row x.t j) (bs x j) * (nth (rz R m n z) q * prodP x x.t.length) = nth (rz R m n z) (bs x j) * (nth (row x.t j) q * prodP x x.t.length) := by
        have a1 : nth (rz R m n z) q * prodP x x.t.length = -(nth (rz R m n z) (bs x j) * dir x q (bs x j)) := by omega
        have a2 : nth (row x.t j) q * prodP x x.t.length = -(nth (row x.t j) (bs x j) * dir x q (bs x j)) := by omega
        rw [a1, a2, Int.mul_neg, Int.mul_neg, ← Int.mul_assoc, ← Int.mul_assoc, Int.mul_comm (nth (row x.t j) (bs x j))]
      rw [← Int.mul_assoc, ← Int.mul_assoc] at m1
      exact Int.eq_of_mul_eq_mul_right (by omega) m1
  intro a ha
  have e1 : nth (rz R m n z) (w + a) = nth z a := by
    rw [rz_nth (by omega), sum_pick (j := a) m ha fun b hb hne => ?_]
    · rw [hR a a ha ha, if_pos rfl]; simp
    · rw [hR b a hb ha, if_neg (fun z => hne z.symm)]; simp
  have e2 : nth (rz R m n z) (bs x j) = sumN (fun a => nth z a * nth (R a) (bs x j)) m := rz_nth (by have := bs_lt wf hj; omega)
  have := key (w + a) (by omega)
  rw [e1, e2] at this
  exact this
end PD
set_option maxRecDepth 100000
set_option maxHeartbeats 4000000
set_option exponentiation.threshold 20
namespace PD
open PySem PySem.Spec PyProof.Rows L2
/-! ## the bound of a row -/
theorem dvd_sum {c : Int} {f : Nat → Int} : ∀ n, (∀ a, a < n → c ∣ f a) → c ∣ sumN f n
  | 0, _ => Int.dvd_zero c
  | n + 1, h => Int.dvd_add (dvd_sum n fun a ha => h a (by omega)) (h n (by omega))
theorem prim_slack {R : Nat → List Int} {w m : Nat} {r : List Int} (sp : Span R w m r) (hp : Prim r) : Prim ((List.range m).map fun a => nth r (w + a)) := fun c hc => by
  refine hp c fun x hx => ?_
  obtain ⟨q, hq, rfl⟩ := List.mem_iff_getElem.mp hx
  have e : nth r q = r[q] := by unfold nth; rw [List.getD_eq_getElem?_getD, List.getElem?_eq_getElem hq]; rfl
  rw [← e, sp q]
  refine dvd_sum m fun a ha => ?_
  exact Int.dvd_trans (hc _ (List.mem_map.mpr ⟨a, List.mem_range.mpr ha, rfl⟩)) (Int.dvd_mul_right _ _)
theorem filter_ne {j : Nat} : ∀ m, j < m → ((List.range m).filter fun k => decide (k ≠ j)).length = m - 1
  | 0, h => by omega
  | m + 1, h => by
    rw [List.range_succ, List.filter_append, List.length_append]
    by_cases e : j = m
    · subst e
      have : (List.range j).filter (fun k => decide (k ≠ j)) = List.range j := List.filter_eq_self.mpr fun k hk => by
        have := List.mem_range.mp hk
        simp; omega
      rw [this]; simp
    · rw [filter_ne m (by omega)]
      have : ([m].filter fun k => decide (k ≠ j)) = [m] := by simp; omega
      rw [this]; simp; omega
/-- the slack part of a primitive row is short -/
theorem slack_short {x : LP} {n w m j M : Nat} {R : Nat → List Int} (wf : WF x n) (hm : m = x.t.length) (hj : j < x.t.length) (hs : ∀ v, Sol x n v → ∀ a, a < m → dotN (R a) v n = 0) (hwm : w + m + 1 ≤ n) (sp : Span R w m (row x.t j)) (hR : ∀ a b, a < m → b < m → nth (R a) (w + b) = if b = a then 1 else 0)
    (hM : ∀ a q, (nth (R a) q).natAbs ≤ M) (hp : Prim (row x.t j)) : ∀ a, a < m → (nth (row x.t j) (w + a)).natAbs ≤ (2 * (m * M) + 1) ^ (m - 1) := by
  let ks := (List.range m).filter fun k => decide (k ≠ j)
  let A : List (Nat → Int) := ks.map fun k a => nth (R a) (bs x k)
  have la : A.length = m - 1 := by
    show (ks.map _).length = _
    rw [List.length_map]; exact filter_ne m (by omega)
  have la1 : A.length + 1 = m := by omega
  obtain ⟨z, z1, z2, z3, z4⟩ := siegel A M fun r hr a ha => by
    obtain ⟨k, _, rfl⟩ := List.mem_map.mp hr
    exact hM a _
  rw [la1] at z1 z3 z4
  rw [la] at z4
  have od := one_dim (z := z) wf hj hs hwm sp hR fun k hk hne => z3 _ (List.mem_map.mpr ⟨k, List.mem_filter.mpr ⟨List.mem_range.mpr (by omega), by simpa using hne⟩, rfl⟩)
  have yn : ∀ a, nth ((List.range m).map fun a => nth (row x.t j) (w + a)) a = if a < m then nth (row x.t j) (w + a) else 0 := fun a => by
    by_cases h : a < m
    · rw [if_pos h]
      conv => lhs; unfold nth
      rw [List.getD_eq_getElem?_getD, List.getElem?_map, List.getElem?_range h]; rfl
    · rw [if_neg h, nth_out (by simp; omega)]
  have pl := prim_le (Y := (List.range m).map fun a => nth (row x.t j) (w + a)) (z := z) (E := nth (row x.t j) (bs x j)) (c := sumN (fun a => nth z a * nth (R a) (bs x j)) m) (by have := wf.pos j hj; omega) (by simp [z1]) (fun a => by
    rw [yn]
    by_cases h : a < m
    · rw [if_pos h]; exact od a h
    · rw [if_neg h, nth_out (xs := z) (by omega)]; simp) (prim_slack sp hp) z2
  intro a ha
  have := pl a
  rw [yn, if_pos ha] at this
  exact Nat.le_trans this (z4 a)
/-- .. and the whole row -/
theorem row_short {R : Nat → List Int} {w m M C : Nat} {r : List Int} (sp : Span R w m r) (hM : ∀ a q, (nth (R a) q).natAbs ≤ M) (h : ∀ a, a < m → (nth r (w + a)).natAbs ≤ C) : ∀ q, (nth r q).natAbs ≤ m * (C * M) := fun q => by
  rw [sp q]
  refine sum_bound m fun a ha => ?_
  rw [Int.natAbs_mul]
  exact Nat.mul_le_mul (h a ha) (hM a q)
end PD
set_option maxRecDepth 100000
set_option maxHeartbeats 4000000
set_option exponentiation.threshold 20
namespace PD
open PySem PySem.Spec PyProof.Rows L2
/-! ## the bound of the goal row -/
/-- g is kap times the first goal, and a sum of first rows -/
def GSpan (R : Nat → List Int) (g0 : List Int) (w m : Nat) (g : List Int) (kap : Int) : Prop := ∀ q, nth g q = kap * nth g0 q + sumN (fun a => nth g (w + a) * nth (R a) q) m
theorem GSpan.step {R : Nat → List Int} {g0 g g' p : List Int} {w m q0 : Nat} {c u v kap : Int} (hc : 0 < c) (hu : 0 < u) (hk : 0 < kap) (h : ∀ j, c * nth g' j = u * nth g j - v * nth p j) (hg : GSpan R g0 w m g kap) (hp : Span R w m p) (h1 : nth g0 q0 = 1) : ∃ kap', 0 < kap' ∧ GSpan R g0 w m g' kap' := by
  have e : ∀ q, c * nth g' q = u * kap * nth g0 q + c * sumN (fun a => nth g' (w + a) * nth (R a) q) m := fun q => by
    have s : c * sumN (fun a => nth g' (w + a) * nth (R a) q) m = u * sumN (fun a => nth g (w + a) * nth (R a) q) m - v * sumN (fun a => nth p (w + a) * nth (R a) q) m := by
      rw [sum_mul, sum_mul, sum_mul, sum_sub]
      refine sum_congr m fun a _ => ?_
      rw [← Int.mul_assoc c, h (w + a), Int.sub_mul, Int.mul_assoc u, Int.mul_assoc v]
    rw [s, h q, hg q, hp q, Int.mul_add, Int.mul_assoc u]
    omega
  have e0 := e q0
  rw [h1, Int.mul_one] at e0
  have ck : c * (nth g' q0 - sumN (fun a => nth g' (w + a) * nth (R a) q0) m) = u * kap := by
    rw [Int.mul_sub]; omega
  refine ⟨nth g' q0 - sumN (fun a => nth g' (w + a) * nth (R a) q0) m, pos_of_mul' hc ck (Int.mul_pos hu hk), fun q => ?_⟩
  have e1 := e q
  rw [← ck, Int.mul_assoc, ← Int.mul_add] at e1
  exact Int.eq_of_mul_eq_mul_left (by omega) e1
/-- the slack part of a primitive goal row is short -/
theorem goal_short {x : LP} {n w m M : Nat} {R : Nat → List Int} {g0 : List Int} {kap : Int} (wf : WF x n) (hm : m = x.t.length) (hs : ∀ v, Sol x n v → ∀ a, a < m → dotN (R a) v n = 0) (hwm : w + m + 1 ≤ n) (hk : 0 < kap) (sp : GSpan R g0 w m x.g kap) (hR : ∀ a b, a < m → b < m → nth (R a) (w + b) = if b = a then 1 else 0) (hg0 : ∀ b, b < m → nth g0 (w + b) = 0)
    (hM : ∀ a q, (nth (R a) q).natAbs ≤ M) (hM0 : ∀ q, (nth g0 q).natAbs ≤ M) (hp : Prim x.g) : kap.natAbs ≤ (2 * ((m + 1) * M) + 1) ^ m ∧ ∀ a, a < m → (nth x.g (w + a)).natAbs ≤ (2 * ((m + 1) * M) + 1) ^ m := by
  let A : List (Nat → Int) := (List.range m).map fun k a => if a < m then nth (R a) (bs x k) else nth g0 (bs x k)
  have la : A.length = m := by simp [A]
  obtain ⟨z, z1, z2, z3, z4⟩ := siegel A M fun r hr a ha => by
    obtain ⟨k, _, rfl⟩ := List.mem_map.mp hr
    show (if a < m then nth (R a) (bs x k) else nth g0 (bs x k)).natAbs ≤ M
    split
    · exact hM a _
    · exact hM0 _
  rw [la] at z1 z3 z4
  have z3' : ∀ k, k < m → sumN (fun a => nth z a * nth (R a) (bs x k)) m + nth z m * nth g0 (bs x k) = 0 := fun k hkm => by
    have := z3 _ (List.mem_map.mpr ⟨k, List.mem_range.mpr hkm, rfl⟩)
    rw [sumN] at this
    have e : sumN (fun a => nth z a * (if a < m then nth (R a) (bs x k) else nth g0 (bs x k))) m = sumN (fun a => nth z a * nth (R a) (bs x k)) m := sum_congr m fun a ha => by rw [if_pos ha]
    have this : sumN (fun a => nth z a * (if a < m then nth (R a) (bs x k) else nth g0 (bs x k))) m + nth z m * (if m < m then nth (R m) (bs x k) else nth g0 (bs x k)) = 0 := this
    rw [e, if_neg (by omega)] at this
    exact this
  -- u = kap z - zeta y, a sum of first rows that is 0 at the basis columns
  let Z : List Int := (List.range m).map fun a => kap * nth z a - nth z m * nth x.g (w + a)
  have Zn : ∀ a, a < m → nth Z a = kap * nth z a - nth z m * nth x.g (w + a) := fun a ha => by
    show nth ((List.range m).map _) a = _
    conv => lhs; unfold nth
    rw [List.getD_eq_getElem?_getD, List.getElem?_map, List.getElem?_range ha]; rfl
  have uq : ∀ q, sumN (fun a => nth Z a * nth (R a) q) m = kap * sumN (fun a => nth z a * nth (R a) q) m - nth z m * sumN (fun a => nth x.g (w + a) * nth (R a) q) m := fun q => by
    rw [sum_mul, sum_mul, sum_sub]
    refine sum_congr m fun a ha => ?_
    rw [Zn a ha, Int.sub_mul, Int.mul_assoc, Int.mul_assoc]
  have ub : ∀ k, k < x.t.length → nth (rz R m n Z) (bs x k) = 0 := fun k hkl => by
    rw [rz_nth (by have := bs_lt wf hkl; omega), uq]
    have g1 := sp (bs x k)
    rw [wf.gz k hkl] at g1
    have g2 := z3' k (by omega)
    have a1 : sumN (fun a => nth z a * nth (R a) (bs x k)) m = -(nth z m * nth g0 (bs x k)) := by omega
    have a2 : sumN (fun a => nth x.g (w + a) * nth (R a) (bs x k)) m = -(kap * nth g0 (bs x k)) := by omega
    rw [a1, a2, Int.mul_neg, Int.mul_neg, ← Int.mul_assoc, ← Int.mul_assoc, Int.mul_comm kap]
    omega
  have uz : ∀ q, q + 1 < n → nth (rz R m n Z) q = 0 := fun q hq => by
    by_cases hB : Bas x q
    · obtain ⟨k, hkl, rfl⟩ := hB
      exact ub k hkl
    · have sol := dir_sol wf hq hB
      have P0 := prodP_pos wf x.t.length (Nat.le_refl _)
      have d1 : dotN (rz R m n Z) (dir x q) n = 0 := rz_dot (hs _ sol)
      rw [dot_one (a := q) n (by omega) fun c hc h1 => ?_, dir_s] at d1
      · rcases Int.mul_eq_zero.mp d1 with h | h
        · exact h
        · omega
      · by_cases hBc : Bas x c
        · obtain ⟨k, hkl, rfl⟩ := hBc
          rw [ub k hkl]; simp
        · rw [dir_0 h1 hBc]; simp
  have rel : ∀ a, a < m → kap * nth z a = nth z m * nth x.g (w + a) := fun a ha => by
    have e1 : nth (rz R m n Z) (w + a) = nth Z a := by
      rw [rz_nth (by omega), sum_pick (j := a) m ha fun b hb hne => ?_]
      · rw [hR a a ha ha, if_pos rfl]; simp
      · rw [hR b a hb ha, if_neg (fun z => hne z.symm)]; simp
    have := uz (w + a) (by omega)
    rw [e1, Zn a ha] at this
    omega
  let Y : List Int := ((List.range m).map fun a => nth x.g (w + a)) ++ [kap]
  have Yn : ∀ a, nth Y a = if a < m then nth x.g (w + a) else if a = m then kap else 0 := fun a => by
    show nth (_ ++ [kap]) a = _
    rw [nth_app]
    by_cases h : a < m
    · rw [if_pos (by simpa using h), if_pos h]
      conv => lhs; unfold nth
      rw [List.getD_eq_getElem?_getD, List.getElem?_map, List.getElem?_range h]; rfl
    · rw [if_neg (by simpa using h), if_neg h]
      by_cases h2 : a = m
      · subst h2; simp [nth]
      · rw [if_neg h2, nth_out (by simp; omega)]
  have pY : Prim Y := fun c hc => by
    refine hp c fun y hy => ?_
    obtain ⟨q, hq, rfl⟩ := List.mem_iff_getElem.mp hy
    have e : nth x.g q = x.g[q] := by unfold nth; rw [List.getD_eq_getElem?_getD, List.getElem?_eq_getElem hq]; rfl
    rw [← e, sp q]
    refine Int.dvd_add (Int.dvd_trans (hc _ (by simp [Y])) (Int.dvd_mul_right _ _)) (dvd_sum m fun a ha => ?_)
    exact Int.dvd_trans (hc _ (List.mem_append_left _ (List.mem_map.mpr ⟨a, List.mem_range.mpr ha, rfl⟩))) (Int.dvd_mul_right _ _)
  have pl := prim_le (Y := Y) (z := z) (E := kap) (c := nth z m) (by omega) (by simp [z1, Y]) (fun a => by
    rw [Yn]
    by_cases h : a < m
    · rw [if_pos h]; exact rel a h
    · rw [if_neg h]
      by_cases h2 : a = m
      · subst h2; rw [if_pos rfl]; exact Int.mul_comm _ _
      · rw [if_neg h2, nth_out (xs := z) (by omega)]; simp) pY z2
  refine ⟨?_, fun a ha => ?_⟩
  · have := pl m
    rw [Yn, if_neg (by omega), if_pos rfl] at this
    exact Nat.le_trans this (z4 m)
  · have := pl a
    rw [Yn, if_pos ha] at this
    exact Nat.le_trans this (z4 a)
end PD
set_option maxRecDepth 100000
set_option maxHeartbeats 4000000
set_option exponentiation.threshold 20
namespace PD
open PySem PySem.Spec PyProof.Rows L2
/-! ## the invariant with sizes -/
theorem prim_one {xs : List Int} {q : Nat} (h : nth xs q = 1) : Prim xs := fun c hc => by
  have hq : q < xs.length := by
    by_cases z : q < xs.length
    · exact z
    · rw [nth_out (by omega)] at h; omega
  have := hc _ (nth_mem hq)
  rw [h] at this
  have := Int.natAbs_dvd_natAbs.mpr this
  simpa using this
theorem prim_clr {l p : List Int} {k q : Nat} (hl : l.length = p.length) (hp : Prim l) (h : nth l k ≠ 0 → nth l q * nth p k - nth p q * nth l k ≠ 0) : Prim (clr l p k) := by
  unfold clr
  by_cases h0 : nth l k = 0
  · rw [if_pos h0]; exact hp
  · rw [if_neg h0]
    refine prim_neat ⟨nth (comb l p k) q, ?_, ?_⟩
    · refine nth_mem ?_
      by_cases z : q < (comb l p k).length
      · exact z
      · have e := comb_nth (l := l) (p := p) (k := k) hl q
        rw [nth_out (by omega)] at e
        exact absurd e.symm (h h0)
    · rw [comb_nth hl]; exact h h0
structure InvS (rows : List (List Int × Bool)) (many n : Nat) (x : LP) : Prop extends Inv0 rows many n x where
  ml : x.t.length = rows.length + 2
  prim : ∀ j, j < x.t.length → Prim (row x.t j)
  span : ∀ j, j < x.t.length → Span (fun a => row (lpOf rows many).t a) (many + 2) (rows.length + 2) (row x.t j)
  gprim : Prim x.g
  gspan : ∃ kap, 0 < kap ∧ GSpan (fun a => row (lpOf rows many).t a) (lpOf rows many).g (many + 2) (rows.length + 2) x.g kap
theorem invS_step {rows : List (List Int × Bool)} {many n k i : Nat} {ks : List Nat} {x : LP} (h : InvS rows many n x) (h1 : nth (lpOf rows many).g (many + 1) = 1) (h0 : lastD x.g = 0) (hp : places x.g = k :: ks) (hl : leav x.t x.b k = some i) : InvS rows many n (x.piv k i) := by
  have wf := h.wf
  obtain ⟨g1, g2, _⟩ := places_head hp
  have hi := leav_lt hl
  have lo : LeavOk x.t x.b k x.t.length (some i) := by rw [← hl]; exact leav_ok
  obtain ⟨_, hpp, _⟩ := lo
  refine { toInv0 := inv0_step h.toInv0 h0 hp hl, ml := by rw [piv_len]; exact h.ml, prim := fun j hj => ?_, span := span_piv wf hl h.span, gprim := ?_, gspan := ?_ }
  · rw [piv_len] at hj
    rw [piv_t hj]
    split
    · exact h.prim i hi
    · rename_i hne
      refine prim_clr (q := bs x j) (by rw [wf.len j hj, wf.len i hi]) (h.prim j hj) fun _ => ?_
      rw [wf.zero j i hj hi (fun z => hne z.symm)]
      have := Int.mul_pos (wf.pos j hj) hpp
      omega
  · refine prim_clr (q := bs x i) (by rw [wf.glen, wf.len i hi]) h.gprim fun _ => ?_
    rw [wf.gz i hi]
    have := Int.mul_pos (wf.pos i hi) g1
    omega
  · obtain ⟨kap, hk, hg⟩ := h.gspan
    obtain ⟨c, u, v, hc, hu, he, _, _⟩ := clr_spec (l := x.g) (p := row x.t i) (k := k) (by rw [wf.glen, wf.len i hi]) hpp
    exact GSpan.step hc hu hk he hg (h.span i hi) h1
theorem sol_ln {rows : List (List Int × Bool)} {many : Nat} (hl : ∀ p ∈ rows, p.1.length = many + 1) : LnOk (solLines rows many) (many + 2) := by
  refine ⟨fun p hp => ?_, fun p hp => ?_⟩
  · unfold solLines at hp
    rcases List.mem_append.mp hp with hp | hp
    · obtain ⟨q, hq, rfl⟩ := List.mem_map.mp hp
      simp [lnOfRow, hl q hq]
    · simp at hp
      rcases hp with rfl | rfl <;> simp
  · unfold solLines at hp
    rcases List.mem_append.mp hp with hp | hp
    · obtain ⟨q, hq, rfl⟩ := List.mem_map.mp hp
      exact Int.le_refl _
    · simp at hp
      rcases hp with rfl | rfl <;> simp
theorem goal_nth {rows : List (List Int × Bool)} {many q : Nat} : nth (lpOf rows many).g q = if q = many + 1 then 1 else 0 := by
  show nth (List.replicate (many + 1) 0 ++ [1] ++ List.replicate ((solLines rows many).length + 1) 0) q = _
  rw [nth_app, nth_app]
  have rep : ∀ a b : Nat, nth (List.replicate a (0 : Int)) b = 0 := fun a b => by
    unfold nth
    rw [List.getD_eq_getElem?_getD, List.getElem?_replicate]
    split <;> rfl
  by_cases h1 : q < many + 1
  · rw [if_pos (by simp; omega), if_pos (by simpa using h1), rep, if_neg (by omega)]
  · by_cases h2 : q = many + 1
    · subst h2
      rw [if_pos (by simp), if_neg (by simp), if_pos rfl]
      simp [nth]
    · rw [if_neg (by simp; omega), rep, if_neg h2]
theorem invS_start {rows : List (List Int × Bool)} {many : Nat} (hl : ∀ p ∈ rows, p.1.length = many + 1) : InvS rows many ((many + 2) + (rows.length + 2) + 1) (lpOf rows many) := by
  have lo := sol_ln hl
  have size : (solLines rows many).length = rows.length + 2 := by simp [solLines]
  have tl : (lpOf rows many).t.length = rows.length + 2 := by
    show (tabOf (solLines rows many)).length = _
    rw [← size]; exact tabG_len _ _ _
  refine { toInv0 := inv0_start hl, ml := tl, prim := fun j hj => ?_, span := fun j hj => ?_, gprim := prim_one (q := many + 1) (by rw [goal_nth, if_pos rfl]), gspan := ⟨1, by decide, fun q => ?_⟩ }
  · have hp := List.getElem?_eq_getElem (l := solLines rows many) (i := j) (by omega)
    refine prim_one (q := many + 2 + j) ?_
    show nth (row (tabOf (solLines rows many)) j) _ = 1
    rw [row_mid lo hp (by omega), if_pos rfl]
  · have := span_init lo (j := j) (by omega)
    rwa [size] at this
  · have z : sumN (fun a => nth (lpOf rows many).g (many + 2 + a) * nth (row (lpOf rows many).t a) q) (rows.length + 2) = 0 := by
      have : ∀ k, sumN (fun a => nth (lpOf rows many).g (many + 2 + a) * nth (row (lpOf rows many).t a) q) k = 0 := fun k => by
        induction k with
        | zero => rfl
        | succ k ih =>
          rw [sumN, ih, goal_nth, if_neg (by omega)]; simp
      exact this _
    rw [z]; simp
end PD
set_option maxRecDepth 100000
set_option maxHeartbeats 4000000
set_option exponentiation.threshold 20
namespace PD
open PySem PySem.Spec PyProof.Rows L2
/-! ## every entry is short -/
def capC (m M : Nat) : Nat := (2 * ((m + 1) * M) + 1) ^ m
theorem invS_short {rows : List (List Int × Bool)} {many M : Nat} {x : LP} (hl : ∀ p ∈ rows, p.1.length = many + 1) (h : InvS rows many ((many + 2) + (rows.length + 2) + 1) x) (hM : ∀ a q, (nth (row (lpOf rows many).t a) q).natAbs ≤ M) (hM1 : 1 ≤ M) :
    (∀ j, j < x.t.length → ∀ q, (nth (row x.t j) q).natAbs ≤ (rows.length + 2) * (capC (rows.length + 2) M * M)) ∧ ∀ q, (nth x.g q).natAbs ≤ (rows.length + 3) * (capC (rows.length + 2) M * M) := by
  have lo := sol_ln hl
  have size : (solLines rows many).length = rows.length + 2 := by simp [solLines]
  have hR : ∀ a b, a < rows.length + 2 → b < rows.length + 2 → nth (row (lpOf rows many).t a) (many + 2 + b) = if b = a then 1 else 0 := fun a b ha hb => by
    have hp := List.getElem?_eq_getElem (l := solLines rows many) (i := a) (by omega)
    exact row_mid lo hp (by omega)
  have tl : (lpOf rows many).t.length = rows.length + 2 := by
    show (tabOf (solLines rows many)).length = _
    rw [← size]; exact tabG_len _ _ _
  have hs : ∀ v, Sol x ((many + 2) + (rows.length + 2) + 1) v → ∀ a, a < rows.length + 2 → dotN (row (lpOf rows many).t a) v ((many + 2) + (rows.length + 2) + 1) = 0 := fun v sv a ha => (h.sol v).mpr sv a (by omega)
  have hm := h.ml
  refine ⟨fun j hj q => ?_, fun q => ?_⟩
  · have s := slack_short (R := fun a => row (lpOf rows many).t a) (w := many + 2) (m := rows.length + 2) (M := M) h.wf hm.symm hj hs (by omega) (h.span j hj) hR hM (h.prim j hj)
    refine row_short (h.span j hj) hM (fun a ha => Nat.le_trans (s a ha) ?_) q
    unfold capC
    have e1 : 2 * ((rows.length + 2) * M) + 1 ≤ 2 * ((rows.length + 2 + 1) * M) + 1 := by
      have := Nat.mul_le_mul_right M (show rows.length + 2 ≤ rows.length + 2 + 1 by omega)
      omega
    exact Nat.le_trans (Nat.pow_le_pow_left e1 _) (Nat.pow_le_pow_right (by omega) (by omega))
  · obtain ⟨kap, hk, hg⟩ := h.gspan
    have hg0 : ∀ q, (nth (lpOf rows many).g q).natAbs ≤ M := fun q => by
      rw [goal_nth]
      split
      · simpa using hM1
      · simp
    obtain ⟨s1, s2⟩ := goal_short (R := fun a => row (lpOf rows many).t a) (g0 := (lpOf rows many).g) (w := many + 2) (m := rows.length + 2) (M := M) h.wf hm.symm hs (by omega) hk hg hR (fun b hb => by rw [goal_nth, if_neg (by omega)]) hM hg0 h.gprim
    rw [hg q]
    have b1 : (kap * nth (lpOf rows many).g q).natAbs ≤ capC (rows.length + 2) M * M := by
      rw [Int.natAbs_mul]
      exact Nat.mul_le_mul s1 (hg0 q)
    have b2 := sum_bound (f := fun a => nth x.g (many + 2 + a) * nth (row (lpOf rows many).t a) q) (C := capC (rows.length + 2) M * M) (rows.length + 2) fun a ha => by
      rw [Int.natAbs_mul]
      exact Nat.mul_le_mul (s2 a ha) (hM a q)
    rw [show rows.length + 3 = (rows.length + 2) + 1 by omega, Nat.add_mul, Nat.one_mul]
    show (kap * nth (lpOf rows many).g q + sumN (fun a => nth x.g (many + 2 + a) * nth (row (lpOf rows many).t a) q) (rows.length + 2)).natAbs ≤ _
    omega
end PD
set_option maxRecDepth 100000
set_option maxHeartbeats 4000000
set_option exponentiation.threshold 20
namespace PD
open PySem PySem.Spec PyProof.Rows L2
/-! ## the numbers at the end solve the system -/
theorem WF.nodup {x : LP} {n : Nat} (w : WF x n) : x.b.Nodup := by
  refine List.pairwise_iff_getElem.mpr fun i j hi hj hij e => ?_
  have e1 : nth x.b i = nth x.b j := by
    unfold nth
    rw [List.getD_eq_getElem?_getD, List.getD_eq_getElem?_getD, List.getElem?_eq_getElem hi, List.getElem?_eq_getElem hj, e]
  have := w.inj (a := i) (b := j) (by rw [← w.bl]; exact hi) (by rw [← w.bl]; exact hj) (by unfold bs; rw [e1])
  omega
theorem zip_get {x : LP} {i : Nat} (h : i < x.t.length) (hb : x.b.length = x.t.length) : (x.t.zip x.b)[i]? = some (row x.t i, nth x.b i) := by
  rw [List.getElem?_zip_eq_some]
  refine ⟨row_get h, ?_⟩
  unfold nth
  rw [List.getD_eq_getElem?_getD, List.getElem?_eq_getElem (by omega)]
  rfl
theorem zip_mem {x : LP} {p : List Int × Int} (hb : x.b.length = x.t.length) (h : p ∈ x.t.zip x.b) : ∃ i, i < x.t.length ∧ p = (row x.t i, nth x.b i) := by
  obtain ⟨i, hi, e⟩ := List.mem_iff_getElem.mp h
  have hi' : i < x.t.length := by rw [List.length_zip] at hi; omega
  have := zip_get (i := i) hi' hb
  rw [List.getElem?_eq_getElem hi] at this
  exact ⟨i, hi', by rw [← e]; exact Option.some.inj this⟩
theorem find_at {α : Type} {p : α → Bool} : ∀ {xs : List α} {i : Nat} {a : α}, xs[i]? = some a → p a = true → (∀ j b, xs[j]? = some b → p b = true → j = i) → xs.find? p = some a
  | [], _, _, h, _, _ => by simp at h
  | x :: xs, 0, a, h, ha, _ => by
    simp at h; subst h
    simp [ha]
  | x :: xs, i + 1, a, h, ha, hu => by
    have : p x = false := by
      cases e : p x with
      | false => rfl
      | true => exact absurd (hu 0 x rfl e) (by omega)
    rw [List.find?_cons, this]
    exact find_at (xs := xs) (i := i) (by simpa using h) ha fun j b hj hb => by
      have := hu (j + 1) b (by simpa using hj) hb
      omega
theorem val_bas {x : LP} {n i : Nat} {c : Int} (w : WF x n) (hi : i < x.t.length) : valN x.t x.b c ((bs x i : Nat) : Int) = nth (row x.t i) (n - 1) * (c / nth (row x.t i) (bs x i)) := by
  have e0 : ((bs x i : Nat) : Int) = nth x.b i := Int.toNat_of_nonneg (w.bp i hi).1
  have e : (x.t.zip x.b).find? (fun p => p.2 == ((bs x i : Nat) : Int)) = some (row x.t i, nth x.b i) := find_at (zip_get hi w.bl) (by simp [e0]) fun j b hj hb => by
    have hj' : j < x.t.length := by
      have := (List.getElem?_eq_some_iff.mp hj).1
      rw [List.length_zip] at this; omega
    rw [zip_get hj' w.bl] at hj
    cases hj
    simp at hb
    refine w.inj hj' hi ?_
    unfold bs
    rw [hb, e0]
  unfold valN
  rw [e]
  show lastD (row x.t i) * _ = _
  rw [w.last hi]
  rfl
theorem val_non {x : LP} {n q : Nat} {c : Int} (w : WF x n) (h : ∀ i, i < x.t.length → bs x i ≠ q) : valN x.t x.b c (q : Int) = 0 := by
  have e : (x.t.zip x.b).find? (fun p => p.2 == (q : Int)) = none := List.find?_eq_none.mpr fun p hp => by
    obtain ⟨i, hi, rfl⟩ := zip_mem w.bl hp
    have := h i hi
    intro hc
    apply this
    unfold bs
    have : nth x.b i = (q : Int) := by simpa using hc
    rw [this]; rfl
  unfold valN
  rw [e]; rfl
/-! ### the common divisor -/
theorem cstep_dvd {c : Int} {p : List Int × Int} : c ∣ cstep c p := ⟨_, rfl⟩
theorem cstep_dvd' {c : Int} {p : List Int × Int} : nth p.1 p.2.toNat ∣ cstep c p := by
  unfold cstep
  have h1 := part_dvd (xs := [c, nth p.1 p.2.toNat]) (x := c) (by simp)
  have h2 := part_dvd (xs := [c, nth p.1 p.2.toNat]) (x := nth p.1 p.2.toNat) (by simp)
  have hp := part_pos (xs := [c, nth p.1 p.2.toNat])
  generalize nth p.1 p.2.toNat = a at *
  obtain ⟨u, hu⟩ := h1
  obtain ⟨v, hv⟩ := h2
  generalize part [c, a] = P at *
  refine ⟨u, ?_⟩
  rw [hv, Int.mul_ediv_cancel_left _ (by omega)]
  conv => lhs; rw [hu]
  rw [Int.mul_assoc, Int.mul_comm u v, ← Int.mul_assoc]
theorem fold_dvd : ∀ {ps : List (List Int × Int)} {c : Int}, c ∣ ps.foldl cstep c
  | [], c => Int.dvd_refl c
  | p :: ps, c => Int.dvd_trans cstep_dvd (fold_dvd (ps := ps))
theorem fold_dvd' : ∀ {ps : List (List Int × Int)} {c : Int} {p : List Int × Int}, p ∈ ps → nth p.1 p.2.toNat ∣ ps.foldl cstep c
  | q :: ps, c, p, h => by
    rw [List.foldl_cons]
    rcases List.mem_cons.mp h with rfl | h
    · exact Int.dvd_trans cstep_dvd' fold_dvd
    · exact fold_dvd' h
theorem cstep_pos {c : Int} {p : List Int × Int} (hc : 0 < c) (h : 0 < nth p.1 p.2.toNat) : 0 < cstep c p := by
  unfold cstep
  have h2 := part_dvd (xs := [c, nth p.1 p.2.toNat]) (x := nth p.1 p.2.toNat) (by simp)
  have hp := part_pos (xs := [c, nth p.1 p.2.toNat])
  generalize nth p.1 p.2.toNat = a at *
  obtain ⟨v, hv⟩ := h2
  generalize part [c, a] = P at *
  rw [hv, Int.mul_ediv_cancel_left _ (by omega)]
  refine Int.mul_pos hc ?_
  rw [hv] at h
  have hP : (0 : Int) < P := by omega
  exact Int.pos_of_mul_pos_right h hP
theorem fold_pos : ∀ {ps : List (List Int × Int)} {c : Int}, 0 < c → (∀ p ∈ ps, 0 < nth p.1 p.2.toNat) → 0 < ps.foldl cstep c
  | [], c, hc, _ => hc
  | p :: ps, c, hc, h => fold_pos (ps := ps) (c := cstep c p) (cstep_pos hc (h p List.mem_cons_self)) fun q hq => h q (List.mem_cons_of_mem _ hq)
theorem cstep_le {c : Int} {p : List Int × Int} {B : Nat} (h : 0 < nth p.1 p.2.toNat) (hb : (nth p.1 p.2.toNat).natAbs ≤ B) : (cstep c p).natAbs ≤ c.natAbs * B := by
  unfold cstep
  rw [Int.natAbs_mul]
  refine Nat.mul_le_mul_left _ (Nat.le_trans ?_ hb)
  exact Int.natAbs_ediv_le_natAbs _ _
theorem fold_le {B : Nat} : ∀ {ps : List (List Int × Int)} {c : Int}, (∀ p ∈ ps, 0 < nth p.1 p.2.toNat ∧ (nth p.1 p.2.toNat).natAbs ≤ B) → (ps.foldl cstep c).natAbs ≤ c.natAbs * B ^ ps.length
  | [], c, _ => by simp
  | p :: ps, c, h => by
    have h1 := h p List.mem_cons_self
    have ih := fold_le (ps := ps) (c := cstep c p) fun q hq => h q (List.mem_cons_of_mem _ hq)
    rw [List.foldl_cons]
    refine Nat.le_trans ih ?_
    rw [List.length_cons, Nat.pow_succ, Nat.mul_comm (B ^ ps.length), ← Nat.mul_assoc]
    exact Nat.mul_le_mul_right _ (cstep_le h1.1 h1.2)
theorem comm_pos {x : LP} {n : Nat} (w : WF x n) : 0 < comm x.t x.b := fold_pos (by decide) fun p hp => by
  obtain ⟨i, hi, rfl⟩ := zip_mem w.bl hp
  exact w.pos i hi
theorem comm_dvd {x : LP} {n i : Nat} (w : WF x n) (hi : i < x.t.length) : nth (row x.t i) (bs x i) ∣ comm x.t x.b :=
  fold_dvd' (p := (row x.t i, nth x.b i)) (List.mem_of_getElem? (zip_get hi w.bl))
theorem comm_le {x : LP} {n B : Nat} (w : WF x n) (h : ∀ j, j < x.t.length → ∀ q, (nth (row x.t j) q).natAbs ≤ B) : (comm x.t x.b).natAbs ≤ B ^ x.t.length := by
  have := fold_le (B := B) (ps := x.t.zip x.b) (c := 1) fun p hp => by
    obtain ⟨i, hi, rfl⟩ := zip_mem w.bl hp
    exact ⟨w.pos i hi, h i hi _⟩
  have hl : (x.t.zip x.b).length = x.t.length := by rw [List.length_zip, w.bl]; omega
  rw [hl] at this
  unfold comm
  simpa using this
/-! ### the point -/
def pnt (x : LP) (n : Nat) : Nat → Int := fun q => if q = n - 1 then -comm x.t x.b else valN x.t x.b (comm x.t x.b) (q : Int)
theorem pnt_sol {x : LP} {n : Nat} (w : WF x n) (hn : 0 < n) : Sol x n (pnt x n) := fun j hj => by
  have hb := w.bp j hj
  have hbj : bs x j + 1 < n := by unfold bs; omega
  rw [dot_two (a := bs x j) (b := n - 1) (by omega) n (by omega) (by omega) fun q hq hqa hqb => ?_]
  · unfold pnt
    rw [if_neg (by omega), if_pos rfl, val_bas w hj]
    obtain ⟨u, hu⟩ := comm_dvd w hj
    have hp := w.pos j hj
    generalize nth (row x.t j) (bs x j) = a at *
    generalize nth (row x.t j) (n - 1) = r at *
    rw [hu, Int.mul_ediv_cancel_left _ (by omega), Int.mul_neg]
    have : a * (r * u) = r * (a * u) := by rw [← Int.mul_assoc, Int.mul_comm a r, Int.mul_assoc]
    omega
  · unfold pnt
    rw [if_neg hqb]
    by_cases h : ∃ i, i < x.t.length ∧ bs x i = q
    · obtain ⟨i, hi, rfl⟩ := h
      have hij : j ≠ i := fun e => by subst e; exact hqa rfl
      rw [w.zero i j hi hj hij]; simp
    · rw [val_non w fun i hi e => h ⟨i, hi, e⟩]; simp
theorem pnt_nn {x : LP} {n q : Nat} (w : WF x n) (hq : q ≠ n - 1) : 0 ≤ pnt x n q := by
  unfold pnt
  rw [if_neg hq]
  by_cases h : ∃ i, i < x.t.length ∧ bs x i = q
  · obtain ⟨i, hi, rfl⟩ := h
    rw [val_bas w hi]
    exact Int.mul_nonneg (w.rhs i hi) (Int.ediv_nonneg (Int.le_of_lt (comm_pos w)) (Int.le_of_lt (w.pos i hi)))
  · rw [val_non w fun i hi e => h ⟨i, hi, e⟩]; exact Int.le_refl 0
theorem pnt_le {x : LP} {n q B : Nat} (w : WF x n) (hq : q ≠ n - 1) (h : ∀ j, j < x.t.length → ∀ q, (nth (row x.t j) q).natAbs ≤ B) : (pnt x n q).natAbs ≤ B * B ^ x.t.length := by
  unfold pnt
  rw [if_neg hq]
  by_cases hh : ∃ i, i < x.t.length ∧ bs x i = q
  · obtain ⟨i, hi, rfl⟩ := hh
    rw [val_bas w hi, Int.natAbs_mul]
    exact Nat.mul_le_mul (h i hi _) (Nat.le_trans (Int.natAbs_ediv_le_natAbs _ _) (comm_le w h))
  · rw [val_non w fun i hi e => hh ⟨i, hi, e⟩]; simp
theorem pnt_goal {x : LP} {n : Nat} (w : WF x n) (hn : 0 < n) : dotN x.g (pnt x n) n = -(lastD x.g * comm x.t x.b) := by
  rw [dot_one (a := n - 1) n (by omega) fun q hq hqb => ?_]
  · have e : lastD x.g = nth x.g (n - 1) := by unfold lastD; rw [w.glen]
    unfold pnt
    rw [if_pos rfl, e, Int.mul_neg]
  · unfold pnt
    rw [if_neg hqb]
    by_cases h : ∃ i, i < x.t.length ∧ bs x i = q
    · obtain ⟨i, hi, rfl⟩ := h
      rw [w.gz i hi]; simp
    · rw [val_non w fun i hi e => h ⟨i, hi, e⟩]; simp
end PD
set_option maxRecDepth 100000
set_option maxHeartbeats 4000000
set_option exponentiation.threshold 20000
namespace PD
open PySem PySem.Spec PyProof.Rows L2
/-! ## a line of the table, read -/
theorem dot_cong {l l' : List Int} {v : Nat → Int} : ∀ n, (∀ q, q < n → nth l q = nth l' q) → dotN l v n = dotN l' v n
  | 0, _ => rfl
  | n + 1, h => by rw [dotN, dotN, dot_cong n fun q hq => h q (by omega), h n (by omega)]
theorem dot_mid {l : List Int} {v : Nat → Int} {w j : Nat} : ∀ m, (∀ q, q < m → nth l (w + q) = if q = j then 1 else 0) → dotN l v (w + m) = dotN l v w + if j < m then v (w + j) else 0
  | 0, _ => by simp
  | m + 1, h => by
    rw [show w + (m + 1) = (w + m) + 1 by omega, dotN, dot_mid m fun q hq => h q (by omega), h m (by omega)]
    by_cases e : m = j
    · subst e
      rw [if_neg (by omega), if_pos rfl, if_pos (by omega)]; omega
    · rw [if_neg e]
      by_cases h2 : j < m
      · rw [if_pos h2, if_pos (by omega)]; omega
      · rw [if_neg h2, if_neg (by omega)]; omega
theorem line_dot {lines : List (List Int × Int)} {w j : Nat} {p : List Int × Int} {v : Nat → Int} (ok : LnOk lines w) (h : lines[j]? = some p) : dotN (row (tabOf lines) j) v (w + lines.length + 1) = dotN p.1 v w + v (w + j) + p.2 * v (w + lines.length) := by
  have hj := (List.getElem?_eq_some_iff.mp h).1
  rw [dotN, dot_mid (j := j) lines.length fun q hq => row_mid ok h hq, if_pos hj, row_top ok h, dot_cong w fun q hq => row_low ok h hq]
/-! ## what a solution is -/
structure Fits (rows : List (List Int × Bool)) (many : Nat) (v : Nat → Int) : Prop where
  nn : ∀ q, q ≤ many → 0 ≤ v q
  one : 0 < v many
  rows : ∀ p ∈ rows, 0 ≤ dotN p.1 v (many + 1) ∧ (p.2 = true → 0 < dotN p.1 v (many + 1))
theorem neg_nth {xs : List Int} {q : Nat} : nth (xs.map (- ·)) q = -nth xs q := by
  unfold nth
  rw [List.getD_eq_getElem?_getD, List.getD_eq_getElem?_getD, List.getElem?_map]
  cases xs[q]? <;> simp
theorem dot_neg {xs : List Int} {v : Nat → Int} : ∀ n, dotN (xs.map (- ·)) v n = -dotN xs v n
  | 0 => rfl
  | n + 1 => by rw [dotN, dotN, dot_neg n, neg_nth, Int.neg_mul]; omega
theorem ln_dot {p : List Int × Bool} {many : Nat} {v : Nat → Int} (h : p.1.length = many + 1) : dotN (lnOfRow p).1 v (many + 2) = -dotN p.1 v (many + 1) + if p.2 then v (many + 1) else 0 := by
  show dotN (p.1.map (- ·) ++ [if p.2 then 1 else 0]) v (many + 2) = _
  rw [dotN, dot_cong (l' := p.1.map (- ·)) (many + 1) fun q hq => by rw [nth_app, if_pos (by simp [h]; omega)], dot_neg, nth_app, if_neg (by simp [h])]
  have : many + 1 - (p.1.map (- ·)).length = 0 := by simp [h]
  rw [this]
  cases p.2 <;> simp [nth]
theorem last1_dot {many : Nat} {v : Nat → Int} : dotN (List.replicate many 0 ++ [-1, 1]) v (many + 2) = v (many + 1) - v many := by
  have e0 : ∀ q, q < many → nth (List.replicate many (0 : Int) ++ [-1, 1]) q = 0 := fun q hq => by
    rw [nth_app, if_pos (by simpa using hq)]
    simp [nth, hq]
  have e1 : nth (List.replicate many (0 : Int) ++ [-1, 1]) many = -1 := by
    rw [nth_app, if_neg (by simp)]; simp [nth]
  have e2 : nth (List.replicate many (0 : Int) ++ [-1, 1]) (many + 1) = 1 := by
    rw [nth_app, if_neg (by simp)]; simp [nth]
  rw [dot_two (a := many) (b := many + 1) (by omega) (many + 2) (by omega) (by omega) fun q hq h1 h2 => by rw [e0 q (by omega)]; simp, e1, e2]
  omega
theorem last2_dot {many : Nat} {v : Nat → Int} : dotN (List.replicate (many + 1) 1 ++ [0]) v (many + 2) = sumN v (many + 1) := by
  have e2 : nth (List.replicate (many + 1) (1 : Int) ++ [0]) (many + 1) = 0 := by
    rw [nth_app, if_neg (by simp)]; simp [nth]
  have e0 : ∀ q, q < many + 1 → nth (List.replicate (many + 1) (1 : Int) ++ [0]) q = 1 := fun q hq => by
    rw [nth_app, if_pos (by simpa using hq)]
    simp [nth, hq]
  rw [dotN, e2, dot_sum, sum_congr (g := v) (many + 1) fun q hq => by rw [e0 q hq]; simp]
  simp
theorem sol_len (rows : List (List Int × Bool)) (many : Nat) : (solLines rows many).length = rows.length + 2 := by simp [solLines]
theorem lpOf_t (rows : List (List Int × Bool)) (many : Nat) : (lpOf rows many).t = tabOf (solLines rows many) := rfl
theorem lpOf_len (rows : List (List Int × Bool)) (many : Nat) : (lpOf rows many).t.length = rows.length + 2 := by
  rw [lpOf_t, ← sol_len rows many]; exact tabG_len _ _ _
theorem sol_at {rows : List (List Int × Bool)} {many j : Nat} {p : List Int × Bool} (h : rows[j]? = some p) : (solLines rows many)[j]? = some (lnOfRow p) := by
  have hj := (List.getElem?_eq_some_iff.mp h).1
  unfold solLines
  rw [List.getElem?_append_left (by simpa using hj), List.getElem?_map, h]; rfl
theorem sol_at1 {rows : List (List Int × Bool)} {many : Nat} : (solLines rows many)[rows.length]? = some (List.replicate many 0 ++ [-1, 1], 0) := by
  unfold solLines
  rw [List.getElem?_append_right (by simp)]; simp
theorem sol_at2 {rows : List (List Int × Bool)} {many : Nat} : (solLines rows many)[rows.length + 1]? = some (List.replicate (many + 1) 1 ++ [0], 1) := by
  unfold solLines
  rw [List.getElem?_append_right (by simp)]; simp
abbrev wid (rows : List (List Int × Bool)) (many : Nat) : Nat := (many + 2) + (rows.length + 2) + 1
theorem sol_rows {rows : List (List Int × Bool)} {many : Nat} {v : Nat → Int} (hl : ∀ p ∈ rows, p.1.length = many + 1) (hs : Sol (lpOf rows many) (wid rows many) v) :
    (∀ (j : Nat) (p : List Int × Bool), rows[j]? = some p → dotN p.1 v (many + 1) = (if p.2 then v (many + 1) else 0) + v (many + 2 + j)) ∧
    v many = v (many + 1) + v (many + 2 + rows.length) := by
  have ok := sol_ln (many := many) hl
  have ew : wid rows many = (many + 2) + (solLines rows many).length + 1 := by unfold wid; rw [sol_len]
  rw [ew] at hs
  refine ⟨fun j p hp => ?_, ?_⟩
  · have hj := (List.getElem?_eq_some_iff.mp hp).1
    have := hs j (by rw [lpOf_len]; omega)
    rw [lpOf_t, line_dot ok (sol_at hp), ln_dot (hl p (List.mem_of_getElem? hp))] at this
    have z : (lnOfRow p).2 = 0 := rfl
    rw [z] at this
    omega
  · have := hs rows.length (by rw [lpOf_len]; omega)
    rw [lpOf_t, line_dot ok sol_at1, last1_dot] at this
    omega
/-! ## the end of the exchanging -/
structure Size (rows : List (List Int × Bool)) (many L M B : Nat) : Prop where
  len : ∀ p ∈ rows, p.1.length = many + 1
  few : rows.length ≤ L
  many : many + L ≤ 180
  ent : ∀ p ∈ rows, ∀ x ∈ p.1, x.natAbs ≤ M
  one : 1 ≤ M
  big : (L + 3) * (capC (L + 2) M * M) ≤ B
  b1 : B < 2 ^ 3999
  b2 : B * B ^ (L + 2) < 2 ^ 8999
theorem cap_mono {m m' M : Nat} (h : m ≤ m') : capC m M ≤ capC m' M := by
  unfold capC
  have e1 : 2 * ((m + 1) * M) + 1 ≤ 2 * ((m' + 1) * M) + 1 := by
    have := Nat.mul_le_mul_right M (show m + 1 ≤ m' + 1 by omega)
    omega
  exact Nat.le_trans (Nat.pow_le_pow_left e1 _) (Nat.pow_le_pow_right (by omega) h)
theorem nth_in {xs : List Int} {q : Nat} : nth xs q ∈ xs ∨ nth xs q = 0 := by
  unfold nth
  rw [List.getD_eq_getElem?_getD]
  by_cases h : q < xs.length
  · left; rw [List.getElem?_eq_getElem h]; exact List.getElem_mem h
  · right; rw [List.getElem?_eq_none (by omega)]; rfl
theorem ent_ok {rows : List (List Int × Bool)} {many L M B : Nat} (z : Size rows many L M B) : ∀ a q, (nth (row (lpOf rows many).t a) q).natAbs ≤ M := fun a q => by
  by_cases ha : a < (solLines rows many).length
  · have hp := List.getElem?_eq_getElem ha
    have ok := sol_ln (many := many) z.len
    rw [lpOf_t, tab_row hp]
    have h1 := z.one
    have hmem := List.getElem_mem ha
    generalize (solLines rows many)[a] = p at hp hmem
    have hin : ∀ x ∈ p.1 ++ unitL (solLines rows many).length a ++ [p.2], x.natAbs ≤ M := fun x hx => by
      have pp : (∀ x ∈ p.1, x.natAbs ≤ M) ∧ p.2.natAbs ≤ M := by
        unfold solLines at hmem
        rcases List.mem_append.mp hmem with h | h
        · obtain ⟨r, hr, rfl⟩ := List.mem_map.mp h
          refine ⟨fun x hx => ?_, by show (0 : Int).natAbs ≤ M; simp⟩
          rcases List.mem_append.mp hx with hx | hx
          · obtain ⟨u, hu, rfl⟩ := List.mem_map.mp hx
            have := z.ent r hr u hu
            omega
          · simp at hx; subst hx
            split <;> simp <;> omega
        · simp at h
          rcases h with rfl | rfl
          · refine ⟨fun x hx => ?_, by simp⟩
            rcases List.mem_append.mp hx with hx | hx
            · have := (List.mem_replicate.mp hx).2; subst this; simp
            · simp at hx; rcases hx with rfl | rfl <;> simp <;> omega
          · refine ⟨fun x hx => ?_, by simpa using h1⟩
            rcases List.mem_append.mp hx with hx | hx
            · have := (List.mem_replicate.mp hx).2; subst this; simpa using h1
            · simp at hx; subst hx; simp
      rcases List.mem_append.mp hx with hx | hx
      · rcases List.mem_append.mp hx with hx | hx
        · exact pp.1 x hx
        · unfold unitL at hx
          obtain ⟨u, _, rfl⟩ := List.mem_map.mp hx
          split <;> simp <;> omega
      · simp at hx; subst hx; exact pp.2
    rcases nth_in (xs := p.1 ++ unitL (solLines rows many).length a ++ [p.2]) (q := q) with h | h
    · exact hin _ h
    · rw [h]; simp
  · have : row (lpOf rows many).t a = [] := by
      unfold row
      rw [List.getD_eq_getElem?_getD, List.getElem?_eq_none (by rw [lpOf_len]; rw [sol_len] at ha; omega)]; rfl
    rw [this]; simp [nth]
theorem short_ok {rows : List (List Int × Bool)} {many L M B : Nat} {x : LP} (z : Size rows many L M B) (h : InvS rows many (wid rows many) x) : (∀ j, j < x.t.length → ∀ q, (nth (row x.t j) q).natAbs ≤ B) ∧ ∀ q, (nth x.g q).natAbs ≤ B := by
  obtain ⟨h1, h2⟩ := invS_short z.len h (ent_ok z) z.one
  have c := cap_mono (M := M) (show rows.length + 2 ≤ L + 2 by have := z.few; omega)
  have c' := Nat.mul_le_mul_right M c
  have f := z.few
  refine ⟨fun j hj q => Nat.le_trans (h1 j hj q) (Nat.le_trans (Nat.mul_le_mul (by omega) c') z.big), fun q => Nat.le_trans (h2 q) (Nat.le_trans (Nat.mul_le_mul (by omega) c') z.big)⟩
theorem invS_ok {rows : List (List Int × Bool)} {many L M B : Nat} {x : LP} (z : Size rows many L M B) (h : InvS rows many (wid rows many) x) : x.Ok (wid rows many) := by
  obtain ⟨h1, h2⟩ := short_ok z h
  have sm : ∀ i : Int, i.natAbs ≤ B → Sm i := fun i hi => log_lt (by omega) (Nat.lt_of_le_of_lt hi (Nat.lt_of_lt_of_le z.b1 (Nat.pow_le_pow_right (by omega) (by omega))))
  have f := z.few
  have m := z.many
  have ml := h.ml
  refine ⟨⟨fun l hl => ?_, fun l hl x' hx => ?_, by unfold wid; omega, by unfold wid; omega, by omega⟩, h.wf.bl, h.wf.glen, fun x' hx => ?_⟩
  · obtain ⟨i, hi, rfl⟩ := List.mem_iff_getElem.mp hl
    have := h.wf.len i hi
    have e := row_get hi
    rw [List.getElem?_eq_getElem hi] at e
    rw [Option.some.inj e]; exact this
  · obtain ⟨i, hi, rfl⟩ := List.mem_iff_getElem.mp hl
    have e := row_get hi
    rw [List.getElem?_eq_getElem hi] at e
    rw [Option.some.inj e] at hx
    obtain ⟨q, hq, rfl⟩ := List.mem_iff_getElem.mp hx
    have := h1 i hi q
    refine sm _ ?_
    unfold nth at this
    rw [List.getD_eq_getElem?_getD, List.getElem?_eq_getElem hq] at this
    exact this
  · obtain ⟨q, hq, rfl⟩ := List.mem_iff_getElem.mp hx
    have := h2 q
    refine sm _ ?_
    unfold nth at this
    rw [List.getD_eq_getElem?_getD, List.getElem?_eq_getElem hq] at this
    exact this
theorem goal_dot {rows : List (List Int × Bool)} {many n : Nat} {v : Nat → Int} (h : many + 1 < n) : dotN (lpOf rows many).g v n = v (many + 1) := by
  rw [dot_one (a := many + 1) n h fun q hq hne => by rw [goal_nth, if_neg hne]; simp, goal_nth, if_pos rfl]; simp
theorem grt_stop {W : Bool} : ∀ {m : Nat} {x y : LP}, grt W m x = some y → stopB W y = true
  | 0, _, _, h => nomatch h
  | m + 1, x, y, h => by
    rw [grt] at h
    by_cases e : stopB W x = true
    · rw [if_pos e] at h
      cases h; exact e
    · rw [if_neg e] at h
      cases hp : places x.g with
      | nil => rw [hp] at h; cases h
      | cons k ks =>
        rw [hp] at h
        simp only at h
        cases hl : leav x.t x.b k with
        | none => rw [hl] at h; cases h
        | some i => rw [hl] at h; exact grt_stop h
theorem dot_np {l : List Int} {v : Nat → Int} : ∀ n, (∀ q, q < n → nth l q * v q ≤ 0) → dotN l v n ≤ 0
  | 0, _ => Int.le_refl 0
  | n + 1, h => by
    have h1 := dot_np n fun q hq => h q (by omega)
    have h2 := h n (by omega)
    rw [dotN]; omega
/-- a solution with what the lines leave over -/
def lift (rows : List (List Int × Bool)) (many : Nat) (u : Nat → Int) : Nat → Int := fun q =>
  if q ≤ many then u q else if q = many + 1 then 1 else if q < many + 2 + rows.length then dotN (rows.getD (q - (many + 2)) ([], false)).1 u (many + 1) - (if (rows.getD (q - (many + 2)) ([], false)).2 then 1 else 0)
  else if q = many + 2 + rows.length then u many - 1 else if q = many + 2 + rows.length + 1 then 0 else -sumN u (many + 1)
theorem dot_congv {l : List Int} {v u : Nat → Int} : ∀ n, (∀ q, q < n → v q = u q) → dotN l v n = dotN l u n
  | 0, _ => rfl
  | n + 1, h => by rw [dotN, dotN, dot_congv n fun q hq => h q (by omega), h n (by omega)]
theorem lift_sol {rows : List (List Int × Bool)} {many : Nat} {u : Nat → Int} (hl : ∀ p ∈ rows, p.1.length = many + 1) : Sol (lpOf rows many) (wid rows many) (lift rows many u) := fun j hj => by
  rw [lpOf_len] at hj
  have ok := sol_ln (many := many) hl
  have ew : wid rows many = (many + 2) + (solLines rows many).length + 1 := by unfold wid; rw [sol_len]
  have low : ∀ q, q < many + 1 → lift rows many u q = u q := fun q hq => by unfold lift; rw [if_pos (by omega)]
  have at1 : lift rows many u (many + 1) = 1 := by unfold lift; rw [if_neg (by omega), if_pos rfl]
  have atn : lift rows many u (many + 2 + (solLines rows many).length) = -sumN u (many + 1) := by
    rw [sol_len]; unfold lift
    rw [if_neg (by omega), if_neg (by omega), if_neg (by omega), if_neg (by omega), if_neg (by omega)]
  rw [ew, lpOf_t]
  by_cases h1 : j < rows.length
  · have hp := List.getElem?_eq_getElem h1
    have hs : lift rows many u (many + 2 + j) = dotN rows[j].1 u (many + 1) - (if rows[j].2 then 1 else 0) := by
      unfold lift
      rw [if_neg (by omega), if_neg (by omega), if_pos (by omega), show many + 2 + j - (many + 2) = j by omega, List.getD_eq_getElem?_getD, hp]; rfl
    rw [line_dot ok (sol_at hp), ln_dot (hl _ (List.getElem_mem h1)), dot_congv (many + 1) low, at1, hs]
    have z : (lnOfRow rows[j]).2 = 0 := rfl
    rw [z]; omega
  · by_cases h2 : j = rows.length
    · subst h2
      have hs : lift rows many u (many + 2 + rows.length) = u many - 1 := by
        unfold lift
        rw [if_neg (by omega), if_neg (by omega), if_neg (by omega), if_pos rfl]
      rw [line_dot ok sol_at1, last1_dot, at1, hs, low many (by omega)]
      omega
    · have h3 : j = rows.length + 1 := by omega
      subst h3
      have hs : lift rows many u (many + 2 + (rows.length + 1)) = 0 := by
        unfold lift
        rw [if_neg (by omega), if_neg (by omega), if_neg (by omega), if_neg (by omega), if_pos (by omega)]
      rw [line_dot ok sol_at2, last2_dot, atn, hs, sum_congr (many + 1) low]
      omega
theorem lift_nn {rows : List (List Int × Bool)} {many q : Nat} {u : Nat → Int} (fu : Fits rows many u) (hq : q + 1 < wid rows many) : 0 ≤ lift rows many u q := by
  unfold lift
  split
  · exact fu.nn q (by assumption)
  · split
    · decide
    · split
      · rename_i h
        have hj : q - (many + 2) < rows.length := by omega
        have e : rows.getD (q - (many + 2)) ([], false) = rows[q - (many + 2)] := by rw [List.getD_eq_getElem?_getD, List.getElem?_eq_getElem hj]; rfl
        rw [e]
        have := fu.rows _ (List.getElem_mem hj)
        cases hb : rows[q - (many + 2)].2 with
        | true => have := this.2 hb; rw [if_pos rfl]; omega
        | false => rw [if_neg (by decide)]; omega
      · split
        · have := fu.one; omega
        · split
          · decide
          · unfold wid at hq; omega
/-- the end: numbers that solve the system, or none do -/
theorem sol_fin {rows : List (List Int × Bool)} {many L M B : Nat} (z : Size rows many L M B) (s : Store) : ∃ (r : Bool) (y : LP) (v : Nat → Int) (c : Int),
    canS wfuel (lpOf rows many) = some r ∧ grt true wfuel (lpOf rows many) = some y ∧
    m_numbers_of [eT y.t, eL y.b, .int ((many + 2 : Nat) : Int)] s = .ok (.tup [eL ((List.range (many + 2)).map fun (q : Nat) => v q), .int c]) s ∧
    (∀ q, q < many + 2 → (v q).natAbs.log2 < 9000) ∧ (r = true ↔ v (many + 1) ≠ 0) ∧ (r = true → Fits rows many v) ∧ (r = false → ∀ u, ¬Fits rows many u) := by
  have f := z.few
  have m := z.many
  obtain ⟨r, hr⟩ := can_ends (many := many) z.len (by omega)
  have st := invS_start (many := many) z.len
  have one : nth (lpOf rows many).g (many + 1) = 1 := by rw [goal_nth, if_pos rfl]
  obtain ⟨y, hy, iy, er⟩ := grt_can (InvS rows many (wid rows many)) (fun x h => h.neg) (fun x k ks i h h0 hp hi => invS_step h one h0 hp hi) wfuel (lpOf rows many) r st hr
  have w := iy.wf
  have ml := iy.ml
  have ok := invS_ok z iy
  have np : ∀ p ∈ y.t.zip y.b, PlOk (wid rows many) p := fun p hp => by
    obtain ⟨i, hi, rfl⟩ := zip_mem w.bl hp
    have := w.bp i hi
    exact ⟨w.len i hi, (ok.t.row hi).2, this.1, by show nth y.b i < _; omega, w.pos i hi⟩
  obtain ⟨hn, -⟩ := numbers_ok (s := s) (many := many + 2) np (by unfold wid; omega) (by omega) w.bl w.nodup (by omega)
  have vw : ∀ q, q < many + 2 → pnt y (wid rows many) q = valN y.t y.b (comm y.t y.b) (q : Int) := fun q hq => by
    unfold pnt
    rw [if_neg (by unfold wid; omega)]
  refine ⟨r, y, pnt y (wid rows many), comm y.t y.b, hr, hy, ?_, fun q hq => ?_, ?_⟩
  · rw [hn]
    congr 4
    refine List.map_congr_left fun q hq => (vw q (List.mem_range.mp hq)).symm
  · have b := pnt_le (B := B) (q := q) w (by unfold wid; omega) (short_ok z iy).1
    rw [ml] at b
    refine log_lt (by omega) (Nat.lt_of_le_of_lt (Nat.le_trans b ?_) (Nat.lt_of_lt_of_le z.b2 (Nat.pow_le_pow_right (by omega) (by omega))))
    refine Nat.mul_le_mul_left _ (Nat.pow_le_pow_right ?_ (by omega))
    have := z.big
    have : 0 < capC (L + 2) M * M := Nat.mul_pos (Nat.pow_pos (by omega)) z.one
    have := Nat.mul_pos (show 0 < L + 3 by omega) this
    omega
  · have sy := pnt_sol w (by unfold wid; omega)
    have s0 := (iy.sol _).mpr sy
    obtain ⟨a, b, ha, hb, hg⟩ := iy.goal
    have g1 := hg _ s0
    rw [goal_dot (by unfold wid; omega), pnt_goal w (by unfold wid; omega)] at g1
    have cp := comm_pos w
    have ng := iy.neg
    obtain ⟨rw1, rw2⟩ := sol_rows z.len s0
    have nn : ∀ q, q ≠ wid rows many - 1 → 0 ≤ pnt y (wid rows many) q := fun q hq => pnt_nn w hq
    have iff : r = true ↔ pnt y (wid rows many) (many + 1) ≠ 0 := by
      rw [er, decide_eq_true_eq]
      constructor
      · intro h e
        rw [e, Int.mul_zero] at g1
        have : lastD y.g * comm y.t y.b = 0 := by
          rcases Int.mul_eq_zero.mp g1.symm with h' | h' <;> omega
        rcases Int.mul_eq_zero.mp this with h' | h' <;> omega
      · intro h e
        rw [e, Int.zero_mul, Int.neg_zero, Int.mul_zero] at g1
        rcases Int.mul_eq_zero.mp g1 with h' | h' <;> omega
    refine ⟨iff, fun h => ?_, fun h u fu => ?_⟩
    · have h1 := iff.mp h
      have h2 := nn (many + 1) (by unfold wid; omega)
      have h3 := nn (many + 2 + rows.length) (by unfold wid; omega)
      refine ⟨fun q hq => nn q (by unfold wid; omega), by omega, fun p hp => ?_⟩
      obtain ⟨j, hj, rfl⟩ := List.mem_iff_getElem.mp hp
      have e := rw1 j _ (List.getElem?_eq_getElem hj)
      have h4 := nn (many + 2 + j) (by unfold wid; omega)
      cases hb : rows[j].2 with
      | true => rw [hb, if_pos rfl] at e; exact ⟨by omega, fun _ => by omega⟩
      | false => rw [hb, if_neg (by decide)] at e; exact ⟨by omega, fun hc => nomatch hc⟩
    · have h0 : lastD y.g = 0 := by
        rw [h] at er
        have := of_decide_eq_false er.symm
        omega
      have hs := grt_stop hy
      have hpl : places y.g = [] := by
        unfold stopB at hs
        rw [h0] at hs
        simpa using hs
      have g2 := hg _ (lift_sol (u := u) z.len)
      rw [goal_dot (by unfold wid; omega)] at g2
      have at1 : lift rows many u (many + 1) = 1 := by unfold lift; rw [if_neg (by omega), if_pos rfl]
      rw [at1] at g2
      have np := dot_np (l := y.g) (v := lift rows many u) (wid rows many) fun q hq => by
        by_cases e : q + 1 < wid rows many
        · have hn : nth y.g q ≤ 0 := by
            have : q ∉ places y.g := by rw [hpl]; simp
            unfold places at this
            rw [List.mem_filter, List.mem_range, decide_eq_true_eq, w.glen] at this
            omega
          exact Int.mul_nonpos_of_nonpos_of_nonneg hn (lift_nn fu e)
        · have e' : q = wid rows many - 1 := by omega
          have : nth y.g q = 0 := by
            rw [e', ← h0]; unfold lastD; rw [w.glen]
          rw [this]; simp
      have : b * dotN y.g (lift rows many u) (wid rows many) ≤ 0 := Int.mul_nonpos_of_nonneg_of_nonpos (by omega) np
      omega
end PD
set_option maxRecDepth 100000
set_option maxHeartbeats 4000000
set_option exponentiation.threshold 20000
namespace PD
open PySem PySem.Spec PyProof.Rows L2
/-! ## rows of facts -/
def rowsOf (n : Nat) (f : Fct) : List (List Int × Bool) := (fline n f, f.w == ("more" : Str)) :: if f.w == ("same" : Str) then [((fline n f).map (- ·), false)] else []
def frows (n : Nat) (fs : List Fct) : List (List Int × Bool) := fs.flatMap (rowsOf n)
def encP (p : List Int × Bool) : D := .tup [.tup (p.1.map .int), .bl p.2]
def encL (p : List Int × Bool) : D := .tup [eL p.1, .bl p.2]
theorem encP_rel (p : List Int × Bool) : RowRel (encP p) p := ⟨_, rfl, rfl⟩
theorem encL_rel (p : List Int × Bool) : RowRel (encL p) p := ⟨_, rfl, rfl⟩
theorem fline_len (n : Nat) (f : Fct) : (fline n f).length = n + 1 := by simp [fline, flow]
theorem rowsOf_len (n : Nat) (f : Fct) : (rowsOf n f).length ≤ 2 := by
  unfold rowsOf
  split <;> simp
theorem frows_len (n : Nat) : ∀ fs : List Fct, (frows n fs).length ≤ 2 * fs.length
  | [] => by simp [frows]
  | f :: fs => by
    have h1 := rowsOf_len n f
    have h2 := frows_len n fs
    unfold frows at *
    rw [List.flatMap_cons, List.length_append, List.length_cons]
    omega
theorem rowsOf_mem {n : Nat} {f : Fct} {p : List Int × Bool} (h : p ∈ rowsOf n f) : p.1 = fline n f ∨ p.1 = (fline n f).map (- ·) := by
  unfold rowsOf at h
  rcases List.mem_cons.mp h with rfl | h
  · exact .inl rfl
  · split at h
    · simp at h; subst h; exact .inr rfl
    · simp at h
theorem fline_ent {n : Nat} {f : Fct} (hf : f.Ok n) : ∀ x ∈ fline n f, x.natAbs ≤ 60 := fun x hx => by
  unfold fline flow at hx
  rcases List.mem_append.mp hx with hx | hx
  · obtain ⟨p, _, rfl⟩ := List.mem_map.mp hx
    have := side_le f p
    omega
  · simp at hx; subst hx
    have := hf.k
    omega
theorem frows_ok {n : Nat} {fs : List Fct} (hf : ∀ f ∈ fs, f.Ok n) : ∀ p ∈ frows n fs, p.1.length = n + 1 ∧ ∀ x ∈ p.1, x.natAbs ≤ 60 := fun p hp => by
  obtain ⟨f, hfm, hp⟩ := List.mem_flatMap.mp hp
  have e := fline_ent (hf f hfm)
  rcases rowsOf_mem hp with h | h
  · rw [h]; exact ⟨fline_len n f, e⟩
  · rw [h]
    refine ⟨by rw [List.length_map, fline_len], fun x hx => ?_⟩
    obtain ⟨y, hy, rfl⟩ := List.mem_map.mp hx
    have := e y hy
    omega
theorem opp_ok {xs : List Int} {s : Store} (h : xs.length ≤ 1000) : m_opposite [.tup (xs.map .int)] s = .ok (.tup ((xs.map (- ·)).map .int)) s := by
  have e := neg_run (Γ := [.dat (.tup (xs.map .int)), .nul]) (s := s) (ai := 1) (by simp) xs
  have it : fItems (.tup (xs.map .int)) = some (xs.map .int) := rfl
  have ft : fTuple [.lst ((xs.map (- ·)).map .int)] = some (.tup ((xs.map (- ·)).map .int)) := rfl
  unfold m_opposite b_opposite
  rw [mFn_run]
  show endD (mRet _ [.dat (.tup (xs.map .int)), .nul] s) = _
  simp only [mRet_run, mBlt_run, mCons_run, mFrz_run, mLcL_run, mItems_run, mVar_run, mNil_run, List.getElem?_cons_zero, R.bind_ok, it, R.opt_some, List.length_map, wipeE_cons, wipeE_nil, List.set_cons_succ, List.set_cons_zero]
  rw [if_pos (by omega), e]
  simp only [R.bind_ok, ft, R.opt_some, endD_rt]
abbrev frB : MS := mSeq (mAsg 4 (mSd (mCall 2 m_fact_line (mCons (mVar 0) (mCons (mVar 3) mNil)))))
  (mSeq (mAsg 2 (mSd (mOp fAdd (mPeek 2) (mLst (mCons (mTup (mCons (mVar 4) (mCons (mOp fEq (mIx (mPeek 3) (mCon (.int 0))) (mCon (.str "more"))) mNil))) mNil)))))
  (mIf (mTest (mOp fEq (mIx (mPeek 3) (mCon (.int 0))) (mCon (.str "same")))) (mAsg 2 (mSd (mOp fAdd (mPeek 2) (mLst (mCons (mTup (mCons (mCall 1 m_opposite (mCons (mVar 4) mNil)) (mCons (mCon (.bl false)) mNil))) mNil))))) mNext))
theorem addP {acc : List (List Int × Bool)} {p : List Int × Bool} (h : acc.length < 1000) : fAdd (.lst (acc.map encP)) (.lst [.tup [.tup (p.1.map .int), .bl p.2]]) = some (.lst ((acc ++ [p]).map encP)) := by
  show (if (acc.map encP).length + 1 ≤ 100000 then some (D.lst (acc.map encP ++ [encP p])) else none) = _
  rw [if_pos (by simp; omega)]
  simp
theorem frB_ok {dd x1 : D} {f : Fct} {n : Nat} {acc : List (List Int × Bool)} {x4 : SV} {s : Store} (hd : fLen [dd] = some (.int n)) (hn : n ≤ 900) (hf : f.Ok n) (h : acc.length + 2 ≤ 1000) :
    frB [.dat dd, .dat x1, .dat (.lst (acc.map encP)), .dat (eFc f), x4] s = .ok (.nx [.dat dd, .dat x1, .dat (.lst ((acc ++ rowsOf n f).map encP)), .dat (eFc f), .dat (.tup ((fline n f).map .int))]) s := by
  have e1 := fline_ok (dd := dd) (f := f) (s := s) hd hn
  have e2 := opp_ok (xs := fline n f) (s := s) (by rw [fline_len]; omega)
  have w1 := word_eq (word_fine hf) more_fine
  have w2 := word_eq (word_fine hf) same_fine
  have a1 := addP (acc := acc) (p := (fline n f, f.w == ("more" : Str))) (by omega)
  have a2 := addP (acc := acc ++ [(fline n f, f.w == ("more" : Str))]) (p := ((fline n f).map (- ·), false)) (by simp; omega)
  simp only [frB, mSeq_run, mAsg_run, mSd_run, mCall_run, mCons_run, mVar_run, mNil_run, List.getElem?_cons_succ, List.getElem?_cons_zero, R.bind_ok, List.length_cons, List.length_nil, Nat.reduceAdd, if_true, e1, List.set_cons_succ, List.set_cons_zero, mOp_run, mPeek_run, mLst_run, mTup_run, mIx_run, mCon_run, deref_fc, fc0, R.opt_some, w1]
  rw [few_ok _ _ (by simp)]
  simp only [R.opt_some, R.bind_ok]
  rw [few_ok _ _ (by simp)]
  simp only [R.opt_some, R.bind_ok, a1, List.set_cons_succ, List.set_cons_zero, mIf_run, mTest_run, mOp_run, mIx_run, mPeek_run, mCon_run, List.getElem?_cons_succ, List.getElem?_cons_zero, deref_fc, fc0, w2, toB_bl]
  unfold rowsOf
  cases hs : f.w == ("same" : Str) with
  | false => simp
  | true =>
    simp only [mAsg_run, mSd_run, mOp_run, mPeek_run, mLst_run, mCons_run, mTup_run, mCall_run, mVar_run, mNil_run, mCon_run, List.getElem?_cons_succ, List.getElem?_cons_zero, R.bind_ok, List.length_cons, List.length_nil, Nat.reduceAdd, if_true, e2]
    rw [few_ok _ _ (by simp)]
    simp only [R.opt_some, R.bind_ok]
    rw [few_ok _ _ (by simp)]
    simp only [R.opt_some, R.bind_ok, a2, List.set_cons_succ, List.set_cons_zero]
    simp
theorem fr_loop {dd x1 : D} {n : Nat} {s : Store} (hd : fLen [dd] = some (.int n)) (hn : n ≤ 900) : ∀ (fs : List Fct) (acc : List (List Int × Bool)) (x3 x4 : SV), (∀ f ∈ fs, f.Ok n) → acc.length + 2 * fs.length ≤ 1000 →
    ∃ y3 y4, forGo (.nm 3) frB (fs.map eFc) [.dat dd, .dat x1, .dat (.lst (acc.map encP)), x3, x4] s = .ok (.nx [.dat dd, .dat x1, .dat (.lst ((acc ++ frows n fs).map encP)), y3, y4]) s
  | [], acc, x3, x4, _, _ => ⟨x3, x4, by simp [forGo, frows]⟩
  | f :: fs, acc, x3, x4, hf, h => by
    rw [List.length_cons] at h
    have hr := rowsOf_len n f
    have e := frB_ok (x1 := x1) (f := f) (acc := acc) (x4 := x4) (s := s) hd hn (hf f List.mem_cons_self) (by omega)
    obtain ⟨y3, y4, ih⟩ := fr_loop (x1 := x1) (s := s) hd hn fs (acc ++ rowsOf n f) (.dat (eFc f)) (.dat (.tup ((fline n f).map .int))) (fun g hg => hf g (List.mem_cons_of_mem _ hg)) (by rw [List.length_append]; omega)
    refine ⟨y3, y4, ?_⟩
    rw [List.map_cons]
    show ((frB [.dat dd, .dat x1, .dat (.lst (acc.map encP)), .dat (eFc f), x4] s).bind _) = _
    rw [e]
    show forGo _ _ _ _ _ = _
    rw [ih]
    simp [frows]
theorem frows_m {dd : D} {n : Nat} {fs : List Fct} {s : Store} (hd : fLen [dd] = some (.int n)) (hn : n ≤ 900) (hf : ∀ f ∈ fs, f.Ok n) (h : fs.length ≤ 400) : m_fact_rows [dd, eFs fs] s = .ok (.lst ((frows n fs).map encP)) s := by
  obtain ⟨y3, y4, e⟩ := fr_loop (x1 := eFs fs) (s := s) hd hn fs [] .nul .nul hf (by simp; omega)
  rw [List.map_nil, List.nil_append] at e
  have it : fItems (eFs fs) = some (fs.map eFc) := rfl
  unfold m_fact_rows b_fact_rows
  rw [mFn_run]
  show endD (mSeq _ (mSeq (mFor _ _ frB) _) [.dat dd, .dat (eFs fs), .nul, .nul, .nul] s) = _
  simp only [mSeq_run, mAsg_run, mSd_run, mLst_run, mNil_run, R.bind_ok]
  rw [few_ok _ _ (by simp)]
  simp only [R.opt_some, R.bind_ok, List.set_cons_succ, List.set_cons_zero, mFor_run, mItems_run, mVar_run, List.getElem?_cons_succ, List.getElem?_cons_zero, it, e, mRetV_run, endD_rt]
/-! ### the program's solution, at any rows -/
theorem solve_ok {rows : List (List Int × Bool)} {enc : List Int × Bool → D} {many L M B : Nat} {s : Store} (z : Size rows many L M B) (hr : ∀ p ∈ rows, RowRel (enc p) p) : ∃ (r : Bool) (v : Nat → Int),
    canS wfuel (lpOf rows many) = some r ∧ m_solution [.lst (rows.map enc), .int many] s = .ok (if r then .lst ((List.range many).map fun (q : Nat) => eF (lowL (v q) (v many))) else .non) s ∧
    (r = true → Fits rows many v ∧ ∀ q, q < many + 2 → (v q).natAbs.log2 < 9000) ∧ (r = false → ∀ u, ¬Fits rows many u) := by
  obtain ⟨r, y, v, c, hc, hg, hn, hs, h0, h1, h2⟩ := sol_fin z s
  have f := z.few
  have m := z.many
  have one : nth (lpOf rows many).g (many + 1) = 1 := by rw [goal_nth, if_pos rfl]
  have vn : ∀ q, q < many + 2 → nth ((List.range (many + 2)).map fun (q : Nat) => v q) q = v q := fun q hq => by
    unfold nth
    rw [List.getD_eq_getElem?_getD, List.getElem?_map, List.getElem?_range hq]; rfl
  have run := solution_ok (s := s) (n := wid rows many) (y := y) (nums := (List.range (many + 2)).map fun (q : Nat) => v q) (c := c) hr (fun p hp => by rw [z.len p hp]; omega) (by omega) (by omega) (InvS rows many (wid rows many)) (fun x h => invS_ok z h) (invS_start z.len)
    (fun x k ks i h hst hp hi => by
      have hneg := h.neg
      refine invS_step h one ?_ hp hi
      unfold stopB at hst
      rw [Bool.or_eq_false_iff] at hst
      have := hst.2
      simp at this
      omega) hg hn (by simp) (fun hne => by
      rw [vn _ (by omega)] at hne
      have hr := h0.mpr hne
      refine ⟨by rw [vn _ (by omega)]; exact (h1 hr).one, fun x hx => ?_⟩
      obtain ⟨q, hq, rfl⟩ := List.mem_map.mp hx
      exact hs q (List.mem_range.mp hq))
  refine ⟨r, v, hc, ?_, fun hr => ⟨h1 hr, hs⟩, h2⟩
  rw [run]
  unfold solOut
  rw [vn _ (by omega), vn _ (by omega)]
  cases r with
  | false =>
    have : v (many + 1) = 0 := by
      by_cases e : v (many + 1) = 0
      · exact e
      · exact absurd (h0.mpr e) (by decide)
    rw [if_pos this]; rfl
  | true =>
    rw [if_neg (h0.mp rfl), if_pos rfl]
    congr 2
    rw [← List.map_take, List.take_range, List.map_map, Nat.min_eq_left (by omega)]
    rfl
theorem canl_ok {rows : List (List Int × Bool)} {enc : List Int × Bool → D} {many L M B : Nat} {s : Store} {r : Bool} (z : Size rows many L M B) (hr : ∀ p ∈ rows, RowRel (enc p) p) (hc : canS wfuel (lpOf rows many) = some r) : ∃ c', m__law_can [.lst (rows.map enc), .int many] s = .ok (.bl r) (s ++ [c']) := by
  have f := z.few
  have m := z.many
  have one : nth (lpOf rows many).g (many + 1) = 1 := by rw [goal_nth, if_pos rfl]
  exact lcan_ok (s := s) (n := wid rows many) hr (fun p hp => by rw [z.len p hp]; omega) (by omega) (by omega) (InvS rows many (wid rows many)) (fun x h => invS_ok z h) (invS_start z.len) (fun x k ks i h h0 hp hi => invS_step h one h0 hp hi) hc
theorem fact_size {n : Nat} {fs : List Fct} (hf : ∀ f ∈ fs, f.Ok n) (hl : fs.length ≤ 5) (hn : n ≤ 4) : Size (frows n fs) n 10 60 (13 * (capC 12 60 * 60)) :=
  { len := fun p hp => (frows_ok hf p hp).1, few := Nat.le_trans (frows_len n fs) (by omega), many := by omega, ent := fun p hp => (frows_ok hf p hp).2, one := by decide, big := Nat.le_refl _, b1 := by decide +kernel, b2 := by decide +kernel }
end PD
set_option maxRecDepth 100000
set_option maxHeartbeats 4000000
set_option exponentiation.threshold 20000
namespace PD
open PySem PySem.Spec PyProof.Rows L2
/-! ## possible -/
theorem some_ok {dd : D} {n : Nat} {fs : List Fct} {s : Store} (hd : fLen [dd] = some (.int n)) (hn : n ≤ 4) (hf : ∀ f ∈ fs, f.Ok n) (h : fs.length ≤ 5) : ∃ (r : Bool) (v : Nat → Int),
    canS wfuel (lpOf (frows n fs) n) = some r ∧ m_some_amounts [dd, eFs fs, .lst []] s = .ok (if r then .tup ((List.range n).map fun (q : Nat) => eF (lowL (v q) (v n))) else .non) s ∧ (r = true → Fits (frows n fs) n v) ∧ (r = false → ∀ u, ¬Fits (frows n fs) n u) := by
  have e1 := frows_m (s := s) hd (by omega) hf (by omega)
  obtain ⟨r, v, hc, hm, ht, hu⟩ := solve_ok (s := s) (enc := encP) (fact_size hf h hn) fun p _ => encP_rel p
  have fl := frows_len n fs
  have ad : fAdd (.lst ((frows n fs).map encP)) (.lst []) = some (.lst ((frows n fs).map encP)) := by
    show (if ((frows n fs).map encP).length + 0 ≤ 100000 then some (D.lst ((frows n fs).map encP ++ [])) else none) = _
    rw [if_pos (by simp; omega), List.append_nil]
  refine ⟨r, v, hc, ?_, fun h => (ht h).1, hu⟩
  unfold m_some_amounts b_some_amounts
  rw [mFn_run]
  show endD (mSeq _ _ [.dat dd, .dat (eFs fs), .dat (.lst []), .nul] s) = _
  simp only [mSeq_run, mAsg_run, mSd_run, mCall_run, mCons_run, mOp_run, mVar_run, mPeek_run, mBlt_run, mNil_run, List.getElem?_cons_succ, List.getElem?_cons_zero, R.bind_ok, List.length_cons, List.length_nil, Nat.reduceAdd, if_true, e1, ad, R.opt_some, hd, hm, List.set_cons_succ, List.set_cons_zero, mRet_run, mIte_run, mTest_run, mCon_run]
  cases r with
  | false => rfl
  | true => rfl
theorem possible_ok {dd : D} {n L m : Nat} {fs : List Fct} {s : Store} (hg : Ty2 dd) (hdd : isDebts dd = true) (hd : fLen [dd] = some (.int n)) (hn : n ≤ 4) (gf : Gd L m (eFs fs)) (hfs : isFacts n (eFs fs) = true) (hf : ∀ f ∈ fs, f.Ok n) (h : fs.length ≤ 5) :
    ∃ r : Bool, canS wfuel (lpOf (frows n fs) n) = some r ∧ m_possible [dd, eFs fs] s = .ok (.bl r) s ∧ (r = true ↔ ∃ u, Fits (frows n fs) n u) := by
  have e1 := nasked_ok (s := s) hg hdd gf hd (by omega) hfs
  obtain ⟨r, v, hc, hm, ht, hu⟩ := some_ok (s := s) hd hn hf h
  refine ⟨r, hc, ?_, fun h => ⟨v, ht h⟩, fun ⟨u, hu'⟩ => ?_⟩
  · unfold m_possible b_possible
    rw [mFn_run]
    show endD (mSeq _ _ [.dat dd, .dat (eFs fs)] s) = _
    simp only [mSeq_run, mDrop_run, mCall_run, mCons_run, mVar_run, mNil_run, mLst_run, List.getElem?_cons_succ, List.getElem?_cons_zero, R.bind_ok, List.length_cons, List.length_nil, Nat.reduceAdd, if_true, e1, mRet_run, mOp_run]
    rw [few_ok _ _ (by simp)]
    simp only [R.opt_some, R.bind_ok, List.length_cons, List.length_nil, Nat.reduceAdd, if_true, hm, mCon_run]
    cases r with
    | false => rfl
    | true => rfl
  · cases r with
    | true => rfl
    | false => exact absurd hu' (hu rfl u)
/-! ### the law's -/
abbrev lineE : Env → M D := mOp fSub (mBlt fInt (mCons (mOp fIn (mPeek 6) (mPeek 3)) mNil)) (mBlt fInt (mCons (mOp fIn (mPeek 6) (mPeek 4)) mNil))
theorem lfline_ok {f : Fct} {n : Nat} {s : Store} (hn : n ≤ 900) : m__law_fact_line [eFc f, .int n] s = .ok (eL (fline n f)) s := by
  have rg := fRng1_nat (n := n) (by omega)
  have lc := run_lcm (tg := .nm 6) (me := lineE) (Γ := [.dat (eFc f), .dat (.int n), .dat (.str f.w), .dat (natT f.a), .dat (natT f.b), .dat (.int f.k), .nul]) (s := s) (fun (p : Nat) => D.int (p : Int)) (fun p => D.int (sideI f p)) (List.range n) fun p _ => ⟨_, rfl, by
    have i1 := in_nat p f.a
    have i2 := in_nat p f.b
    simp only [lineE, mOp_run, mBlt_run, mCons_run, mPeek_run, mNil_run, List.set_cons_succ, List.set_cons_zero, List.getElem?_cons_succ, List.getElem?_cons_zero, R.bind_ok, R.opt_some, i1, i2, fInt_bl, fSub_ii]
    unfold sideI ind
    simp⟩
  have ad : fAdd (.lst ((List.range n).map fun p => D.int (sideI f p))) (.lst [.int (-f.k)]) = some (eL (fline n f)) := by
    show (if ((List.range n).map fun p => D.int (sideI f p)).length + 1 ≤ 100000 then some (D.lst (((List.range n).map fun p => D.int (sideI f p)) ++ [.int (-f.k)])) else none) = _
    rw [if_pos (by simp; omega)]
    simp [eL, fline, flow]
  unfold m__law_fact_line b__law_fact_line
  rw [mFn_run]
  show endD (mSeq _ _ [.dat (eFc f), .dat (.int n), .nul, .nul, .nul, .nul, .nul] s) = _
  have u : mUnp (.tp [(.nm 2), (.nm 3), (.nm 4), (.nm 5)]) (mVar 0) [.dat (eFc f), .dat (.int n), .nul, .nul, .nul, .nul, .nul] s = .ok (.nx [.dat (eFc f), .dat (.int n), .dat (.str f.w), .dat (natT f.a), .dat (natT f.b), .dat (.int f.k), .nul]) s := rfl
  rw [mSeq_run, u]
  simp only [R.bind_ok, mRet_run, mOp_run fAdd, mFrz_run, mLcL_run, mRng_run, mCons_run, mVar_run, mNil_run, List.getElem?_cons_succ, List.getElem?_cons_zero, rg, R.opt_some, List.length_map, List.length_range, wipeE_cons, wipeE_nil, List.set_cons_succ, List.set_cons_zero]
  rw [if_pos (by omega), lc]
  simp only [R.bind_ok, mLst_run, mCons_run, mOp1_run, mPeek_run, mNil_run, List.getElem?_cons_succ, List.getElem?_cons_zero, fNeg_i, R.opt_some]
  rw [few_ok _ _ (by simp)]
  simp only [R.opt_some, R.bind_ok, ad, endD_rt]
abbrev lfB : MS := mSeq (mAsg 4 (mSd (mCall 2 m__law_fact_line (mCons (mVar 3) (mCons (mVar 1) mNil)))))
  (mSeq (mApp 2 (mTup (mCons (mVar 4) (mCons (mOp fEq (mIx (mPeek 3) (mCon (.int 0))) (mCon (.str "more"))) mNil))))
  (mIf (mTest (mOp fEq (mIx (mPeek 3) (mCon (.int 0))) (mCon (.str "same")))) (mApp 2 (mTup (mCons (mFrz (mLcL (mItems (mVar 4)) (.nm 5) mYes (mOp1 fNeg (mPeek 5)) [5])) (mCons (mCon (.bl false)) mNil)))) mNext))
theorem lfB_ok {x0 : SV} {f : Fct} {n : Nat} {acc : List (List Int × Bool)} {x4 x5 : SV} {s : Store} (hn : n ≤ 900) (hf : f.Ok n) (h : acc.length + 2 ≤ 1000) :
    ∃ y5, lfB [x0, .dat (.int n), .own (acc.map encL), .dat (eFc f), x4, x5] s = .ok (.nx [x0, .dat (.int n), .own ((acc ++ rowsOf n f).map encL), .dat (eFc f), .dat (eL (fline n f)), y5]) s := by
  have e1 := lfline_ok (f := f) (n := n) (s := s) hn
  have w1 := word_eq (word_fine hf) more_fine
  have w2 := word_eq (word_fine hf) same_fine
  have ngv := neg_run (Γ := [x0, .dat (.int n), .own ((acc ++ [(fline n f, f.w == ("more" : Str))]).map encL), .dat (eFc f), .dat (eL (fline n f)), .nul]) (s := s) (ai := 5) (by simp) (fline n f)
  have hl := fline_len n f
  refine ⟨x5, ?_⟩
  have a1 : (acc.map encL) ++ [.tup [eL (fline n f), .bl (f.w == ("more" : Str))]] = (acc ++ [(fline n f, f.w == ("more" : Str))]).map encL := by simp [encL]
  simp only [lfB, mSeq_run, mAsg_run, mSd_run, mCall_run, mCons_run, mVar_run, mNil_run, List.getElem?_cons_succ, List.getElem?_cons_zero, R.bind_ok, List.length_cons, List.length_nil, Nat.reduceAdd, if_true, e1, List.set_cons_succ, List.set_cons_zero, mApp_run, mTup_run, mOp_run, mIx_run, mPeek_run, mCon_run, deref_fc, fc0, R.opt_some, w1]
  rw [few_ok _ _ (by simp)]
  simp only [R.opt_some, R.bind_ok]
  rw [if_pos (by simp; omega), a1]
  simp only [R.bind_ok, List.set_cons_succ, List.set_cons_zero, mIf_run, mTest_run, mOp_run, mIx_run, mPeek_run, mCon_run, List.getElem?_cons_succ, List.getElem?_cons_zero, deref_fc, fc0, R.opt_some, w2, toB_bl]
  unfold rowsOf
  cases hs : f.w == ("same" : Str) with
  | false => simp
  | true =>
    simp only [mApp_run, mTup_run, mCons_run, mFrz_run, mLcL_run, mItems_run, mVar_run, mNil_run, mCon_run, List.getElem?_cons_succ, List.getElem?_cons_zero, R.bind_ok, fItems_eL, R.opt_some, List.length_map, wipeE_cons, wipeE_nil, List.set_cons_succ, List.set_cons_zero]
    rw [if_pos (by omega), ngv]
    simp only [R.bind_ok]
    rw [few_ok _ _ (by simp)]
    simp only [R.opt_some, R.bind_ok]
    rw [if_pos (by simp; omega)]
    simp [encL, eL]
theorem lf_loop {x0 : SV} {n : Nat} {s : Store} (hn : n ≤ 900) : ∀ (fs : List Fct) (acc : List (List Int × Bool)) (x3 x4 x5 : SV), (∀ f ∈ fs, f.Ok n) → acc.length + 2 * fs.length ≤ 1000 →
    ∃ y3 y4 y5, forGo (.nm 3) lfB (fs.map eFc) [x0, .dat (.int n), .own (acc.map encL), x3, x4, x5] s = .ok (.nx [x0, .dat (.int n), .own ((acc ++ frows n fs).map encL), y3, y4, y5]) s
  | [], acc, x3, x4, x5, _, _ => ⟨x3, x4, x5, by simp [forGo, frows]⟩
  | f :: fs, acc, x3, x4, x5, hf, h => by
    rw [List.length_cons] at h
    have hr := rowsOf_len n f
    obtain ⟨z5, e⟩ := lfB_ok (x0 := x0) (f := f) (acc := acc) (x4 := x4) (x5 := x5) (s := s) hn (hf f List.mem_cons_self) (by omega)
    obtain ⟨y3, y4, y5, ih⟩ := lf_loop (x0 := x0) (s := s) hn fs (acc ++ rowsOf n f) (.dat (eFc f)) (.dat (eL (fline n f))) z5 (fun g hg => hf g (List.mem_cons_of_mem _ hg)) (by rw [List.length_append]; omega)
    refine ⟨y3, y4, y5, ?_⟩
    rw [List.map_cons]
    show ((lfB [x0, .dat (.int n), .own (acc.map encL), .dat (eFc f), x4, x5] s).bind _) = _
    rw [e]
    show forGo _ _ _ _ _ = _
    rw [ih]
    simp [frows]
theorem lfrows_ok {n : Nat} {fs : List Fct} {s : Store} (hn : n ≤ 900) (hf : ∀ f ∈ fs, f.Ok n) (h : fs.length ≤ 400) : m__law_fact_rows [eFs fs, .int n] s = .ok (.lst ((frows n fs).map encL)) s := by
  obtain ⟨y3, y4, y5, e⟩ := lf_loop (x0 := .dat (eFs fs)) (s := s) hn fs [] .nul .nul .nul hf (by simp; omega)
  rw [List.map_nil, List.nil_append] at e
  have it : fItems (eFs fs) = some (fs.map eFc) := rfl
  unfold m__law_fact_rows b__law_fact_rows
  rw [mFn_run]
  show endD (mSeq _ (mSeq (mFor _ _ lfB) _) [.dat (eFs fs), .dat (.int n), .nul, .nul, .nul, .nul] s) = _
  simp only [mSeq_run, mAsg_run, mSo_run, mLstO_run, mNil_run, R.bind_ok, List.length_nil, Nat.zero_le, if_true, List.set_cons_succ, List.set_cons_zero, mFor_run, mItems_run, mVar_run, List.getElem?_cons_succ, List.getElem?_cons_zero, it, R.opt_some, e, mRetV_run, endD_rt]
theorem lpossible_ok {dd : D} {n : Nat} {fs : List Fct} {r : Bool} {s : Store} (hd : fLen [dd] = some (.int n)) (hn : n ≤ 4) (hf : ∀ f ∈ fs, f.Ok n) (h : fs.length ≤ 5) (hc : canS wfuel (lpOf (frows n fs) n) = some r) : ∃ c', m__law_possible [dd, eFs fs] s = .ok (.bl r) (s ++ [c']) := by
  have e1 := lfrows_ok (s := s) (n := n) (by omega) hf (by omega)
  obtain ⟨c', e2⟩ := canl_ok (s := s) (enc := encL) (fact_size hf h hn) (fun p _ => encL_rel p) hc
  refine ⟨c', ?_⟩
  unfold m__law_possible b__law_possible
  rw [mFn_run]
  show endD (mRet _ [.dat dd, .dat (eFs fs)] s) = _
  simp only [mRet_run, mCall_run, mCons_run, mBlt_run, mVar_run, mPeek_run, mNil_run, List.getElem?_cons_succ, List.getElem?_cons_zero, R.bind_ok, hd, R.opt_some, List.length_cons, List.length_nil, Nat.reduceAdd, if_true, e1, e2, endD_rt]
end PD
set_option maxRecDepth 100000
set_option maxHeartbeats 4000000
namespace PD
open PySem PySem.Spec PyProof.Rows L2

/-! ## a law's source of draws -/
theorem log_of {i : Int} {n : Nat} (hn : 0 < n) (h0 : 0 ≤ i) (h : i < ((2 ^ n : Nat) : Int)) : i.natAbs.log2 < n := by
  have h1 : i.natAbs < 2 ^ n := by omega
  by_cases z : i.natAbs = 0
  · rw [z]; simpa using hn
  · exact (Nat.log2_lt z).mpr h1
def Src (s : Store) (i : Nat) : Prop := ∃ c z : Int, s[i]? = some (.lst [.int c, .int z]) ∧ 0 ≤ c ∧ 0 ≤ z ∧ z < 2147483647
theorem Src.app {s : Store} {c z : Int} (hc : 0 ≤ c) (hz : 0 ≤ z) (hz2 : z < 2147483647) : Src (s ++ [.lst [.int c, .int z]]) s.length := ⟨c, z, by simp, hc, hz, hz2⟩
abbrev srcT : MS := mSeq (mIf (mTest (mOp fLt (mPeek 2) (mOp fPow (mCon (.int 10)) (mCon (.int 18))))) (mRetO (mLstO (mCons (mCon (.int 0)) (mCons (mOp fAdd (mCon (.int 1)) (mOp fMod (mBlt fInt (mCons (mOp fAdd (mOp fMul (mPeek 2) (mCon (.int 7919))) (mOp fMul (mCon (.int 104729)) (mPeek 1))) mNil)) (mCon (.int 2147483646)))) mNil)))) mNext)
      (mRetO (mLstO (mCons (mVar 2) (mCons (mOp fAdd (mCon (.int 1)) (mOp fMod (mBlt fInt (mCons (mOp fAdd (mPeek 2) (mPeek 1)) mNil)) (mCon (.int 2147483646)))) mNil))))
theorem src_end (ns : List Int) (k : Nat) (hk : k ≤ 1000) (s : Store) (c : Int) (hc : 0 ≤ c) : ∃ c' z : Int, 0 ≤ c' ∧ 0 ≤ z ∧ z < 2147483647 ∧ srcT [.dat (.scr ns), .dat (.int k), .dat (.int c)] s = .ok (.ro [.int c', .int z]) s := by
  have p18 : fPow (.int 10) (.int 18) = some (.int 1000000000000000000) := by rfl
  by_cases h : c < 1000000000000000000
  · refine ⟨0, 1 + (c * 7919 + 104729 * k) % 2147483646, by decide, ?_, ?_, ?_⟩
    · have := Int.emod_nonneg (c * 7919 + 104729 * k) (show (2147483646 : Int) ≠ 0 by decide); omega
    · have := Int.emod_lt_of_pos (c * 7919 + 104729 * k) (show (0 : Int) < 2147483646 by decide); omega
    · have l1 : fMul (.int c) (.int 7919) = some (.int (c * 7919)) := fMul_ii (by
        have := log_of (n := 60) (by decide) hc (Int.lt_of_lt_of_le h (by decide))
        have : (7919 : Int).natAbs.log2 < 100 := by decide
        omega)
      have l2 : fMul (.int 104729) (.int k) = some (.int (104729 * k)) := fMul_ii (by
        have : (104729 : Int).natAbs.log2 < 100 := by decide
        have := log_of (i := (k : Int)) (n := 10) (by decide) (by omega) (Int.lt_of_le_of_lt (show (k : Int) ≤ 1000 by omega) (by decide))
        omega)
      have l3 : fMod (.int (c * 7919 + 104729 * k)) (.int 2147483646) = some (.int ((c * 7919 + 104729 * k) % 2147483646)) := fMod_ii (by decide)
      simp [p18, h, l1, l2, l3]
  · refine ⟨c, 1 + (c + k) % 2147483646, hc, ?_, ?_, ?_⟩
    · have := Int.emod_nonneg (c + k) (show (2147483646 : Int) ≠ 0 by decide); omega
    · have := Int.emod_lt_of_pos (c + k) (show (0 : Int) < 2147483646 by decide); omega
    · have l3 : fMod (.int (c + k)) (.int 2147483646) = some (.int ((c + k) % 2147483646)) := fMod_ii (by decide)
      simp [p18, h, l3]
theorem source_ok (ns : List Int) (k : Nat) (hk : k ≤ 1000) (s : Store) : ∃ c z : Int, 0 ≤ c ∧ 0 ≤ z ∧ z < 2147483647 ∧ m__law_source [.scr ns, .int k] s = .ok [.int c, .int z] s := by
  have run : ∀ c : Int, (mSeq (mAsg 2 (mSd (mCon (.int 0)))) (mSeq (mIf (mTest (mOp fLt (mPeek 1) (mBlt fLen (mCons (mPeek 0) mNil)))) (mAsg 2 (mSd (mBlt fAbs (mCons (mBlt fInt (mCons (mIx (mPeek 0) (mVar 1)) mNil)) mNil)))) mNext) srcT)) [.dat (.scr ns), .dat (.int k), .nul] s = srcT [.dat (.scr ns), .dat (.int k), .dat (.int c)] s → 0 ≤ c →
      ∃ c z : Int, 0 ≤ c ∧ 0 ≤ z ∧ z < 2147483647 ∧ m__law_source [.scr ns, .int k] s = .ok [.int c, .int z] s := fun c e hc => by
    obtain ⟨c', z, h1, h2, h3, h4⟩ := src_end ns k hk s c hc
    refine ⟨c', z, h1, h2, h3, ?_⟩
    show endO ((mSeq (mAsg 2 (mSd (mCon (.int 0)))) (mSeq (mIf (mTest (mOp fLt (mPeek 1) (mBlt fLen (mCons (mPeek 0) mNil)))) (mAsg 2 (mSd (mBlt fAbs (mCons (mBlt fInt (mCons (mIx (mPeek 0) (mVar 1)) mNil)) mNil)))) mNext) srcT)) [.dat (.scr ns), .dat (.int k), .nul] s) = _
    rw [e, h4]; rfl
  by_cases h : k < ns.length
  · refine run (if ns[k] < 0 then -ns[k] else ns[k]) ?_ (by split <;> omega)
    have e1 : fIx (s.deref (.scr ns)) (.int k) = some (.int ns[k]) := by
      show (atI ns k).map D.int = _
      unfold atI ixN
      rw [if_pos (by omega), if_pos (by omega)]
      simp [h]
    have e2 : fLen [.scr ns] = some (.int ns.length) := rfl
    have e3 : fAbs [.int ns[k]] = some (.int (if ns[k] < 0 then -ns[k] else ns[k])) := rfl
    simp [e1, e2, e3, h]
  · refine run 0 ?_ (by decide)
    have e2 : fLen [.scr ns] = some (.int ns.length) := rfl
    simp [e2, h]
theorem draw_ok {s : Store} {i : Nat} {n : Int} (hs : Src s i) (hn : 0 < n) (hn2 : n ≤ 1000000000000) : ∃ (d : Int) (s' : Store), 0 ≤ d ∧ d < n ∧ Src s' i ∧ s'.length = s.length ∧ (∀ j, j ≠ i → s'[j]? = s[j]?) ∧ m__law_draw [.cel i, .int n] s = .ok (.int d) s' := by
  obtain ⟨c, z, h, hc, hz, hz2⟩ := hs
  have hi : i < s.length := (List.getElem?_eq_some_iff.mp h).1
  have dr : ∀ (t : Store) (a b : D), t[i]? = some (.lst [a, b]) → t.deref (.cel i) = .lst [a, b] := fun t a b h => by
    show t.lstAt i = _
    unfold Store.lstAt
    rw [h]
  have i0 : ∀ a b : D, fIx (.lst [a, b]) (.int 0) = some a := fun a b => rfl
  have i1 : ∀ a b : D, fIx (.lst [a, b]) (.int 1) = some b := fun a b => rfl
  have x0 : ixN 2 0 = some 0 := by decide
  have x1 : ixN 2 1 = some 1 := by decide
  have nl : n.natAbs.log2 < 9000 := Nat.lt_of_lt_of_le (log_of (n := 41) (by decide) (by omega) (Int.lt_of_le_of_lt hn2 (by decide))) (by decide)
  by_cases h0 : 0 < c
  · have l1 : fMod (.int c) (.int n) = some (.int (c % n)) := fMod_ii hn
    have l2 : fDiv (.int c) (.int n) = some (.int (c / n)) := fDiv_ii hn nl
    refine ⟨c % n, s.set i (.lst [.int (c / n), .int z]), Int.emod_nonneg _ (by omega), Int.emod_lt_of_pos _ hn, ⟨c / n, z, by simp [hi], Int.ediv_nonneg hc (by omega), hz, hz2⟩, by simp, fun j hj => List.getElem?_set_ne (Ne.symm hj), ?_⟩
    unfold m__law_draw b__law_draw
    simp [mFn_run, startE, dr s _ _ h, i0, h0, l1, l2, x0, h, mSetC]
  · have c0 : ¬ 0 < c := h0
    have l1 : fMul (.int z) (.int 48271) = some (.int (z * 48271)) := fMul_ii (by
      have := log_of (n := 31) (by decide) hz (Int.lt_trans hz2 (by decide))
      have : (48271 : Int).natAbs.log2 < 100 := by decide
      omega)
    have l2 : fMod (.int (z * 48271)) (.int 2147483647) = some (.int (z * 48271 % 2147483647)) := fMod_ii (by decide)
    have g0 := Int.emod_nonneg (z * 48271) (show (2147483647 : Int) ≠ 0 by decide)
    have g1 := Int.emod_lt_of_pos (z * 48271) (show (0 : Int) < 2147483647 by decide)
    generalize hg : z * 48271 % 2147483647 = w at l2 g0 g1
    have l3 : fMul (.int w) (.int w) = some (.int (w * w)) := fMul_ii (by
      have := log_of (n := 31) (by decide) g0 (Int.lt_trans g1 (by decide))
      omega)
    have l4 : fMod (.int (w * w)) (.int 2147483629) = some (.int (w * w % 2147483629)) := fMod_ii (by decide)
    have l5 : fDiv (.int (w * w % 2147483629)) (.int 64) = some (.int (w * w % 2147483629 / 64)) := fDiv_ii (by decide) (by decide)
    have l6 : fMod (.int (w * w % 2147483629 / 64)) (.int n) = some (.int (w * w % 2147483629 / 64 % n)) := fMod_ii hn
    have h' : (s.set i (.lst [.int c, .int w]))[i]? = some (.lst [.int c, .int w]) := by simp [hi]
    refine ⟨w * w % 2147483629 / 64 % n, s.set i (.lst [.int c, .int w]), Int.emod_nonneg _ (by omega), Int.emod_lt_of_pos _ hn, ⟨c, w, h', hc, g0, g1⟩, by simp, fun j hj => List.getElem?_set_ne (Ne.symm hj), ?_⟩
    unfold m__law_draw b__law_draw
    simp [mFn_run, startE, dr s _ _ h, i0, i1, c0, l1, l2, l3, l4, l5, l6, x1, h, mSetC, dr _ _ _ h']
end PD
set_option maxRecDepth 100000
set_option maxHeartbeats 4000000
set_option exponentiation.threshold 20000
namespace PD
open PySem PySem.Spec PyProof.Rows L2
/-! ## what the law draws -/
theorem for_inv (tg : Tg) (b : MS) (I : Env → Store → Prop) : ∀ (ds : List D) (Γ : Env) (s : Store), I Γ s → (∀ d ∈ ds, ∀ Γ s, I Γ s → ∃ Γ1 Γ' s', bindT tg d Γ = some Γ1 ∧ b Γ1 s = .ok (.nx Γ') s' ∧ I Γ' s') → ∃ Γ' s', I Γ' s' ∧ forGo tg b ds Γ s = .ok (.nx Γ') s'
  | [], Γ, s, h, _ => ⟨Γ, s, h, rfl⟩
  | d :: ds, Γ, s, h, hb => by
    obtain ⟨Γ1, Γ', s', h1, h2, h3⟩ := hb d List.mem_cons_self Γ s h
    obtain ⟨Γ2, s2, h4, h5⟩ := for_inv tg b I ds Γ' s' h3 fun d hd => hb d (List.mem_cons_of_mem _ hd)
    refine ⟨Γ2, s2, h4, ?_⟩
    unfold forGo
    rw [h1]
    show (b Γ1 s).bind _ = _
    rw [h2]
    exact h5
theorem for_ix (tg : Tg) (b : MS) (I : Nat → Env → Store → Prop) : ∀ (m k : Nat) (Γ : Env) (s : Store), I k Γ s → (∀ j, k ≤ j → j < k + m → ∀ Γ s, I j Γ s → ∃ Γ1 Γ' s', bindT tg (.int (j : Int)) Γ = some Γ1 ∧ b Γ1 s = .ok (.nx Γ') s' ∧ I (j + 1) Γ' s') →
    ∃ Γ' s', I (k + m) Γ' s' ∧ forGo tg b ((List.range' k m).map fun (j : Nat) => D.int (j : Int)) Γ s = .ok (.nx Γ') s'
  | 0, k, Γ, s, h, _ => ⟨Γ, s, h, rfl⟩
  | m + 1, k, Γ, s, h, hb => by
    obtain ⟨Γ1, Γ', s', h1, h2, h3⟩ := hb k (by omega) (by omega) Γ s h
    obtain ⟨Γ2, s2, h4, h5⟩ := for_ix tg b I m (k + 1) Γ' s' h3 fun j h1 h2 => hb j (by omega) (by omega)
    refine ⟨Γ2, s2, by rw [show k + (m + 1) = k + 1 + m by omega]; exact h4, ?_⟩
    rw [List.range'_succ, List.map_cons]
    unfold forGo
    rw [h1]
    show (b Γ1 s).bind _ = _
    rw [h2]
    exact h5
theorem fRng1_ix {n : Nat} (h : n ≤ 1000) : fRng1 [.int (n : Int)] = some ((List.range' 0 n).map fun (j : Nat) => D.int (j : Int)) := by
  rw [← List.range_eq_range']
  exact fRng1_nat (by omega)
theorem of_ok {s : Store} {i : Nat} {items : List D} (hs : Src s i) (h0 : 0 < items.length) (hl : items.length ≤ 1000) : ∃ (d : D) (s' : Store), d ∈ items ∧ Src s' i ∧ m__law_of [.cel i, .lst items] s = .ok d s' := by
  obtain ⟨k, s', k0, k1, hs', _, _, e⟩ := draw_ok (n := items.length) hs (by omega) (by omega)
  obtain ⟨k, rfl⟩ : ∃ j : Nat, k = j := ⟨k.toNat, by omega⟩
  have hk : k < items.length := by omega
  refine ⟨items[k], s', List.getElem_mem hk, hs', ?_⟩
  have ix : fIx (.lst items) (.int (k : Int)) = some items[k] := by
    show atI items (k : Int) = _
    exact atI_nat hk
  have dr : s'.deref (.lst items) = .lst items := rfl
  unfold m__law_of b__law_of
  rw [mFn_run]
  show endD (mRet _ [.dat (.cel i), .dat (.lst items)] s) = _
  simp only [mRet_run, mIx_run, mPeek_run, mCall_run, mCons_run, mVar_run, mBlt_run, mNil_run, List.getElem?_cons_succ, List.getElem?_cons_zero, R.bind_ok, fLen_lst, R.opt_some, List.length_cons, List.length_nil, Nat.reduceAdd, if_true, e, dr, ix, endD_rt]
/-! ### debts -/
def Owed (d : Int) : Prop := 0 ≤ d ∧ d ≤ 12
structure RowIs (p j : Nat) (xs : List Int) : Prop where
  len : xs.length = j
  ok : ∀ x ∈ xs, Owed x
  diag : p < j → xs[p]? = some 0
def eR (xs : List Int) : D := .tup (xs.map .int)
abbrev owedE : Env → M D := mCall 2 m__law_of (mCons (mVar 0) (mCons (mLst (mCons (mCon (.int 0)) (mCons (mCon (.int 0)) (mCons (mCon (.int 0)) (mCons (mCon (.int 1)) (mCons (mCon (.int 2)) (mCons (mCon (.int 3)) (mCons (mCon (.int 4)) (mCons (mCon (.int 6)) (mCons (mCon (.int 12)) (mCons (mCall 2 m__law_draw (mCons (mVar 0) (mCons (mCon (.int 13)) mNil))) mNil))))))))))) mNil))
theorem owed_ok {Γ : Env} {s : Store} {i : Nat} (h0 : Γ[0]? = some (.dat (.cel i))) (hs : Src s i) : ∃ (d : Int) (s' : Store), Owed d ∧ Src s' i ∧ owedE Γ s = .ok (.int d) s' := by
  obtain ⟨k, s1, k0, k1, hs1, _, _, e⟩ := draw_ok (n := 13) hs (by decide) (by decide)
  obtain ⟨d, s2, hd, hs2, e2⟩ := of_ok (items := [.int 0, .int 0, .int 0, .int 1, .int 2, .int 3, .int 4, .int 6, .int 12, .int k]) hs1 (by simp) (by simp)
  have : ∃ z : Int, d = .int z ∧ Owed z := by
    simp only [List.mem_cons, List.not_mem_nil, or_false] at hd
    rcases hd with rfl | rfl | rfl | rfl | rfl | rfl | rfl | rfl | rfl | rfl
    all_goals exact ⟨_, rfl, by unfold Owed; omega⟩
  obtain ⟨z, rfl, hz⟩ := this
  refine ⟨z, s2, hz, hs2, ?_⟩
  simp only [owedE, mCall_run, mCons_run, mVar_run, h0, mLst_run, mCon_run, mNil_run, R.bind_ok, List.length_cons, List.length_nil, Nat.reduceAdd, if_true, e]
  rw [few_ok _ _ (by simp)]
  simp only [R.opt_some, R.bind_ok, List.length_cons, List.length_nil, Nat.reduceAdd, if_true, e2]
abbrev rowB : MS := mSeq (mAsg 7 (mSd owedE))
  (mAsg 5 (mSd (mOp fAdd (mPeek 5) (mTup (mCons (mIte (mTest (mOp fEq (mPeek 4) (mPeek 6))) (mCon (.int 0)) (mVar 7)) mNil)))))
theorem tup_app {xs : List D} {d : D} (h : xs.length < 1000) : fAdd (.tup xs) (.tup [d]) = some (.tup (xs ++ [d])) := by
  show (if xs.length + 1 ≤ 100000 then some (D.tup (xs ++ [d])) else none) = _
  rw [if_pos (by omega)]
theorem rowB_ok {x1 x2 x3 x7 : SV} {s : Store} {i p j : Nat} {xs : List Int} (hs : Src s i) (hr : RowIs p j xs) (hj : j < 100) : ∃ (ys : List Int) (y7 : SV) (s' : Store), rowB [.dat (.cel i), x1, x2, x3, .dat (.int p), .dat (eR xs), .dat (.int j), x7] s = .ok (.nx [.dat (.cel i), x1, x2, x3, .dat (.int p), .dat (eR ys), .dat (.int j), y7]) s' ∧ Src s' i ∧ RowIs p (j + 1) ys := by
  obtain ⟨d, s', hd, hs', e⟩ := owed_ok (Γ := [.dat (.cel i), x1, x2, x3, .dat (.int p), .dat (eR xs), .dat (.int j), x7]) rfl hs
  have hl := hr.len
  have t1 := tup_app (xs := xs.map .int) (d := .int (if p = j then 0 else d)) (by simp; omega)
  have ite : (mIte (mTest (mOp fEq (mPeek 4) (mPeek 6))) (mCon (.int 0)) (mVar 7)) [.dat (.cel i), x1, x2, x3, .dat (.int p), .dat (eR xs), .dat (.int j), .dat (.int d)] s' = .ok (.int (if p = j then 0 else d)) s' := by
    simp only [mIte_run, mTest_run, mOp_run, mPeek_run, List.getElem?_cons_succ, List.getElem?_cons_zero, R.bind_ok, fEq_ii, R.opt_some, toB_bl]
    by_cases h : p = j
    · subst h; simp
    · have : ((p : Int) == (j : Int)) = false := by simpa using (show ¬(p : Int) = (j : Int) by omega)
      rw [this, if_neg h]; simp
  refine ⟨xs ++ [if p = j then 0 else d], .dat (.int d), s', ?_, hs', ?_⟩
  · rw [rowB, mSeq_run, mAsg_run, mSd_run, e]
    simp only [R.bind_ok, List.set_cons_succ, List.set_cons_zero, mAsg_run, mSd_run, mOp_run fAdd, mPeek_run, mTup_run, mCons_run, ite, List.getElem?_cons_succ, List.getElem?_cons_zero, mNil_run]
    rw [few_ok _ _ (by simp)]
    simp only [R.opt_some, R.bind_ok]
    rw [show fAdd (eR xs) (.tup [.int (if p = j then 0 else d)]) = _ from t1]
    simp [eR]
  · refine ⟨by simp [hl], fun x hx => ?_, fun hp => ?_⟩
    · rcases List.mem_append.mp hx with hx | hx
      · exact hr.ok x hx
      · simp at hx; subst hx
        split
        · unfold Owed; omega
        · exact hd
    · by_cases e : p = j
      · rw [List.getElem?_append_right (by omega), if_pos e]
        simp [hl, e]
      · rw [List.getElem?_append_left (by omega)]
        exact hr.diag (by omega)
structure DebtsAre (n k : Nat) (rs : List (List Int)) : Prop where
  len : rs.length = k
  row : ∀ (p : Nat) (xs : List Int), rs[p]? = some xs → RowIs p n xs
def eDb (rs : List (List Int)) : D := .tup (rs.map eR)
abbrev debB : MS := mSeq (mAsg 5 (mSd (mTup mNil)))
  (mSeq (mFor (mRng fRng1 (mCons (mVar 2) mNil)) (.nm 6) rowB)
  (mAsg 3 (mSd (mOp fAdd (mPeek 3) (mTup (mCons (mVar 5) mNil))))))
theorem debB_ok {x1 x5 x6 x7 : SV} {s : Store} {i n k : Nat} {rs : List (List Int)} (hs : Src s i) (hn : n ≤ 90) (hd : DebtsAre n k rs) (hk : k < n) : ∃ (rs' : List (List Int)) (y5 y6 y7 : SV) (s' : Store), debB [.dat (.cel i), x1, .dat (.int n), .dat (eDb rs), .dat (.int k), x5, x6, x7] s = .ok (.nx [.dat (.cel i), x1, .dat (.int n), .dat (eDb rs'), .dat (.int k), y5, y6, y7]) s' ∧ Src s' i ∧ DebtsAre n (k + 1) rs' := by
  obtain ⟨Γ', s', ⟨hs', xs, y6, y7, rfl, hr⟩, e⟩ := for_ix (.nm 6) rowB (fun j Γ s => Src s i ∧ ∃ xs x6 x7, Γ = [.dat (.cel i), x1, .dat (.int n), .dat (eDb rs), .dat (.int k), .dat (eR xs), x6, x7] ∧ RowIs k j xs) n 0 [.dat (.cel i), x1, .dat (.int n), .dat (eDb rs), .dat (.int k), .dat (eR []), x6, x7] s ⟨hs, [], x6, x7, rfl, ⟨rfl, (fun _ h => nomatch h), fun h => absurd h (by omega)⟩⟩ fun j _ hj Γ s hI => by
    obtain ⟨hs, xs, x6, x7, rfl, hr⟩ := hI
    obtain ⟨ys, y7, s', e, hs', hr'⟩ := rowB_ok (x1 := x1) (x2 := .dat (.int n)) (x3 := .dat (eDb rs)) (x7 := x7) hs hr (by omega)
    exact ⟨[.dat (.cel i), x1, .dat (.int n), .dat (eDb rs), .dat (.int k), .dat (eR xs), .dat (.int j), x7], _, s', rfl, e, hs', ys, _, _, rfl, hr'⟩
  rw [Nat.zero_add] at hr
  have hl := hd.len
  have t1 := tup_app (xs := rs.map eR) (d := eR xs) (by simp; omega)
  refine ⟨rs ++ [xs], .dat (eR xs), y6, y7, s', ?_, hs', ⟨by simp [hl], fun p zs hp => ?_⟩⟩
  · have a1 : mAsg 5 (mSd (mTup mNil)) [.dat (.cel i), x1, .dat (.int n), .dat (eDb rs), .dat (.int k), x5, x6, x7] s = .ok (.nx [.dat (.cel i), x1, .dat (.int n), .dat (eDb rs), .dat (.int k), .dat (eR []), x6, x7]) s := rfl
    rw [debB, mSeq_run, a1]
    simp only [R.bind_ok]
    rw [mSeq_run, mFor_run]
    simp only [mRng_run, mCons_run, mVar_run, mNil_run, List.getElem?_cons_succ, List.getElem?_cons_zero, R.bind_ok, fRng1_ix (show n ≤ 1000 by omega), R.opt_some, e, mAsg_run, mSd_run, mOp_run, mPeek_run, mTup_run]
    rw [few_ok _ _ (by simp)]
    simp only [R.opt_some, R.bind_ok]
    rw [show fAdd (eDb rs) (.tup [eR xs]) = _ from t1]
    simp [eDb]
  · by_cases h : p < rs.length
    · rw [List.getElem?_append_left h] at hp
      exact hd.row p zs hp
    · rw [List.getElem?_append_right (by omega)] at hp
      have : p = rs.length := by
        by_cases h2 : p - rs.length = 0
        · omega
        · rw [List.getElem?_eq_none (by simp; omega)] at hp; cases hp
      subst this
      simp at hp; subst hp
      rw [hl]; exact hr
theorem debts_draw {s : Store} {i : Nat} {most : Nat} (hs : Src s i) (hm : 2 ≤ most ∧ most ≤ 90) : ∃ (n : Nat) (rs : List (List Int)) (s' : Store), m__law_debts [.cel i, .int most] s = .ok (eDb rs) s' ∧ Src s' i ∧ 2 ≤ n ∧ n ≤ most ∧ DebtsAre n n rs := by
  obtain ⟨k, s1, k0, k1, hs1, _, _, e⟩ := draw_ok (n := (most : Int) - 1) hs (by omega) (by omega)
  obtain ⟨k, rfl⟩ : ∃ j : Nat, k = j := ⟨k.toNat, by omega⟩
  obtain ⟨Γ', s', ⟨hs', rs, y4, y5, y6, y7, rfl, hr⟩, e2⟩ := for_ix (.nm 4) debB (fun j Γ s => Src s i ∧ ∃ rs x4 x5 x6 x7, Γ = [.dat (.cel i), .dat (.int most), .dat (.int ((2 + k : Nat) : Int)), .dat (eDb rs), x4, x5, x6, x7] ∧ DebtsAre (2 + k) j rs) (2 + k) 0 [.dat (.cel i), .dat (.int most), .dat (.int ((2 + k : Nat) : Int)), .dat (eDb []), .nul, .nul, .nul, .nul] s1 ⟨hs1, [], _, _, _, _, rfl, ⟨rfl, fun p xs h => by simp at h⟩⟩ fun j _ hj Γ s hI => by
    obtain ⟨hs, rs, x4, x5, x6, x7, rfl, hr⟩ := hI
    obtain ⟨rs', y5, y6, y7, s', e, hs', hr'⟩ := debB_ok (x1 := .dat (.int most)) (x5 := x5) (x6 := x6) (x7 := x7) hs (show 2 + k ≤ 90 by omega) hr (by omega)
    exact ⟨[.dat (.cel i), .dat (.int most), .dat (.int ((2 + k : Nat) : Int)), .dat (eDb rs), .dat (.int j), x5, x6, x7], _, s', rfl, e, hs', rs', _, _, _, _, rfl, hr'⟩
  rw [Nat.zero_add] at hr
  refine ⟨2 + k, rs, s', ?_, hs', by omega, by omega, hr⟩
  unfold m__law_debts b__law_debts
  rw [mFn_run]
  show endD (mSeq _ (mSeq _ (mSeq (mFor _ _ debB) _)) [.dat (.cel i), .dat (.int most), .nul, .nul, .nul, .nul, .nul, .nul] s) = _
  have a1 : mAsg 2 (mSd (mOp fAdd (mCon (.int 2)) (mCall 2 m__law_draw (mCons (mVar 0) (mCons (mOp fSub (mPeek 1) (mCon (.int 1))) mNil))))) [.dat (.cel i), .dat (.int most), .nul, .nul, .nul, .nul, .nul, .nul] s = .ok (.nx [.dat (.cel i), .dat (.int most), .dat (.int ((2 + k : Nat) : Int)), .nul, .nul, .nul, .nul, .nul]) s1 := by
    simp [e]
  have a2 : mAsg 3 (mSd (mTup mNil)) [.dat (.cel i), .dat (.int most), .dat (.int ((2 + k : Nat) : Int)), .nul, .nul, .nul, .nul, .nul] s1 = .ok (.nx [.dat (.cel i), .dat (.int most), .dat (.int ((2 + k : Nat) : Int)), .dat (eDb []), .nul, .nul, .nul, .nul]) s1 := rfl
  rw [mSeq_run, a1]
  simp only [R.bind_ok]
  rw [mSeq_run, a2]
  simp only [R.bind_ok]
  rw [mSeq_run, mFor_run]
  simp only [mRng_run, mCons_run, mVar_run, mNil_run, List.getElem?_cons_succ, List.getElem?_cons_zero, R.bind_ok, fRng1_ix (show 2 + k ≤ 1000 by omega), R.opt_some, e2, mRetV_run, endD_rt]
end PD
set_option maxRecDepth 100000
set_option maxHeartbeats 4000000
set_option exponentiation.threshold 20000
namespace PD
open PySem PySem.Spec PyProof.Rows L2
/-! ### debts are debts -/
theorem gd_int {L n : Nat} (i : Int) : Gd L n (.int i) := by cases n <;> trivial
theorem gd_ints {L n : Nat} {xs : List Int} (h : xs.length ≤ L) : Gd L (n + 1) (eR xs) := by
  refine ⟨by simpa using h, fun x hx => ?_⟩
  obtain ⟨i, _, rfl⟩ := List.mem_map.mp hx
  exact gd_int i
theorem isRow_eR {n p : Nat} {xs : List Int} (h : RowIs p n xs) : isRow n (eR xs) = true := by
  have hl := h.len
  unfold isRow eR isTup tupAll
  simp only [List.length_map, hl, Bool.and_eq_true, decide_eq_true_eq, List.all_eq_true]
  refine ⟨by omega, fun x hx => ?_⟩
  obtain ⟨i, hi, rfl⟩ := List.mem_map.mp hx
  have := h.ok i hi
  unfold Owed at this
  simp [isNum]; omega
theorem isDiag_eR {n : Nat} : ∀ (rs : List (List Int)) (k : Nat), (∀ (p : Nat) (xs : List Int), rs[p]? = some xs → xs[k + p]? = some 0) → isDiag k (rs.map eR) = true
  | [], _, _ => rfl
  | xs :: rs, k, h => by
    have h0 := h 0 xs rfl
    rw [Nat.add_zero] at h0
    show ((match (xs.map D.int)[k]? with | some d => D.eqv d (.int 0) | none => false) && isDiag (k + 1) (rs.map eR)) = true
    rw [List.getElem?_map, h0, isDiag_eR (n := n) rs (k + 1) fun p ys hp => by rw [show k + 1 + p = k + (p + 1) by omega]; exact h (p + 1) ys (by simpa using hp)]
    rfl
theorem debts_are {n : Nat} {rs : List (List Int)} (h : DebtsAre n n rs) (hn : 2 ≤ n ∧ n ≤ 4) : isDebts (eDb rs) = true ∧ fLen [eDb rs] = some (.int n) ∧ ∀ L m, n ≤ L → Gd L (m + 2) (eDb rs) := by
  have hl := h.len
  refine ⟨?_, ?_, fun L m hL => ⟨by simpa [hl] using hL, fun x hx => ?_⟩⟩
  · unfold isDebts eDb
    have e1 : isTup 2 4 (.tup (rs.map eR)) = true := by simp [isTup, hl]; omega
    rw [e1, Bool.true_and]
    show ((rs.map eR).all (isRow (rs.map eR).length) && isDiag 0 (rs.map eR)) = true
    rw [List.length_map, hl, Bool.and_eq_true]
    refine ⟨List.all_eq_true.mpr fun x hx => ?_, isDiag_eR (n := n) rs 0 fun p xs hp => ?_⟩
    · obtain ⟨xs, hxs, rfl⟩ := List.mem_map.mp hx
      obtain ⟨p, hp, rfl⟩ := List.mem_iff_getElem.mp hxs
      exact isRow_eR (h.row p _ (List.getElem?_eq_getElem hp))
    · rw [Nat.zero_add]
      have hp' := (List.getElem?_eq_some_iff.mp hp).1
      exact (h.row p xs hp).diag (by omega)
  · show some (D.int ((rs.map eR).length : Int)) = _
    rw [List.length_map, hl]
  · obtain ⟨xs, hxs, rfl⟩ := List.mem_map.mp hx
    obtain ⟨p, hp, rfl⟩ := List.mem_iff_getElem.mp hxs
    have := (h.row p _ (List.getElem?_eq_getElem hp)).len
    exact gd_ints (by omega)
/-! ### amounts -/
theorem low_good : ∀ (t : Fin 20) (b : Fin 3), isAmt 1000000000000 (eF (lowL ((t.val : Nat) : Int) ((b.val + 1 : Nat) : Int))) = true ∧ 0 ≤ (lowL ((t.val : Nat) : Int) ((b.val + 1 : Nat) : Int)).1 ∧ (lowL ((t.val : Nat) : Int) ((b.val + 1 : Nat) : Int)).1 ≤ 1000000000000 ∧ 1 ≤ (lowL ((t.val : Nat) : Int) ((b.val + 1 : Nat) : Int)).2 ∧ (lowL ((t.val : Nat) : Int) ((b.val + 1 : Nat) : Int)).2 ≤ 1000000000000 := by decide +kernel
def AmGood (p : Int × Int) : Prop := AmOk p ∧ isAmt 1000000000000 (eAm p) = true
theorem low_am {t b : Int} (h0 : 0 ≤ t) (h1 : t < 20) (b0 : 1 ≤ b) (b1 : b ≤ 3) : AmGood (lowL t b) := by
  obtain ⟨g1, g2⟩ := low_good ⟨t.toNat, by omega⟩ ⟨(b - 1).toNat, by omega⟩
  have e1 : ((t.toNat : Nat) : Int) = t := by omega
  have e2 : (((b - 1).toNat + 1 : Nat) : Int) = b := by omega
  simp only [e1, e2] at g1 g2
  exact ⟨g2, g1⟩
abbrev amE : Env → M D := mCall 2 m__law_of (mCons (mVar 0) (mCons (mLst (mCons (mCon (.int 0)) (mCons (mCon (.int 0)) (mCons (mCon (.int 1)) (mCons (mCon (.int 2)) (mCons (mCon (.int 3)) (mCons (mCon (.int 5)) (mCons (mCon (.int 8)) (mCons (mCall 2 m__law_draw (mCons (mVar 0) (mCons (mCon (.int 20)) mNil))) mNil))))))))) mNil))
theorem amE_ok {Γ : Env} {s : Store} {i : Nat} (h0 : Γ[0]? = some (.dat (.cel i))) (hs : Src s i) : ∃ (d : Int) (s' : Store), 0 ≤ d ∧ d < 20 ∧ Src s' i ∧ amE Γ s = .ok (.int d) s' := by
  obtain ⟨k, s1, k0, k1, hs1, _, _, e⟩ := draw_ok (n := 20) hs (by decide) (by decide)
  obtain ⟨d, s2, hd, hs2, e2⟩ := of_ok (items := [.int 0, .int 0, .int 1, .int 2, .int 3, .int 5, .int 8, .int k]) hs1 (by simp) (by simp)
  have : ∃ z : Int, d = .int z ∧ 0 ≤ z ∧ z < 20 := by
    simp only [List.mem_cons, List.not_mem_nil, or_false] at hd
    rcases hd with rfl | rfl | rfl | rfl | rfl | rfl | rfl | rfl
    all_goals exact ⟨_, rfl, by omega, by omega⟩
  obtain ⟨z, rfl, hz, hz2⟩ := this
  refine ⟨z, s2, hz, hz2, hs2, ?_⟩
  simp only [amE, mCall_run, mCons_run, mVar_run, h0, mLst_run, mCon_run, mNil_run, R.bind_ok, List.length_cons, List.length_nil, Nat.reduceAdd, if_true, e]
  rw [few_ok _ _ (by simp)]
  simp only [R.opt_some, R.bind_ok, List.length_cons, List.length_nil, Nat.reduceAdd, if_true, e2]
abbrev beE : Env → M D := mCall 2 m__law_of (mCons (mVar 0) (mCons (mLst (mCons (mCon (.int 1)) (mCons (mCon (.int 1)) (mCons (mCon (.int 1)) (mCons (mCon (.int 2)) (mCons (mCon (.int 3)) mNil)))))) mNil))
theorem beE_ok {Γ : Env} {s : Store} {i : Nat} (h0 : Γ[0]? = some (.dat (.cel i))) (hs : Src s i) : ∃ (d : Int) (s' : Store), 1 ≤ d ∧ d ≤ 3 ∧ Src s' i ∧ beE Γ s = .ok (.int d) s' := by
  obtain ⟨d, s2, hd, hs2, e2⟩ := of_ok (items := [.int 1, .int 1, .int 1, .int 2, .int 3]) hs (by simp) (by simp)
  have : ∃ z : Int, d = .int z ∧ 1 ≤ z ∧ z ≤ 3 := by
    simp only [List.mem_cons, List.not_mem_nil, or_false] at hd
    rcases hd with rfl | rfl | rfl | rfl | rfl
    all_goals exact ⟨_, rfl, by omega, by omega⟩
  obtain ⟨z, rfl, hz, hz2⟩ := this
  refine ⟨z, s2, hz, hz2, hs2, ?_⟩
  simp only [beE, mCall_run, mCons_run, mVar_run, h0, mLst_run, mCon_run, mNil_run, R.bind_ok]
  rw [few_ok _ _ (by simp)]
  simp only [R.opt_some, R.bind_ok, List.length_cons, List.length_nil, Nat.reduceAdd, if_true, e2]
abbrev amB : MS := mSeq (mAsg 4 (mSd amE)) (mAsg 2 (mSd (mOp fAdd (mPeek 2) (mTup (mCons (mCall 2 m__law_lowest (mCons (mVar 4) (mCons beE mNil))) mNil)))))
theorem amB_ok {x1 x3 x4 : SV} {s : Store} {i : Nat} {as : List (Int × Int)} (hs : Src s i) (ha : ∀ a ∈ as, AmGood a) (hl : as.length < 100) : ∃ (a : Int × Int) (y4 : SV) (s' : Store), amB [.dat (.cel i), x1, .dat (eAs as), x3, x4] s = .ok (.nx [.dat (.cel i), x1, .dat (eAs (as ++ [a])), x3, y4]) s' ∧ Src s' i ∧ AmGood a := by
  obtain ⟨t, s1, t0, t1, hs1, e1⟩ := amE_ok (Γ := [.dat (.cel i), x1, .dat (eAs as), x3, x4]) rfl hs
  obtain ⟨b, s2, b0, b1, hs2, e2⟩ := beE_ok (Γ := [.dat (.cel i), x1, .dat (eAs as), x3, .dat (.int t)]) rfl hs1
  have l := llow_ok (a := t) (b := b) (s := s2) (by omega) (by
    have := abs_log (z := t) (n := 10) (by omega) (by omega)
    omega) (by
    have := abs_log (z := b) (n := 10) (by omega) (by omega)
    omega)
  have tp := tup_app (xs := as.map eAm) (d := eF (lowL t b)) (by simp; omega)
  refine ⟨lowL t b, .dat (.int t), s2, ?_, hs2, low_am t0 t1 b0 b1⟩
  rw [amB, mSeq_run, mAsg_run, mSd_run, e1]
  simp only [R.bind_ok, List.set_cons_succ, List.set_cons_zero, mAsg_run, mSd_run, mOp_run, mPeek_run, mTup_run, mCons_run, mCall_run 2 m__law_lowest, mVar_run, mNil_run, List.getElem?_cons_succ, List.getElem?_cons_zero, e2, List.length_cons, List.length_nil, Nat.reduceAdd, if_true, l]
  rw [few_ok _ _ (by simp)]
  simp only [R.opt_some, R.bind_ok]
  rw [show fAdd (eAs as) (.tup [eF (lowL t b)]) = _ from tp]
  simp [eAs]
  rfl
theorem amts_draw {s : Store} {i n : Nat} (hs : Src s i) (hn : n ≤ 90) : ∃ (as : List (Int × Int)) (s' : Store), m__law_amounts [.cel i, .int n] s = .ok (eAs as) s' ∧ Src s' i ∧ as.length = n ∧ ∀ a ∈ as, AmGood a := by
  obtain ⟨Γ', s', ⟨hs', as, y3, y4, rfl, hl, ha⟩, e2⟩ := for_ix (.nm 3) amB (fun j Γ s => Src s i ∧ ∃ as x3 x4, Γ = [.dat (.cel i), .dat (.int n), .dat (eAs as), x3, x4] ∧ as.length = j ∧ ∀ a ∈ as, AmGood a) n 0 [.dat (.cel i), .dat (.int n), .dat (eAs []), .nul, .nul] s ⟨hs, [], _, _, rfl, rfl, fun a h => by simp at h⟩ fun j _ hj Γ s hI => by
    obtain ⟨hs, as, x3, x4, rfl, hl, ha⟩ := hI
    obtain ⟨a, y4, s', e, hs', hg⟩ := amB_ok (x1 := .dat (.int n)) (x3 := .dat (.int j)) (x4 := x4) hs ha (by omega)
    refine ⟨_, _, s', rfl, e, hs', as ++ [a], _, _, rfl, by simp [hl], fun b hb => ?_⟩
    rcases List.mem_append.mp hb with hb | hb
    · exact ha b hb
    · simp at hb; subst hb; exact hg
  rw [Nat.zero_add] at hl
  refine ⟨as, s', ?_, hs', hl, ha⟩
  unfold m__law_amounts b__law_amounts
  rw [mFn_run]
  show endD (mSeq _ (mSeq (mFor _ _ amB) _) [.dat (.cel i), .dat (.int n), .nul, .nul, .nul] s) = _
  have a2 : mAsg 2 (mSd (mTup mNil)) [.dat (.cel i), .dat (.int n), .nul, .nul, .nul] s = .ok (.nx [.dat (.cel i), .dat (.int n), .dat (eAs []), .nul, .nul]) s := rfl
  rw [mSeq_run, a2]
  simp only [R.bind_ok]
  rw [mSeq_run, mFor_run]
  simp only [mRng_run, mCons_run, mVar_run, mNil_run, List.getElem?_cons_succ, List.getElem?_cons_zero, R.bind_ok, fRng1_ix (show n ≤ 1000 by omega), R.opt_some, e2, mRetV_run, endD_rt]
theorem amts_are {n : Nat} {as : List (Int × Int)} (hl : as.length = n) (ha : ∀ a ∈ as, AmGood a) : isAmts n (eAs as) = true ∧ ∀ L m, n ≤ L → 2 ≤ L → Gd L (m + 2) (eAs as) := by
  refine ⟨?_, fun L m hL h2 => ⟨by simpa [hl] using hL, fun x hx => ?_⟩⟩
  · unfold isAmts eAs isTup tupAll
    simp only [List.length_map, hl, Bool.and_eq_true, decide_eq_true_eq, List.all_eq_true]
    refine ⟨by omega, fun x hx => ?_⟩
    obtain ⟨a, hm, rfl⟩ := List.mem_map.mp hx
    exact (ha a hm).2
  · obtain ⟨a, hm, rfl⟩ := List.mem_map.mp hx
    exact gd_ints (xs := [a.1, a.2]) (by simpa using h2)
/-! ### lots -/
theorem lc_draw {tg : Tg} {mc : Env → M Bool} {me : Env → M D} {Γ : Env} {i : Nat} (st : ∀ (j : Nat) (s : Store), Src s i → ∃ (Γ1 : Env) (b : Bool) (s' : Store), bindT tg (.int (j : Int)) Γ = some Γ1 ∧ mc Γ1 s = .ok b s' ∧ Src s' i ∧ me Γ1 s' = .ok (.int (j : Int)) s') : ∀ (m k : Nat) (s : Store), Src s i →
    ∃ (xs : List Nat) (s' : Store), lcGo tg mc me Γ ((List.range' k m).map fun (j : Nat) => D.int (j : Int)) s = .ok (xs.map fun (j : Nat) => D.int (j : Int)) s' ∧ Src s' i ∧ xs.length ≤ m ∧ (∀ x ∈ xs, k ≤ x ∧ x < k + m) ∧ xs.Pairwise (· < ·)
  | 0, k, s, hs => ⟨[], s, rfl, hs, by simp, by simp, .nil⟩
  | m + 1, k, s, hs => by
    obtain ⟨Γ1, b, s1, h1, h2, hs1, h3⟩ := st k s hs
    obtain ⟨xs, s2, e, hs2, hl, hx, hp⟩ := lc_draw st m (k + 1) s1 hs1
    cases b with
    | true =>
      refine ⟨k :: xs, s2, ?_, hs2, by simp; omega, fun x hm => ?_, ?_⟩
      · rw [List.range'_succ, List.map_cons]
        unfold lcGo
        rw [h1]
        show (mc Γ1 s).nox.bind _ = _
        rw [h2]
        show (me Γ1 s1).nox.bind _ = _
        rw [h3]
        show (lcGo tg mc me Γ ((List.range' (k + 1) m).map fun (j : Nat) => D.int (j : Int)) s1).bind _ = _
        rw [e]
        rfl
      · rcases List.mem_cons.mp hm with rfl | hm
        · omega
        · have := hx x hm; omega
      · exact List.Pairwise.cons (fun x hm => by have := hx x hm; omega) hp
    | false =>
      refine ⟨xs, s2, ?_, hs2, by omega, fun x hm => by have := hx x hm; omega, hp⟩
      rw [List.range'_succ, List.map_cons]
      unfold lcGo
      rw [h1]
      show (mc Γ1 s).nox.bind _ = _
      rw [h2]
      exact e
structure LotIs (n : Nat) (xs : List Nat) : Prop where
  len : xs.length ≤ n
  lt : ∀ x ∈ xs, x < n
  up : xs.Pairwise (· < ·)
theorem lot_draw {s : Store} {i n : Nat} (hs : Src s i) (hn : n ≤ 90) : ∃ (xs : List Nat) (s' : Store), m__law_lot [.cel i, .int n] s = .ok (natT xs) s' ∧ Src s' i ∧ LotIs n xs := by
  obtain ⟨xs, s', e, hs', hl, hx, hp⟩ := lc_draw (tg := .nm 2) (mc := mTest (mOp fLt (mCall 2 m__law_draw (mCons (mVar 0) (mCons (mCon (.int 5)) mNil))) (mCon (.int 2)))) (me := mVar 2) (Γ := [.dat (.cel i), .dat (.int n), .nul]) (i := i) (fun j s hs => by
    obtain ⟨d, s1, _, _, hs1, _, _, e⟩ := draw_ok (n := 5) hs (by decide) (by decide)
    exact ⟨[.dat (.cel i), .dat (.int n), .dat (.int j)], decide (d < 2), s1, rfl, by simp [e], hs1, by simp⟩) n 0 s hs
  refine ⟨xs, s', ?_, hs', hl, fun x hm => by have := hx x hm; omega, hp⟩
  have ft : fTuple [.lst (xs.map fun (j : Nat) => D.int (j : Int))] = some (natT xs) := rfl
  unfold m__law_lot b__law_lot
  rw [mFn_run]
  show endD (mRet _ [.dat (.cel i), .dat (.int n), .nul] s) = _
  simp only [mRet_run, mBlt_run, mCons_run, mFrz_run, mLcL_run, mRng_run, mVar_run, mNil_run, List.getElem?_cons_succ, List.getElem?_cons_zero, R.bind_ok, fRng1_ix (show n ≤ 1000 by omega), R.opt_some, List.length_map, List.length_range', wipeE_cons, wipeE_nil, List.set_cons_succ, List.set_cons_zero]
  rw [if_pos (by omega), e]
  simp only [R.bind_ok, ft, R.opt_some, endD_rt]
theorem isUp_nat : ∀ (xs : List Nat), xs.Pairwise (· < ·) → isUp (xs.map fun (j : Nat) => D.int (j : Int)) = true
  | [], _ => rfl
  | [x], _ => rfl
  | x :: y :: xs, h => by
    have ih := isUp_nat (y :: xs) (List.Pairwise.of_cons h)
    have hxy : x < y := (List.pairwise_cons.mp h).1 y List.mem_cons_self
    show (ltP (.tup [.int x, .int y]) && isUp ((y :: xs).map fun (j : Nat) => D.int (j : Int))) = true
    rw [ih]
    simp [ltP]; omega
theorem isLot_nat {n : Nat} {xs : List Nat} (h : LotIs n xs) : isLot n (natT xs) = true := by
  unfold isLot natT
  have e1 : isTup 0 n (.tup (xs.map fun (k : Nat) => D.int (k : Int))) = true := by
    have := h.len
    simp [isTup]; omega
  have e2 : tupAll (isNum 0 (n - 1)) (.tup (xs.map fun (k : Nat) => D.int (k : Int))) = true := by
    unfold tupAll
    refine List.all_eq_true.mpr fun x hx => ?_
    obtain ⟨j, hj, rfl⟩ := List.mem_map.mp hx
    have := h.lt j hj
    simp [isNum]; omega
  rw [e1, e2]
  exact isUp_nat xs h.up
/-! ### facts -/
structure FctIs (n : Nat) (f : Fct) : Prop where
  ok : f.Ok n
  a : LotIs n f.a
  b : LotIs n f.b
theorem fact_draw {s : Store} {i n : Nat} (hs : Src s i) (hn : n ≤ 90) : ∃ (f : Fct) (s' : Store), m__law_fact [.cel i, .int n] s = .ok (eFc f) s' ∧ Src s' i ∧ FctIs n f := by
  obtain ⟨d, s1, hd, hs1, e1⟩ := of_ok (items := [.str "atleast", .str "atleast", .str "atleast", .str "more", .str "same"]) hs (by simp) (by simp)
  have : ∃ w : Str, d = .str w ∧ (w = "atleast" ∨ w = "more" ∨ w = "same") := by
    simp only [List.mem_cons, List.not_mem_nil, or_false] at hd
    rcases hd with rfl | rfl | rfl | rfl | rfl
    all_goals exact ⟨_, rfl, by simp⟩
  obtain ⟨w, rfl, hw⟩ := this
  obtain ⟨a, s2, e2, hs2, ha⟩ := lot_draw (n := n) hs1 hn
  obtain ⟨b, s3, e3, hs3, hb⟩ := lot_draw (n := n) hs2 hn
  obtain ⟨k, s4, k0, k1, hs4, _, _, e4⟩ := draw_ok (n := 13) hs3 (by decide) (by decide)
  refine ⟨⟨w, a, b, k - 7⟩, s4, ?_, hs4, ⟨hw, ha.lt, hb.lt, by show -60 ≤ k - 7 ∧ k - 7 ≤ 60; omega⟩, ha, hb⟩
  unfold m__law_fact b__law_fact
  rw [mFn_run]
  show endD (mSeq _ _ [.dat (.cel i), .dat (.int n), .nul, .nul, .nul] s) = _
  simp only [mSeq_run, mAsg_run, mSd_run, mCall_run, mCons_run, mLst_run, mCon_run, mVar_run, mNil_run, List.getElem?_cons_succ, List.getElem?_cons_zero, R.bind_ok]
  rw [few_ok _ _ (by simp)]
  simp only [R.opt_some, R.bind_ok, List.length_cons, List.length_nil, Nat.reduceAdd, if_true, e1, List.set_cons_succ, List.set_cons_zero, mPar_run, mRcons_run, mSd_run, mCall_run, mCons_run, mVar_run, mNil_run, mRnil_run, List.getElem?_cons_succ, List.getElem?_cons_zero, e2, e3, setAllE_c, setAllE_n, mRet_run, mTup_run, mOp_run, mCon_run, e4, fSub_ii]
  rw [few_ok _ _ (by simp)]
  rfl
theorem facts_draw {s : Store} {i n most : Nat} (hs : Src s i) (hn : n ≤ 90) (hm : most ≤ 90) : ∃ (fs : List Fct) (s' : Store), m__law_facts [.cel i, .int n, .int most] s = .ok (eFs fs) s' ∧ Src s' i ∧ fs.length ≤ most ∧ ∀ f ∈ fs, FctIs n f := by
  obtain ⟨k, s1, k0, k1, hs1, _, _, e⟩ := draw_ok (n := (most : Int) + 1) hs (by omega) (by omega)
  obtain ⟨k, rfl⟩ : ∃ j : Nat, k = j := ⟨k.toNat, by omega⟩
  obtain ⟨Γ', s', ⟨hs', fs, y4, rfl, hl, hf⟩, e2⟩ := for_ix (.nm 4) (mAsg 3 (mSd (mOp fAdd (mPeek 3) (mTup (mCons (mCall 2 m__law_fact (mCons (mVar 0) (mCons (mVar 1) mNil))) mNil))))) (fun j Γ s => Src s i ∧ ∃ fs x4, Γ = [.dat (.cel i), .dat (.int n), .dat (.int most), .dat (eFs fs), x4] ∧ fs.length = j ∧ ∀ f ∈ fs, FctIs n f) k 0 [.dat (.cel i), .dat (.int n), .dat (.int most), .dat (eFs []), .nul] s1 ⟨hs1, [], _, rfl, rfl, fun a h => by simp at h⟩ fun j _ hj Γ s hI => by
    obtain ⟨hs, fs, x4, rfl, hl, hf⟩ := hI
    obtain ⟨f, s', e, hs', hg⟩ := fact_draw (n := n) hs hn
    have tp := tup_app (xs := fs.map eFc) (d := eFc f) (by simp; omega)
    refine ⟨[.dat (.cel i), .dat (.int n), .dat (.int most), .dat (eFs fs), .dat (.int j)], [.dat (.cel i), .dat (.int n), .dat (.int most), .dat (eFs (fs ++ [f])), .dat (.int j)], s', rfl, ?_, hs', fs ++ [f], _, rfl, by simp [hl], fun b hb => ?_⟩
    · simp only [mAsg_run, mSd_run, mOp_run, mPeek_run, mTup_run, mCons_run, mCall_run, mVar_run, mNil_run, List.getElem?_cons_succ, List.getElem?_cons_zero, R.bind_ok, List.length_cons, List.length_nil, Nat.reduceAdd, if_true, e]
      rw [few_ok _ _ (by simp)]
      simp only [R.opt_some, R.bind_ok]
      rw [show fAdd (eFs fs) (.tup [eFc f]) = _ from tp]
      simp [eFs]
    · rcases List.mem_append.mp hb with hb | hb
      · exact hf b hb
      · simp at hb; subst hb; exact hg
  rw [Nat.zero_add] at hl
  refine ⟨fs, s', ?_, hs', by omega, hf⟩
  unfold m__law_facts b__law_facts
  rw [mFn_run]
  show endD (mSeq _ _ [.dat (.cel i), .dat (.int n), .dat (.int most), .nul, .nul] s) = _
  have a2 : mAsg 3 (mSd (mTup mNil)) [.dat (.cel i), .dat (.int n), .dat (.int most), .nul, .nul] s = .ok (.nx [.dat (.cel i), .dat (.int n), .dat (.int most), .dat (eFs []), .nul]) s := rfl
  rw [mSeq_run, a2]
  simp only [R.bind_ok]
  rw [mSeq_run, mFor_run]
  simp only [mRng_run, mCons_run, mCall_run 2 m__law_draw, mOp_run fAdd, mPeek_run, mCon_run, mVar_run, mNil_run, List.getElem?_cons_succ, List.getElem?_cons_zero, R.bind_ok, fAdd_ii, R.opt_some, List.length_cons, List.length_nil, Nat.reduceAdd, if_true, e, fRng1_ix (show k ≤ 1000 by omega), e2, mRetV_run, endD_rt]
theorem fact_is {n : Nat} {f : Fct} (h : FctIs n f) : isFact n (eFc f) = true := by
  show (wordB f.w && (isLot n (natT f.a) && (isLot n (natT f.b) && isNum (-60) 60 (.int f.k)))) = true
  rw [isLot_nat h.a, isLot_nat h.b]
  have hk := h.ok.k
  have e1 : isNum (-60) 60 (.int f.k) = true := by simp [isNum]; omega
  have e2 : wordB f.w = true := by
    rcases h.ok.w with e | e | e <;> rw [e] <;> decide +kernel
  rw [e1, e2]; rfl
theorem gd_nat {L m n : Nat} {xs : List Nat} (h : LotIs n xs) (hn : n ≤ L) : Gd L (m + 1) (natT xs) := by
  have := h.len
  refine ⟨by simp; omega, fun x hx => ?_⟩
  obtain ⟨i, _, rfl⟩ := List.mem_map.mp hx
  exact gd_int _
theorem facts_are {n : Nat} {fs : List Fct} (hl : fs.length ≤ 5) (hf : ∀ f ∈ fs, FctIs n f) : isFacts n (eFs fs) = true ∧ ∀ L m, n ≤ L → 5 ≤ L → Gd L (m + 3) (eFs fs) := by
  refine ⟨?_, fun L m hL h2 => ⟨by simp; omega, fun x hx => ?_⟩⟩
  · unfold isFacts eFs isTup tupAll
    simp only [List.length_map, Bool.and_eq_true, decide_eq_true_eq, List.all_eq_true]
    refine ⟨by omega, fun x hx => ?_⟩
    obtain ⟨f, hm, rfl⟩ := List.mem_map.mp hx
    exact fact_is (hf f hm)
  · obtain ⟨f, hm, rfl⟩ := List.mem_map.mp hx
    have h := hf f hm
    have wf := word_fine h.ok
    refine ⟨by simp; omega, fun y hy => ?_⟩
    simp only [List.mem_cons, List.not_mem_nil, or_false] at hy
    rcases hy with rfl | rfl | rfl | rfl
    · exact wf
    · exact gd_nat h.a hL
    · exact gd_nat h.b hL
    · exact gd_int _
end PD
set_option maxRecDepth 100000
set_option maxHeartbeats 4000000
set_option exponentiation.threshold 20000
namespace PD
open PySem PySem.Spec PyProof.Rows L2
/-! ## values spoilt -/
theorem Gd.mono {L L' : Nat} (hL : L ≤ L') : ∀ {n n' : Nat} {d : D}, Gd L n d → n ≤ n' → Gd L' n' d
  | _, n', .non, _, _ => by cases n' <;> trivial
  | _, n', .bl _, _, _ => by cases n' <;> trivial
  | _, n', .int _, _, _ => by cases n' <;> trivial
  | n, n', .str _, h, _ => by cases n <;> cases n' <;> exact h
  | n + 1, n' + 1, .tup xs, h, hn => ⟨Nat.le_trans h.1 hL, fun x hx => Gd.mono hL (h.2 x hx) (by omega)⟩
  | n + 1, n' + 1, .lst xs, h, hn => ⟨Nat.le_trans h.1 hL, fun x hx => Gd.mono hL (h.2 x hx) (by omega)⟩
  | 0, _, .tup _, h, _ => h.elim
  | 0, _, .lst _, h, _ => h.elim
  | _ + 1, 0, _, _, hn => by omega
  | 0, _, .cel _, h, _ => h.elim
  | 0, _, .scr _, h, _ => h.elim
  | 0, _, .dki _ _, h, _ => h.elim
  | _ + 1, _, .cel _, h, _ => h.elim
  | _ + 1, _, .scr _, h, _ => h.elim
  | _ + 1, _, .dki _ _, h, _ => h.elim
def odd1 : List D := [.non, .bl true, .bl false, .int 0, .int 1, .int 2, .int 3, .int 12, .int 13, .int (-1), .str "", .str "more", .str "same", .tup [], .lst [], .tup [.int 0], .tup [.int 1, .int 0], .tup [.int 0, .int 1], .tup [.int 2, .int 4]]
def odd2 : List D := [.int 61, .tup [.int 0, .int 0], .tup [.tup [.int 0, .int 1], .tup [.int 0, .int 0]], .tup [.int 1, .int 2], .int 10000000000000, .str "atleast"]
theorem odd_good : ∀ d ∈ odd1 ++ odd2, Gd 2 2 d := fun d hd => by
  simp only [odd1, odd2, List.cons_append, List.nil_append, List.mem_cons, List.not_mem_nil, or_false] at hd
  rcases hd with rfl | rfl | rfl | rfl | rfl | rfl | rfl | rfl | rfl | rfl | rfl | rfl | rfl | rfl | rfl | rfl | rfl | rfl | rfl | rfl | rfl | rfl | rfl | rfl | rfl
  all_goals first
    | trivial
    | (show strFine _ = true; decide +kernel)
    | (refine ⟨by simp, ?_⟩; simp [Gd])
theorem odd_draw {s : Store} {i : Nat} (hs : Src s i) : ∃ (d : D) (s' : Store), m__law_odd [.cel i] s = .ok d s' ∧ Src s' i ∧ Gd 2 2 d := by
  obtain ⟨d, s', hd, hs', e⟩ := of_ok (items := odd1 ++ odd2) hs (by simp [odd1]) (by simp [odd1, odd2])
  refine ⟨d, s', ?_, hs', odd_good d hd⟩
  have p13 : fPow (.int 10) (.int 13) = some (.int 10000000000000) := by rfl
  have ad : fAdd (.lst odd1) (.lst odd2) = some (.lst (odd1 ++ odd2)) := rfl
  unfold m__law_odd b__law_odd
  rw [mFn_run]
  show endD (mSeq (mAsg 1 (mSd _)) _ [.dat (.cel i), .nul] s) = _
  have a1 : ∀ Γ : Env, (mLst (mCons (mCon .non) (mCons (mCon (.bl true)) (mCons (mCon (.bl false)) (mCons (mCon (.int 0)) (mCons (mCon (.int 1)) (mCons (mCon (.int 2)) (mCons (mCon (.int 3)) (mCons (mCon (.int 12)) (mCons (mCon (.int 13)) (mCons (mOp1 fNeg (mCon (.int 1))) (mCons (mCon (.str "")) (mCons (mCon (.str "more")) (mCons (mCon (.str "same")) (mCons (mTup mNil) (mCons (mLst mNil) (mCons (mTup (mCons (mCon (.int 0)) mNil)) (mCons (mTup (mCons (mCon (.int 1)) (mCons (mCon (.int 0)) mNil))) (mCons (mTup (mCons (mCon (.int 0)) (mCons (mCon (.int 1)) mNil))) (mCons (mTup (mCons (mCon (.int 2)) (mCons (mCon (.int 4)) mNil))) mNil)))))))))))))))))))) Γ s = .ok (.lst odd1) s := fun Γ => rfl
  have a2 : ∀ Γ : Env, (mLst (mCons (mCon (.int 61)) (mCons (mTup (mCons (mCon (.int 0)) (mCons (mCon (.int 0)) mNil))) (mCons (mTup (mCons (mTup (mCons (mCon (.int 0)) (mCons (mCon (.int 1)) mNil))) (mCons (mTup (mCons (mCon (.int 0)) (mCons (mCon (.int 0)) mNil))) mNil))) (mCons (mTup (mCons (mCon (.int 1)) (mCons (mCon (.int 2)) mNil))) (mCons (mOp fPow (mCon (.int 10)) (mCon (.int 13))) (mCons (mCon (.str "atleast")) mNil))))))) Γ s = .ok (.lst odd2) s := fun Γ => by
    simp [few, p13, odd2]
  rw [mSeq_run, mAsg_run, mSd_run, a1]
  simp only [R.bind_ok, List.set_cons_succ, List.set_cons_zero, mRet_run, mCall_run, mCons_run, mVar_run, mNil_run, mOp_run fAdd, mPeek_run, List.getElem?_cons_succ, List.getElem?_cons_zero, a2, ad, R.opt_some, List.length_cons, List.length_nil, Nat.reduceAdd, if_true, e, endD_rt]
theorem tup_cat {xs ys : List D} (h : xs.length + ys.length ≤ 5000) : fAdd (.tup xs) (.tup ys) = some (.tup (xs ++ ys)) := by
  show (if xs.length + ys.length ≤ 100000 then some (D.tup (xs ++ ys)) else none) = _
  rw [if_pos (by omega)]
theorem fEq_unit {xs : List D} (h : D.fine 60 (.tup xs) = true) : fEq (.tup xs) (.tup []) = some (.bl xs.isEmpty) := by
  unfold fEq
  rw [if_pos (by rw [h]; rfl)]
  cases xs <;> rfl
abbrev xTo : Env → M D := mSl (mPeek 1) mNoPart (mPart (mVar 2))
abbrev xFr : Env → M D := mSl (mPeek 1) (mPart (mVar 2)) mNoPart
abbrev xTo1 : Env → M D := mSl (mPeek 1) mNoPart (mPart (mOp fAdd (mPeek 2) (mCon (.int 1))))
abbrev xFr1 : Env → M D := mSl (mPeek 1) (mPart (mOp fAdd (mPeek 2) (mCon (.int 1)))) mNoPart
theorem sl_to {xs : List D} (k : Nat) : fSl (.tup xs) none (some (k : Int)) = some (.tup (xs.take k)) := by
  show some (D.tup (cutD xs none (some (k : Int)))) = _
  rw [cut_toN]
theorem sl_fr {xs : List D} (k : Nat) : fSl (.tup xs) (some (k : Int)) none = some (.tup (xs.drop k)) := by
  show some (D.tup (cutD xs (some (k : Int)) none)) = _
  rw [cut_fromN]
section
variable {i k : Nat} {xs : List D} {x3 : SV} {s : Store}
theorem xTo_ok : mSl (mPeek 1) mNoPart (mPart (mVar 2)) [.dat (.cel i), .dat (.tup xs), .dat (.int k), x3] s = .ok (.tup (xs.take k)) s := by simp [xTo, sl_to]
theorem xFr_ok : mSl (mPeek 1) (mPart (mVar 2)) mNoPart [.dat (.cel i), .dat (.tup xs), .dat (.int k), x3] s = .ok (.tup (xs.drop k)) s := by simp [xFr, sl_fr]
theorem xTo1_ok : mSl (mPeek 1) mNoPart (mPart (mOp fAdd (mPeek 2) (mCon (.int 1)))) [.dat (.cel i), .dat (.tup xs), .dat (.int k), x3] s = .ok (.tup (xs.take (k + 1))) s := by
  have := sl_to (xs := xs) (k + 1)
  rw [show ((k + 1 : Nat) : Int) = (k : Int) + 1 by omega] at this
  simp [xTo1, this]
theorem xFr1_ok : mSl (mPeek 1) (mPart (mOp fAdd (mPeek 2) (mCon (.int 1)))) mNoPart [.dat (.cel i), .dat (.tup xs), .dat (.int k), x3] s = .ok (.tup (xs.drop (k + 1))) s := by
  have := sl_fr (xs := xs) (k + 1)
  rw [show ((k + 1 : Nat) : Int) = (k : Int) + 1 by omega] at this
  simp [xFr1, this]
end
theorem put_run {m1 m2 : Env → M D} {me : Env → M D} {Γ : Env} {s s' : Store} {xs ys : List D} {d : D} (h1 : m1 Γ s = .ok (.tup xs) s) (he : me Γ s = .ok d s') (h2 : m2 Γ s' = .ok (.tup ys) s') (hl : xs.length + ys.length ≤ 4000) : mRet (mOp fAdd (mOp fAdd m1 (mTup (mCons me mNil))) m2) Γ s = .ok (.rt (.tup (xs ++ [d] ++ ys))) s' := by
  have t1 := tup_cat (xs := xs) (ys := [d]) (by simp; omega)
  have t2 := tup_cat (xs := xs ++ [d]) (ys := ys) (by simp; omega)
  rw [mRet_run, mOp_run, mOp_run, h1]
  simp only [R.bind_ok, mTup_run, mCons_run, he, mNil_run]
  rw [few_ok _ _ (by simp)]
  simp only [R.opt_some, R.bind_ok, t1, h2, t2]
theorem gd_put {L n : Nat} {xs : List D} {d : D} {k : Nat} (h : ∀ x ∈ xs, Gd L n x) (hl : xs.length ≤ L) (hd : Gd (L + 1) (n + 2) d) (hk : k < xs.length) {r : Nat} (hr : k ≤ r) : Gd (L + 1) (n + 1 + 2) (.tup (xs.take k ++ [d] ++ xs.drop r)) := by
  refine ⟨by simp; omega, fun x hx => ?_⟩
  rcases List.mem_append.mp hx with hx | hx
  · rcases List.mem_append.mp hx with hx | hx
    · exact (h x (List.mem_of_mem_take hx)).mono (by omega) (by omega)
    · simp at hx; subst hx; exact hd
  · exact (h x (List.mem_of_mem_drop hx)).mono (by omega) (by omega)
theorem spoilt_ok {i L : Nat} (hL : 2 ≤ L ∧ L ≤ 1000) : ∀ (k n : Nat) (d : D) (s : Store), Gd L n d → n < k → n ≤ 40 → Src s i → ∃ (d' : D) (s' : Store), mr__law_spoilt k [.cel i, d] s = .ok d' s' ∧ Src s' i ∧ Gd (L + 1) (n + 2) d'
  | 0, _, _, _, _, h, _, _ => by omega
  | k + 1, n, d, s, hg, hk, hn, hs => by
    show ∃ d' s', mFn 4 (b__law_spoilt (mr__law_spoilt k)) [.cel i, d] s = _ ∧ _
    rw [mFn_run]
    show ∃ d' s', endD (b__law_spoilt (mr__law_spoilt k) [.dat (.cel i), .dat d, .nul, .nul] s) = _ ∧ _
    unfold b__law_spoilt
    rw [mSeq_run, mIf_run]
    have oddRet : ∀ s, Src s i → ∃ (d' : D) (s' : Store), mRet (mCall 1 m__law_odd (mCons (mVar 0) mNil)) [.dat (.cel i), .dat d, .nul, .nul] s = .ok (.rt d') s' ∧ Src s' i ∧ Gd (L + 1) (n + 2) d' := fun s hs => by
      obtain ⟨d', s', e, hs', g⟩ := odd_draw hs
      exact ⟨d', s', by simp [e], hs', g.mono (by omega) (by omega)⟩
    cases d with
    | tup xs =>
      obtain ⟨hxl, m, rfl, gx⟩ := hg.tup
      have fe := fEq_unit (xs := xs) (hg.fine (by omega))
      cases hx0 : xs.isEmpty with
      | true =>
        rw [hx0] at fe
        obtain ⟨d', s', e, hs', g⟩ := oddRet s hs
        refine ⟨d', s', ?_, hs', g⟩
        rw [orT_b (p := false) (q := true) (by simp) fun _ => orT_b (p := true) (q := true) (test_b (by
          simp only [mOp_run, mPeek_run, mTup_run, mNil_run, List.getElem?_cons_succ, List.getElem?_cons_zero, R.bind_ok]
          rw [few_ok _ _ (by simp)]
          simp only [R.opt_some, R.bind_ok, fe])) (fun h => nomatch h)]
        simp only [Bool.or_true, R.bind_ok, e, endD_rt]
      | false =>
        rw [hx0] at fe
        have hx1 : 0 < xs.length := by cases xs with
          | nil => cases hx0
          | cons x xs => simp
        obtain ⟨a, s1, a0, a1, hs1, _, _, ea⟩ := draw_ok (n := 6) hs (by decide) (by decide)
        have t1 : (mOrT (mNotT (mTest (mOp1 (fIsi "tuple") (mPeek 1)))) (mOrT (mTest (mOp fEq (mPeek 1) (mTup mNil))) (mTest (mOp fEq (mCall 2 m__law_draw (mCons (mVar 0) (mCons (mCon (.int 6)) mNil))) (mCon (.int 0)))))) [.dat (.cel i), .dat (.tup xs), .nul, .nul] s = .ok (a == 0) s1 := by
          rw [mOrT_run, notT_b (p := true) (test_b (by simp))]
          simp only [Bool.not_true, R.bind_ok]
          rw [mOrT_run, test_b (p := false) (by
            simp only [mOp_run, mPeek_run, mTup_run, mNil_run, List.getElem?_cons_succ, List.getElem?_cons_zero, R.bind_ok]
            rw [few_ok _ _ (by simp)]
            simp only [R.opt_some, R.bind_ok, fe])]
          simp [ea]
        rw [t1]
        cases ha : a == 0 with
        | true =>
          obtain ⟨d', s', e, hs', g⟩ := oddRet s1 hs1
          exact ⟨d', s', by simp only [R.bind_ok, e, endD_rt], hs', g⟩
        | false =>
          obtain ⟨b, s2, b0, b1, hs2, _, _, eb⟩ := draw_ok (n := xs.length) hs1 (by omega) (by omega)
          obtain ⟨b, rfl⟩ : ∃ j : Nat, b = j := ⟨b.toNat, by omega⟩
          obtain ⟨c, s3, c0, c1, hs3, _, _, ec⟩ := draw_ok (n := 9) hs2 (by decide) (by decide)
          obtain ⟨c, rfl⟩ : ∃ j : Nat, c = j := ⟨c.toNat, by omega⟩
          have hb : b < xs.length := by omega
          have el : fLen [.tup xs] = some (.int xs.length) := rfl
          have par : mPar [2, 3] (mRcons (mSd (mCall 2 m__law_draw (mCons (mVar 0) (mCons (mBlt fLen (mCons (mPeek 1) mNil)) mNil)))) (mRcons (mSd (mCall 2 m__law_draw (mCons (mVar 0) (mCons (mCon (.int 9)) mNil)))) mRnil)) [.dat (.cel i), .dat (.tup xs), .nul, .nul] s1 = .ok (.nx [.dat (.cel i), .dat (.tup xs), .dat (.int b), .dat (.int c)]) s3 := by
            simp [el, eb, ec]
          simp only [R.bind_ok, mNext_run]
          rw [mSeq_run, par]
          simp only [R.bind_ok]
          have gx' : ∀ x ∈ xs, Gd (L + 1) (m + 2) x := fun x hx => (gx x hx).mono (by omega) (by omega)
          have tst : ∀ z : Nat, mTest (mOp fEq (mPeek 3) (mCon (.int z))) [.dat (.cel i), .dat (.tup xs), .dat (.int b), .dat (.int c)] s3 = .ok (decide (c = z)) s3 := fun z => by
            simp only [mTest_run, mOp_run, mPeek_run, mCon_run, List.getElem?_cons_succ, List.getElem?_cons_zero, R.bind_ok, fEq_ii, R.opt_some, toB_bl]
            congr 1
            rw [Bool.eq_iff_iff]; simp; omega
          rw [mSeq_run, mIf_run, show mTest (mOp fEq (mPeek 3) (mCon (.int 0))) _ s3 = _ from tst 0]
          by_cases z0 : c = 0
          · have t2 := tup_cat (xs := xs.take b) (ys := xs.drop (b + 1)) (by simp; omega)
            refine ⟨.tup (xs.take b ++ xs.drop (b + 1)), s3, ?_, hs3, ?_⟩
            · simp only [decide_eq_true z0, R.bind_ok, mRet_run, mOp_run]
              rw [xTo_ok]
              simp only [R.bind_ok]
              rw [xFr1_ok]
              simp only [R.bind_ok, t2, R.opt_some, endD_rt]
            · refine ⟨by simp; omega, fun x hx => ?_⟩
              rcases List.mem_append.mp hx with hx | hx
              · exact gx' x (List.mem_of_mem_take hx)
              · exact gx' x (List.mem_of_mem_drop hx)
          · simp only [decide_eq_false z0, R.bind_ok, mNext_run]
            rw [mSeq_run, mIf_run, show mTest (mOp fEq (mPeek 3) (mCon (.int 1))) _ s3 = _ from tst 1]
            by_cases z1 : c = 1
            · have t2 := tup_cat (xs := xs.take (b + 1)) (ys := xs.drop b) (by simp; omega)
              refine ⟨.tup (xs.take (b + 1) ++ xs.drop b), s3, ?_, hs3, ?_⟩
              · simp only [decide_eq_true z1, R.bind_ok, mRet_run, mOp_run]
                rw [xTo1_ok]
                simp only [R.bind_ok]
                rw [xFr_ok]
                simp only [R.bind_ok, t2, R.opt_some, endD_rt]
              · refine ⟨by simp; omega, fun x hx => ?_⟩
                rcases List.mem_append.mp hx with hx | hx
                · exact gx' x (List.mem_of_mem_take hx)
                · exact gx' x (List.mem_of_mem_drop hx)
            · simp only [decide_eq_false z1, R.bind_ok, mNext_run]
              rw [mSeq_run, mIf_run, show mTest (mOp fEq (mPeek 3) (mCon (.int 2))) _ s3 = _ from tst 2]
              by_cases z2 : c = 2
              · obtain ⟨d', s4, e, hs4, g⟩ := odd_draw hs3
                refine ⟨.tup (xs.take b ++ [d'] ++ xs.drop b), s4, ?_, hs4, gd_put gx hxl (g.mono (by omega) (by omega)) hb (Nat.le_refl b)⟩
                simp only [decide_eq_true z2, R.bind_ok]
                rw [put_run (s' := s4) (xs := xs.take b) (ys := xs.drop b) (d := d') xTo_ok (by simp [e]) xFr_ok (by simp; omega)]
                rfl
              · simp only [decide_eq_false z2, R.bind_ok, mNext_run]
                rw [mSeq_run, mIf_run, show mTest (mOp fEq (mPeek 3) (mCon (.int 3))) _ s3 = _ from tst 3]
                by_cases z3 : c = 3
                · refine ⟨.lst xs, s3, ?_, hs3, ⟨by omega, gx'⟩⟩
                  simp only [decide_eq_true z3, R.bind_ok, mRet_run, mBlt_run, mCons_run, mPeek_run, mNil_run, List.getElem?_cons_succ, List.getElem?_cons_zero]
                  rfl
                · simp only [decide_eq_false z3, R.bind_ok, mNext_run]
                  have ix : fIx (.tup xs) (.int (b : Int)) = some xs[b] := by
                    show atI xs (b : Int) = _
                    exact atI_nat hb
                  have dr : ∀ s : Store, s.deref (.tup xs) = .tup xs := fun _ => rfl
                  have gb := gx _ (List.getElem_mem hb)
                  have lt6 : mTest (mOp fLt (mPeek 3) (mCon (.int 6))) [.dat (.cel i), .dat (.tup xs), .dat (.int b), .dat (.int c)] s3 = .ok (decide ((c : Int) < 6)) s3 := by simp
                  have recr : ∃ (d' : D) (s' : Store), endD (mRet (mOp fAdd (mOp fAdd xTo (mTup (mCons (mCall 2 (mr__law_spoilt k) (mCons (mVar 0) (mCons (mIx (mPeek 1) (mVar 2)) mNil))) mNil))) xFr1) [.dat (.cel i), .dat (.tup xs), .dat (.int b), .dat (.int c)] s3) = .ok d' s' ∧ Src s' i ∧ Gd (L + 1) (m + 1 + 2) d' := by
                    obtain ⟨d', s4, e, hs4, g⟩ := spoilt_ok hL k m xs[b] s3 gb (by omega) (by omega) hs3
                    refine ⟨.tup (xs.take b ++ [d'] ++ xs.drop (b + 1)), s4, ?_, hs4, gd_put gx hxl g hb (by omega)⟩
                    rw [put_run (s' := s4) (xs := xs.take b) (ys := xs.drop (b + 1)) (d := d') xTo_ok (by simp [dr, ix, e]) xFr1_ok (by simp; omega)]
                    rfl
                  have num : ∀ (z : Int), (∀ v : Int, ∃ w : Int, (fAdd xs[b] (.int v) = some (.int w))) → ∃ (d' : D) (s' : Store), mRet (mOp fAdd (mOp fAdd xTo (mTup (mCons (mOp fSub (mOp fAdd (mIx (mPeek 1) (mVar 2)) (mCall 2 m__law_draw (mCons (mVar 0) (mCons (mCon (.int 3)) mNil)))) (mCon (.int 1))) mNil))) xFr1) [.dat (.cel i), .dat (.tup xs), .dat (.int b), .dat (.int c)] s3 = .ok (.rt d') s' ∧ Src s' i ∧ Gd (L + 1) (m + 1 + 2) d' := fun _ h => by
                    obtain ⟨v, s4, v0, v1, hs4, _, _, ev⟩ := draw_ok (n := 3) hs3 (by decide) (by decide)
                    obtain ⟨w, hw⟩ := h v
                    refine ⟨.tup (xs.take b ++ [.int (w - 1)] ++ xs.drop (b + 1)), s4, ?_, hs4, gd_put gx hxl (gd_int _) hb (by omega)⟩
                    rw [put_run (s' := s4) (xs := xs.take b) (ys := xs.drop (b + 1)) (d := .int (w - 1)) xTo_ok (by simp [dr, ix, ev, hw]) xFr1_ok (by simp; omega)]
                  rw [mSeq_run, mIf_run]
                  have ti : ∀ q : Bool, fIsi "int" xs[b] = some (.bl q) → mTest (mOp1 (fIsi "int") (mIx (mPeek 1) (mVar 2))) [.dat (.cel i), .dat (.tup xs), .dat (.int b), .dat (.int c)] s3 = .ok q s3 := fun q hq => test_b (by simp [dr, ix, hq])
                  have go : ∀ q : Bool, fIsi "int" xs[b] = some (.bl q) → (q = true → ∀ v : Int, ∃ w : Int, (fAdd xs[b] (.int v) = some (.int w))) → ∃ (d' : D) (s' : Store), endD ((((mAndT (mTest (mOp1 (fIsi "int") (mIx (mPeek 1) (mVar 2)))) (mTest (mOp fLt (mPeek 3) (mCon (.int 6))))) [.dat (.cel i), .dat (.tup xs), .dat (.int b), .dat (.int c)] s3).bind fun b1 s1 => match b1 with
                      | true => mRet (mOp fAdd (mOp fAdd xTo (mTup (mCons (mOp fSub (mOp fAdd (mIx (mPeek 1) (mVar 2)) (mCall 2 m__law_draw (mCons (mVar 0) (mCons (mCon (.int 3)) mNil)))) (mCon (.int 1))) mNil))) xFr1) [.dat (.cel i), .dat (.tup xs), .dat (.int b), .dat (.int c)] s1
                      | false => mNext [.dat (.cel i), .dat (.tup xs), .dat (.int b), .dat (.int c)] s1).bind fun o s1 => match o with
                      | .nx Γ1 => mRet (mOp fAdd (mOp fAdd xTo (mTup (mCons (mCall 2 (mr__law_spoilt k) (mCons (mVar 0) (mCons (mIx (mPeek 1) (mVar 2)) mNil))) mNil))) xFr1) Γ1 s1
                      | o => .ok o s1) = .ok d' s' ∧ Src s' i ∧ Gd (L + 1) (m + 1 + 2) d' := fun q hq hw => by
                    rw [andT_b (p := q) (q := decide ((c : Int) < 6)) (ti q hq) fun _ => lt6]
                    cases hqq : q && decide ((c : Int) < 6) with
                    | false =>
                      simp only [R.bind_ok, mNext_run]
                      exact recr
                    | true =>
                      obtain ⟨h1, _⟩ := Bool.and_eq_true_iff.mp hqq
                      obtain ⟨d', s', e, h2, h3⟩ := num 0 (hw h1)
                      refine ⟨d', s', ?_, h2, h3⟩
                      simp only [R.bind_ok]
                      rw [e]
                      rfl
                  generalize hxb : xs[b] = v at *
                  cases v with
                  | int z => exact go true rfl fun _ v => ⟨_, rfl⟩
                  | bl z => exact go true rfl fun _ v => ⟨_, rfl⟩
                  | cel _ => exact (Gd.ty gb).elim
                  | scr _ => exact (Gd.ty gb).elim
                  | dki _ _ => exact (Gd.ty gb).elim
                  | _ => exact go false rfl fun h => nomatch h
    | cel _ => exact hg.ty.elim
    | scr _ => exact hg.ty.elim
    | dki _ _ => exact hg.ty.elim
    | _ =>
      obtain ⟨d', s', e, hs', g⟩ := oddRet s hs
      refine ⟨d', s', ?_, hs', g⟩
      rw [orT_b (p := true) (q := true) (by simp) (fun h => nomatch h)]
      simp only [Bool.or_true, R.bind_ok, e, endD_rt]
end PD
set_option maxRecDepth 100000
set_option maxHeartbeats 4000000
set_option exponentiation.threshold 20000
namespace PD
open PySem PySem.Spec PyProof.Rows L2
/-! ## the law -/
abbrev tellB : MS := mSeq (mIf (mNotT (mTest (mCall 2 m__law_told_right (mCons (mVar 3) (mCons (mVar 6) mNil))))) (mRet (mCon (.bl false))) mNext)
  (mAsg 6 (mSd (mCall 2 m__law_spoilt (mCons (mVar 2) (mCons (mVar 6) mNil)))))
theorem tell_loop {x0 x1 x4 x5 x7 x8 : SV} {i n : Nat} {dd v : D} {s : Store} (hg : Ty2 dd) (hdd : isDebts dd = true) (hd : fLen [dd] = some (.int n)) (hn : n ≤ 1000) (hv : Gd 5 3 v) (hs : Src s i) :
    ∃ (y6 y7 : SV) (s' : Store), mFor (mRng fRng1 (mCons (mCon (.int 5)) mNil)) (.nm 7) tellB [x0, x1, .dat (.cel i), .dat dd, x4, x5, .dat v, x7, x8] s = .ok (.nx [x0, x1, .dat (.cel i), .dat dd, x4, x5, y6, y7, x8]) s' ∧ Src s' i := by
  obtain ⟨Γ', s', ⟨hs', w, y7, rfl, _⟩, e⟩ := for_ix (.nm 7) tellB (fun j Γ s => Src s i ∧ ∃ w x7, Γ = [x0, x1, .dat (.cel i), .dat dd, x4, x5, .dat w, x7, x8] ∧ Gd (5 + j) (3 + 2 * j) w) 5 0 [x0, x1, .dat (.cel i), .dat dd, x4, x5, .dat v, x7, x8] s ⟨hs, v, x7, rfl, hv⟩ fun j _ hj Γ s hI => by
    obtain ⟨hs, w, x7, rfl, hw⟩ := hI
    have e1 := told_ok (s := s) hg hdd hw (by omega) (by omega) hd hn
    obtain ⟨w', s', e2, hs', hw'⟩ := spoilt_ok (L := 5 + j) (by omega) 12 (3 + 2 * j) w s hw (by omega) (by omega) hs
    refine ⟨[x0, x1, .dat (.cel i), .dat dd, x4, x5, .dat w, .dat (.int j), x8], [x0, x1, .dat (.cel i), .dat dd, x4, x5, .dat w', .dat (.int j), x8], s', rfl, ?_, hs', w', _, rfl, ?_⟩
    · rw [tellB, mSeq_run, mIf_run, notT_b (p := true) (test_b (by simp [e1]))]
      simp only [Bool.not_true, R.bind_ok, mNext_run, mAsg_run, mSd_run, mCall_run, mCons_run, mVar_run, mNil_run, List.getElem?_cons_succ, List.getElem?_cons_zero, List.length_cons, List.length_nil, Nat.reduceAdd, if_true, e2, List.set_cons_succ, List.set_cons_zero]
    · rw [show 5 + (j + 1) = 5 + j + 1 by omega, show 3 + 2 * (j + 1) = 3 + 2 * j + 2 by omega]
      exact hw'
  refine ⟨.dat w, y7, s', ?_, hs'⟩
  have r5 : fRng1 [.int 5] = some ((List.range' 0 5).map fun (j : Nat) => D.int (j : Int)) := fRng1_ix (n := 5) (by omega)
  rw [mFor_run]
  simp only [mRng_run, mCons_run, mCon_run, mNil_run, R.bind_ok, r5, R.opt_some, e]
abbrev cellB : MS := mSeq (mCell 2 (mCallO 2 m__law_source (mCons (mVar 0) (mCons (mVar 1) mNil))))
  (mSeq (mAsg 3 (mSd (mCall 2 m__law_debts (mCons (mVar 2) (mCons (mCon (.int 4)) mNil)))))
  (mSeq (mAsg 4 (mSd (mCall 3 m__law_facts (mCons (mVar 2) (mCons (mBlt fLen (mCons (mPeek 3) mNil)) (mCons (mCon (.int 5)) mNil))))))
  (mSeq (mAsg 5 (mSd (mCall 2 m__law_amounts (mCons (mVar 2) (mCons (mBlt fLen (mCons (mPeek 3) mNil)) mNil)))))
  (mSeq (mIf (mTest (mOp fNe (mCall 3 m_keeps (mCons (mVar 3) (mCons (mVar 4) (mCons (mVar 5) mNil)))) (mCall 2 m__law_keeps (mCons (mVar 4) (mCons (mVar 5) mNil))))) (mRet (mCon (.bl false))) mNext)
  (mSeq (mIf (mTest (mOp fNe (mCall 2 m_possible (mCons (mVar 3) (mCons (mVar 4) mNil))) (mCall 2 m__law_possible (mCons (mVar 3) (mCons (mVar 4) mNil))))) (mRet (mCon (.bl false))) mNext)
  (mFor (mItems (mLst (mCons (mVar 3) (mCons (mVar 4) (mCons (mVar 5) mNil))))) (.nm 6) (mFor (mRng fRng1 (mCons (mCon (.int 5)) mNil)) (.nm 7) tellB)))))))
theorem cell_ok {x2 x3 x4 x5 x6 x7 x8 : SV} {ns : List Int} {k : Nat} {s : Store} (hk : k ≤ 1000) : ∃ (y2 y3 y4 y5 y6 y7 : SV) (s' : Store), cellB [.dat (.scr ns), .dat (.int k), x2, x3, x4, x5, x6, x7, x8] s = .ok (.nx [.dat (.scr ns), .dat (.int k), y2, y3, y4, y5, y6, y7, x8]) s' := by
  obtain ⟨c, z, hc, hz, hz2, e0⟩ := source_ok ns k hk s
  have s0 := Src.app (s := s) hc hz hz2
  generalize hi : s.length = i at s0
  generalize hs0 : s ++ [.lst [.int c, .int z]] = s0' at s0
  obtain ⟨n, rs, s1, e1, hs1, n2, n4, hd⟩ := debts_draw (most := 4) s0 (by omega)
  obtain ⟨dg, dl, dG⟩ := debts_are hd ⟨n2, n4⟩
  obtain ⟨fs, s2, e2, hs2, fl, hf⟩ := facts_draw (n := n) (most := 5) hs1 (by omega) (by omega)
  obtain ⟨fg, fG⟩ := facts_are fl hf
  obtain ⟨as, s3, e3, hs3, al, ha⟩ := amts_draw (n := n) hs2 (by omega)
  obtain ⟨ag, aG⟩ := amts_are al ha
  have ty : Ty2 (eDb rs) := (dG 5 0 (by omega)).ty2
  have e4 := keeps_ok (s := s3) ty dg dl (by omega) (fG 5 0 (by omega) (by omega)) fg (aG 5 0 (by omega) (by omega)) ag (fun f h => (hf f h).ok) (by omega) (fun a h => (ha a h).1) al
  have e5 := lkeeps_ok (n := n) (fs := fs) (as := as) (s := s3) (fun f h => (hf f h).ok) (fun a h => (ha a h).1) al (by omega)
  obtain ⟨r, hcan, e6, -⟩ := possible_ok (s := s3) ty dg dl n4 (fG 5 0 (by omega) (by omega)) fg (fun f h => (hf f h).ok) fl
  obtain ⟨c', e7⟩ := lpossible_ok (s := s3) dl n4 (fun f h => (hf f h).ok) fl hcan
  have hs4 : Src (s3 ++ [c']) i := by
    obtain ⟨a, b, h, r⟩ := hs3
    exact ⟨a, b, by rw [List.getElem?_append_left (List.getElem?_eq_some_iff.mp h).1]; exact h, r⟩
  obtain ⟨y6, y7, s5, f1, hs5⟩ := tell_loop (x0 := .dat (.scr ns)) (x1 := .dat (.int k)) (x4 := .dat (eFs fs)) (x5 := .dat (eAs as)) (x7 := x7) (x8 := x8) (v := eDb rs) ty dg dl (by omega) (dG 5 1 (by omega)) hs4
  obtain ⟨z6, z7, s6, f2, hs6⟩ := tell_loop (x0 := .dat (.scr ns)) (x1 := .dat (.int k)) (x4 := .dat (eFs fs)) (x5 := .dat (eAs as)) (x7 := y7) (x8 := x8) (v := eFs fs) ty dg dl (by omega) (fG 5 0 (by omega) (by omega)) hs5
  obtain ⟨w6, w7, s7, f3, hs7⟩ := tell_loop (x0 := .dat (.scr ns)) (x1 := .dat (.int k)) (x4 := .dat (eFs fs)) (x5 := .dat (eAs as)) (x7 := z7) (x8 := x8) (v := eAs as) ty dg dl (by omega) (aG 5 1 (by omega) (by omega)) hs6
  refine ⟨.dat (.cel i), .dat (eDb rs), .dat (eFs fs), .dat (eAs as), w6, w7, s7, ?_⟩
  have a0 : mCell 2 (mCallO 2 m__law_source (mCons (mVar 0) (mCons (mVar 1) mNil))) [.dat (.scr ns), .dat (.int k), x2, x3, x4, x5, x6, x7, x8] s = .ok (.nx [.dat (.scr ns), .dat (.int k), .dat (.cel i), x3, x4, x5, x6, x7, x8]) s0' := by
    simp only [mCell_run, mCallO_run, mCons_run, mVar_run, mNil_run, R.bind_ok, List.getElem?_cons_zero, List.getElem?_cons_succ, List.length_cons, List.length_nil, e0, if_true, Nat.reduceAdd, List.set_cons_succ, List.set_cons_zero, hi, hs0]
  have lp : forGo (.nm 6) (mFor (mRng fRng1 (mCons (mCon (.int 5)) mNil)) (.nm 7) tellB) [eDb rs, eFs fs, eAs as] [.dat (.scr ns), .dat (.int k), .dat (.cel i), .dat (eDb rs), .dat (eFs fs), .dat (eAs as), x6, x7, x8] (s3 ++ [c']) = .ok (.nx [.dat (.scr ns), .dat (.int k), .dat (.cel i), .dat (eDb rs), .dat (eFs fs), .dat (eAs as), w6, w7, x8]) s7 := by
    show ((mFor (mRng fRng1 (mCons (mCon (.int 5)) mNil)) (.nm 7) tellB [.dat (.scr ns), .dat (.int k), .dat (.cel i), .dat (eDb rs), .dat (eFs fs), .dat (eAs as), .dat (eDb rs), x7, x8] (s3 ++ [c'])).bind _) = _
    rw [f1]
    show ((mFor (mRng fRng1 (mCons (mCon (.int 5)) mNil)) (.nm 7) tellB [.dat (.scr ns), .dat (.int k), .dat (.cel i), .dat (eDb rs), .dat (eFs fs), .dat (eAs as), .dat (eFs fs), y7, x8] s5).bind _) = _
    rw [f2]
    show ((mFor (mRng fRng1 (mCons (mCon (.int 5)) mNil)) (.nm 7) tellB [.dat (.scr ns), .dat (.int k), .dat (.cel i), .dat (eDb rs), .dat (eFs fs), .dat (eAs as), .dat (eAs as), z7, x8] s6).bind _) = _
    rw [f3]
    rfl
  have i4 : (D.int ((4 : Nat) : Int)) = .int 4 := rfl
  have i5 : (D.int ((5 : Nat) : Int)) = .int 5 := rfl
  rw [i4] at e1
  rw [i5] at e2
  have it : fItems (.lst [eDb rs, eFs fs, eAs as]) = some [eDb rs, eFs fs, eAs as] := rfl
  rw [cellB, mSeq_run, a0]
  simp only [R.bind_ok, mSeq_run, mAsg_run, mSd_run, mCall_run, mCons_run, mVar_run, mCon_run, mNil_run, mBlt_run, mPeek_run, List.getElem?_cons_succ, List.getElem?_cons_zero, List.length_cons, List.length_nil, Nat.reduceAdd, if_true, e1, dl, R.opt_some, e2, e3, List.set_cons_succ, List.set_cons_zero, mIf_run, mTest_run, mOp_run, e4, e5, e6, e7, fNe_bb, beq_self_eq_true, Bool.not_true, toB_bl, mNext_run, mFor_run, mItems_run, mLst_run]
  rw [few_ok _ _ (by simp)]
  simp only [R.opt_some, R.bind_ok, it]
  exact lp
/-! ### the end of the law -/
def endF1 : Fct := ⟨"atleast", [0], [], 5⟩
def endF2 : Fct := ⟨"more", [], [0], -5⟩
def endDs : List (List Int) := [[0, 4], [2, 0]]
theorem end_debts : DebtsAre 2 2 endDs := by
  refine ⟨rfl, fun p xs h => ?_⟩
  match p, h with
  | 0, h => cases h; exact ⟨rfl, by simp [Owed], fun _ => rfl⟩
  | 1, h => cases h; exact ⟨rfl, by simp [Owed], fun _ => rfl⟩
  | p + 2, h => simp [endDs] at h
theorem endF1_is : FctIs 2 endF1 := ⟨⟨by simp [endF1], by simp [endF1], by simp [endF1], by simp [endF1]⟩, ⟨by simp [endF1], by simp [endF1], by simp [endF1]⟩, ⟨by simp [endF1], by simp [endF1], by simp [endF1]⟩⟩
theorem endF2_is : FctIs 2 endF2 := ⟨⟨by simp [endF2], by simp [endF2], by simp [endF2], by simp [endF2]⟩, ⟨by simp [endF2], by simp [endF2], by simp [endF2]⟩, ⟨by simp [endF2], by simp [endF2], by simp [endF2]⟩⟩
theorem end_rows1 : frows 2 [endF1] = [([1, 0, -5], false)] := by decide +kernel
theorem end_rows2 : frows 2 [endF1, endF2] = [([1, 0, -5], false), ([-1, 0, 5], true)] := by decide +kernel
theorem end_fits : ∃ u, Fits (frows 2 [endF1]) 2 u := by
  rw [end_rows1]
  refine ⟨fun q => if q = 0 then 5 else if q = 1 then 0 else 1, fun q _ => ?_, ?_, fun p hp => ?_⟩
  · show (0 : Int) ≤ if q = 0 then 5 else if q = 1 then 0 else 1
    split
    · decide
    · split <;> decide
  · decide
  · simp at hp; subst hp
    exact ⟨by decide, fun h => nomatch h⟩
theorem end_no : ¬∃ u, Fits (frows 2 [endF1, endF2]) 2 u := by
  rw [end_rows2]
  rintro ⟨u, h⟩
  have h1 := (h.rows ([1, 0, -5], false) (by simp)).1
  have h2 := (h.rows ([-1, 0, 5], true) (by simp)).2 rfl
  simp [dotN, nth] at h1 h2
  omega
theorem pos_ok {fs : List Fct} {s : Store} (hl : fs.length ≤ 5) (hf : ∀ f ∈ fs, FctIs 2 f) : ∃ r : Bool, m_possible [eDb endDs, eFs fs] s = .ok (.bl r) s ∧ (r = true ↔ ∃ u, Fits (frows 2 fs) 2 u) := by
  obtain ⟨dg, dl, dG⟩ := debts_are end_debts (by omega)
  obtain ⟨fg, fG⟩ := facts_are hl hf
  obtain ⟨r, _, e, h⟩ := possible_ok (s := s) (dG 5 0 (by omega)).ty2 dg dl (by omega) (fG 5 0 (by omega) (by omega)) fg (fun f h => (hf f h).ok) hl
  exact ⟨r, e, h⟩
abbrev tailB : MS := mSeq (mPar [3, 8] (mRcons (mSd (mTup (mCons (mTup (mCons (mCon (.int 0)) (mCons (mCon (.int 4)) mNil))) (mCons (mTup (mCons (mCon (.int 2)) (mCons (mCon (.int 0)) mNil))) mNil)))) (mRcons (mSd (mTup (mCons (mTup (mCons (mCon (.str "atleast")) (mCons (mTup (mCons (mCon (.int 0)) mNil)) (mCons (mTup mNil) (mCons (mCon (.int 5)) mNil))))) (mCons (mTup (mCons (mCon (.str "more")) (mCons (mTup mNil) (mCons (mTup (mCons (mCon (.int 0)) mNil)) (mCons (mOp1 fNeg (mCon (.int 5))) mNil))))) mNil)))) mRnil)))
  (mSeq (mIf (mOrT (mTest (mCall 2 m_possible (mCons (mVar 3) (mCons (mVar 8) mNil)))) (mNotT (mTest (mCall 2 m_possible (mCons (mVar 3) (mCons (mSl (mPeek 8) mNoPart (mPart (mCon (.int 1)))) mNil)))))) (mRet (mCon (.bl false))) mNext)
  (mRet (mNotV (mCall 1 m_is_debts (mCons (mTup (mCons (mTup (mCons (mCon (.int 0)) (mCons (mCon (.int 1)) mNil))) (mCons (mTup (mCons (mCon (.int 0)) (mCons (mCon (.int 1)) mNil))) mNil))) mNil)))))
theorem tail_ok {x0 x1 x2 x3 x4 x5 x6 x7 x8 : SV} {s : Store} : tailB [x0, x1, x2, x3, x4, x5, x6, x7, x8] s = .ok (.rt (.bl true)) s := by
  obtain ⟨r1, e1, h1⟩ := pos_ok (fs := [endF1, endF2]) (s := s) (by simp) (fun f h => by simp at h; rcases h with rfl | rfl; exact endF1_is; exact endF2_is)
  obtain ⟨r2, e2, h2⟩ := pos_ok (fs := [endF1]) (s := s) (by simp) (fun f h => by simp at h; subst h; exact endF1_is)
  have r1f : r1 = false := by
    cases r1 with
    | false => rfl
    | true => exact absurd (h1.mp rfl) end_no
  have r2t : r2 = true := h2.mpr end_fits
  subst r1f r2t
  have a1 : mPar [3, 8] (mRcons (mSd (mTup (mCons (mTup (mCons (mCon (.int 0)) (mCons (mCon (.int 4)) mNil))) (mCons (mTup (mCons (mCon (.int 2)) (mCons (mCon (.int 0)) mNil))) mNil)))) (mRcons (mSd (mTup (mCons (mTup (mCons (mCon (.str "atleast")) (mCons (mTup (mCons (mCon (.int 0)) mNil)) (mCons (mTup mNil) (mCons (mCon (.int 5)) mNil))))) (mCons (mTup (mCons (mCon (.str "more")) (mCons (mTup mNil) (mCons (mTup (mCons (mCon (.int 0)) mNil)) (mCons (mOp1 fNeg (mCon (.int 5))) mNil))))) mNil)))) mRnil)) [x0, x1, x2, x3, x4, x5, x6, x7, x8] s = .ok (.nx [x0, x1, x2, .dat (eDb endDs), x4, x5, x6, x7, .dat (eFs [endF1, endF2])]) s := rfl
  have sl : mSl (mPeek 8) mNoPart (mPart (mCon (.int 1))) [x0, x1, x2, .dat (eDb endDs), x4, x5, x6, x7, .dat (eFs [endF1, endF2])] s = .ok (eFs [endF1]) s := rfl
  have lastD' : Gd 5 2 (.tup [.tup [.int 0, .int 1], .tup [.int 0, .int 1]]) := ⟨by simp, fun x hx => by
    simp at hx; subst hx
    exact ⟨by simp, by simp [Gd]⟩⟩
  have e3 := isdebts_ok (s := s) lastD'.ty2
  have nd : isDebts (.tup [.tup [.int 0, .int 1], .tup [.int 0, .int 1]]) = false := by decide +kernel
  rw [nd] at e3
  have tp : mTup (mCons (mTup (mCons (mCon (.int 0)) (mCons (mCon (.int 1)) mNil))) (mCons (mTup (mCons (mCon (.int 0)) (mCons (mCon (.int 1)) mNil))) mNil)) [x0, x1, x2, .dat (eDb endDs), x4, x5, x6, x7, .dat (eFs [endF1, endF2])] s = .ok (.tup [.tup [.int 0, .int 1], .tup [.int 0, .int 1]]) s := rfl
  rw [tailB, mSeq_run, a1]
  simp only [R.bind_ok]
  rw [mSeq_run, mIf_run, orT_b (p := false) (q := false) (test_b (by
    simp only [mCall_run, mCons_run, mVar_run, mNil_run, List.getElem?_cons_succ, List.getElem?_cons_zero, R.bind_ok, List.length_cons, List.length_nil, Nat.reduceAdd, if_true, e1])) fun _ => notT_b (p := true) (test_b (by
    simp only [mCall_run, mCons_run, mVar_run, mNil_run, sl, List.getElem?_cons_succ, List.getElem?_cons_zero, R.bind_ok, List.length_cons, List.length_nil, Nat.reduceAdd, if_true, e2]))]
  simp only [Bool.or_false, R.bind_ok, mNext_run, mRet_run]
  rw [not_b (p := false) (by
    simp only [mCall_run, mCons_run, mNil_run, tp, R.bind_ok, List.length_cons, List.length_nil, Nat.reduceAdd, if_true, e3])]
  rfl
theorem law_ok (ns : List Int) (h : ns.length ≤ 63) : ∃ s, m_law [.scr ns] [] = .ok (.bl true) s := by
  obtain ⟨Γ', s', ⟨x1, x2, x3, x4, x5, x6, x7, x8, rfl⟩, h2⟩ := for_inv (.nm 1) cellB (fun Γ _ => ∃ x1 x2 x3 x4 x5 x6 x7 x8, Γ = [.dat (.scr ns), x1, x2, x3, x4, x5, x6, x7, x8]) ((List.range (1 + min ns.length 10)).map fun (k : Nat) => D.int (k : Int)) [.dat (.scr ns), .nul, .nul, .nul, .nul, .nul, .nul, .nul, .nul] [] ⟨.nul, .nul, .nul, .nul, .nul, .nul, .nul, .nul, rfl⟩ fun d hd Γ s hI => by
    obtain ⟨x1, x2, x3, x4, x5, x6, x7, x8, rfl⟩ := hI
    obtain ⟨k, hk, rfl⟩ := List.mem_map.mp hd
    have hk := List.mem_range.mp hk
    obtain ⟨y2, y3, y4, y5, y6, y7, s', e⟩ := cell_ok (ns := ns) (k := k) (x2 := x2) (x3 := x3) (x4 := x4) (x5 := x5) (x6 := x6) (x7 := x7) (x8 := x8) (s := s) (by omega)
    exact ⟨[.dat (.scr ns), .dat (.int k), x2, x3, x4, x5, x6, x7, x8], _, s', rfl, e, _, _, _, _, _, _, _, _, rfl⟩
  refine ⟨s', ?_⟩
  have e1 : fLen [.scr ns] = some (.int ns.length) := rfl
  have e2 : fMin [.int ns.length, .int 10] = some (.int ((min ns.length 10 : Nat) : Int)) := by
    show some (D.int (if (10 : Int) < ns.length then 10 else ns.length)) = _
    congr 2
    split <;> omega
  have e3 : fRng1 [.int (1 + ((min ns.length 10 : Nat) : Int))] = some ((List.range (1 + min ns.length 10)).map fun (k : Nat) => D.int (k : Int)) := by
    rw [show (1 + ((min ns.length 10 : Nat) : Int)) = ((1 + min ns.length 10 : Nat) : Int) by omega]
    exact fRng1_nat (by omega)
  show endD (mSeq (mFor (mRng fRng1 (mCons (mOp fAdd (mCon (.int 1)) (mBlt fMin (mCons (mBlt fLen (mCons (mPeek 0) mNil)) (mCons (mCon (.int 10)) mNil)))) mNil)) (.nm 1) cellB) tailB [.dat (.scr ns), .nul, .nul, .nul, .nul, .nul, .nul, .nul, .nul] []) = _
  rw [mSeq_run, mFor_run]
  simp only [mRng_run, mCons_run, mOp_run, mCon_run, mBlt_run, mPeek_run, mNil_run, R.bind_ok, List.getElem?_cons_zero, e1, e2, R.opt_some, fAdd_ii, e3, h2]
  show endD (tailB _ s') = _
  rw [tail_ok]
  rfl
end PD
set_option maxRecDepth 100000
set_option maxHeartbeats 0
namespace PD
open PySem PySem.Spec PyProof.Rows L2
section
variable {P : Program} {w : World} {K : PySem.W.Frag} {mg : Str → Option Value} {base : Heap}
theorem T0_ok {h : Heap} (X : K.In h) (G : h.Ns mainGlobals mg) (c : SaysL hfa hfn hex K) : TOk P w K mg base 0 T_0 := by
  refine .cons ⟨.ref (He.ga K "WORDS"), _, He.glo_ok X G (c.mem (List.mem_of_getElem? (i := 80) (a := He.Fa.glo "WORDS") rfl)), rfl, fun W => .tup (vs := w_WORDS.map V.str) (tupD_ok c.ext W.F) (repL_strs _)⟩ (.cons ?_ fun e he => nomatch he)
  obtain ⟨t, ht⟩ := He.int_ok X G (c.mem (List.mem_of_getElem? (i := 81) (a := He.Fa.int "LARGEST" 1000000000000) rfl))
  exact ⟨.int 1000000000000, _, ht, ⟨t, rfl⟩, fun W => .int _⟩
def P_divisor : List Str := ["numbers"]
theorem s_divisor : scB N_divisor P_divisor (defScope (top 6)) = true := by kernel_rfl
theorem a_divisor : BindF "divisor" (top 6) P_divisor := fun _ _ _ _ _ _ us hl => match us, hl with | [_], _ => by kernel_rfl
theorem c_0 {k : Nat} (ok : TOk P w K mg base k T_0) (F : FunA K "divisor" "divisor" (top 6)) (g : mg "divisor" = some (.ref (He.ga K "divisor"))) (hf : ∀ x ∈ BB, mg x = none) : TOk P w K mg base (k + 1) T_1 := add_d ok F g hf s_divisor rfl rfl a_divisor (t_divisor k)
def P_lowest : List Str := ["top", "below"]
theorem s_lowest : scB N_lowest P_lowest (defScope (top 7)) = true := by kernel_rfl
theorem a_lowest : BindF "lowest" (top 7) P_lowest := fun _ _ _ _ _ _ us hl => match us, hl with | [_, _], _ => by kernel_rfl
theorem c_1 {k : Nat} (ok : TOk P w K mg base k T_1) (F : FunA K "lowest" "lowest" (top 7)) (g : mg "lowest" = some (.ref (He.ga K "lowest"))) (hf : ∀ x ∈ BB, mg x = none) : TOk P w K mg base (k + 1) T_2 := add_d ok F g hf s_lowest rfl rfl a_lowest (t_lowest k)
def P_neat : List Str := ["numbers"]
theorem s_neat : scB N_neat P_neat (defScope (top 8)) = true := by kernel_rfl
theorem a_neat : BindF "neat" (top 8) P_neat := fun _ _ _ _ _ _ us hl => match us, hl with | [_], _ => by kernel_rfl
theorem c_2 {k : Nat} (ok : TOk P w K mg base k T_2) (F : FunA K "neat" "neat" (top 8)) (g : mg "neat" = some (.ref (He.ga K "neat"))) (hf : ∀ x ∈ BB, mg x = none) : TOk P w K mg base (k + 1) T_3 := add_d ok F g hf s_neat rfl rfl a_neat (t_neat k)
def P_table_of : List Str := ["lines"]
theorem s_table_of : scB N_table_of P_table_of (defScope (top 9)) = true := by kernel_rfl
theorem a_table_of : BindF "table_of" (top 9) P_table_of := fun _ _ _ _ _ _ us hl => match us, hl with | [_], _ => by kernel_rfl
theorem c_3 {k : Nat} (ok : TOk P w K mg base k T_3) (F : FunA K "table_of" "table_of" (top 9)) (g : mg "table_of" = some (.ref (He.ga K "table_of"))) (hf : ∀ x ∈ BB, mg x = none) : TOk P w K mg base (k + 1) T_4 := add_d ok F g hf s_table_of rfl rfl a_table_of (t_table_of k)
def P_cleared : List Str := ["line", "pivot", "at"]
theorem s_cleared : scB N_cleared P_cleared (defScope (top 10)) = true := by kernel_rfl
theorem a_cleared : BindF "cleared" (top 10) P_cleared := fun _ _ _ _ _ _ us hl => match us, hl with | [_, _, _], _ => by kernel_rfl
theorem c_4 {k : Nat} (ok : TOk P w K mg base k T_4) (F : FunA K "cleared" "cleared" (top 10)) (g : mg "cleared" = some (.ref (He.ga K "cleared"))) (hf : ∀ x ∈ BB, mg x = none) : TOk P w K mg base (k + 1) T_5 := add_d ok F g hf s_cleared rfl rfl a_cleared (t_cleared k)
def P_leaving : List Str := ["table", "basis", "at"]
theorem s_leaving : scB N_leaving P_leaving (defScope (top 11)) = true := by kernel_rfl
theorem a_leaving : BindF "leaving" (top 11) P_leaving := fun _ _ _ _ _ _ us hl => match us, hl with | [_, _, _], _ => by kernel_rfl
theorem c_5 {k : Nat} (ok : TOk P w K mg base k T_5) (F : FunA K "leaving" "leaving" (top 11)) (g : mg "leaving" = some (.ref (He.ga K "leaving"))) (hf : ∀ x ∈ BB, mg x = none) : TOk P w K mg base (k + 1) T_6 := add_d ok F g hf s_leaving rfl rfl a_leaving (t_leaving k)
def P_numbers_of : List Str := ["table", "basis", "many"]
theorem s_numbers_of : scB N_numbers_of P_numbers_of (defScope (top 12)) = true := by kernel_rfl
theorem a_numbers_of : BindF "numbers_of" (top 12) P_numbers_of := fun _ _ _ _ _ _ us hl => match us, hl with | [_, _, _], _ => by kernel_rfl
theorem c_6 {k : Nat} (ok : TOk P w K mg base k T_6) (F : FunA K "numbers_of" "numbers_of" (top 12)) (g : mg "numbers_of" = some (.ref (He.ga K "numbers_of"))) (hf : ∀ x ∈ BB, mg x = none) : TOk P w K mg base (k + 1) T_7 := add_d ok F g hf s_numbers_of rfl rfl a_numbers_of (t_numbers_of k)
def P_greatest : List Str := ["lines", "goal", "watched"]
theorem s_greatest : scB N_greatest P_greatest (defScope (top 13)) = true := by kernel_rfl
theorem a_greatest : BindF "greatest" (top 13) P_greatest := fun _ _ _ _ _ _ us hl => match us, hl with | [_, _, _], _ => by kernel_rfl
theorem c_7 {k : Nat} (ok : TOk P w K mg base k T_7) (F : FunA K "greatest" "greatest" (top 13)) (g : mg "greatest" = some (.ref (He.ga K "greatest"))) (hf : ∀ x ∈ BB, mg x = none) : TOk P w K mg base (k + 1) T_8 := add_d ok F g hf s_greatest rfl rfl a_greatest (t_greatest k)
def P_solution : List Str := ["rows", "many"]
theorem s_solution : scB N_solution P_solution (defScope (top 14)) = true := by kernel_rfl
theorem a_solution : BindF "solution" (top 14) P_solution := fun _ _ _ _ _ _ us hl => match us, hl with | [_, _], _ => by kernel_rfl
theorem c_8 {k : Nat} (ok : TOk P w K mg base k T_8) (F : FunA K "solution" "solution" (top 14)) (g : mg "solution" = some (.ref (He.ga K "solution"))) (hf : ∀ x ∈ BB, mg x = none) : TOk P w K mg base (k + 1) T_9 := add_d ok F g hf s_solution rfl rfl a_solution (t_solution k)
def P_is_number : List Str := ["value", "least", "most"]
theorem s_is_number : scB N_is_number P_is_number (defScope (top 18)) = true := by kernel_rfl
theorem a_is_number : BindF "is_number" (top 18) P_is_number := fun _ _ _ _ _ _ us hl => match us, hl with | [_, _, _], _ => by kernel_rfl
theorem c_9 {k : Nat} (ok : TOk P w K mg base k T_9) (F : FunA K "is_number" "is_number" (top 18)) (g : mg "is_number" = some (.ref (He.ga K "is_number"))) (hf : ∀ x ∈ BB, mg x = none) : TOk P w K mg base (k + 1) T_10 := add_d ok F g hf s_is_number rfl rfl a_is_number (t_is_number k)
def P_is_tuple : List Str := ["value", "least", "most"]
theorem s_is_tuple : scB N_is_tuple P_is_tuple (defScope (top 19)) = true := by kernel_rfl
theorem a_is_tuple : BindF "is_tuple" (top 19) P_is_tuple := fun _ _ _ _ _ _ us hl => match us, hl with | [_, _, _], _ => by kernel_rfl
theorem c_10 {k : Nat} (ok : TOk P w K mg base k T_10) (F : FunA K "is_tuple" "is_tuple" (top 19)) (g : mg "is_tuple" = some (.ref (He.ga K "is_tuple"))) (hf : ∀ x ∈ BB, mg x = none) : TOk P w K mg base (k + 1) T_11 := add_d ok F g hf s_is_tuple rfl rfl a_is_tuple (t_is_tuple k)
def P_is_amount : List Str := ["value", "most"]
theorem s_is_amount : scB N_is_amount P_is_amount (defScope (top 20)) = true := by kernel_rfl
theorem a_is_amount : BindF "is_amount" (top 20) P_is_amount := fun _ _ _ _ _ _ us hl => match us, hl with | [_, _], _ => by kernel_rfl
theorem c_11 {k : Nat} (ok : TOk P w K mg base k T_11) (F : FunA K "is_amount" "is_amount" (top 20)) (g : mg "is_amount" = some (.ref (He.ga K "is_amount"))) (hf : ∀ x ∈ BB, mg x = none) : TOk P w K mg base (k + 1) T_12 := add_d ok F g hf s_is_amount rfl rfl a_is_amount (t_is_amount k)
def P_is_lot : List Str := ["value", "people"]
theorem s_is_lot : scB N_is_lot P_is_lot (defScope (top 21)) = true := by kernel_rfl
theorem a_is_lot : BindF "is_lot" (top 21) P_is_lot := fun _ _ _ _ _ _ us hl => match us, hl with | [_, _], _ => by kernel_rfl
theorem c_12 {k : Nat} (ok : TOk P w K mg base k T_12) (F : FunA K "is_lot" "is_lot" (top 21)) (g : mg "is_lot" = some (.ref (He.ga K "is_lot"))) (hf : ∀ x ∈ BB, mg x = none) : TOk P w K mg base (k + 1) T_13 := add_d ok F g hf s_is_lot rfl rfl a_is_lot (t_is_lot k)
def P_is_row : List Str := ["value", "many"]
theorem s_is_row : scB N_is_row P_is_row (defScope (top 22)) = true := by kernel_rfl
theorem a_is_row : BindF "is_row" (top 22) P_is_row := fun _ _ _ _ _ _ us hl => match us, hl with | [_, _], _ => by kernel_rfl
theorem c_13 {k : Nat} (ok : TOk P w K mg base k T_13) (F : FunA K "is_row" "is_row" (top 22)) (g : mg "is_row" = some (.ref (He.ga K "is_row"))) (hf : ∀ x ∈ BB, mg x = none) : TOk P w K mg base (k + 1) T_14 := add_d ok F g hf s_is_row rfl rfl a_is_row (t_is_row k)
def P_are_good_debts : List Str := ["value"]
theorem s_are_good_debts : scB N_are_good_debts P_are_good_debts (defScope (top 23)) = true := by kernel_rfl
theorem a_are_good_debts : BindF "are_good_debts" (top 23) P_are_good_debts := fun _ _ _ _ _ _ us hl => match us, hl with | [_], _ => by kernel_rfl
theorem c_14 {k : Nat} (ok : TOk P w K mg base k T_14) (F : FunA K "are_good_debts" "are_good_debts" (top 23)) (g : mg "are_good_debts" = some (.ref (He.ga K "are_good_debts"))) (hf : ∀ x ∈ BB, mg x = none) : TOk P w K mg base (k + 1) T_15 := add_d ok F g hf s_are_good_debts rfl rfl a_are_good_debts (t_are_good_debts k)
def P_is_fact : List Str := ["debts", "value"]
theorem s_is_fact : scB N_is_fact P_is_fact (defScope (top 24)) = true := by kernel_rfl
theorem a_is_fact : BindF "is_fact" (top 24) P_is_fact := fun _ _ _ _ _ _ us hl => match us, hl with | [_, _], _ => by kernel_rfl
theorem c_15 {k : Nat} (ok : TOk P w K mg base k T_15) (F : FunA K "is_fact" "is_fact" (top 24)) (g : mg "is_fact" = some (.ref (He.ga K "is_fact"))) (hf : ∀ x ∈ BB, mg x = none) : TOk P w K mg base (k + 1) T_16 := add_d ok F g hf s_is_fact rfl rfl a_is_fact (t_is_fact k)
def P_are_good_facts : List Str := ["debts", "value"]
theorem s_are_good_facts : scB N_are_good_facts P_are_good_facts (defScope (top 25)) = true := by kernel_rfl
theorem a_are_good_facts : BindF "are_good_facts" (top 25) P_are_good_facts := fun _ _ _ _ _ _ us hl => match us, hl with | [_, _], _ => by kernel_rfl
theorem c_16 {k : Nat} (ok : TOk P w K mg base k T_16) (F : FunA K "are_good_facts" "are_good_facts" (top 25)) (g : mg "are_good_facts" = some (.ref (He.ga K "are_good_facts"))) (hf : ∀ x ∈ BB, mg x = none) : TOk P w K mg base (k + 1) T_17 := add_d ok F g hf s_are_good_facts rfl rfl a_are_good_facts (t_are_good_facts k)
def P_are_good_amounts : List Str := ["debts", "value"]
theorem s_are_good_amounts : scB N_are_good_amounts P_are_good_amounts (defScope (top 26)) = true := by kernel_rfl
theorem a_are_good_amounts : BindF "are_good_amounts" (top 26) P_are_good_amounts := fun _ _ _ _ _ _ us hl => match us, hl with | [_, _], _ => by kernel_rfl
theorem c_17 {k : Nat} (ok : TOk P w K mg base k T_17) (F : FunA K "are_good_amounts" "are_good_amounts" (top 26)) (g : mg "are_good_amounts" = some (.ref (He.ga K "are_good_amounts"))) (hf : ∀ x ∈ BB, mg x = none) : TOk P w K mg base (k + 1) T_18 := add_d ok F g hf s_are_good_amounts rfl rfl a_are_good_amounts (t_are_good_amounts k)
def P_fact_line : List Str := ["debts", "fact"]
theorem s_fact_line : scB N_fact_line P_fact_line (defScope (top 27)) = true := by kernel_rfl
theorem a_fact_line : BindF "fact_line" (top 27) P_fact_line := fun _ _ _ _ _ _ us hl => match us, hl with | [_, _], _ => by kernel_rfl
theorem c_18 {k : Nat} (ok : TOk P w K mg base k T_18) (F : FunA K "fact_line" "fact_line" (top 27)) (g : mg "fact_line" = some (.ref (He.ga K "fact_line"))) (hf : ∀ x ∈ BB, mg x = none) : TOk P w K mg base (k + 1) T_19 := add_d ok F g hf s_fact_line rfl rfl a_fact_line (t_fact_line k)
def P_opposite : List Str := ["line"]
theorem s_opposite : scB N_opposite P_opposite (defScope (top 28)) = true := by kernel_rfl
theorem a_opposite : BindF "opposite" (top 28) P_opposite := fun _ _ _ _ _ _ us hl => match us, hl with | [_], _ => by kernel_rfl
theorem c_19 {k : Nat} (ok : TOk P w K mg base k T_19) (F : FunA K "opposite" "opposite" (top 28)) (g : mg "opposite" = some (.ref (He.ga K "opposite"))) (hf : ∀ x ∈ BB, mg x = none) : TOk P w K mg base (k + 1) T_20 := add_d ok F g hf s_opposite rfl rfl a_opposite (t_opposite k)
def P_fact_rows : List Str := ["debts", "facts"]
theorem s_fact_rows : scB N_fact_rows P_fact_rows (defScope (top 29)) = true := by kernel_rfl
theorem a_fact_rows : BindF "fact_rows" (top 29) P_fact_rows := fun _ _ _ _ _ _ us hl => match us, hl with | [_, _], _ => by kernel_rfl
theorem c_20 {k : Nat} (ok : TOk P w K mg base k T_20) (F : FunA K "fact_rows" "fact_rows" (top 29)) (g : mg "fact_rows" = some (.ref (He.ga K "fact_rows"))) (hf : ∀ x ∈ BB, mg x = none) : TOk P w K mg base (k + 1) T_21 := add_d ok F g hf s_fact_rows rfl rfl a_fact_rows (t_fact_rows k)
def P_summed : List Str := ["line", "amounts"]
theorem s_summed : scB N_summed P_summed (defScope (top 30)) = true := by kernel_rfl
theorem a_summed : BindF "summed" (top 30) P_summed := fun _ _ _ _ _ _ us hl => match us, hl with | [_, _], _ => by kernel_rfl
theorem c_21 {k : Nat} (ok : TOk P w K mg base k T_21) (F : FunA K "summed" "summed" (top 30)) (g : mg "summed" = some (.ref (He.ga K "summed"))) (hf : ∀ x ∈ BB, mg x = none) : TOk P w K mg base (k + 1) T_22 := add_d ok F g hf s_summed rfl rfl a_summed (t_summed k)
def P_is_so : List Str := ["debts", "fact", "amounts"]
theorem s_is_so : scB N_is_so P_is_so (defScope (top 31)) = true := by kernel_rfl
theorem a_is_so : BindF "is_so" (top 31) P_is_so := fun _ _ _ _ _ _ us hl => match us, hl with | [_, _, _], _ => by kernel_rfl
theorem c_22 {k : Nat} (ok : TOk P w K mg base k T_22) (F : FunA K "is_so" "is_so" (top 31)) (g : mg "is_so" = some (.ref (He.ga K "is_so"))) (hf : ∀ x ∈ BB, mg x = none) : TOk P w K mg base (k + 1) T_23 := add_d ok F g hf s_is_so rfl rfl a_is_so (t_is_so k)
def P_some_amounts : List Str := ["debts", "facts", "rows"]
theorem s_some_amounts : scB N_some_amounts P_some_amounts (defScope (top 32)) = true := by kernel_rfl
theorem a_some_amounts : BindF "some_amounts" (top 32) P_some_amounts := fun _ _ _ _ _ _ us hl => match us, hl with | [_, _, _], _ => by kernel_rfl
theorem c_23 {k : Nat} (ok : TOk P w K mg base k T_23) (F : FunA K "some_amounts" "some_amounts" (top 32)) (g : mg "some_amounts" = some (.ref (He.ga K "some_amounts"))) (hf : ∀ x ∈ BB, mg x = none) : TOk P w K mg base (k + 1) T_24 := add_d ok F g hf s_some_amounts rfl rfl a_some_amounts (t_some_amounts k)
def P_need_debts : List Str := ["value"]
theorem s_need_debts : scB N_need_debts P_need_debts (defScope (top 33)) = true := by kernel_rfl
theorem a_need_debts : BindF "need_debts" (top 33) P_need_debts := fun _ _ _ _ _ _ us hl => match us, hl with | [_], _ => by kernel_rfl
theorem c_24 {k : Nat} (ok : TOk P w K mg base k T_24) (F : FunA K "need_debts" "need_debts" (top 33)) (g : mg "need_debts" = some (.ref (He.ga K "need_debts"))) (hf : ∀ x ∈ BB, mg x = none) : TOk P w K mg base (k + 1) T_25 := add_d ok F g hf s_need_debts rfl rfl a_need_debts (t_need_debts k)
def P_need_facts : List Str := ["debts", "value"]
theorem s_need_facts : scB N_need_facts P_need_facts (defScope (top 34)) = true := by kernel_rfl
theorem a_need_facts : BindF "need_facts" (top 34) P_need_facts := fun _ _ _ _ _ _ us hl => match us, hl with | [_, _], _ => by kernel_rfl
theorem c_25 {k : Nat} (ok : TOk P w K mg base k T_25) (F : FunA K "need_facts" "need_facts" (top 34)) (g : mg "need_facts" = some (.ref (He.ga K "need_facts"))) (hf : ∀ x ∈ BB, mg x = none) : TOk P w K mg base (k + 1) T_26 := add_d ok F g hf s_need_facts rfl rfl a_need_facts (t_need_facts k)
def P_need_amounts : List Str := ["debts", "value"]
theorem s_need_amounts : scB N_need_amounts P_need_amounts (defScope (top 35)) = true := by kernel_rfl
theorem a_need_amounts : BindF "need_amounts" (top 35) P_need_amounts := fun _ _ _ _ _ _ us hl => match us, hl with | [_, _], _ => by kernel_rfl
theorem c_26 {k : Nat} (ok : TOk P w K mg base k T_26) (F : FunA K "need_amounts" "need_amounts" (top 35)) (g : mg "need_amounts" = some (.ref (He.ga K "need_amounts"))) (hf : ∀ x ∈ BB, mg x = none) : TOk P w K mg base (k + 1) T_27 := add_d ok F g hf s_need_amounts rfl rfl a_need_amounts (t_need_amounts k)
def P_need_asked : List Str := ["debts", "facts"]
theorem s_need_asked : scB N_need_asked P_need_asked (defScope (top 36)) = true := by kernel_rfl
theorem a_need_asked : BindF "need_asked" (top 36) P_need_asked := fun _ _ _ _ _ _ us hl => match us, hl with | [_, _], _ => by kernel_rfl
theorem c_27 {k : Nat} (ok : TOk P w K mg base k T_27) (F : FunA K "need_asked" "need_asked" (top 36)) (g : mg "need_asked" = some (.ref (He.ga K "need_asked"))) (hf : ∀ x ∈ BB, mg x = none) : TOk P w K mg base (k + 1) T_28 := add_d ok F g hf s_need_asked rfl rfl a_need_asked (t_need_asked k)
def P_is_debts : List Str := ["value"]
theorem s_is_debts : scB N_is_debts P_is_debts (defScope (top 37)) = true := by kernel_rfl
theorem a_is_debts : BindF "is_debts" (top 37) P_is_debts := fun _ _ _ _ _ _ us hl => match us, hl with | [_], _ => by kernel_rfl
theorem c_28 {k : Nat} (ok : TOk P w K mg base k T_28) (F : FunA K "is_debts" "is_debts" (top 37)) (g : mg "is_debts" = some (.ref (He.ga K "is_debts"))) (hf : ∀ x ∈ BB, mg x = none) : TOk P w K mg base (k + 1) T_29 := add_d ok F g hf s_is_debts rfl rfl a_is_debts (t_is_debts k)
def P_are_facts : List Str := ["debts", "value"]
theorem s_are_facts : scB N_are_facts P_are_facts (defScope (top 38)) = true := by kernel_rfl
theorem a_are_facts : BindF "are_facts" (top 38) P_are_facts := fun _ _ _ _ _ _ us hl => match us, hl with | [_, _], _ => by kernel_rfl
theorem c_29 {k : Nat} (ok : TOk P w K mg base k T_29) (F : FunA K "are_facts" "are_facts" (top 38)) (g : mg "are_facts" = some (.ref (He.ga K "are_facts"))) (hf : ∀ x ∈ BB, mg x = none) : TOk P w K mg base (k + 1) T_30 := add_d ok F g hf s_are_facts rfl rfl a_are_facts (t_are_facts k)
def P_are_amounts : List Str := ["debts", "value"]
theorem s_are_amounts : scB N_are_amounts P_are_amounts (defScope (top 39)) = true := by kernel_rfl
theorem a_are_amounts : BindF "are_amounts" (top 39) P_are_amounts := fun _ _ _ _ _ _ us hl => match us, hl with | [_, _], _ => by kernel_rfl
theorem c_30 {k : Nat} (ok : TOk P w K mg base k T_30) (F : FunA K "are_amounts" "are_amounts" (top 39)) (g : mg "are_amounts" = some (.ref (He.ga K "are_amounts"))) (hf : ∀ x ∈ BB, mg x = none) : TOk P w K mg base (k + 1) T_31 := add_d ok F g hf s_are_amounts rfl rfl a_are_amounts (t_are_amounts k)
def P_keeps : List Str := ["debts", "facts", "amounts"]
theorem s_keeps : scB N_keeps P_keeps (defScope (top 40)) = true := by kernel_rfl
theorem a_keeps : BindF "keeps" (top 40) P_keeps := fun _ _ _ _ _ _ us hl => match us, hl with | [_, _, _], _ => by kernel_rfl
theorem c_31 {k : Nat} (ok : TOk P w K mg base k T_31) (F : FunA K "keeps" "keeps" (top 40)) (g : mg "keeps" = some (.ref (He.ga K "keeps"))) (hf : ∀ x ∈ BB, mg x = none) : TOk P w K mg base (k + 1) T_32 := add_d ok F g hf s_keeps rfl rfl a_keeps (t_keeps k)
def P_possible : List Str := ["debts", "facts"]
theorem s_possible : scB N_possible P_possible (defScope (top 41)) = true := by kernel_rfl
theorem a_possible : BindF "possible" (top 41) P_possible := fun _ _ _ _ _ _ us hl => match us, hl with | [_, _], _ => by kernel_rfl
theorem c_32 {k : Nat} (ok : TOk P w K mg base k T_32) (F : FunA K "possible" "possible" (top 41)) (g : mg "possible" = some (.ref (He.ga K "possible"))) (hf : ∀ x ∈ BB, mg x = none) : TOk P w K mg base (k + 1) T_33 := add_d ok F g hf s_possible rfl rfl a_possible (t_possible k)
def P__law_source : List Str := ["script", "k"]
theorem s__law_source : scB N__law_source P__law_source (defScope (top 43)) = true := by kernel_rfl
theorem a__law_source : BindF "_law_source" (top 43) P__law_source := fun _ _ _ _ _ _ us hl => match us, hl with | [_, _], _ => by kernel_rfl
theorem c_33 {k : Nat} (ok : TOk P w K mg base k T_33) (F : FunA K "_law_source" "_law_source" (top 43)) (g : mg "_law_source" = some (.ref (He.ga K "_law_source"))) (hf : ∀ x ∈ BB, mg x = none) : TOk P w K mg base (k + 1) T_34 := add_o ok F g hf s__law_source rfl rfl a__law_source (t__law_source k)
def P__law_draw : List Str := ["source", "many"]
theorem s__law_draw : scB N__law_draw P__law_draw (defScope (top 44)) = true := by kernel_rfl
theorem a__law_draw : BindF "_law_draw" (top 44) P__law_draw := fun _ _ _ _ _ _ us hl => match us, hl with | [_, _], _ => by kernel_rfl
theorem c_34 {k : Nat} (ok : TOk P w K mg base k T_34) (F : FunA K "_law_draw" "_law_draw" (top 44)) (g : mg "_law_draw" = some (.ref (He.ga K "_law_draw"))) (hf : ∀ x ∈ BB, mg x = none) : TOk P w K mg base (k + 1) T_35 := add_d ok F g hf s__law_draw rfl rfl a__law_draw (t__law_draw k)
def P__law_of : List Str := ["source", "items"]
theorem s__law_of : scB N__law_of P__law_of (defScope (top 45)) = true := by kernel_rfl
theorem a__law_of : BindF "_law_of" (top 45) P__law_of := fun _ _ _ _ _ _ us hl => match us, hl with | [_, _], _ => by kernel_rfl
theorem c_35 {k : Nat} (ok : TOk P w K mg base k T_35) (F : FunA K "_law_of" "_law_of" (top 45)) (g : mg "_law_of" = some (.ref (He.ga K "_law_of"))) (hf : ∀ x ∈ BB, mg x = none) : TOk P w K mg base (k + 1) T_36 := add_d ok F g hf s__law_of rfl rfl a__law_of (t__law_of k)
def P__law_part : List Str := ["numbers"]
theorem s__law_part : scB N__law_part P__law_part (defScope (top 46)) = true := by kernel_rfl
theorem a__law_part : BindF "_law_part" (top 46) P__law_part := fun _ _ _ _ _ _ us hl => match us, hl with | [_], _ => by kernel_rfl
theorem c_36 {k : Nat} (ok : TOk P w K mg base k T_36) (F : FunA K "_law_part" "_law_part" (top 46)) (g : mg "_law_part" = some (.ref (He.ga K "_law_part"))) (hf : ∀ x ∈ BB, mg x = none) : TOk P w K mg base (k + 1) T_37 := add_d ok F g hf s__law_part rfl rfl a__law_part (t__law_part k)
def P__law_unit : List Str := ["many", "at"]
theorem s__law_unit : scB N__law_unit P__law_unit (defScope (top 47)) = true := by kernel_rfl
theorem a__law_unit : BindF "_law_unit" (top 47) P__law_unit := fun _ _ _ _ _ _ us hl => match us, hl with | [_, _], _ => by kernel_rfl
theorem c_37 {k : Nat} (ok : TOk P w K mg base k T_37) (F : FunA K "_law_unit" "_law_unit" (top 47)) (g : mg "_law_unit" = some (.ref (He.ga K "_law_unit"))) (hf : ∀ x ∈ BB, mg x = none) : TOk P w K mg base (k + 1) T_38 := add_d ok F g hf s__law_unit rfl rfl a__law_unit (t__law_unit k)
def P__law_clear : List Str := ["line", "pivot", "enter"]
theorem s__law_clear : scB N__law_clear P__law_clear (defScope (top 48)) = true := by kernel_rfl
theorem a__law_clear : BindF "_law_clear" (top 48) P__law_clear := fun _ _ _ _ _ _ us hl => match us, hl with | [_, _, _], _ => by kernel_rfl
theorem c_38 {k : Nat} (ok : TOk P w K mg base k T_38) (F : FunA K "_law_clear" "_law_clear" (top 48)) (g : mg "_law_clear" = some (.ref (He.ga K "_law_clear"))) (hf : ∀ x ∈ BB, mg x = none) : TOk P w K mg base (k + 1) T_39 := add_d ok F g hf s__law_clear rfl rfl a__law_clear (t__law_clear k)
def P__law_out : List Str := ["table", "basis", "enter"]
theorem s__law_out : scB N__law_out P__law_out (defScope (top 49)) = true := by kernel_rfl
theorem a__law_out : BindF "_law_out" (top 49) P__law_out := fun _ _ _ _ _ _ us hl => match us, hl with | [_, _, _], _ => by kernel_rfl
theorem c_39 {k : Nat} (ok : TOk P w K mg base k T_39) (F : FunA K "_law_out" "_law_out" (top 49)) (g : mg "_law_out" = some (.ref (He.ga K "_law_out"))) (hf : ∀ x ∈ BB, mg x = none) : TOk P w K mg base (k + 1) T_40 := add_d ok F g hf s__law_out rfl rfl a__law_out (t__law_out k)
def P__law_can : List Str := ["rows", "many"]
theorem s__law_can : scB N__law_can P__law_can (defScope (top 50)) = true := by kernel_rfl
theorem a__law_can : BindF "_law_can" (top 50) P__law_can := fun _ _ _ _ _ _ us hl => match us, hl with | [_, _], _ => by kernel_rfl
theorem c_40 {k : Nat} (ok : TOk P w K mg base k T_40) (F : FunA K "_law_can" "_law_can" (top 50)) (g : mg "_law_can" = some (.ref (He.ga K "_law_can"))) (hf : ∀ x ∈ BB, mg x = none) : TOk P w K mg base (k + 1) T_41 := add_d ok F g hf s__law_can rfl rfl a__law_can (t__law_can k)
def P__law_lowest : List Str := ["top", "below"]
theorem s__law_lowest : scB N__law_lowest P__law_lowest (defScope (top 51)) = true := by kernel_rfl
theorem a__law_lowest : BindF "_law_lowest" (top 51) P__law_lowest := fun _ _ _ _ _ _ us hl => match us, hl with | [_, _], _ => by kernel_rfl
theorem c_41 {k : Nat} (ok : TOk P w K mg base k T_41) (F : FunA K "_law_lowest" "_law_lowest" (top 51)) (g : mg "_law_lowest" = some (.ref (He.ga K "_law_lowest"))) (hf : ∀ x ∈ BB, mg x = none) : TOk P w K mg base (k + 1) T_42 := add_d ok F g hf s__law_lowest rfl rfl a__law_lowest (t__law_lowest k)
def P__law_plus : List Str := ["one", "other"]
theorem s__law_plus : scB N__law_plus P__law_plus (defScope (top 52)) = true := by kernel_rfl
theorem a__law_plus : BindF "_law_plus" (top 52) P__law_plus := fun _ _ _ _ _ _ us hl => match us, hl with | [_, _], _ => by kernel_rfl
theorem c_42 {k : Nat} (ok : TOk P w K mg base k T_42) (F : FunA K "_law_plus" "_law_plus" (top 52)) (g : mg "_law_plus" = some (.ref (He.ga K "_law_plus"))) (hf : ∀ x ∈ BB, mg x = none) : TOk P w K mg base (k + 1) T_43 := add_d ok F g hf s__law_plus rfl rfl a__law_plus (t__law_plus k)
def P__law_by : List Str := ["one", "other"]
theorem s__law_by : scB N__law_by P__law_by (defScope (top 53)) = true := by kernel_rfl
theorem a__law_by : BindF "_law_by" (top 53) P__law_by := fun _ _ _ _ _ _ us hl => match us, hl with | [_, _], _ => by kernel_rfl
theorem c_43 {k : Nat} (ok : TOk P w K mg base k T_43) (F : FunA K "_law_by" "_law_by" (top 53)) (g : mg "_law_by" = some (.ref (He.ga K "_law_by"))) (hf : ∀ x ∈ BB, mg x = none) : TOk P w K mg base (k + 1) T_44 := add_d ok F g hf s__law_by rfl rfl a__law_by (t__law_by k)
def P__law_debts : List Str := ["source", "most"]
theorem s__law_debts : scB N__law_debts P__law_debts (defScope (top 54)) = true := by kernel_rfl
theorem a__law_debts : BindF "_law_debts" (top 54) P__law_debts := fun _ _ _ _ _ _ us hl => match us, hl with | [_, _], _ => by kernel_rfl
theorem c_44 {k : Nat} (ok : TOk P w K mg base k T_44) (F : FunA K "_law_debts" "_law_debts" (top 54)) (g : mg "_law_debts" = some (.ref (He.ga K "_law_debts"))) (hf : ∀ x ∈ BB, mg x = none) : TOk P w K mg base (k + 1) T_45 := add_d ok F g hf s__law_debts rfl rfl a__law_debts (t__law_debts k)
def P__law_amounts : List Str := ["source", "people"]
theorem s__law_amounts : scB N__law_amounts P__law_amounts (defScope (top 55)) = true := by kernel_rfl
theorem a__law_amounts : BindF "_law_amounts" (top 55) P__law_amounts := fun _ _ _ _ _ _ us hl => match us, hl with | [_, _], _ => by kernel_rfl
theorem c_45 {k : Nat} (ok : TOk P w K mg base k T_45) (F : FunA K "_law_amounts" "_law_amounts" (top 55)) (g : mg "_law_amounts" = some (.ref (He.ga K "_law_amounts"))) (hf : ∀ x ∈ BB, mg x = none) : TOk P w K mg base (k + 1) T_46 := add_d ok F g hf s__law_amounts rfl rfl a__law_amounts (t__law_amounts k)
def P__law_lot : List Str := ["source", "people"]
theorem s__law_lot : scB N__law_lot P__law_lot (defScope (top 56)) = true := by kernel_rfl
theorem a__law_lot : BindF "_law_lot" (top 56) P__law_lot := fun _ _ _ _ _ _ us hl => match us, hl with | [_, _], _ => by kernel_rfl
theorem c_46 {k : Nat} (ok : TOk P w K mg base k T_46) (F : FunA K "_law_lot" "_law_lot" (top 56)) (g : mg "_law_lot" = some (.ref (He.ga K "_law_lot"))) (hf : ∀ x ∈ BB, mg x = none) : TOk P w K mg base (k + 1) T_47 := add_d ok F g hf s__law_lot rfl rfl a__law_lot (t__law_lot k)
def P__law_fact : List Str := ["source", "people"]
theorem s__law_fact : scB N__law_fact P__law_fact (defScope (top 57)) = true := by kernel_rfl
theorem a__law_fact : BindF "_law_fact" (top 57) P__law_fact := fun _ _ _ _ _ _ us hl => match us, hl with | [_, _], _ => by kernel_rfl
theorem c_47 {k : Nat} (ok : TOk P w K mg base k T_47) (F : FunA K "_law_fact" "_law_fact" (top 57)) (g : mg "_law_fact" = some (.ref (He.ga K "_law_fact"))) (hf : ∀ x ∈ BB, mg x = none) : TOk P w K mg base (k + 1) T_48 := add_d ok F g hf s__law_fact rfl rfl a__law_fact (t__law_fact k)
def P__law_facts : List Str := ["source", "people", "most"]
theorem s__law_facts : scB N__law_facts P__law_facts (defScope (top 58)) = true := by kernel_rfl
theorem a__law_facts : BindF "_law_facts" (top 58) P__law_facts := fun _ _ _ _ _ _ us hl => match us, hl with | [_, _, _], _ => by kernel_rfl
theorem c_48 {k : Nat} (ok : TOk P w K mg base k T_48) (F : FunA K "_law_facts" "_law_facts" (top 58)) (g : mg "_law_facts" = some (.ref (He.ga K "_law_facts"))) (hf : ∀ x ∈ BB, mg x = none) : TOk P w K mg base (k + 1) T_49 := add_d ok F g hf s__law_facts rfl rfl a__law_facts (t__law_facts k)
def P__law_fact_line : List Str := ["fact", "wide"]
theorem s__law_fact_line : scB N__law_fact_line P__law_fact_line (defScope (top 59)) = true := by kernel_rfl
theorem a__law_fact_line : BindF "_law_fact_line" (top 59) P__law_fact_line := fun _ _ _ _ _ _ us hl => match us, hl with | [_, _], _ => by kernel_rfl
theorem c_49 {k : Nat} (ok : TOk P w K mg base k T_49) (F : FunA K "_law_fact_line" "_law_fact_line" (top 59)) (g : mg "_law_fact_line" = some (.ref (He.ga K "_law_fact_line"))) (hf : ∀ x ∈ BB, mg x = none) : TOk P w K mg base (k + 1) T_50 := add_d ok F g hf s__law_fact_line rfl rfl a__law_fact_line (t__law_fact_line k)
def P__law_fact_rows : List Str := ["facts", "wide"]
theorem s__law_fact_rows : scB N__law_fact_rows P__law_fact_rows (defScope (top 60)) = true := by kernel_rfl
theorem a__law_fact_rows : BindF "_law_fact_rows" (top 60) P__law_fact_rows := fun _ _ _ _ _ _ us hl => match us, hl with | [_, _], _ => by kernel_rfl
theorem c_50 {k : Nat} (ok : TOk P w K mg base k T_50) (F : FunA K "_law_fact_rows" "_law_fact_rows" (top 60)) (g : mg "_law_fact_rows" = some (.ref (He.ga K "_law_fact_rows"))) (hf : ∀ x ∈ BB, mg x = none) : TOk P w K mg base (k + 1) T_51 := add_d ok F g hf s__law_fact_rows rfl rfl a__law_fact_rows (t__law_fact_rows k)
def P__law_possible : List Str := ["debts", "facts"]
theorem s__law_possible : scB N__law_possible P__law_possible (defScope (top 61)) = true := by kernel_rfl
theorem a__law_possible : BindF "_law_possible" (top 61) P__law_possible := fun _ _ _ _ _ _ us hl => match us, hl with | [_, _], _ => by kernel_rfl
theorem c_51 {k : Nat} (ok : TOk P w K mg base k T_51) (F : FunA K "_law_possible" "_law_possible" (top 61)) (g : mg "_law_possible" = some (.ref (He.ga K "_law_possible"))) (hf : ∀ x ∈ BB, mg x = none) : TOk P w K mg base (k + 1) T_52 := add_d ok F g hf s__law_possible rfl rfl a__law_possible (t__law_possible k)
def P__law_keeps : List Str := ["facts", "amounts"]
theorem s__law_keeps : scB N__law_keeps P__law_keeps (defScope (top 62)) = true := by kernel_rfl
theorem a__law_keeps : BindF "_law_keeps" (top 62) P__law_keeps := fun _ _ _ _ _ _ us hl => match us, hl with | [_, _], _ => by kernel_rfl
theorem c_52 {k : Nat} (ok : TOk P w K mg base k T_52) (F : FunA K "_law_keeps" "_law_keeps" (top 62)) (g : mg "_law_keeps" = some (.ref (He.ga K "_law_keeps"))) (hf : ∀ x ∈ BB, mg x = none) : TOk P w K mg base (k + 1) T_53 := add_d ok F g hf s__law_keeps rfl rfl a__law_keeps (t__law_keeps k)
def P__law_is_int : List Str := ["value", "least", "top"]
theorem s__law_is_int : scB N__law_is_int P__law_is_int (defScope (top 63)) = true := by kernel_rfl
theorem a__law_is_int : BindF "_law_is_int" (top 63) P__law_is_int := fun _ _ _ _ _ _ us hl => match us, hl with | [_, _, _], _ => by kernel_rfl
theorem c_53 {k : Nat} (ok : TOk P w K mg base k T_53) (F : FunA K "_law_is_int" "_law_is_int" (top 63)) (g : mg "_law_is_int" = some (.ref (He.ga K "_law_is_int"))) (hf : ∀ x ∈ BB, mg x = none) : TOk P w K mg base (k + 1) T_54 := add_d ok F g hf s__law_is_int rfl rfl a__law_is_int (t__law_is_int k)
def P__law_are_ints : List Str := ["value", "few", "many", "least", "top"]
theorem s__law_are_ints : scB N__law_are_ints P__law_are_ints (defScope (top 64)) = true := by kernel_rfl
theorem a__law_are_ints : BindF "_law_are_ints" (top 64) P__law_are_ints := fun _ _ _ _ _ _ us hl => match us, hl with | [_, _, _, _, _], _ => by kernel_rfl
theorem c_54 {k : Nat} (ok : TOk P w K mg base k T_54) (F : FunA K "_law_are_ints" "_law_are_ints" (top 64)) (g : mg "_law_are_ints" = some (.ref (He.ga K "_law_are_ints"))) (hf : ∀ x ∈ BB, mg x = none) : TOk P w K mg base (k + 1) T_55 := add_d ok F g hf s__law_are_ints rfl rfl a__law_are_ints (t__law_are_ints k)
def P__law_are_debts : List Str := ["value"]
theorem s__law_are_debts : scB N__law_are_debts P__law_are_debts (defScope (top 65)) = true := by kernel_rfl
theorem a__law_are_debts : BindF "_law_are_debts" (top 65) P__law_are_debts := fun _ _ _ _ _ _ us hl => match us, hl with | [_], _ => by kernel_rfl
theorem c_55 {k : Nat} (ok : TOk P w K mg base k T_55) (F : FunA K "_law_are_debts" "_law_are_debts" (top 65)) (g : mg "_law_are_debts" = some (.ref (He.ga K "_law_are_debts"))) (hf : ∀ x ∈ BB, mg x = none) : TOk P w K mg base (k + 1) T_56 := add_d ok F g hf s__law_are_debts rfl rfl a__law_are_debts (t__law_are_debts k)
def P__law_is_lot : List Str := ["value", "people"]
theorem s__law_is_lot : scB N__law_is_lot P__law_is_lot (defScope (top 66)) = true := by kernel_rfl
theorem a__law_is_lot : BindF "_law_is_lot" (top 66) P__law_is_lot := fun _ _ _ _ _ _ us hl => match us, hl with | [_, _], _ => by kernel_rfl
theorem c_56 {k : Nat} (ok : TOk P w K mg base k T_56) (F : FunA K "_law_is_lot" "_law_is_lot" (top 66)) (g : mg "_law_is_lot" = some (.ref (He.ga K "_law_is_lot"))) (hf : ∀ x ∈ BB, mg x = none) : TOk P w K mg base (k + 1) T_57 := add_d ok F g hf s__law_is_lot rfl rfl a__law_is_lot (t__law_is_lot k)
def P__law_is_fact : List Str := ["value", "people"]
theorem s__law_is_fact : scB N__law_is_fact P__law_is_fact (defScope (top 67)) = true := by kernel_rfl
theorem a__law_is_fact : BindF "_law_is_fact" (top 67) P__law_is_fact := fun _ _ _ _ _ _ us hl => match us, hl with | [_, _], _ => by kernel_rfl
theorem c_57 {k : Nat} (ok : TOk P w K mg base k T_57) (F : FunA K "_law_is_fact" "_law_is_fact" (top 67)) (g : mg "_law_is_fact" = some (.ref (He.ga K "_law_is_fact"))) (hf : ∀ x ∈ BB, mg x = none) : TOk P w K mg base (k + 1) T_58 := add_d ok F g hf s__law_is_fact rfl rfl a__law_is_fact (t__law_is_fact k)
def P__law_is_fraction : List Str := ["value"]
theorem s__law_is_fraction : scB N__law_is_fraction P__law_is_fraction (defScope (top 68)) = true := by kernel_rfl
theorem a__law_is_fraction : BindF "_law_is_fraction" (top 68) P__law_is_fraction := fun _ _ _ _ _ _ us hl => match us, hl with | [_], _ => by kernel_rfl
theorem c_58 {k : Nat} (ok : TOk P w K mg base k T_58) (F : FunA K "_law_is_fraction" "_law_is_fraction" (top 68)) (g : mg "_law_is_fraction" = some (.ref (He.ga K "_law_is_fraction"))) (hf : ∀ x ∈ BB, mg x = none) : TOk P w K mg base (k + 1) T_59 := add_d ok F g hf s__law_is_fraction rfl rfl a__law_is_fraction (t__law_is_fraction k)
def P__law_told_right : List Str := ["debts", "value"]
theorem s__law_told_right : scB N__law_told_right P__law_told_right (defScope (top 69)) = true := by kernel_rfl
theorem a__law_told_right : BindF "_law_told_right" (top 69) P__law_told_right := fun _ _ _ _ _ _ us hl => match us, hl with | [_, _], _ => by kernel_rfl
theorem c_59 {k : Nat} (ok : TOk P w K mg base k T_59) (F : FunA K "_law_told_right" "_law_told_right" (top 69)) (g : mg "_law_told_right" = some (.ref (He.ga K "_law_told_right"))) (hf : ∀ x ∈ BB, mg x = none) : TOk P w K mg base (k + 1) T_60 := add_d ok F g hf s__law_told_right rfl rfl a__law_told_right (t__law_told_right k)
def P__law_odd : List Str := ["source"]
theorem s__law_odd : scB N__law_odd P__law_odd (defScope (top 70)) = true := by kernel_rfl
theorem a__law_odd : BindF "_law_odd" (top 70) P__law_odd := fun _ _ _ _ _ _ us hl => match us, hl with | [_], _ => by kernel_rfl
theorem c_60 {k : Nat} (ok : TOk P w K mg base k T_60) (F : FunA K "_law_odd" "_law_odd" (top 70)) (g : mg "_law_odd" = some (.ref (He.ga K "_law_odd"))) (hf : ∀ x ∈ BB, mg x = none) : TOk P w K mg base (k + 1) T_61 := add_d ok F g hf s__law_odd rfl rfl a__law_odd (t__law_odd k)
def P__law_spoilt : List Str := ["source", "value"]
theorem s__law_spoilt : scB N__law_spoilt P__law_spoilt (defScope (top 71)) = true := by kernel_rfl
theorem a__law_spoilt : BindF "_law_spoilt" (top 71) P__law_spoilt := fun _ _ _ _ _ _ us hl => match us, hl with | [_, _], _ => by kernel_rfl
theorem c_61 {k : Nat} (ok : TOk P w K mg base k T_61) (F : FunA K "_law_spoilt" "_law_spoilt" (top 71)) (g : mg "_law_spoilt" = some (.ref (He.ga K "_law_spoilt"))) (hf : ∀ x ∈ BB, mg x = none) : TOk P w K mg base (k + 13) T_62 := add_rec (bm := b__law_spoilt) ok F g hf s__law_spoilt rfl rfl a__law_spoilt (fun m k => t__law_spoilt m k) 12
def P_law : List Str := ["script"]
theorem s_law : scB N_law P_law (defScope (top 72)) = true := by kernel_rfl
theorem a_law : BindF "law" (top 72) P_law := fun _ _ _ _ _ _ us hl => match us, hl with | [_], _ => by kernel_rfl
theorem c_62 {k : Nat} (ok : TOk P w K mg base k T_62) (F : FunA K "law" "law" (top 72)) (g : mg "law" = some (.ref (He.ga K "law"))) (hf : ∀ x ∈ BB, mg x = none) : TOk P w K mg base (k + 1) T_63 := add_d ok F g hf s_law rfl rfl a_law (t_law k)
end
theorem hfn_at (K : PySem.W.Frag) (c : SaysL hfa hfn hex K) (i : Nat) (x y : Str) (j : Nat) (h : hfn[i]? = some ⟨(x, none), y, y, defArgs (top j), defBody (top j), defScope (top j), [], []⟩) : FunA K x y (top j) := c.def_ i h
theorem fa_at {x : He.Fa} (i : Nat) (h : hfa[i]? = some x) : x ∈ hfa := List.mem_of_getElem? h
theorem free_in (x : Str) (hx : x ∈ BB) : He.Fa.free x ∈ hfa := by
  have h : BB.all (fun x => hfa.any fun f => match f with | .free y => decide (y = x) | _ => false) = true := by kernel_rfl
  have h2 := List.any_eq_true.mp (List.all_eq_true.mp h x hx)
  obtain ⟨f, hf, e⟩ := h2
  cases f with
  | free y => have e : decide (y = x) = true := e; rw [← of_decide_eq_true e]; exact hf
  | _ => cases e
theorem facts {P : Program} {w : World} {K : PySem.W.Frag} {h : Heap} {mg : Str → Option Value} {f : Addr} (X : K.In h) (G : h.Ns mainGlobals mg) (hfa : mg ("law" : Str) = some (.ref f)) (c : SaysL PD.hfa hfn hex K) :
    ∃ fd : FuncData, (∀ (s : Shared) (v : Value), BindsTo s fd ⟨[v], []⟩ [("script", v)]) ∧ ∀ base : Heap, FnOk P w K mg base CX0 75 f fd ["script"] (Spec0 K 1 m_law) := by
  have gl : ∀ x, He.Fa.glo x ∈ PD.hfa → mg x = some (.ref (He.ga K x)) := fun x hx => He.glo_ok X G (c.mem hx)
  have hf : ∀ x ∈ BB, mg x = none := fun x hx => He.free_ok X G (c.mem (free_in x hx))
  obtain ⟨fd, F⟩ := hfn_at K c 62 "law" "law" 72 rfl
  have e := hfa.symm.trans (gl "law" (fa_at 62 rfl))
  cases e
  refine ⟨fd, fun s v => F.bindsA (ps := ["script"]) a_law s [v] rfl, fun base => ?_⟩
  have k0 : TOk P w K mg base 0 T_0 := T0_ok X G c
  have k1 := c_0 k0 (hfn_at K c 0 "divisor" "divisor" 6 rfl) (gl "divisor" (fa_at 0 rfl)) hf
  have k2 := c_1 k1 (hfn_at K c 1 "lowest" "lowest" 7 rfl) (gl "lowest" (fa_at 1 rfl)) hf
  have k3 := c_2 k2 (hfn_at K c 2 "neat" "neat" 8 rfl) (gl "neat" (fa_at 2 rfl)) hf
  have k4 := c_3 k3 (hfn_at K c 3 "table_of" "table_of" 9 rfl) (gl "table_of" (fa_at 3 rfl)) hf
  have k5 := c_4 k4 (hfn_at K c 4 "cleared" "cleared" 10 rfl) (gl "cleared" (fa_at 4 rfl)) hf
  have k6 := c_5 k5 (hfn_at K c 5 "leaving" "leaving" 11 rfl) (gl "leaving" (fa_at 5 rfl)) hf
  have k7 := c_6 k6 (hfn_at K c 6 "numbers_of" "numbers_of" 12 rfl) (gl "numbers_of" (fa_at 6 rfl)) hf
  have k8 := c_7 k7 (hfn_at K c 7 "greatest" "greatest" 13 rfl) (gl "greatest" (fa_at 7 rfl)) hf
  have k9 := c_8 k8 (hfn_at K c 8 "solution" "solution" 14 rfl) (gl "solution" (fa_at 8 rfl)) hf
  have k10 := c_9 k9 (hfn_at K c 9 "is_number" "is_number" 18 rfl) (gl "is_number" (fa_at 9 rfl)) hf
  have k11 := c_10 k10 (hfn_at K c 10 "is_tuple" "is_tuple" 19 rfl) (gl "is_tuple" (fa_at 10 rfl)) hf
  have k12 := c_11 k11 (hfn_at K c 11 "is_amount" "is_amount" 20 rfl) (gl "is_amount" (fa_at 11 rfl)) hf
  have k13 := c_12 k12 (hfn_at K c 12 "is_lot" "is_lot" 21 rfl) (gl "is_lot" (fa_at 12 rfl)) hf
  have k14 := c_13 k13 (hfn_at K c 13 "is_row" "is_row" 22 rfl) (gl "is_row" (fa_at 13 rfl)) hf
  have k15 := c_14 k14 (hfn_at K c 14 "are_good_debts" "are_good_debts" 23 rfl) (gl "are_good_debts" (fa_at 14 rfl)) hf
  have k16 := c_15 k15 (hfn_at K c 15 "is_fact" "is_fact" 24 rfl) (gl "is_fact" (fa_at 15 rfl)) hf
  have k17 := c_16 k16 (hfn_at K c 16 "are_good_facts" "are_good_facts" 25 rfl) (gl "are_good_facts" (fa_at 16 rfl)) hf
  have k18 := c_17 k17 (hfn_at K c 17 "are_good_amounts" "are_good_amounts" 26 rfl) (gl "are_good_amounts" (fa_at 17 rfl)) hf
  have k19 := c_18 k18 (hfn_at K c 18 "fact_line" "fact_line" 27 rfl) (gl "fact_line" (fa_at 18 rfl)) hf
  have k20 := c_19 k19 (hfn_at K c 19 "opposite" "opposite" 28 rfl) (gl "opposite" (fa_at 19 rfl)) hf
  have k21 := c_20 k20 (hfn_at K c 20 "fact_rows" "fact_rows" 29 rfl) (gl "fact_rows" (fa_at 20 rfl)) hf
  have k22 := c_21 k21 (hfn_at K c 21 "summed" "summed" 30 rfl) (gl "summed" (fa_at 21 rfl)) hf
  have k23 := c_22 k22 (hfn_at K c 22 "is_so" "is_so" 31 rfl) (gl "is_so" (fa_at 22 rfl)) hf
  have k24 := c_23 k23 (hfn_at K c 23 "some_amounts" "some_amounts" 32 rfl) (gl "some_amounts" (fa_at 23 rfl)) hf
  have k25 := c_24 k24 (hfn_at K c 24 "need_debts" "need_debts" 33 rfl) (gl "need_debts" (fa_at 24 rfl)) hf
  have k26 := c_25 k25 (hfn_at K c 25 "need_facts" "need_facts" 34 rfl) (gl "need_facts" (fa_at 25 rfl)) hf
  have k27 := c_26 k26 (hfn_at K c 26 "need_amounts" "need_amounts" 35 rfl) (gl "need_amounts" (fa_at 26 rfl)) hf
  have k28 := c_27 k27 (hfn_at K c 27 "need_asked" "need_asked" 36 rfl) (gl "need_asked" (fa_at 27 rfl)) hf
  have k29 := c_28 k28 (hfn_at K c 28 "is_debts" "is_debts" 37 rfl) (gl "is_debts" (fa_at 28 rfl)) hf
  have k30 := c_29 k29 (hfn_at K c 29 "are_facts" "are_facts" 38 rfl) (gl "are_facts" (fa_at 29 rfl)) hf
  have k31 := c_30 k30 (hfn_at K c 30 "are_amounts" "are_amounts" 39 rfl) (gl "are_amounts" (fa_at 30 rfl)) hf
  have k32 := c_31 k31 (hfn_at K c 31 "keeps" "keeps" 40 rfl) (gl "keeps" (fa_at 31 rfl)) hf
  have k33 := c_32 k32 (hfn_at K c 32 "possible" "possible" 41 rfl) (gl "possible" (fa_at 32 rfl)) hf
  have k34 := c_33 k33 (hfn_at K c 33 "_law_source" "_law_source" 43 rfl) (gl "_law_source" (fa_at 33 rfl)) hf
  have k35 := c_34 k34 (hfn_at K c 34 "_law_draw" "_law_draw" 44 rfl) (gl "_law_draw" (fa_at 34 rfl)) hf
  have k36 := c_35 k35 (hfn_at K c 35 "_law_of" "_law_of" 45 rfl) (gl "_law_of" (fa_at 35 rfl)) hf
  have k37 := c_36 k36 (hfn_at K c 36 "_law_part" "_law_part" 46 rfl) (gl "_law_part" (fa_at 36 rfl)) hf
  have k38 := c_37 k37 (hfn_at K c 37 "_law_unit" "_law_unit" 47 rfl) (gl "_law_unit" (fa_at 37 rfl)) hf
  have k39 := c_38 k38 (hfn_at K c 38 "_law_clear" "_law_clear" 48 rfl) (gl "_law_clear" (fa_at 38 rfl)) hf
  have k40 := c_39 k39 (hfn_at K c 39 "_law_out" "_law_out" 49 rfl) (gl "_law_out" (fa_at 39 rfl)) hf
  have k41 := c_40 k40 (hfn_at K c 40 "_law_can" "_law_can" 50 rfl) (gl "_law_can" (fa_at 40 rfl)) hf
  have k42 := c_41 k41 (hfn_at K c 41 "_law_lowest" "_law_lowest" 51 rfl) (gl "_law_lowest" (fa_at 41 rfl)) hf
  have k43 := c_42 k42 (hfn_at K c 42 "_law_plus" "_law_plus" 52 rfl) (gl "_law_plus" (fa_at 42 rfl)) hf
  have k44 := c_43 k43 (hfn_at K c 43 "_law_by" "_law_by" 53 rfl) (gl "_law_by" (fa_at 43 rfl)) hf
  have k45 := c_44 k44 (hfn_at K c 44 "_law_debts" "_law_debts" 54 rfl) (gl "_law_debts" (fa_at 44 rfl)) hf
  have k46 := c_45 k45 (hfn_at K c 45 "_law_amounts" "_law_amounts" 55 rfl) (gl "_law_amounts" (fa_at 45 rfl)) hf
  have k47 := c_46 k46 (hfn_at K c 46 "_law_lot" "_law_lot" 56 rfl) (gl "_law_lot" (fa_at 46 rfl)) hf
  have k48 := c_47 k47 (hfn_at K c 47 "_law_fact" "_law_fact" 57 rfl) (gl "_law_fact" (fa_at 47 rfl)) hf
  have k49 := c_48 k48 (hfn_at K c 48 "_law_facts" "_law_facts" 58 rfl) (gl "_law_facts" (fa_at 48 rfl)) hf
  have k50 := c_49 k49 (hfn_at K c 49 "_law_fact_line" "_law_fact_line" 59 rfl) (gl "_law_fact_line" (fa_at 49 rfl)) hf
  have k51 := c_50 k50 (hfn_at K c 50 "_law_fact_rows" "_law_fact_rows" 60 rfl) (gl "_law_fact_rows" (fa_at 50 rfl)) hf
  have k52 := c_51 k51 (hfn_at K c 51 "_law_possible" "_law_possible" 61 rfl) (gl "_law_possible" (fa_at 51 rfl)) hf
  have k53 := c_52 k52 (hfn_at K c 52 "_law_keeps" "_law_keeps" 62 rfl) (gl "_law_keeps" (fa_at 52 rfl)) hf
  have k54 := c_53 k53 (hfn_at K c 53 "_law_is_int" "_law_is_int" 63 rfl) (gl "_law_is_int" (fa_at 53 rfl)) hf
  have k55 := c_54 k54 (hfn_at K c 54 "_law_are_ints" "_law_are_ints" 64 rfl) (gl "_law_are_ints" (fa_at 54 rfl)) hf
  have k56 := c_55 k55 (hfn_at K c 55 "_law_are_debts" "_law_are_debts" 65 rfl) (gl "_law_are_debts" (fa_at 55 rfl)) hf
  have k57 := c_56 k56 (hfn_at K c 56 "_law_is_lot" "_law_is_lot" 66 rfl) (gl "_law_is_lot" (fa_at 56 rfl)) hf
  have k58 := c_57 k57 (hfn_at K c 57 "_law_is_fact" "_law_is_fact" 67 rfl) (gl "_law_is_fact" (fa_at 57 rfl)) hf
  have k59 := c_58 k58 (hfn_at K c 58 "_law_is_fraction" "_law_is_fraction" 68 rfl) (gl "_law_is_fraction" (fa_at 58 rfl)) hf
  have k60 := c_59 k59 (hfn_at K c 59 "_law_told_right" "_law_told_right" 69 rfl) (gl "_law_told_right" (fa_at 59 rfl)) hf
  have k61 := c_60 k60 (hfn_at K c 60 "_law_odd" "_law_odd" 70 rfl) (gl "_law_odd" (fa_at 60 rfl)) hf
  have k62 := c_61 k61 (hfn_at K c 61 "_law_spoilt" "_law_spoilt" 71 rfl) (gl "_law_spoilt" (fa_at 61 rfl)) hf
  exact fn_d0 k62 F hf s_law rfl rfl (t_law _)
end PD
set_option maxRecDepth 100000
set_option maxHeartbeats 0
open PySem PySem.W PySem.Calls PyProof.Rows
theorem PySem.Challenge.cw_handsowing_k01_values_recognized_holds : PySem.Challenge.rw_handsowing_k01_values_recognized.Holds := by
  w_on; o_law
  refine HandSHeadRun.head_any (r := OpenLaw.row PySem.Challenge.rw_handsowing_k01_values_recognized) (q := view (OpenLaw.row PySem.Challenge.rw_handsowing_k01_values_recognized).prog [72]) (H := PD.hk) (ob := PD.ob) (M := 20000) (loose := PD.loose) (d := HandSHeadRun.topDef (OpenLaw.row PySem.Challenge.rw_handsowing_k01_values_recognized).prog 72) (kwd := []) PD.ob_eq
    (by kernel_rfl) (fun s => by kernel_rfl) PD.run (by kernel_rfl) (by kernel_rfl) (by kernel_rfl) (by rfl) (by first | assumption | decide +kernel) (by decide +kernel) ⟨rfl, rfl, rfl, rfl, rfl, by decide +kernel⟩ ?hw ?hc
  case hw => w_witness2
  case hc =>
    refine L2.walk_ofE (l := PySem.Challenge.rw_handsowing_k01_values_recognized) (n := 63) (k := 75) (x := "script") (CX := L2.CX0) rfl (by decide) (by kernel_rfl) ⟨rfl, by decide, by decide⟩ ?F (fun _ _ _ _ z => z)
    intro w mg fa h Y G hmg0
    obtain ⟨K, KX, c⟩ := Y
    have hmg : mg ("law" : PySem.Str) = some (.ref fa) := by
      have e : (HandSHeadRun.topDef (OpenLaw.row PySem.Challenge.rw_handsowing_k01_values_recognized).prog 72).name = ("law" : PySem.Str) := by kernel_rfl
      rw [← e]
      exact hmg0
    obtain ⟨fd, hb, hF⟩ := PD.facts (P := (PySem.Challenge.rw_handsowing_k01_values_recognized).prog) (w := w) KX G hmg c
    exact ⟨K, fd, PD.Spec0 K 1 PD.m_law, KX, hb, fun H a ns hl _ hS => PD.law_sp PD.law_ok hl hS, fun base _ _ => hF base⟩
