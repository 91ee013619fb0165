import PyProof.Rows.All
import Wide.All
import OpenK.AllK
import Wide.FinOn
import HandS.ForMost
import HandS.Exc
import HandS.ExcOwn
import HandS.WordsExc
import HandS.Defaults
import HandS.TupAny
import HandS.TupMul
import HandS.IsInst
import HandS.Style
import HandS.Deep
import HandS.Zip
import HandS.NoneIn
import HandS.Flow
import HandS.HeadHook1
import KE.KIndexOf
import KE.GoesEnum
import HandS.HeadHook4
import HandS.CallLocal
import HandS.Head0
import HandS.Head1
import HandS.Head2
import HandS.HeadEnd
import HandS.Ends
import KE.KRevSl
import PySem.Str
import KE.KStateDown
import Lean
import PySem.Challenge.RW_lostexits_k06_whole_most_returned
section
set_option Elab.async false
set_option linter.all false
set_option maxRecDepth 100000
namespace DN
open PySem PySem.Spec PyProof.Rows L2

/-! ### tuples whose objects have no dict of their own -/
/-- at a stands a tuple of vs, without a dict -/
def TupN (K : PySem.W.Frag) (H : Hp) (a : Addr) (vs : List V) : Prop :=
  (∃ o : Obj, H a = some (.frz o (.tup vs)) ∧ o.dict = none) ∨
    ∃ (o : Obj) (its : Array Value) (n : Nat), K.lookup a = some o ∧ o.cls = .type "tuple" ∧ o.dict = none ∧ o.data = .seq its n ∧ its.size ≤ sizeLine ∧ Vals vs its.toList
theorem TupN.sq {K : PySem.W.Frag} {H : Hp} {a : Addr} {vs : List V} (h : TupN K H a vs) : SqT K H a vs := by
  rcases h with ⟨o, h, _⟩ | ⟨o, its, n, h1, h2, _, h3⟩
  · exact .inl (.inr ⟨o, h⟩)
  · exact .inr ⟨o, its, n, h1, h2, h3⟩
theorem TupN.same {K : PySem.W.Frag} {H H' : Hp} {a : Addr} {vs : List V} (s : Same H H') (h : TupN K H a vs) : TupN K H' a vs := by
  rcases h with ⟨o, h, d⟩ | h
  · exact .inl ⟨o, s _ _ h, d⟩
  · exact .inr h
theorem TupN.of {K : PySem.W.Frag} {H : Hp} {a : Addr} {vs : List V} {o : Obj} (h : H a = some (.frz o (.tup vs))) (d : o.dict = none) : TupN K H a vs := .inl ⟨o, h, d⟩
/-- a new tuple: for any free address, whatever its object (without a dict) -/
def newT (H : Hp) (vs : List V) (Q : VK) : Prop := ∀ p o, H p = none → o.dict = none → Q (.ref p) (upd H p (.frz o (.tup vs)))
def tTupF (t : TA) : TE := fun σ H Q => t σ H fun xs H1 => xs.length ≤ sizeLine ∧ newT H1 xs Q
section
variable {X : Cx} {es : List Expr} {t : TA} {pos : Pos}
theorem laidT {pins : List (Addr × Obj)} {σ : L2.St} {H : Hp} {s : Shared} {vs : List V} {its : List Value} {Q : VK} (I : Inv X pins σ H s) (r : Vals vs its) (hz : vs.length ≤ sizeLine) (q : newT H vs Q) :
    EP X pins σ Q (.ref s.heap.objs.size) { s with heap := s.heap.push { cls := .type "tuple", data := .seq its.toArray } } :=
  ⟨.ref s.heap.objs.size, _, I.laid (t' := s.toks) (o := .frz { cls := .type "tuple", data := .seq its.toArray } (.tup vs)) (fun b ob q => Heap.get?_push_of_some _ q) (Nat.le_refl _) ⟨Heap.get?_push_size _ rfl, hz, _, r, IsTup.new _ _⟩, rfl, q _ _ (I.hok.fresh (Nat.le_refl _)) rfl⟩
theorem pe_tupF {k : Nat} (h : PA X es t) : PE X (.Tuple es k pos) (tTupF t) := by
  refine ⟨fun pins s σ H Q I hq => ?_⟩
  exact wpAny_Tuple_spliced (thn (h.run pos pins s σ H _ I hq) fun us s1 ⟨xs, H1, I1, r, z, q⟩ => ⟨by rw [← r.length]; exact z, laidT I1 r z q⟩)
def rCatF (K : PySem.W.Frag) : R2 := fun x y H Q => ∃ a b xs ys, x = .ref a ∧ y = .ref b ∧ SqT K H a xs ∧ SqT K H b ys ∧ xs.length + ys.length ≤ sizeLine ∧
  (xs = [] → Q (.ref b) H) ∧ (xs ≠ [] → ys = [] → Q (.ref a) H) ∧ (xs ≠ [] → ys ≠ [] → newT H (xs ++ ys) Q)
theorem op_catF : OpR X (binaryOp .Add) (rCatF X.K) := by
  intro pins s σ H x y v u Q I rx ry h
  obtain ⟨a, b, xs, ys, rfl, rfl, ha, hb, hz, q0, q1, q2⟩ := h
  cases rx
  cases ry
  obtain ⟨its, r1, p1, _⟩ := I.tuple ha
  obtain ⟨its2, r2, p2, _⟩ := I.tuple hb
  by_cases hx : xs = []
  · subst hx
    cases r1
    exact cat_tup0 p1 p2 ⟨.ref b, H, I, rfl, q0 rfl⟩
  · exact HT.cat_tup p1 p2 (fun z => hx (r1.nil_iff.mp z)) (fun z => ⟨.ref a, H, I, rfl, q1 hx (r2.nil_iff.mp z)⟩) (fun z => laidT I (r1.append r2) (by rw [List.length_append]; exact hz) (q2 hx fun e => z (r2.nil_iff.mpr e))) (by rw [← r1.length, ← r2.length]; exact hz)
def rSlF (K : PySem.W.Frag) : V → Option Int → Option Int → Hp → VK → Prop := fun x lo hi H Q => ∃ a xs, x = .ref a ∧ SqT K H a xs ∧
  (HT.sIx xs.length 0 lo = 0 ∧ HT.sIx xs.length xs.length hi = xs.length → Q (.ref a) H) ∧ (¬ (HT.sIx xs.length 0 lo = 0 ∧ HT.sIx xs.length xs.length hi = xs.length) → newT H (cutV xs lo hi) Q)
theorem sl_tupF : SlR X (rSlF X.K) := by
  intro pins s σ H x v vl vu lo hi sl Q I rx hs pl pu h
  obtain ⟨a, xs, rfl, hx, q1, q2⟩ := h
  cases rx
  obtain ⟨its, r, ht, hz⟩ := I.tuple hx
  have hlen : its.toArray.size = xs.length := by rw [List.size_toArray]; exact r.length.symm
  refine ⟨"tuple", _, PyProof.Rows.slot_tuple_getitem.lookup, ht.typeIs, ?_⟩
  by_cases hw : HT.sIx xs.length 0 lo = 0 ∧ HT.sIx xs.length xs.length hi = xs.length
  · exact getItem_tuple_whole ht hs pl pu (by rw [hlen]; exact hw) ⟨.ref a, H, I, rfl, q1 hw⟩
  · refine HT.getItem_tuple_cut ht hs pl pu (by rw [hlen]; exact hw) ?_ (by rw [hlen]; exact hz)
    rw [hlen]
    exact laidT I ((r.drop (HT.sIx xs.length 0 lo)).take (HT.sIx xs.length xs.length hi - HT.sIx xs.length 0 lo)) (Nat.le_trans (cutV_length xs lo hi) hz) (q2 hw)
def rTupOf (K : PySem.W.Frag) : List V → Hp → VK → Prop := fun xs H Q => ∃ p ys, xs = [.ref p] ∧ ((SqL K H p ys ∧ newT H ys Q) ∨ (SqT K H p ys ∧ Q (.ref p) H))
theorem call_tupF : CallR X (.type "tuple") (rTupOf X.K) := by
  intro pins s σ H xs us Q I r h
  obtain ⟨p, ys, rfl, h⟩ := h
  obtain ⟨u, rfl, rx⟩ := vals1 r
  cases rx
  rcases h with ⟨hq, q⟩ | ⟨hq, q⟩
  · obtain ⟨its, r', pl, hz⟩ := I.list hq
    have hlen := r'.length
    exact call_tuple_list pl.isList (fun h' kp => laidT (s := { s with heap := h' }) (I.kept (t' := s.toks) kp) r' hz q) (by simp only [List.size_toArray] <;> omega)
  · obtain ⟨its, r', pl, hz⟩ := I.tuple hq
    exact call_tuple_same pl ⟨.ref p, H, I, rfl, q⟩
def rRepF (K : PySem.W.Frag) : R2 := fun x y H Q => ∃ l k xs, x = .ref l ∧ y = .int k ∧ SqT K H l xs ∧ xs ≠ [] ∧ 2 ≤ k ∧ k ≤ 1000 ∧ xs.length ≤ 1000 ∧ newT H (List.replicate k.toNat xs).flatten Q
theorem op_repF : OpR X (binaryOp .Mult) (rRepF X.K) := by
  intro pins s σ H x y v u Q I rx ry h
  obtain ⟨l, k, xs, rfl, rfl, hT, hne, h1, h2, hz, q⟩ := h
  cases rx
  obtain ⟨t, rfl⟩ := ry
  obtain ⟨its, r, ⟨⟨cls, dd, data, sl⟩, ho, hc, n, hd⟩, hs⟩ := I.tuple hT
  simp only at hc hd
  subst hc hd
  have hle : its.length = xs.length := r.length.symm
  have hi : its.toArray.isEmpty = false := by
    cases its with
    | nil => exact absurd (List.eq_nil_of_length_eq_zero hle.symm) hne
    | cons a b => rfl
  have hsz0 : its.toArray.size = xs.length := by rw [List.size_toArray, hle]
  have hm : ((its.toArray.size : Nat) : Int) * k ≤ 1000000 := by
    rw [hsz0]
    have a1 : ((xs.length : Nat) : Int) * k ≤ 1000 * k := Int.mul_le_mul_of_nonneg_right (by omega) (by omega)
    omega
  have a2 : k.toNat * xs.length ≤ 1000 * 1000 := Nat.mul_le_mul (by omega) hz
  have flen : (List.replicate k.toNat its).flatten.length ≤ sizeLine := by rw [PyProof.Rows.lm_len_rep_flat, hle, sizeLine_eq]; omega
  have c0 : (decide (k < -(2 ^ 63)) || decide (k ≥ 2 ^ 63)) = false := by rw [decide_eq_false (by omega), decide_eq_false (by omega)] <;> rfl
  have c1 : (its.toArray.isEmpty || k == 1) = false := by rw [hi, Bool.false_or]; exact beq_eq_false_iff_ne.mpr (by omega)
  have c2 : (decide (k ≤ 0) || its.toArray.isEmpty) = false := by rw [hi, Bool.or_false]; exact decide_eq_false (by omega)
  have c4 : Builtin.Tuple.tupleTooMany (((its.toArray.size : Nat) : Int) * k) = false := by unfold Builtin.Tuple.tupleTooMany; rw [sizeLine_eq]; exact decide_eq_false (by omega)
  refine wpAny_binaryOp_repeat_ref (T := "tuple") (U := "int") (by decide) ⟨_, ho, rfl⟩ (fun s' => typeIs_int s' k t) noFill_tuple_mul F.fills_int_mul F.slot_int_rmul repeat_tuple F.slot_int_index.lookup
    (call_meets F.slot_int_rmul (typeIs_int s k t) F.entry_int_rmul (F.args_int_rmul_2 _ _) (int_rmul_tuple k t l its.toArray n dd sl)
      ⟨ho, rfl, ⟨_, ho, rfl⟩, call_meets F.slot_tuple_mul ⟨_, ho, rfl⟩ F.entry_tuple_mul (F.args_tuple_mul_2 _ _) (tuple_mulW l its.toArray n dd sl k t c0 c1 c2 (by omega) c4 (by rw [size_rep, List.size_toArray]; exact flen)) ⟨ho, ?_⟩⟩)
  rw [size_rep]
  exact laidT I (r.rep k.toNat) (by rw [PyProof.Rows.lm_len_rep_flat, sizeLine_eq]; omega) q
end

/-! ### data -/
inductive D where
  | non | bl (b : Bool) | int (i : Int) | str (x : Str) | fn (x : Str) | scr (xs : List D) | pr (xs : List D) | lst (xs : List D) | tup (xs : List D)

/-- a run's result -/
inductive R (α : Type) where
  | ok (a : α) | exc (c : Str) (x : Option (Str × D)) | bad
def R.bind {α β : Type} (m : R α) (f : α → R β) : R β := match m with
  | .ok a => f a
  | .exc c x => .exc c x
  | .bad => .bad
instance : Monad R where
  pure := .ok
  bind := R.bind

mutual
/-- the value v stands for the data d, as far as F tells -/
inductive Rp (K : PySem.W.Frag) (F : Hp) : V → D → Prop
  | non : Rp K F .non .non
  | bl (b : Bool) : Rp K F (.bl b) (.bl b)
  | int (i : Int) : Rp K F (.int i) (.int i)
  | str (x : Str) (h : PyData.strOk x = true) : Rp K F (.str x) (.str x)
  | fn (x : Str) : Rp K F (.ref (He.ga K x)) (.fn x)
  | scr {a : Addr} {vs : List V} {ds : List D} : SqL K F a vs → RpA K F vs ds → Rp K F (.ref a) (.scr ds)
  | lst {a : Addr} {vs : List V} {ds : List D} : F a = some (.lst vs) → RpA K F vs ds → Rp K F (.ref a) (.lst ds)
  | pr {a : Addr} {vs : List V} {ds : List D} : SqT K F a vs → RpA K F vs ds → Rp K F (.ref a) (.pr ds)
  | tup {a : Addr} {vs : List V} {ds : List D} : TupN K F a vs → RpA K F vs ds → Rp K F (.ref a) (.tup ds)
inductive RpA (K : PySem.W.Frag) (F : Hp) : List V → List D → Prop
  | nil : RpA K F [] []
  | cons {v : V} {vs : List V} {d : D} {ds : List D} : Rp K F v d → RpA K F vs ds → RpA K F (v :: vs) (d :: ds)
end

theorem seqT {K : PySem.W.Frag} {H H' : Hp} {a : Addr} {xs : List V} (e : Same H H') (h : SqT K H a xs) : SqT K H' a xs := by
  rcases h with (h | ⟨o, h⟩) | h
  · exact .inl (.inl (e _ _ h))
  · exact .inl (.inr ⟨o, e _ _ h⟩)
  · exact .inr h

mutual
theorem Rp.mono {K : PySem.W.Frag} {F F' : Hp} (s : Same F F') : ∀ {v : V} {d : D}, Rp K F v d → Rp K F' v d
  | _, _, .non => .non
  | _, _, .bl b => .bl b
  | _, _, .int i => .int i
  | _, _, .str x h => .str x h
  | _, _, .fn a => .fn a
  | _, _, .scr h r => .scr (s.seq h) (RpA.mono s r)
  | _, _, .lst h r => .lst (s _ _ h) (RpA.mono s r)
  | _, _, .pr h r => .pr (seqT s h) (RpA.mono s r)
  | _, _, .tup h r => .tup (h.same s) (RpA.mono s r)
theorem RpA.mono {K : PySem.W.Frag} {F F' : Hp} (s : Same F F') : ∀ {vs : List V} {ds : List D}, RpA K F vs ds → RpA K F' vs ds
  | _, _, .nil => .nil
  | _, _, .cons h r => .cons (Rp.mono s h) (RpA.mono s r)
end

section
variable {K : PySem.W.Frag} {F : Hp}
theorem RpA.length : ∀ {vs : List V} {ds : List D}, RpA K F vs ds → vs.length = ds.length
  | _, _, .nil => rfl
  | _, _, .cons _ r => congrArg Nat.succ (RpA.length r)
theorem RpA.get : ∀ {vs : List V} {ds : List D} {i : Nat} {d : D}, RpA K F vs ds → ds[i]? = some d → ∃ v, vs[i]? = some v ∧ Rp K F v d
  | _, _, _, _, .nil, e => by simp at e
  | _, _, 0, _, .cons r _, e => by simp at e; subst e; exact ⟨_, rfl, r⟩
  | _, _, i + 1, d, .cons _ t, e => by
    obtain ⟨u, h1, h2⟩ := RpA.get (i := i) (d := d) t (by simpa using e)
    exact ⟨u, by simpa using h1, h2⟩
theorem RpA.getV : ∀ {vs : List V} {ds : List D} {i : Nat} {v : V}, RpA K F vs ds → vs[i]? = some v → ∃ d, ds[i]? = some d ∧ Rp K F v d
  | _, _, _, _, .nil, e => by simp at e
  | _, _, 0, _, .cons r _, e => by simp at e; subst e; exact ⟨_, rfl, r⟩
  | _, _, i + 1, d, .cons _ t, e => by
    obtain ⟨u, h1, h2⟩ := RpA.getV (i := i) t (by simpa using e)
    exact ⟨u, by simpa using h1, h2⟩
theorem RpA.append : ∀ {xs ys : List V} {us ws : List D}, RpA K F xs us → RpA K F ys ws → RpA K F (xs ++ ys) (us ++ ws)
  | _, _, _, _, .nil, s => s
  | _, _, _, _, .cons r t, s => .cons r (RpA.append t s)
theorem RpA.take : ∀ {xs : List V} {us : List D} (n : Nat), RpA K F xs us → RpA K F (xs.take n) (us.take n)
  | _, _, 0, _ => .nil
  | _, _, _ + 1, .nil => .nil
  | _, _, n + 1, .cons r t => .cons r (RpA.take n t)
theorem RpA.drop : ∀ {xs : List V} {us : List D} (n : Nat), RpA K F xs us → RpA K F (xs.drop n) (us.drop n)
  | _, _, 0, r => r
  | _, _, _ + 1, .nil => .nil
  | _, _, n + 1, .cons _ t => RpA.drop n t
theorem RpA.set : ∀ {xs : List V} {us : List D} {x : V} {u : D} (n : Nat), Rp K F x u → RpA K F xs us → RpA K F (xs.set n x) (us.set n u)
  | _, _, _, _, _, _, .nil => .nil
  | _, _, _, _, 0, q, .cons _ t => .cons q t
  | _, _, _, _, n + 1, q, .cons r t => .cons r (RpA.set n q t)
theorem RpA.rep {xs : List V} {us : List D} (h : RpA K F xs us) : ∀ k : Nat, RpA K F (List.replicate k xs).flatten (List.replicate k us).flatten
  | 0 => .nil
  | k + 1 => by
    rw [List.replicate_succ, List.replicate_succ, List.flatten_cons, List.flatten_cons]
    exact RpA.append h (RpA.rep h k)
theorem RpA.nil_iff {xs : List V} {us : List D} (h : RpA K F xs us) : xs = [] ↔ us = [] := by
  cases h <;> simp
end

/-! ### heaps: H all that is tracked, F what is known never to be written -/
structure Ext (H F H' F' : Hp) : Prop where
  hh : Same H H'
  ff : Same F F'
  fh : Same F' H'
  fr : ∀ a o, F' a = some o → F a = some o ∨ H a = none
theorem Ext.refl {H F : Hp} (h : Same F H) : Ext H F H F := ⟨Same.refl _, Same.refl _, h, fun _ _ e => .inl e⟩
theorem Ext.trans {H F H1 F1 H2 F2 : Hp} (a : Ext H F H1 F1) (b : Ext H1 F1 H2 F2) : Ext H F H2 F2 :=
  ⟨a.hh.trans b.hh, a.ff.trans b.ff, b.fh, fun x o e => (b.fr x o e).elim (a.fr x o) fun z => .inr (a.hh.free z)⟩
theorem same_upd {H : Hp} {p : Addr} {o : HO} (h : H p = none) : Same H (upd H p o) := fun b x e => by
  rw [upd_ne (ne_of_none e h)]
  exact e
theorem same_upd2 {F H : Hp} {p : Addr} {o : HO} (s : Same F H) (h : H p = none) : Same (upd F p o) (upd H p o) := fun b x e => by
  by_cases hb : b = p
  · subst hb
    rw [upd_same] at e ⊢
    exact e
  · rw [upd_ne hb] at e ⊢
    exact s _ _ e
/-- a new thing, known -/
theorem Ext.new {H F : Hp} {p : Addr} {o : HO} (s : Same F H) (h : H p = none) : Ext H F (upd H p o) (upd F p o) :=
  ⟨same_upd h, same_upd (s.free h), same_upd2 s h, fun a u e => by
    by_cases ha : a = p
    · subst ha; exact .inr h
    · rw [upd_ne ha] at e; exact .inl e⟩
/-- a new thing, our own -/
theorem Ext.mine {H F : Hp} {p : Addr} {o : HO} (s : Same F H) (h : H p = none) : Ext H F (upd H p o) F :=
  ⟨same_upd h, Same.refl _, fun b x e => by rw [upd_ne (ne_of_none (s _ _ e) h)]; exact s _ _ e, fun a u e => .inl e⟩
/-- an own thing gets known -/
theorem Ext.know {H F : Hp} {p : Addr} {o : HO} (h : H p = some o) {H0 F0 : Hp} (s0 : Same F0 H0) (x : Ext H0 F0 H F) (n : H0 p = none) : Ext H0 F0 H (upd F p o) :=
  ⟨x.hh, fun b u e => by
    rw [upd_ne (ne_of_none (s0 _ _ e) n)]
    exact x.ff _ _ e, fun b u e => by
    by_cases hb : b = p
    · subst hb
      rw [upd_same] at e
      cases e
      exact h
    · rw [upd_ne hb] at e
      exact x.fh _ _ e, fun a u e => by
    by_cases ha : a = p
    · subst ha; exact .inr n
    · rw [upd_ne ha] at e
      exact x.fr _ _ e⟩

/-! ### the state of a body: slots, modes -/
abbrev Env := List (Option D)
abbrev Sg := L2.St
/-- v: a value; o: an own list; p: a list that is the caller's own, at its address; u: nothing is said -/
inductive Md where
  | v | o | p | u
  deriving DecidableEq
/-- the entry: its heap, what was known, the addresses that may be written -/
structure Gd where
  H0 : Hp
  F0 : Hp
  O : List Addr

/-- an own list's content -/
structure Own (K : PySem.W.Frag) (H F : Hp) (p : Addr) (d : D) : Prop where
  ex : ∃ vs ds, d = .lst ds ∧ H p = some (.lst vs) ∧ RpA K F vs ds
  nf : F p = none

def SlotOk (K : PySem.W.Frag) (G : Gd) (H F : Hp) (s : Option (Option V)) (d : D) : Md → Prop
  | .v => ∃ v, s = some (some v) ∧ Rp K F v d
  | .o => ∃ p, s = some (some (.ref p)) ∧ Own K H F p d ∧ G.H0 p = none
  | .p => ∃ p, s = some (some (.ref p)) ∧ Own K H F p d ∧ p ∈ G.O
  | .u => True
def Md.mine : Md → Bool
  | .o => true
  | .p => true
  | _ => false

structure Rep (K : PySem.W.Frag) (G : Gd) (md : List Md) (σ : Sg) (H F : Hp) (env : Env) : Prop where
  fh : Same F H
  h0 : ∀ a o, a ∉ G.O → G.H0 a = some o → H a = some o
  f0 : Same G.F0 F
  fr : ∀ a o, F a = some o → G.F0 a = some o ∨ G.H0 a = none
  gg : Same G.F0 G.H0
  oo : ∀ a, a ∈ G.O → ∃ o, H a = some o
  len : env.length = σ.length
  sl : ∀ i d, env[i]? = some (some d) → SlotOk K G H F σ[i]? d (md.getD i .u)
  sep : ∀ i j p d e, (md.getD i .u).mine = true → (md.getD j .u).mine = true → env[i]? = some (some d) → env[j]? = some (some e) → σ[i]? = some (some (.ref p)) → σ[j]? = some (some (.ref p)) → i = j

section
variable {K : PySem.W.Frag} {G : Gd} {md : List Md} {σ : Sg} {H F H' F' : Hp} {env : Env}
theorem Own.ext {p : Addr} {d : D} (h : Own K H F p d) (x : Ext H F H' F') : Own K H' F' p d := by
  obtain ⟨⟨vs, ds, e, hp, r⟩, nf⟩ := h
  refine ⟨⟨vs, ds, e, x.hh _ _ hp, r.mono x.ff⟩, ?_⟩
  cases q : F' p with
  | none => rfl
  | some o =>
    rcases x.fr _ _ q with z | z
    · rw [nf] at z; cases z
    · rw [hp] at z; cases z
theorem SlotOk.ext {s : Option (Option V)} {d : D} {m : Md} (h : SlotOk K G H F s d m) (x : Ext H F H' F') : SlotOk K G H' F' s d m := by
  cases m with
  | v => obtain ⟨v, e, r⟩ := h; exact ⟨v, e, r.mono x.ff⟩
  | o => obtain ⟨p, e, r, n⟩ := h; exact ⟨p, e, r.ext x, n⟩
  | p => obtain ⟨p, e, r, n⟩ := h; exact ⟨p, e, r.ext x, n⟩
  | u => trivial
/-- an expression that only makes new things -/
theorem Rep.ext (r : Rep K G md σ H F env) (x : Ext H F H' F') : Rep K G md σ H' F' env where
  fh := x.fh
  h0 := fun a o n e => x.hh _ _ (r.h0 a o n e)
  f0 := r.f0.trans x.ff
  fr := fun a o e => by
    rcases x.fr _ _ e with z | z
    · exact r.fr _ _ z
    · cases q : G.H0 a with
      | none => exact .inr rfl
      | some u =>
        by_cases ha : a ∈ G.O
        · obtain ⟨o', ho⟩ := r.oo a ha
          rw [ho] at z; cases z
        · rw [r.h0 a u ha q] at z; cases z
  gg := r.gg
  oo := fun a ha => (r.oo a ha).imp fun o e => x.hh _ _ e
  len := r.len
  sl := fun i d e => (r.sl i d e).ext x
  sep := r.sep
end

/-! ### judgements: a reading t and what it computes -/
/-- the class of the name c, as a value -/
abbrev clsOf (K : PySem.W.Frag) (c : Str) : Value := .ref (He.ga K c)
/-- an exception leaves: its class, its one attribute -/
def PostX (K : PySem.W.Frag) (W : WX) (σ : Sg) (H F : Hp) (c : Str) : Option (Str × D) → Prop
  | none => ∀ H' F', Ext H F H' F' → W (clsOf K c) none σ H'
  | some (n, d) => ∀ H' F' dx v, Ext H F H' F' → H dx = none → H' dx = some (.xd [(n, v)]) → Rp K F' v d → W (clsOf K c) (some dx) σ H'
def Post (K : PySem.W.Frag) (W : WX) (σ : Sg) (H F : Hp) {α : Type} (P : α → Prop) : R α → Prop
  | .ok a => P a
  | .exc c x => PostX K W σ H F c x
  | .bad => False
/-- what is wanted of a value, of a test, of arguments, of a new own list -/
def QE (K : PySem.W.Frag) (H F : Hp) (Q : VK) (d : D) : Prop := ∀ v H' F', Ext H F H' F' → Rp K F' v d → Q v H'
def QT (H F : Hp) (Q : Bool → Hp → Prop) (b : Bool) : Prop := ∀ H' F', Ext H F H' F' → Q b H'
def QA (K : PySem.W.Frag) (H F : Hp) (Q : List V → Hp → Prop) (ds : List D) : Prop := ∀ vs H' F', Ext H F H' F' → RpA K F' vs ds → Q vs H'
def QF (K : PySem.W.Frag) (H F : Hp) (Q : VK) (d : D) : Prop := ∀ p H' F', Ext H F H' F' → H p = none → Own K H' F' p d → Q (.ref p) H'
abbrev PostE (K : PySem.W.Frag) (W : WX) (σ : Sg) (H F : Hp) (Q : VK) (m : R D) : Prop := Post K W σ H F (QE K H F Q) m
abbrev PostT (K : PySem.W.Frag) (W : WX) (σ : Sg) (H F : Hp) (Q : Bool → Hp → Prop) (m : R Bool) : Prop := Post K W σ H F (QT H F Q) m
abbrev PostA (K : PySem.W.Frag) (W : WX) (σ : Sg) (H F : Hp) (Q : List V → Hp → Prop) (m : R (List D)) : Prop := Post K W σ H F (QA K H F Q) m
abbrev PostF (K : PySem.W.Frag) (W : WX) (σ : Sg) (H F : Hp) (Q : VK) (m : R D) : Prop := Post K W σ H F (QF K H F Q) m
section
variable {K : PySem.W.Frag} {W : WX} {σ : Sg} {H F H' F' : Hp}
theorem PostX.ext {c : Str} {x : Option (Str × D)} (h : PostX K W σ H F c x) (e : Ext H F H' F') : PostX K W σ H' F' c x := by
  cases x with
  | none => exact fun H2 F2 e2 => h H2 F2 (e.trans e2)
  | some q => obtain ⟨n, d⟩ := q; exact fun H2 F2 dx v e2 nn hd r => h H2 F2 dx v (e.trans e2) (e.hh.free nn) hd r
theorem Post.bind {α β : Type} {P : β → Prop} {P1 : α → Prop} {m : R α} {k : α → R β} (h : Post K W σ H F P (m.bind k)) (c : ∀ a, Post K W σ H F P (k a) → P1 a) : Post K W σ H F P1 m := by
  cases m with
  | ok a => exact c a h
  | exc c x => exact h
  | bad => exact h
theorem Post.ext {α : Type} {P P' : α → Prop} {m : R α} (h : Post K W σ H F P m) (e : Ext H F H' F') (c : ∀ a, P a → P' a) : Post K W σ H' F' P' m := by
  cases m with
  | ok a => exact c a h
  | exc c x => exact PostX.ext h e
  | bad => exact h
theorem Post.imp {α : Type} {P P' : α → Prop} {m : R α} (h : Post K W σ H F P m) (c : ∀ a, P a → P' a) : Post K W σ H F P' m := by
  cases m with
  | ok a => exact c a h
  | exc c x => exact h
  | bad => exact h
theorem Post.chk {α : Type} {P : α → Prop} {m : R α} {c : Prop} [Decidable c] (h : Post K W σ H F P (if c then m else .bad)) : c ∧ Post K W σ H F P m := by
  by_cases hc : c
  · rw [if_pos hc] at h; exact ⟨hc, h⟩
  · rw [if_neg hc] at h; exact h.elim
theorem QE.ext {Q : VK} {d : D} (h : QE K H F Q d) (e : Ext H F H' F') : QE K H' F' Q d := fun v H2 F2 e2 r => h v H2 F2 (e.trans e2) r
theorem QT.ext {Q : Bool → Hp → Prop} {d : Bool} (h : QT H F Q d) (e : Ext H F H' F') : QT H' F' Q d := fun H2 F2 e2 => h H2 F2 (e.trans e2)
theorem QA.ext {Q : List V → Hp → Prop} {d : List D} (h : QA K H F Q d) (e : Ext H F H' F') : QA K H' F' Q d := fun v H2 F2 e2 r => h v H2 F2 (e.trans e2) r
theorem QF.ext {Q : VK} {d : D} (h : QF K H F Q d) (e : Ext H F H' F') : QF K H' F' Q d := fun v H2 F2 e2 n r => h v H2 F2 (e.trans e2) (e.hh.free n) r
theorem Post.extE {Q : VK} {m : R D} (h : PostE K W σ H F Q m) (e : Ext H F H' F') : PostE K W σ H' F' Q m := Post.ext h e fun _ q => q.ext e
theorem Post.extT {Q : Bool → Hp → Prop} {m : R Bool} (h : PostT K W σ H F Q m) (e : Ext H F H' F') : PostT K W σ H' F' Q m := Post.ext h e fun _ q => q.ext e
theorem Post.extA {Q : List V → Hp → Prop} {m : R (List D)} (h : PostA K W σ H F Q m) (e : Ext H F H' F') : PostA K W σ H' F' Q m := Post.ext h e fun _ q => q.ext e
theorem Post.extF {Q : VK} {m : R D} (h : PostF K W σ H F Q m) (e : Ext H F H' F') : PostF K W σ H' F' Q m := Post.ext h e fun _ q => q.ext e
end

def DenE (K : PySem.W.Frag) (W : WX) (md : List Md) (t : TE) (f : Env → R D) : Prop :=
  ∀ (G : Gd) (σ : Sg) (H F : Hp) (env : Env) (Q : VK), Rep K G md σ H F env → PostE K W σ H F Q (f env) → t σ H Q
def DenF (K : PySem.W.Frag) (W : WX) (md : List Md) (t : TE) (f : Env → R D) : Prop :=
  ∀ (G : Gd) (σ : Sg) (H F : Hp) (env : Env) (Q : VK), Rep K G md σ H F env → PostF K W σ H F Q (f env) → t σ H Q
def DenT (K : PySem.W.Frag) (W : WX) (md : List Md) (t : TT) (f : Env → R Bool) : Prop :=
  ∀ (G : Gd) (σ : Sg) (H F : Hp) (env : Env) (Q : Bool → Hp → Prop), Rep K G md σ H F env → PostT K W σ H F Q (f env) → t σ H Q
def DenA (K : PySem.W.Frag) (W : WX) (md : List Md) (t : TA) (f : Env → R (List D)) : Prop :=
  ∀ (G : Gd) (σ : Sg) (H F : Hp) (env : Env) (Q : List V → Hp → Prop), Rep K G md σ H F env → PostA K W σ H F Q (f env) → t σ H Q

/-- the expression e, read by t, computes f -/
structure DE (X : Cx) (W : WX) (md : List Md) (e : Expr) (t : TE) (f : Env → R D) : Prop where
  run : PE X e t
  den : DenE X.K W md t f
structure DF (X : Cx) (W : WX) (md : List Md) (e : Expr) (t : TE) (f : Env → R D) : Prop where
  run : PE X e t
  den : DenF X.K W md t f
structure DT (X : Cx) (W : WX) (md : List Md) (e : Expr) (t : TT) (f : Env → R Bool) : Prop where
  run : PT X e t
  den : DenT X.K W md t f
structure DA (X : Cx) (W : WX) (md : List Md) (es : List Expr) (t : TA) (f : Env → R (List D)) : Prop where
  run : PA X es t
  den : DenA X.K W md t f
end DN
end

section
set_option Elab.async false
set_option linter.all false
set_option maxRecDepth 100000
namespace DN
open PySem PySem.Spec PyProof.Rows L2

/-! ### denotations of expressions -/
def eVar (i : Nat) : Env → R D := fun env => match env[i]? with
  | some (some d) => .ok d
  | _ => .bad
def eC (d : D) : Env → R D := fun _ => .ok d
def eUn (g : D → R D) (a : Env → R D) : Env → R D := fun env => (a env).bind g
def eBin (g : D → D → R D) (a b : Env → R D) : Env → R D := fun env => (a env).bind fun x => (b env).bind fun y => g x y
def eT (g : D → R Bool) (a : Env → R D) : Env → R Bool := fun env => (a env).bind g
def eAnd (a b : Env → R Bool) : Env → R Bool := fun env => (a env).bind fun c => match c with | true => b env | false => .ok false
def eOr (a b : Env → R Bool) : Env → R Bool := fun env => (a env).bind fun c => match c with | true => .ok true | false => b env
def eNot (a : Env → R Bool) : Env → R Bool := fun env => (a env).bind fun c => .ok (!c)
def eIf (c : Env → R Bool) (a b : Env → R D) : Env → R D := fun env => (c env).bind fun c => match c with | true => a env | false => b env
def eNil : Env → R (List D) := fun _ => .ok []
def eCons (a : Env → R D) (b : Env → R (List D)) : Env → R (List D) := fun env => (a env).bind fun x => (b env).bind fun xs => .ok (x :: xs)
def eArgs (g : List D → R D) (a : Env → R (List D)) : Env → R D := fun env => (a env).bind g

section
variable {X : Cx} {W : WX} {md : List Md} {a b e : Expr} {es : List Expr} {ta tb te : TE} {fa fb fe : Env → R D} {pos : Pos}

/-- a new own list may be taken as a value -/
theorem DenF.val {K : PySem.W.Frag} {t : TE} {f : Env → R D} (h : DenF K W md t f) : DenE K W md t f := fun G σ H F env Q rep post => by
  refine h G σ H F env Q rep (post.imp fun d q => ?_)
  intro p H' F' x n o
  obtain ⟨⟨vs, ds, rfl, hp, r⟩, nf⟩ := o
  have k := Ext.know hp rep.fh x n
  exact q (.ref p) H' _ k (.lst upd_same (r.mono (fun b o e => by rw [upd_ne (ne_of_none e nf)]; exact e)))
theorem DF.val {t : TE} {f : Env → R D} (h : DF X W md e t f) : DE X W md e t f := ⟨h.run, h.den.val⟩

/-! names, constants -/
theorem DenE.var {K : PySem.W.Frag} {i : Nat} (hm : md.getD i .u = .v) : DenE K W md (tVar i) (eVar i) := fun G σ H F env Q rep post => by
  unfold eVar at post
  cases h : env[i]? with
  | none => rw [h] at post; exact post.elim
  | some o =>
    cases o with
    | none => rw [h] at post; exact post.elim
    | some d =>
      rw [h] at post
      have s := rep.sl i d h
      rw [hm] at s
      obtain ⟨v, e1, r⟩ := s
      exact ⟨v, e1, post v H F (Ext.refl rep.fh) r⟩
theorem de_var (i : Nat) {x : Str} (hm : md.getD i .u = .v := by rfl) (hN : X.N[i]? = some x := by rfl) (hv : Vis X.env.scope x := by first | exact Or.inl rfl | exact Or.inr (Or.inl rfl) | exact Or.inr (Or.inr rfl)) (hd : (x == ("__debug__" : Str)) = false := by decide)
    (hcd : (x == ("__classdict__" : Str)) = false := by decide) : DE X W md (.Name x pos) (tVar i) (eVar i) := ⟨pe_var hN hv hd hcd, DenE.var hm⟩
theorem DenE.c {K : PySem.W.Frag} {v : V} {d : D} (h : ∀ F, Rp K F v d) : DenE K W md (tC v) (eC d) := fun G σ H F env Q rep post => post v H F (Ext.refl rep.fh) (h F)
theorem de_int {i : Int} {j : Nat} : DE X W md (.Constant (.int i) j pos) (tC (.int i)) (eC (.int i)) := ⟨pe_int, DenE.c fun _ => .int i⟩
theorem de_bl {i : Bool} {j : Nat} : DE X W md (.Constant (.bool i) j pos) (tC (.bl i)) (eC (.bl i)) := ⟨pe_bl, DenE.c fun _ => .bl i⟩
theorem de_non {j : Nat} : DE X W md (.Constant .none j pos) (tC .non) (eC .non) := ⟨pe_non, DenE.c fun _ => .non⟩
theorem de_str {x : Str} {j : Nat} (h : PyData.strOk x = true := by decide +kernel) : DE X W md (.Constant (.str x) j pos) (tC (.str x)) (eC (.str x)) := ⟨pe_str, DenE.c fun _ => .str x h⟩
/-- a global constant -/
theorem de_glob {x : Str} {v : V} {u : Value} {d : D} (hg : Gl X x) (hm : X.mg x = some u) (r : RelV v u) (h : ∀ F, Rp X.K F v d) (hd : (x == ("__debug__" : Str)) = false := by decide) : DE X W md (.Name x pos) (tC v) (eC d) :=
  ⟨pe_glob hg hm r hd, DenE.c h⟩

/-! operators, by values -/
def VUn (K : PySem.W.Frag) (r : V → Hp → VK → Prop) (g : D → R D) : Prop :=
  ∀ (W : WX) (σ : Sg) (x : V) (c : D) (H F : Hp) (Q : VK), Same F H → Rp K F x c → PostE K W σ H F Q (g c) → r x H Q
def VOp (K : PySem.W.Frag) (r : R2) (g : D → D → R D) : Prop :=
  ∀ (W : WX) (σ : Sg) (x y : V) (c d : D) (H F : Hp) (Q : VK), Same F H → Rp K F x c → Rp K F y d → PostE K W σ H F Q (g c d) → r x y H Q
def VArg (K : PySem.W.Frag) (r : List V → Hp → VK → Prop) (g : List D → R D) : Prop :=
  ∀ (W : WX) (σ : Sg) (xs : List V) (cs : List D) (H F : Hp) (Q : VK), Same F H → RpA K F xs cs → PostE K W σ H F Q (g cs) → r xs H Q
/-- .. where a new own list is handed back -/
def VArgF (K : PySem.W.Frag) (r : List V → Hp → VK → Prop) (g : List D → R D) : Prop :=
  ∀ (W : WX) (σ : Sg) (xs : List V) (cs : List D) (H F : Hp) (Q : VK), Same F H → RpA K F xs cs → PostF K W σ H F Q (g cs) → r xs H Q
def VOpF (K : PySem.W.Frag) (r : R2) (g : D → D → R D) : Prop :=
  ∀ (W : WX) (σ : Sg) (x y : V) (c d : D) (H F : Hp) (Q : VK), Same F H → Rp K F x c → Rp K F y d → PostF K W σ H F Q (g c d) → r x y H Q

theorem DenE.op {K : PySem.W.Frag} {r : R2} {g : D → D → R D} (hv : VOp K r g) (ha : DenE K W md ta fa) (hb : DenE K W md tb fb) : DenE K W md (tOp r ta tb) (eBin g fa fb) := fun G σ H F env Q rep post =>
  ha G σ H F env _ rep (post.bind fun c p1 v H1 F1 x1 r1 => hb G σ H1 F1 env _ (rep.ext x1) ((Post.extE p1 x1).bind fun d p2 u H2 F2 x2 r2 => hv W σ v u c d H2 F2 Q x2.fh (r1.mono x2.ff) r2 (Post.extE p2 x2)))
theorem DenF.op {K : PySem.W.Frag} {r : R2} {g : D → D → R D} (hv : VOpF K r g) (ha : DenE K W md ta fa) (hb : DenE K W md tb fb) : DenF K W md (tOp r ta tb) (eBin g fa fb) := fun G σ H F env Q rep post =>
  ha G σ H F env _ rep (post.bind fun c p1 v H1 F1 x1 r1 => hb G σ H1 F1 env _ (rep.ext x1) ((Post.extF p1 x1).bind fun d p2 u H2 F2 x2 r2 => hv W σ v u c d H2 F2 Q x2.fh (r1.mono x2.ff) r2 (Post.extF p2 x2)))
theorem DenE.un {K : PySem.W.Frag} {r : V → Hp → VK → Prop} {g : D → R D} (hv : VUn K r g) (ha : DenE K W md ta fa) : DenE K W md (tUn r ta) (eUn g fa) := fun G σ H F env Q rep post =>
  ha G σ H F env _ rep (post.bind fun c p1 v H1 F1 x1 r1 => hv W σ v c H1 F1 Q x1.fh r1 (Post.extE p1 x1))
theorem DenE.args {K : PySem.W.Frag} {r : List V → Hp → VK → Prop} {g : List D → R D} {t : TA} {f : Env → R (List D)} (hv : VArg K r g) (ha : DenA K W md t f) : DenE K W md (tCB r t) (eArgs g f) := fun G σ H F env Q rep post =>
  ha G σ H F env _ rep (post.bind fun c p1 v H1 F1 x1 r1 => hv W σ v c H1 F1 Q x1.fh r1 (Post.extE p1 x1))
theorem DenF.args {K : PySem.W.Frag} {r : List V → Hp → VK → Prop} {g : List D → R D} {t : TA} {f : Env → R (List D)} (hv : VArgF K r g) (ha : DenA K W md t f) : DenF K W md (tCB r t) (eArgs g f) := fun G σ H F env Q rep post =>
  ha G σ H F env _ rep (post.bind fun c p1 v H1 F1 x1 r1 => hv W σ v c H1 F1 Q x1.fh r1 (Post.extF p1 x1))
theorem da_nil : DA X W md [] tNil eNil := ⟨pa_nil, fun G σ H F env Q rep post => post [] H F (Ext.refl rep.fh) .nil⟩
theorem da_cons {t : TA} {f : Env → R (List D)} (ha : DE X W md e te fe) (hr : DA X W md es t f) (hs : starEach (e :: es) X.env = (false, eval e X.env) :: starEach es X.env := by rfl) : DA X W md (e :: es) (tCons te t) (eCons fe f) :=
  ⟨pa_cons ha.run hr.run hs, fun G σ H F env Q rep post =>
    ha.den G σ H F env _ rep (post.bind fun c p1 v H1 F1 x1 r1 => hr.den G σ H1 F1 env _ (rep.ext x1) ((Post.extA p1 x1).bind fun cs p2 vs H2 F2 x2 r2 => QA.ext (K := X.K) (d := c :: cs) p2 x2 (v :: vs) H2 F2 (Ext.refl x2.fh) (.cons (r1.mono x2.ff) r2)))⟩

theorem de_bin {op : Operator} {r : R2} {g : D → D → R D} (ho : OpR X (binaryOp op) r) (hv : VOp X.K r g) (ha : DE X W md a ta fa) (hb : DE X W md b tb fb) : DE X W md (.BinOp a op b pos) (tOp r ta tb) (eBin g fa fb) :=
  ⟨pe_op ho ha.run hb.run, DenE.op hv ha.den hb.den⟩
theorem df_bin {op : Operator} {r : R2} {g : D → D → R D} (ho : OpR X (binaryOp op) r) (hv : VOpF X.K r g) (ha : DE X W md a ta fa) (hb : DE X W md b tb fb) : DF X W md (.BinOp a op b pos) (tOp r ta tb) (eBin g fa fb) :=
  ⟨pe_op ho ha.run hb.run, DenF.op hv ha.den hb.den⟩
theorem de_un {op : UnaryOp} {r : V → Hp → VK → Prop} {g : D → R D} (ho : UnR X (unaryOp op) r) (hv : VUn X.K r g) (ha : DE X W md a ta fa) : DE X W md (.UnaryOp op a pos) (tUn r ta) (eUn g fa) :=
  ⟨pe_un ho ha.run, DenE.un hv ha.den⟩
theorem de_cmp {op : CmpOp} {r : R2} {g : D → D → R D} (ho : OpR X (compareOp op) r) (hv : VOp X.K r g) (ha : DE X W md a ta fa) (hb : DE X W md b tb fb) (hm : behindInMarks op b = false := by first | exact nomark _ | rfl | (with_unfolding_all rfl)) :
    DE X W md (.Compare a [op] [b] pos) (tOp r ta tb) (eBin g fa fb) := ⟨pe_cmpR ho ha.run hb.run hm, DenE.op hv ha.den hb.den⟩
theorem de_ix {r : R2} {g : D → D → R D} (ho : IxR X r) (hv : VOp X.K r g) (ha : DE X W md a ta fa) (hb : DE X W md b tb fb) (hs : PlainIx b := by exact fun _ _ => rfl) : DE X W md (.Subscript a b pos) (tOp r ta tb) (eBin g fa fb) :=
  ⟨pe_ix ho ha.run hb.run hs, DenE.op hv ha.den hb.den⟩

/-! built-ins by name -/
theorem de_callB {x : Str} {p : Pos} {id : String} {r : List V → Hp → VK → Prop} {g : List D → R D} {t : TA} {f : Env → R (List D)} (hc : CallR X (.builtin id) r) (hv : VArg X.K r g) (hg : Gl X x) (hm : X.mg x = none) (hb : bootBuiltins x = some (.builtin id)) (ha : DA X W md (e :: es) t f)
    (hn : x ≠ "__name__" := by decide) (hdb : (x == ("__debug__" : Str)) = false := by decide) (he : starEach (e :: es) X.env = (false, eval e X.env) :: starEach es X.env := by rfl) (hpl : (backTo pos (starEach es X.env)).any (·.1) = false := by rfl) :
    DE X W md (.Call (.Name x p) (e :: es) [] pos) (tCB r t) (eArgs g f) := ⟨pe_callB hc hg hm hb ha.run hn hdb he hpl, DenE.args hv ha.den⟩
theorem de_callTy {x : Str} {p : Pos} {id : String} {r : List V → Hp → VK → Prop} {g : List D → R D} {t : TA} {f : Env → R (List D)} (hc : CallR X (.type id) r) (hv : VArg X.K r g) (hg : Gl X x) (hm : X.mg x = none) (hb : bootBuiltins x = some (.type id)) (ha : DA X W md (e :: es) t f)
    (hn : x ≠ "__name__" := by decide) (hdb : (x == ("__debug__" : Str)) = false := by decide) (he : starEach (e :: es) X.env = (false, eval e X.env) :: starEach es X.env := by rfl) (hpl : (backTo pos (starEach es X.env)).any (·.1) = false := by rfl) :
    DE X W md (.Call (.Name x p) (e :: es) [] pos) (tCB r t) (eArgs g f) := ⟨pe_callTy hc hg hm hb ha.run hn hdb he hpl, DenE.args hv ha.den⟩
theorem df_callTy {x : Str} {p : Pos} {id : String} {r : List V → Hp → VK → Prop} {g : List D → R D} {t : TA} {f : Env → R (List D)} (hc : CallR X (.type id) r) (hv : VArgF X.K r g) (hg : Gl X x) (hm : X.mg x = none) (hb : bootBuiltins x = some (.type id)) (ha : DA X W md (e :: es) t f)
    (hn : x ≠ "__name__" := by decide) (hdb : (x == ("__debug__" : Str)) = false := by decide) (he : starEach (e :: es) X.env = (false, eval e X.env) :: starEach es X.env := by rfl) (hpl : (backTo pos (starEach es X.env)).any (·.1) = false := by rfl) :
    DF X W md (.Call (.Name x p) (e :: es) [] pos) (tCB r t) (eArgs g f) := ⟨pe_callTy hc hg hm hb ha.run hn hdb he hpl, DenF.args hv ha.den⟩

/-! tests -/
theorem DenT.val {K : PySem.W.Frag} {t : TE} {f : Env → R D} (h : DenE K W md t f) : DenT K W md (tB t) (eT (fun d => match d with | .bl b => .ok b | _ => .bad) f) := fun G σ H F env Q rep post =>
  h G σ H F env _ rep (post.bind fun c p1 v H1 F1 x1 r1 => by
    cases c with
    | bl b => cases r1; exact ⟨b, rfl, p1 H1 F1 x1⟩
    | _ => exact p1.elim)
/-- a bool's own value, as a test -/
def dB : D → R Bool
  | .bl b => .ok b
  | _ => .bad
theorem dt_val {t : TE} {f : Env → R D} (h : DE X W md e t f) (he : ∀ whole, isTrue e X.env whole = (do let v ← whole; standAt e.pos; holding [v] (truthy v)) := by intro _; rfl) : DT X W md e (tB t) (eT dB f) :=
  ⟨pt_val h.run he, fun G σ H F env Q rep post => h.den G σ H F env _ rep (post.bind fun c p1 v H1 F1 x1 r1 => by
    cases c with
    | bl b => cases r1; exact ⟨b, rfl, p1 H1 F1 x1⟩
    | _ => exact p1.elim)⟩
theorem dt_cmp {op : CmpOp} {r : R2} {g : D → D → R D} (ho : OpR X (compareOp op) r) (hv : VOp X.K r g) (ha : DE X W md a ta fa) (hb : DE X W md b tb fb) (hm : behindInMarks op b = false := by first | exact nomark _ | rfl | (with_unfolding_all rfl)) :
    DT X W md (.Compare a [op] [b] pos) (tTest (tOp r ta tb)) (eT dB (eBin g fa fb)) :=
  ⟨pt_cmpR ho ha.run hb.run hm, fun G σ H F env Q rep post => DenE.op hv ha.den hb.den G σ H F env _ rep (post.bind fun c p1 v H1 F1 x1 r1 => by
    cases c with
    | bl b => cases r1; exact ⟨b, rfl, p1 H1 F1 x1⟩
    | _ => exact p1.elim)⟩
/-- a value's truth -/
def dTru : D → R Bool
  | .non => .ok false
  | .bl b => .ok b
  | .int i => .ok (i != 0)
  | .str x => if x.length ≤ sizeLine then .ok ((x.length : Int) != 0) else .bad
  | .fn _ => .bad
  | .scr xs => .ok (!xs.isEmpty)
  | .pr _ => .bad
  | .lst xs => .ok (!xs.isEmpty)
  | .tup xs => .ok (!xs.isEmpty)
theorem RpA.isEmpty {K : PySem.W.Frag} {F : Hp} {vs : List V} {ds : List D} (h : RpA K F vs ds) : vs.isEmpty = ds.isEmpty := by
  cases h <;> rfl
theorem DenT.tru {K : PySem.W.Frag} {t : TE} {f : Env → R D} (h : DenE K W md t f) : DenT K W md (fun σ H Q => t σ H fun x H' => ∃ k, TruV K x H' k ∧ Q k H') (eT dTru f) := fun G σ H F env Q rep post =>
  h G σ H F env _ rep (post.bind fun c p1 v H1 F1 x1 r1 => by
    cases r1 with
    | non => exact ⟨_, rfl, p1 H1 F1 x1⟩
    | bl b => exact ⟨_, rfl, p1 H1 F1 x1⟩
    | int i => exact ⟨_, rfl, p1 H1 F1 x1⟩
    | str x hx =>
      obtain ⟨hl, p1⟩ := Post.chk (c := x.length ≤ sizeLine) p1
      exact ⟨_, ⟨hl, rfl⟩, p1 H1 F1 x1⟩
    | fn a => exact p1.elim
    | scr q r => exact ⟨_, .inl ⟨_, x1.fh.seq q, rfl⟩, by rw [r.isEmpty]; exact p1 H1 F1 x1⟩
    | lst q r => exact ⟨_, .inl ⟨_, SqL.of (x1.fh _ _ q), rfl⟩, by rw [r.isEmpty]; exact p1 H1 F1 x1⟩
    | pr q r => exact p1.elim
    | tup q r => exact ⟨_, .inr (.inl ⟨_, seqT x1.fh q.sq, rfl⟩), by rw [r.isEmpty]; exact p1 H1 F1 x1⟩)
theorem dt_tru {t : TE} {f : Env → R D} (h : DE X W md e t f) (he : ∀ whole, isTrue e X.env whole = (do let v ← whole; standAt e.pos; holding [v] (truthy v)) := by intro _; rfl) : DT X W md e (fun σ H Q => t σ H fun x H' => ∃ k, TruV X.K x H' k ∧ Q k H') (eT dTru f) :=
  ⟨pt_truth h.run he, DenT.tru h.den⟩
theorem dt_not {t : TT} {f : Env → R Bool} (h : DT X W md a t f) : DT X W md (.UnaryOp .Not a pos) (tNot t) (eNot f) :=
  ⟨pt_not h.run, fun G σ H F env Q rep post => h.den G σ H F env _ rep (post.bind fun c p1 H1 F1 x1 => p1 H1 F1 x1)⟩
/-- and, or as tests -/
structure DW (X : Cx) (W : WX) (md : List Md) (e : Expr) (t : TT) (f : Env → R Bool) : Prop where
  run : PW X e t
  den : DenT X.K W md t f
theorem DW.dt {t : TT} {f : Env → R Bool} (h : DW X W md e t f) : DT X W md e t f := ⟨h.run.pt, h.den⟩
theorem dw_and1 {t : TT} {f : Env → R Bool} (h : DT X W md a t f) : DW X W md (.BoolOp .And [a] pos) t f := ⟨pw_and1 h.run, h.den⟩
theorem dw_or1 {t : TT} {f : Env → R Bool} (h : DT X W md a t f) : DW X W md (.BoolOp .Or [a] pos) t f := ⟨pw_or1 h.run, h.den⟩
theorem dw_and {t u : TT} {f g : Env → R Bool} {rest : List Expr} (h : DT X W md a t f) (h2 : DW X W md (.BoolOp .And (b :: rest) pos) u g) : DW X W md (.BoolOp .And (a :: b :: rest) pos) (tAnd t u) (eAnd f g) :=
  ⟨pw_and h.run h2.run, fun G σ H F env Q rep post => h.den G σ H F env _ rep (post.bind fun c p1 H1 F1 x1 => by
    cases c with
    | true => exact iteT (h2.den G σ H1 F1 env Q (rep.ext x1) (Post.extT p1 x1))
    | false => exact iteF (p1 H1 F1 x1))⟩
theorem dw_or {t u : TT} {f g : Env → R Bool} {rest : List Expr} (h : DT X W md a t f) (h2 : DW X W md (.BoolOp .Or (b :: rest) pos) u g) : DW X W md (.BoolOp .Or (a :: b :: rest) pos) (tOr t u) (eOr f g) :=
  ⟨pw_or h.run h2.run, fun G σ H F env Q rep post => h.den G σ H F env _ rep (post.bind fun c p1 H1 F1 x1 => by
    cases c with
    | false => exact iteF (h2.den G σ H1 F1 env Q (rep.ext x1) (Post.extT p1 x1))
    | true => exact iteT (p1 H1 F1 x1))⟩
/-! and, or, not as values: all but the last are bools -/
def eAndV (a b : Env → R D) : Env → R D := fun env => (a env).bind fun c => match c with | .bl true => b env | .bl false => .ok (.bl false) | _ => .bad
def eOrV (a b : Env → R D) : Env → R D := fun env => (a env).bind fun c => match c with | .bl true => .ok (.bl true) | .bl false => b env | _ => .bad
def dNot : D → R D
  | .bl b => .ok (.bl (!b))
  | _ => .bad
theorem de_one {op : BoolOp} (h : DE X W md a ta fa) : DE X W md (.BoolOp op [a] pos) ta fa := ⟨pe_one h.run, h.den⟩
theorem de_and {rest : List Expr} (h : DE X W md a ta fa) (h2 : DE X W md (.BoolOp .And (b :: rest) pos) tb fb) : DE X W md (.BoolOp .And (a :: b :: rest) pos) (tAndV ta tb) (eAndV fa fb) :=
  ⟨pe_and h.run h2.run, fun G σ H F env Q rep post => h.den G σ H F env _ rep (post.bind fun c p1 v H1 F1 x1 r1 => by
    cases c with
    | bl k =>
      cases r1
      refine ⟨k, rfl, ?_⟩
      cases k with
      | true => exact iteT (h2.den G σ H1 F1 env Q (rep.ext x1) (Post.extE p1 x1))
      | false => exact iteF (p1 _ H1 F1 x1 (.bl false))
    | _ => exact p1.elim)⟩
theorem de_or {rest : List Expr} (h : DE X W md a ta fa) (h2 : DE X W md (.BoolOp .Or (b :: rest) pos) tb fb) : DE X W md (.BoolOp .Or (a :: b :: rest) pos) (tOrV ta tb) (eOrV fa fb) :=
  ⟨pe_or h.run h2.run, fun G σ H F env Q rep post => h.den G σ H F env _ rep (post.bind fun c p1 v H1 F1 x1 r1 => by
    cases c with
    | bl k =>
      cases r1
      refine ⟨k, rfl, ?_⟩
      cases k with
      | false => exact iteF (h2.den G σ H1 F1 env Q (rep.ext x1) (Post.extE p1 x1))
      | true => exact iteT (p1 _ H1 F1 x1 (.bl true))
    | _ => exact p1.elim)⟩
theorem de_not (h : DE X W md a ta fa) : DE X W md (.UnaryOp .Not a pos) (tNotV ta) (eUn dNot fa) :=
  ⟨pe_not h.run, fun G σ H F env Q rep post => h.den G σ H F env _ rep (post.bind fun c p1 v H1 F1 x1 r1 => by
    cases c with
    | bl k => cases r1; exact ⟨k, rfl, p1 _ H1 F1 x1 (.bl _)⟩
    | _ => exact p1.elim)⟩
/-- not of any value, by its truth -/
theorem de_notT {t : TT} {f : Env → R Bool} (h : DT X W md a t f) (hn : ∀ t', PT X a t' → PE X (.UnaryOp .Not a pos) (fun σ H Q => t' σ H fun c H1 => Q (.bl (!c)) H1)) : DE X W md (.UnaryOp .Not a pos) (fun σ H Q => t σ H fun c H1 => Q (.bl (!c)) H1) (fun env => (f env).bind fun c => .ok (.bl (!c))) :=
  ⟨hn _ h.run, fun G σ H F env Q rep post => h.den G σ H F env _ rep (post.bind fun c p1 H1 F1 x1 => p1 _ H1 F1 x1 (.bl _))⟩
theorem de_if {c : Expr} {t : TT} {f : Env → R Bool} (hc : DT X W md c t f) (ha : DE X W md a ta fa) (hb : DE X W md b tb fb) : DE X W md (.IfExp c a b pos) (tIf t ta tb) (eIf f fa fb) :=
  ⟨pe_ifExp hc.run ha.run hb.run, fun G σ H F env Q rep post => hc.den G σ H F env _ rep (post.bind fun k p1 H1 F1 x1 => by
    cases k with
    | true => exact iteT (ha.den G σ H1 F1 env Q (rep.ext x1) (Post.extE p1 x1))
    | false => exact iteF (hb.den G σ H1 F1 env Q (rep.ext x1) (Post.extE p1 x1)))⟩
/-- a op1 b op2 c -/
def eChain (g h : D → D → R D) (a b c : Env → R D) : Env → R D := fun env => (a env).bind fun x => (b env).bind fun y => (g x y).bind fun z => match z with | .bl true => (c env).bind fun w => h y w | .bl false => .ok (.bl false) | _ => .bad
theorem DenE.chain {K : PySem.W.Frag} {tc : TE} {fc : Env → R D} {r r' : R2} {g h : D → D → R D} (hv : VOp K r g) (hv' : VOp K r' h) (ha : DenE K W md ta fa) (hb : DenE K W md tb fb) (hc : DenE K W md tc fc) : DenE K W md (tChain r r' ta tb tc) (eChain g h fa fb fc) := fun G σ H F env Q rep post =>
  ha G σ H F env _ rep (post.bind fun c p1 v H1 F1 x1 r1 => hb G σ H1 F1 env _ (rep.ext x1) ((Post.extE p1 x1).bind fun d p2 u H2 F2 x2 r2 =>
    hv W σ v u c d H2 F2 _ x2.fh (r1.mono x2.ff) r2 ((Post.extE p2 x2).bind fun z p3 zv H3 F3 x3 r3 => by
      cases z with
      | bl k =>
        cases r3
        refine ⟨k, rfl, ?_⟩
        cases k with
        | true => exact iteT (hc G σ H3 F3 env _ (rep.ext (x1.trans (x2.trans x3))) ((Post.extE p3 x3).bind fun w p4 wv H4 F4 x4 r4 => hv' W σ u wv d w H4 F4 Q x4.fh ((r2.mono x3.ff).mono x4.ff) r4 (Post.extE p4 x4)))
        | false => exact iteF (p3 _ H3 F3 x3 (.bl false))
      | _ => exact p3.elim)))
theorem de_chain {c : Expr} {tc : TE} {fc : Env → R D} {op op' : CmpOp} {r r' : R2} {g h : D → D → R D} (ho : OpR X (compareOp op) r) (hv : VOp X.K r g) (ho' : OpR X (compareOp op') r') (hv' : VOp X.K r' h) (ha : DE X W md a ta fa) (hb : DE X W md b tb fb) (hc : DE X W md c tc fc)
    (hm : lastMarks [op, op'] [b, c] = false := by with_unfolding_all rfl) : DE X W md (.Compare a [op, op'] [b, c] pos) (tChain r r' ta tb tc) (eChain g h fa fb fc) :=
  ⟨pe_chain ho ho' ha.run hb.run hc.run hm, DenE.chain hv hv' ha.den hb.den hc.den⟩
theorem dt_chain {c : Expr} {tc : TE} {fc : Env → R D} {op op' : CmpOp} {r r' : R2} {g h : D → D → R D} (ho : OpR X (compareOp op) r) (hv : VOp X.K r g) (ho' : OpR X (compareOp op') r') (hv' : VOp X.K r' h) (ha : DE X W md a ta fa) (hb : DE X W md b tb fb) (hc : DE X W md c tc fc)
    (hm : lastMarks [op, op'] [b, c] = false := by with_unfolding_all rfl) : DT X W md (.Compare a [op, op'] [b, c] pos) (tTest (tChain r r' ta tb tc)) (eT dB (eChain g h fa fb fc)) :=
  ⟨pt_chain ho ho' ha.run hb.run hc.run hm, fun G σ H F env Q rep post => DenE.chain hv hv' ha.den hb.den hc.den G σ H F env _ rep (post.bind fun k p1 v H1 F1 x1 r1 => by
    cases k with
    | bl b => cases r1; exact ⟨b, rfl, p1 H1 F1 x1⟩
    | _ => exact p1.elim)⟩

/-! displays -/
def dTup (ds : List D) : R D := if ds.length ≤ sizeLine then .ok (.tup ds) else .bad
def dLst (ds : List D) : R D := if ds.length ≤ sizeLine then .ok (.lst ds) else .bad
theorem de_tup {k : Nat} {t : TA} {f : Env → R (List D)} (h : DA X W md es t f) : DE X W md (.Tuple es k pos) (tTupF t) (eArgs dTup f) :=
  ⟨pe_tupF h.run, fun G σ H F env Q rep post => h.den G σ H F env _ rep (post.bind fun cs p1 vs H1 F1 x1 r1 => by
    obtain ⟨hl, p1⟩ := Post.chk (c := cs.length ≤ sizeLine) p1
    exact ⟨by rw [r1.length]; exact hl, fun p o np od => p1 (.ref p) _ (upd F1 p (.frz o (.tup vs))) (x1.trans (Ext.new x1.fh np)) (.tup (TupN.of upd_same od) (r1.mono (same_upd (x1.fh.free np))))⟩)⟩
theorem df_lst {t : TA} {f : Env → R (List D)} (h : DA X W md es t f) : DF X W md (.List es pos) (tLst t) (eArgs dLst f) :=
  ⟨pe_lst h.run, fun G σ H F env Q rep post => h.den G σ H F env _ rep (post.bind fun cs p1 vs H1 F1 x1 r1 => by
    obtain ⟨hl, p1⟩ := Post.chk (c := cs.length ≤ sizeLine) p1
    exact ⟨by rw [r1.length]; exact hl, fun p np => p1 p _ F1 (x1.trans (Ext.mine x1.fh np)) (x1.hh.free np) ⟨⟨vs, cs, rfl, upd_same, r1⟩, x1.fh.free np⟩⟩)⟩
end
end DN
end

section
set_option Elab.async false
set_option linter.all false
set_option maxRecDepth 100000
namespace DN
open PySem PySem.Spec PyProof.Rows L2

/-! ### the operators on data -/
def dAdd : D → D → R D
  | .int a, .int b => .ok (.int (a + b))
  | .str a, .str b => if a.length + b.length ≤ sizeLine then .ok (.str (a ++ b)) else .bad
  | .tup a, .tup b => if a.length + b.length ≤ sizeLine then .ok (.tup (a ++ b)) else .bad
  | .lst a, .lst b => if a.length + b.length ≤ sizeLine then .ok (.lst (a ++ b)) else .bad
  | _, _ => .bad
def dCat : D → D → R D
  | .lst a, .lst b => if a.length + b.length ≤ sizeLine then .ok (.lst (a ++ b)) else .bad
  | _, _ => .bad
def dSub : D → D → R D
  | .int a, .int b => .ok (.int (a - b))
  | _, _ => .bad
def dMul : D → D → R D
  | .int a, .int b => if a.natAbs < 2 ^ 64 then .ok (.int (a * b)) else .bad
  | .lst a, .int k => if k.natAbs < 2 ^ 63 ∧ a.length * k.toNat ≤ sizeLine then .ok (.lst (List.replicate k.toNat a).flatten) else .bad
  | .tup a, .int k => if a.isEmpty = false ∧ 2 ≤ k ∧ k ≤ 1000 ∧ a.length ≤ 1000 then .ok (.tup (List.replicate k.toNat a).flatten) else .bad
  | _, _ => .bad
def dFdiv : D → D → R D
  | .int a, .int b => if 0 < b ∧ b.natAbs < 1073741824 then .ok (.int (a / b)) else .bad
  | _, _ => .bad
def dMod : D → D → R D
  | .int a, .int b => if 0 < b then .ok (.int (a % b)) else .bad
  | _, _ => .bad
def dPow : D → D → R D
  | .int a, .int b => if 0 ≤ b ∧ b ≤ 1000000 ∧ a.natAbs < 2 ^ 64 then .ok (.int (a ^ b.toNat)) else .bad
  | _, _ => .bad
def dNeg : D → R D
  | .int a => .ok (.int (-a))
  | _ => .bad
def dLt : D → D → R D
  | .int a, .int b => .ok (.bl (decide (a < b)))
  | _, _ => .bad
def dLe : D → D → R D
  | .int a, .int b => .ok (.bl (decide (a ≤ b)))
  | _, _ => .bad
def dGt : D → D → R D
  | .int a, .int b => .ok (.bl (decide (b < a)))
  | _, _ => .bad
def dGe : D → D → R D
  | .int a, .int b => .ok (.bl (decide (b ≤ a)))
  | _, _ => .bad

theorem strOk_append {x y : Str} (hx : PyData.strOk x = true) (hy : PyData.strOk y = true) : PyData.strOk (x ++ y) = true := by
  unfold PyData.strOk at *
  show (x.cps ++ y.cps).all _ = true
  rw [Array.all_append, hx, hy]; rfl

section
variable {X : Cx} {K : PySem.W.Frag}
def rAddA (K : PySem.W.Frag) : R2 := fun x y H Q => rI0 (fun i j => .int (i + j)) x y H Q ∨ (∃ i j, x = .str i ∧ y = .str j ∧ i.length + j.length ≤ sizeLine ∧ Q (.str (i ++ j)) H) ∨ rCatF K x y H Q ∨ rCat x y H Q
theorem op_addA : OpR X (binaryOp .Add) (rAddA X.K) := (op_add (X := X)).or (op_add_str.or (op_catF.or op_cat))
theorem v_add : VOp K (rAddA K) dAdd := by
  intro W σ x y c d H F Q fh rx ry post
  cases rx <;> cases ry <;> first | exact post.elim | skip
  · rename_i i j
    exact .inl ⟨i, j, rfl, rfl, post _ H F (Ext.refl fh) (.int _)⟩
  · rename_i i hi j hj
    obtain ⟨hl, post⟩ := Post.chk (c := i.length + j.length ≤ sizeLine) post
    exact .inr (.inl ⟨i, j, rfl, rfl, hl, post _ H F (Ext.refl fh) (.str _ (strOk_append hi hj))⟩)
  · rename_i a vs xs h1 r1 b ws ys h2 r2
    obtain ⟨hl, post⟩ := Post.chk (c := xs.length + ys.length ≤ sizeLine) post
    refine .inr (.inr (.inr ⟨a, b, vs, ws, rfl, rfl, fh _ _ h1, fh _ _ h2, by rw [r1.length, r2.length]; exact hl, fun p np => ?_⟩))
    exact post _ _ (upd F p (.lst (vs ++ ws))) (Ext.new fh np) (.lst upd_same ((r1.append r2).mono (same_upd (fh.free np))))
  · rename_i a vs xs h1 r1 b ws ys h2 r2
    obtain ⟨hl, post⟩ := Post.chk (c := xs.length + ys.length ≤ sizeLine) post
    refine .inr (.inr (.inl ⟨a, b, vs, ws, rfl, rfl, seqT fh h1.sq, seqT fh h2.sq, by rw [r1.length, r2.length]; exact hl, fun e => ?_, fun e1 e2 => ?_, fun e1 e2 p o np od => ?_⟩))
    · have e' := r1.nil_iff.mp e
      subst e'
      exact post _ H F (Ext.refl fh) (.tup h2 r2)
    · have e' := r2.nil_iff.mp e2
      subst e'
      rw [List.append_nil] at post
      exact post _ H F (Ext.refl fh) (.tup h1 r1)
    · exact post _ _ (upd F p (.frz o (.tup (vs ++ ws)))) (Ext.new fh np) (.tup (TupN.of upd_same od) ((r1.append r2).mono (same_upd (fh.free np))))
theorem vf_cat : VOpF K rCat dCat := by
  intro W σ x y c d H F Q fh rx ry post
  cases rx <;> cases ry <;> first | exact post.elim | skip
  rename_i a vs xs h1 r1 b ws ys h2 r2
  obtain ⟨hl, post⟩ := Post.chk (c := xs.length + ys.length ≤ sizeLine) post
  exact ⟨a, b, vs, ws, rfl, rfl, fh _ _ h1, fh _ _ h2, by rw [r1.length, r2.length]; exact hl, fun p np => post p _ F (Ext.mine fh np) np ⟨⟨_, _, rfl, upd_same, r1.append r2⟩, fh.free np⟩⟩
theorem v_int {C : Int → Int → Prop} {g : Int → Int → V} {f : D → D → R D} (h : ∀ W σ i j H F Q, PostE K W σ H F Q (f (.int i) (.int j)) → Same F H → C i j ∧ Q (g i j) H) (hb : ∀ c d, (∀ i j, ¬ (c = .int i ∧ d = .int j)) → f c d = .bad) : VOp K (rI C g) f := by
  intro W σ x y c d H F Q fh rx ry post
  by_cases q : ∃ i j, c = .int i ∧ d = .int j
  · obtain ⟨i, j, rfl, rfl⟩ := q
    cases rx; cases ry
    obtain ⟨h1, h2⟩ := h W σ i j H F Q post fh
    exact ⟨i, j, rfl, rfl, h1, h2⟩
  · rw [hb c d fun i j z => q ⟨i, j, z.1, z.2⟩] at post
    exact post.elim
theorem v_int0 {g : Int → Int → V} {f : D → D → R D} {e : Int → Int → D} (h : ∀ i j, f (.int i) (.int j) = .ok (e i j)) (hr : ∀ F i j, Rp K F (g i j) (e i j)) (hb : ∀ c d, (∀ i j, ¬ (c = .int i ∧ d = .int j)) → f c d = .bad) : VOp K (rI0 g) f := by
  intro W σ x y c d H F Q fh rx ry post
  by_cases q : ∃ i j, c = .int i ∧ d = .int j
  · obtain ⟨i, j, rfl, rfl⟩ := q
    cases rx; cases ry
    rw [h] at post
    exact ⟨i, j, rfl, rfl, post _ H F (Ext.refl fh) (hr F i j)⟩
  · rw [hb c d fun i j z => q ⟨i, j, z.1, z.2⟩] at post
    exact post.elim
theorem v_sub : VOp K (rI0 fun i j => .int (i - j)) dSub := v_int0 (fun _ _ => rfl) (fun _ _ _ => .int _) fun c d h => by
  cases c <;> cases d <;> first | rfl | exact absurd ⟨rfl, rfl⟩ (h _ _)
theorem v_lt : VOp K (rI0 fun i j => .bl (decide (i < j))) dLt := v_int0 (fun _ _ => rfl) (fun _ _ _ => .bl _) fun c d h => by
  cases c <;> cases d <;> first | rfl | exact absurd ⟨rfl, rfl⟩ (h _ _)
theorem v_le : VOp K (rI0 fun i j => .bl (decide (i ≤ j))) dLe := v_int0 (fun _ _ => rfl) (fun _ _ _ => .bl _) fun c d h => by
  cases c <;> cases d <;> first | rfl | exact absurd ⟨rfl, rfl⟩ (h _ _)
theorem v_gt : VOp K (rI0 fun i j => .bl (decide (j < i))) dGt := v_int0 (fun _ _ => rfl) (fun _ _ _ => .bl _) fun c d h => by
  cases c <;> cases d <;> first | rfl | exact absurd ⟨rfl, rfl⟩ (h _ _)
theorem v_ge : VOp K (rI0 fun i j => .bl (decide (j ≤ i))) dGe := v_int0 (fun _ _ => rfl) (fun _ _ _ => .bl _) fun c d h => by
  cases c <;> cases d <;> first | rfl | exact absurd ⟨rfl, rfl⟩ (h _ _)
theorem v_fdiv : VOp K (rI CDiv fun i j => .int (i / j)) dFdiv := v_int (fun W σ i j H F Q post fh => by
    obtain ⟨hl, post⟩ := Post.chk (c := 0 < j ∧ j.natAbs < 1073741824) post
    exact ⟨⟨hl.1, by omega⟩, post _ H F (Ext.refl fh) (.int _)⟩) fun c d h => by
  cases c <;> cases d <;> first | rfl | exact absurd ⟨rfl, rfl⟩ (h _ _)
theorem v_mod : VOp K (rI (fun _ j => 0 < j) fun i j => .int (i % j)) dMod := v_int (fun W σ i j H F Q post fh => by
    obtain ⟨hl, post⟩ := Post.chk (c := 0 < j) post
    exact ⟨hl, post _ H F (Ext.refl fh) (.int _)⟩) fun c d h => by
  cases c <;> cases d <;> first | rfl | exact absurd ⟨rfl, rfl⟩ (h _ _)
theorem v_pow : VOp K (rI CPow fun i j => .int (i ^ j.toNat)) dPow := v_int (fun W σ i j H F Q post fh => by
    obtain ⟨hl, post⟩ := Post.chk (c := 0 ≤ j ∧ j ≤ 1000000 ∧ i.natAbs < 2 ^ 64) post
    exact ⟨hl, post _ H F (Ext.refl fh) (.int _)⟩) fun c d h => by
  cases c <;> cases d <;> first | rfl | exact absurd ⟨rfl, rfl⟩ (h _ _)
theorem v_neg : VUn K (rU fun i => .int (-i)) dNeg := by
  intro W σ x c H F Q fh rx post
  cases rx <;> first | exact post.elim | skip
  rename_i i
  exact ⟨i, rfl, post _ H F (Ext.refl fh) (.int _)⟩
def rMulA (K : PySem.W.Frag) : R2 := fun x y H Q => rI CMul (fun i j => .int (i * j)) x y H Q ∨ rRep x y H Q ∨ rRepF K x y H Q
theorem op_mulA : OpR X (binaryOp .Mult) (rMulA X.K) := (op_mul (X := X)).or (op_rep.or op_repF)
theorem v_mul : VOp K (rMulA K) dMul := by
  intro W σ x y c d H F Q fh rx ry post
  cases rx <;> cases ry <;> first | exact post.elim | skip
  · rename_i i j
    obtain ⟨hl, post⟩ := Post.chk (c := i.natAbs < 2 ^ 64) post
    exact .inl ⟨i, j, rfl, rfl, .inl (by omega), post _ H F (Ext.refl fh) (.int _)⟩
  · rename_i a vs xs h1 r1 k
    obtain ⟨⟨l1, l3⟩, post⟩ := Post.chk (c := k.natAbs < 2 ^ 63 ∧ xs.length * k.toNat ≤ sizeLine) post
    exact .inr (.inl ⟨a, k, vs, rfl, rfl, fh _ _ h1, by omega, by omega, by rw [r1.length]; exact l3, fun p np => post _ _ (upd F p (.lst _)) (Ext.new fh np) (.lst upd_same ((r1.rep _).mono (same_upd (fh.free np))))⟩)
  · rename_i a vs xs h1 r1 k
    obtain ⟨⟨l0, l1, l2, l3⟩, post⟩ := Post.chk (c := xs.isEmpty = false ∧ 2 ≤ k ∧ k ≤ 1000 ∧ xs.length ≤ 1000) post
    exact .inr (.inr ⟨a, k, vs, rfl, rfl, seqT fh h1.sq, fun e => (by rw [r1.nil_iff.mp e] at l0; cases l0), l1, l2, by rw [r1.length]; exact l3, fun p o np od => post _ _ (upd F p (.frz o (.tup _))) (Ext.new fh np) (.tup (TupN.of upd_same od) ((r1.rep _).mono (same_upd (fh.free np))))⟩)
end

/-! ### equality -/
mutual
def D.py : D → PyData
  | .non => .none
  | .bl b => .bool b
  | .int i => .int i
  | .str x => .str x
  | .fn _ => .dict []
  | .scr xs => .dict []
  | .pr xs => .dict []
  | .lst xs => .list (D.pys xs)
  | .tup xs => .tuple (D.pys xs)
def D.pys : List D → List PyData
  | [] => []
  | x :: xs => D.py x :: D.pys xs
end
mutual
/-- how deep; what == does not tell of is too deep -/
@[simp] def D.dp : D → Nat
  | .fn _ => 65
  | .scr _ => 65
  | .pr _ => 65
  | .lst xs => D.dps xs + 1
  | .tup xs => D.dps xs + 1
  | _ => 0
@[simp] def D.dps : List D → Nat
  | [] => 0
  | x :: xs => max (D.dp x) (D.dps xs)
end
mutual
@[simp] def D.eqv : D → D → Bool
  | .non, .non => true
  | .bl a, .bl b => a == b
  | .bl a, .int j => (if a then 1 else 0) == j
  | .int i, .bl b => i == (if b then 1 else 0)
  | .int i, .int j => i == j
  | .str x, .str y => x == y
  | .lst xs, .lst ys => D.eqvs xs ys
  | .tup xs, .tup ys => D.eqvs xs ys
  | _, _ => false
@[simp] def D.eqvs : List D → List D → Bool
  | [], [] => true
  | x :: xs, y :: ys => D.eqv x y && D.eqvs xs ys
  | _, _ => false
end
mutual
theorem D.eqv_py : ∀ a b : D, D.dp a ≤ 64 → D.dp b ≤ 64 → D.eqv a b = PyData.eqv a.py b.py
  | .lst xs, .lst ys, ha, hb => by
    simp only [D.dp] at ha hb
    simp only [D.eqv, D.py, PyData.eqv]
    exact D.eqvs_py xs ys (by omega) (by omega)
  | .tup xs, .tup ys, ha, hb => by
    simp only [D.dp] at ha hb
    simp only [D.eqv, D.py, PyData.eqv]
    exact D.eqvs_py xs ys (by omega) (by omega)
  | .fn _, b, ha, _ => by simp only [D.dp] at ha; omega
  | .scr _, b, ha, _ => by simp only [D.dp] at ha; omega
  | .pr _, b, ha, _ => by simp only [D.dp] at ha; omega
  | .non, b, _, hb => by cases b <;> first | (simp only [D.dp] at hb; omega) | simp [D.eqv, D.py, PyData.eqv]
  | .bl _, b, _, hb => by cases b <;> first | (simp only [D.dp] at hb; omega) | simp [D.eqv, D.py, PyData.eqv]
  | .int _, b, _, hb => by cases b <;> first | (simp only [D.dp] at hb; omega) | simp [D.eqv, D.py, PyData.eqv]
  | .str _, b, _, hb => by cases b <;> first | (simp only [D.dp] at hb; omega) | simp [D.eqv, D.py, PyData.eqv]
  | .lst _, .non, _, _ => by simp [D.eqv, D.py, PyData.eqv]
  | .lst _, .bl _, _, _ => by simp [D.eqv, D.py, PyData.eqv]
  | .lst _, .int _, _, _ => by simp [D.eqv, D.py, PyData.eqv]
  | .lst _, .str _, _, _ => by simp [D.eqv, D.py, PyData.eqv]
  | .lst _, .tup _, _, _ => by simp [D.eqv, D.py, PyData.eqv]
  | .lst _, .fn _, _, hb => by simp only [D.dp] at hb; omega
  | .lst _, .scr _, _, hb => by simp only [D.dp] at hb; omega
  | .lst _, .pr _, _, hb => by simp only [D.dp] at hb; omega
  | .tup _, .non, _, _ => by simp [D.eqv, D.py, PyData.eqv]
  | .tup _, .bl _, _, _ => by simp [D.eqv, D.py, PyData.eqv]
  | .tup _, .int _, _, _ => by simp [D.eqv, D.py, PyData.eqv]
  | .tup _, .str _, _, _ => by simp [D.eqv, D.py, PyData.eqv]
  | .tup _, .lst _, _, _ => by simp [D.eqv, D.py, PyData.eqv]
  | .tup _, .fn _, _, hb => by simp only [D.dp] at hb; omega
  | .tup _, .scr _, _, hb => by simp only [D.dp] at hb; omega
  | .tup _, .pr _, _, hb => by simp only [D.dp] at hb; omega
theorem D.eqvs_py : ∀ a b : List D, D.dps a ≤ 64 → D.dps b ≤ 64 → D.eqvs a b = PyData.eqvAll (D.pys a) (D.pys b)
  | [], [], _, _ => by simp [D.eqvs, D.pys, PyData.eqvAll]
  | [], _ :: _, _, _ => by simp [D.eqvs, D.pys, PyData.eqvAll]
  | _ :: _, [], _, _ => by simp [D.eqvs, D.pys, PyData.eqvAll]
  | x :: xs, y :: ys, ha, hb => by
    simp only [D.dps] at ha hb
    simp only [D.eqvs, D.pys, PyData.eqvAll]
    rw [D.eqv_py x y (by omega) (by omega), D.eqvs_py xs ys (by omega) (by omega)]
end
mutual
theorem Rp.py {K : PySem.W.Frag} {F : Hp} : ∀ {v : V} {d : D}, Rp K F v d → D.dp d ≤ 64 → Dp K F v d.py ∧ PyData.canLay0 d.py = true ∧ PyData.depth d.py = D.dp d
  | _, _, .non, _ => ⟨by simp only [D.py]; exact .non, by simp [D.py, PyData.canLay0], by simp [D.py, D.dp, PyData.depth]⟩
  | _, _, .bl b, _ => ⟨by simp only [D.py]; exact .bl b, by simp [D.py, PyData.canLay0], by simp [D.py, D.dp, PyData.depth]⟩
  | _, _, .int i, _ => ⟨by simp only [D.py]; exact .int i, by simp [D.py, PyData.canLay0], by simp [D.py, D.dp, PyData.depth]⟩
  | _, _, .str x h, _ => ⟨by simp only [D.py]; exact .str x, by simp only [D.py, PyData.canLay0]; exact h, by simp [D.py, D.dp, PyData.depth]⟩
  | _, _, .fn a, h => by simp only [D.dp] at h; omega
  | _, _, .scr _ _, h => by simp only [D.dp] at h; omega
  | _, _, .pr _ _, h => by simp only [D.dp] at h; omega
  | _, _, .lst q r, h => by
    simp only [D.dp] at h
    obtain ⟨h1, h2, h3⟩ := RpA.py r (by omega)
    exact ⟨by simp only [D.py]; exact .lst (SqL.of q) h1, by simp only [D.py, PyData.canLay0]; exact h2, by simp only [D.py, D.dp, PyData.depth]; rw [h3]⟩
  | _, _, .tup q r, h => by
    simp only [D.dp] at h
    obtain ⟨h1, h2, h3⟩ := RpA.py r (by omega)
    exact ⟨by simp only [D.py]; exact .tup q.sq h1, by simp only [D.py, PyData.canLay0]; exact h2, by simp only [D.py, D.dp, PyData.depth]; rw [h3]⟩
theorem RpA.py {K : PySem.W.Frag} {F : Hp} : ∀ {vs : List V} {ds : List D}, RpA K F vs ds → D.dps ds ≤ 64 → DpAll K F vs (D.pys ds) ∧ PyData.canLayAll0 (D.pys ds) = true ∧ PyData.depthAll (D.pys ds) = D.dps ds
  | _, _, .nil, _ => ⟨by simp only [D.pys]; exact .nil, by simp [D.pys, PyData.canLayAll0], by simp [D.pys, D.dps, PyData.depthAll]⟩
  | _, _, .cons h r, hh => by
    simp only [D.dps] at hh
    obtain ⟨a1, a2, a3⟩ := Rp.py h (by omega)
    obtain ⟨b1, b2, b3⟩ := RpA.py r (by omega)
    exact ⟨by simp only [D.pys]; exact .cons a1 b1, by simp only [D.pys, PyData.canLayAll0, a2, b2]; rfl, by simp only [D.pys, D.dps, PyData.depthAll, a3, b3]⟩
end
def dEq (a b : D) : R D := if D.dp a ≤ 64 ∧ D.dp b ≤ 64 then .ok (.bl (D.eqv a b)) else .bad
def dNe (a b : D) : R D := if D.dp a ≤ 64 ∧ D.dp b ≤ 64 then .ok (.bl (!D.eqv a b)) else .bad
theorem Rp.shaped {K : PySem.W.Frag} {F : Hp} {v : V} {d : D} (h : Rp K F v d) (hd : D.dp d ≤ 64) : SeqAt.shaped d.py = true := by
  obtain ⟨_, h2, h3⟩ := h.py hd
  unfold SeqAt.shaped
  rw [h2, h3, decide_eq_true hd]; rfl
section
variable {K : PySem.W.Frag}
theorem v_eq : VOp K (rEqD K) dEq := by
  intro W σ x y c d H F Q fh rx ry post
  obtain ⟨⟨h1, h2⟩, post⟩ := Post.chk (c := D.dp c ≤ 64 ∧ D.dp d ≤ 64) post
  refine ⟨c.py, d.py, ((rx.mono fh).py h1).1, ((ry.mono fh).py h2).1, rx.shaped h1, ry.shaped h2, ?_⟩
  rw [← D.eqv_py c d h1 h2]
  exact post _ H F (Ext.refl fh) (.bl _)
theorem v_ne : VOp K (rNeD K) dNe := by
  intro W σ x y c d H F Q fh rx ry post
  obtain ⟨⟨h1, h2⟩, post⟩ := Post.chk (c := D.dp c ≤ 64 ∧ D.dp d ≤ 64) post
  refine ⟨c.py, d.py, ((rx.mono fh).py h1).1, ((ry.mono fh).py h2).1, rx.shaped h1, ry.shaped h2, ?_⟩
  rw [← D.eqv_py c d h1 h2]
  exact post _ H F (Ext.refl fh) (.bl _)
end
end DN
end

section
set_option Elab.async false
set_option linter.all false
set_option maxRecDepth 100000
namespace DN
open PySem PySem.Spec PyProof.Rows L2

/-! ### is -/
def D.isNon : D → Bool
  | .non => true
  | _ => false
def dIs : D → D → R D
  | a, .non => .ok (.bl a.isNon)
  | .bl a, .bl b => .ok (.bl (decide (a = b)))
  | _, _ => .bad
def dIsNot : D → D → R D
  | a, .non => .ok (.bl (!a.isNon))
  | .bl a, .bl b => .ok (.bl (!decide (a = b)))
  | _, _ => .bad
theorem Rp.isNon {K : PySem.W.Frag} {F : Hp} {v : V} {d : D} (h : Rp K F v d) : decide (v = .non) = d.isNon := by
  cases h <;> rfl
section
variable {X : Cx} {K : PySem.W.Frag}
def rIsA : R2 := fun x y H Q => (y = .non ∧ Q (.bl (decide (x = .non))) H) ∨ rIsB x y H Q
def rIsNotA : R2 := fun x y H Q => (y = .non ∧ Q (.bl (!decide (x = .non))) H) ∨ rNotB x y H Q
theorem op_isA : OpR X (compareOp .Is) rIsA := op_isN.or op_isBl
theorem op_isNotA : OpR X (compareOp .IsNot) rIsNotA := op_notN.or op_notBl
theorem v_is : VOp K rIsA dIs := by
  intro W σ x y c d H F Q fh rx ry post
  cases ry with
  | non =>
    refine .inl ⟨rfl, ?_⟩
    rw [rx.isNon]
    have p2 : Post K W σ H F (QE K H F Q) (.ok (.bl c.isNon)) := by cases c <;> exact post
    exact p2 _ H F (Ext.refl fh) (.bl _)
  | bl b =>
    cases rx <;> first | exact post.elim | exact .inr ⟨_, b, rfl, rfl, post _ H F (Ext.refl fh) (.bl _)⟩
  | _ => cases rx <;> exact post.elim
theorem v_isNot : VOp K rIsNotA dIsNot := by
  intro W σ x y c d H F Q fh rx ry post
  cases ry with
  | non =>
    refine .inl ⟨rfl, ?_⟩
    rw [rx.isNon]
    have p2 : Post K W σ H F (QE K H F Q) (.ok (.bl (!c.isNon))) := by cases c <;> exact post
    exact p2 _ H F (Ext.refl fh) (.bl _)
  | bl b =>
    cases rx <;> first | exact post.elim | exact .inr ⟨_, b, rfl, rfl, post _ H F (Ext.refl fh) (.bl _)⟩
  | _ => cases rx <;> exact post.elim
end

/-! ### in -/
def D.flat : D → Bool
  | .non => true
  | .bl _ => true
  | .int _ => true
  | .str _ => true
  | _ => false
def dInB (x : D) : D → R Bool
  | .str z => match x with
    | .str ⟨⟨[c]⟩⟩ => .ok (decide (c ∈ z.cps.toList))
    | _ => .bad
  | .tup ys => if x.flat = true ∧ ys.all D.flat = true then .ok (ys.any fun y => D.eqv y x) else .bad
  | .lst ys => if x.flat = true ∧ ys.all D.flat = true then .ok (ys.any fun y => D.eqv y x) else if D.dp x ≤ 64 ∧ D.dps ys + 1 ≤ 64 then .ok (ys.any fun y => D.eqv y x) else .bad
  | _ => .bad
def dIn (x y : D) : R D := (dInB x y).bind fun b => .ok (.bl b)
def dNotIn (x y : D) : R D := (dInB x y).bind fun b => .ok (.bl (!b))
theorem Rp.flat {K : PySem.W.Frag} {F : Hp} {v : V} {d : D} (h : Rp K F v d) : flatV v = d.flat := by
  cases h <;> rfl
theorem RpA.flat {K : PySem.W.Frag} {F : Hp} : ∀ {vs : List V} {ds : List D}, RpA K F vs ds → vs.all flatV = ds.all D.flat
  | _, _, .nil => rfl
  | _, _, .cons h r => by rw [List.all_cons, List.all_cons, h.flat, RpA.flat r]
theorem Rp.eqV {K : PySem.W.Frag} {F : Hp} {v w : V} {d e : D} (h : Rp K F v d) (k : Rp K F w e) (f1 : d.flat = true) (f2 : e.flat = true) : eqV v w = D.eqv d e := by
  cases h <;> first | exact (Bool.false_ne_true f1).elim | skip
  all_goals (cases k <;> first | exact (Bool.false_ne_true f2).elim | simp [L2.eqV, D.eqv])
theorem RpA.anyV {K : PySem.W.Frag} {F : Hp} {w : V} {e : D} (k : Rp K F w e) (f2 : e.flat = true) : ∀ {vs : List V} {ds : List D}, RpA K F vs ds → ds.all D.flat = true → inV w vs = ds.any fun y => D.eqv y e
  | _, _, .nil, _ => rfl
  | _, _, .cons h r, f => by
    rw [List.all_cons, Bool.and_eq_true] at f
    have ih := RpA.anyV k f2 r f.2
    unfold inV at ih ⊢
    rw [List.any_cons, List.any_cons, ih, h.eqV k f.1 f2]
theorem any_py {e : D} (he : D.dp e ≤ 64) : ∀ ds : List D, D.dps ds ≤ 64 → ((D.pys ds).any fun z => PyData.eqv z e.py) = ds.any fun y => D.eqv y e
  | [], _ => by simp [D.pys]
  | d :: ds, h => by
    simp only [D.dps] at h
    simp only [D.pys, List.any_cons]
    rw [any_py he ds (by omega), D.eqv_py d e (by omega) he]
section
variable {X : Cx} {K : PySem.W.Frag}
def rInS : R2 := fun x y H Q => ∃ (c : Nat) (z : Str), x = .str ⟨#[c]⟩ ∧ y = .str z ∧ Q (.bl (decide (c ∈ z.cps.toList))) H
def rNotInS : R2 := fun x y H Q => ∃ (c : Nat) (z : Str), x = .str ⟨#[c]⟩ ∧ y = .str z ∧ Q (.bl (!decide (c ∈ z.cps.toList))) H
def rInA (K : PySem.W.Frag) : R2 := fun x y H Q => rInS x y H Q ∨ rIn K false x y H Q ∨ rInD K x y H Q
def rNotInA (K : PySem.W.Frag) : R2 := fun x y H Q => rNotInS x y H Q ∨ rIn K true x y H Q ∨ rNotInD K x y H Q
theorem op_inA (hu : X.A.units + 65 < cLine) : OpR X (compareOp .In) (rInA X.K) := (show OpR X (compareOp .In) rInS from op_in_sign).or (op_in_seq.or (op_inD hu))
theorem op_notInA (hu : X.A.units + 65 < cLine) : OpR X (compareOp .NotIn) (rNotInA X.K) := (show OpR X (compareOp .NotIn) rNotInS from op_notIn_sign).or (op_notIn_seq.or (op_notInD hu))
theorem room65 {k : Nat} {A : Around} (r : Room k A) : A.units + 65 < cLine := by have := r.un; omega
theorem in_cases {W : WX} {σ : Sg} {H F : Hp} {Q : VK} {x y : V} {c d : D} (g : Bool → Bool) (fh : Same F H) (rx : Rp K F x c) (ry : Rp K F y d) (post : PostE K W σ H F Q ((dInB c d).bind fun b => .ok (.bl (g b)))) :
    (∃ (c : Nat) (z : Str), x = .str ⟨#[c]⟩ ∧ y = .str z ∧ Q (.bl (g (decide (c ∈ z.cps.toList)))) H) ∨
      (∃ p xs, y = .ref p ∧ (SqL K H p xs ∨ SqT K H p xs) ∧ flatV x = true ∧ xs.all flatV = true ∧ Q (.bl (g (inV x xs))) H) ∨
      (∃ d ds, Dp K H x d ∧ Dp K H y (.list ds) ∧ SeqAt.shaped d = true ∧ SeqAt.shaped (.list ds) = true ∧ Q (.bl (g (ds.any fun z => PyData.eqv z d))) H) := by
  cases ry with
  | str z hz =>
    cases rx with
    | str w hw =>
      obtain ⟨⟨l⟩⟩ := w
      match l, post with
      | [c], post => exact .inl ⟨c, z, rfl, rfl, post _ H F (Ext.refl fh) (.bl _)⟩
      | [], post => exact post.elim
      | _ :: _ :: _, post => exact post.elim
    | _ => exact post.elim
  | tup q r =>
    rename_i a vs ds
    have p2 : PostE K W σ H F Q ((if c.flat = true ∧ ds.all D.flat = true then (.ok (ds.any fun y => D.eqv y c)) else .bad : R Bool).bind fun b => .ok (.bl (g b))) := post
    by_cases hc : c.flat = true ∧ ds.all D.flat = true
    · rw [if_pos hc] at p2
      refine .inr (.inl ⟨a, vs, rfl, .inr (seqT fh q.sq), by rw [rx.flat]; exact hc.1, by rw [r.flat]; exact hc.2, ?_⟩)
      rw [RpA.anyV rx hc.1 r hc.2]
      exact p2 _ H F (Ext.refl fh) (.bl _)
    · rw [if_neg hc] at p2; exact p2.elim
  | lst q r =>
    rename_i a vs ds
    have p2 : PostE K W σ H F Q ((if c.flat = true ∧ ds.all D.flat = true then (.ok (ds.any fun y => D.eqv y c)) else if D.dp c ≤ 64 ∧ D.dps ds + 1 ≤ 64 then (.ok (ds.any fun y => D.eqv y c)) else .bad : R Bool).bind fun b => .ok (.bl (g b))) := post
    by_cases hc : c.flat = true ∧ ds.all D.flat = true
    · rw [if_pos hc] at p2
      refine .inr (.inl ⟨a, vs, rfl, .inl (SqL.of (fh _ _ q)), by rw [rx.flat]; exact hc.1, by rw [r.flat]; exact hc.2, ?_⟩)
      rw [RpA.anyV rx hc.1 r hc.2]
      exact p2 _ H F (Ext.refl fh) (.bl _)
    · rw [if_neg hc] at p2
      by_cases hd : D.dp c ≤ 64 ∧ D.dps ds + 1 ≤ 64
      · rw [if_pos hd] at p2
        have k := Rp.mono fh (Rp.lst q r)
        have hk : D.dp (.lst ds) ≤ 64 := by simp only [D.dp]; exact hd.2
        have k1 := (k.py hk).1
        have k2 := k.shaped hk
        simp only [D.py] at k1 k2
        refine .inr (.inr ⟨c.py, D.pys ds, ((rx.mono fh).py hd.1).1, k1, rx.shaped hd.1, k2, ?_⟩)
        rw [any_py hd.1 ds (by omega)]
        exact p2 _ H F (Ext.refl fh) (.bl _)
      · rw [if_neg hd] at p2; exact p2.elim
  | _ => exact post.elim
theorem v_in : VOp K (rInA K) dIn := by
  intro W σ x y c d H F Q fh rx ry post
  exact in_cases (fun b => b) fh rx ry post
theorem v_notIn : VOp K (rNotInA K) dNotIn := by
  intro W σ x y c d H F Q fh rx ry post
  exact in_cases (fun b => !b) fh rx ry post
end

/-! ### subscripts -/
def dIx : D → D → R D
  | .lst xs, .int i => match atI xs i with
    | some d => .ok d
    | none => .bad
  | .scr xs, .int i => match atI xs i with
    | some d => .ok d
    | none => .bad
  | .tup xs, .int i => match atI xs i with
    | some d => .ok d
    | none => .bad
  | .pr xs, .int i => match atI xs i with
    | some d => .ok d
    | none => .bad
  | .str z, .int i => if z.length ≤ sizeLine then (match atI z.cps.toList i with
    | some c => .ok (.str ⟨#[c]⟩)
    | none => .bad) else .bad
  | _, _ => .bad
theorem RpA.atI {K : PySem.W.Frag} {F : Hp} {vs : List V} {ds : List D} {i : Int} {d : D} (r : RpA K F vs ds) (h : L2.atI ds i = some d) : ∃ v, L2.atI vs i = some v ∧ Rp K F v d := by
  unfold L2.atI at h ⊢
  rw [r.length]
  cases e : ixN ds.length i with
  | none => rw [e] at h; cases h
  | some j =>
    rw [e] at h
    obtain ⟨v, h1, h2⟩ := r.get (i := j) (d := d) h
    exact ⟨v, h1, h2⟩
theorem strOk_one {z : Str} {i : Int} {c : Nat} (hz : PyData.strOk z = true) (h : L2.atI z.cps.toList i = some c) : PyData.strOk ⟨#[c]⟩ = true := by
  obtain ⟨j, _, h2, _⟩ := atI_get h
  unfold PyData.strOk at hz ⊢
  have hm : c ∈ z.cps.toList := List.mem_of_getElem? h2
  rw [← Array.all_toList, List.all_eq_true] at hz
  have := hz c hm
  simpa using this
section
variable {X : Cx} {K : PySem.W.Frag}
theorem v_ix : VOp K (rIx K) dIx := by
  intro W σ x y c d H F Q fh rx ry post
  cases ry with
  | int i =>
    cases rx with
    | lst q r =>
      rename_i a vs xs
      cases e : L2.atI xs i with
      | none => simp only [dIx, e] at post; exact post.elim
      | some z =>
        simp only [dIx, e] at post
        obtain ⟨v, h1, h2⟩ := r.atI e
        exact .inl ⟨a, vs, i, v, rfl, rfl, SqL.of (fh _ _ q), h1, post v H F (Ext.refl fh) h2⟩
    | scr q r =>
      rename_i a vs xs
      cases e : L2.atI xs i with
      | none => simp only [dIx, e] at post; exact post.elim
      | some z =>
        simp only [dIx, e] at post
        obtain ⟨v, h1, h2⟩ := r.atI e
        exact .inl ⟨a, vs, i, v, rfl, rfl, fh.seq q, h1, post v H F (Ext.refl fh) h2⟩
    | tup q r =>
      rename_i a vs xs
      cases e : L2.atI xs i with
      | none => simp only [dIx, e] at post; exact post.elim
      | some z =>
        simp only [dIx, e] at post
        obtain ⟨v, h1, h2⟩ := r.atI e
        exact .inr (.inl ⟨a, vs, i, v, rfl, rfl, seqT fh q.sq, h1, post v H F (Ext.refl fh) h2⟩)
    | pr q r =>
      rename_i a vs xs
      cases e : L2.atI xs i with
      | none => simp only [dIx, e] at post; exact post.elim
      | some z =>
        simp only [dIx, e] at post
        obtain ⟨v, h1, h2⟩ := r.atI e
        exact .inr (.inl ⟨a, vs, i, v, rfl, rfl, seqT fh q, h1, post v H F (Ext.refl fh) h2⟩)
    | str z hz =>
      obtain ⟨hl, post⟩ := Post.chk (c := z.length ≤ sizeLine) post
      cases e : L2.atI z.cps.toList i with
      | none => rw [e] at post; exact post.elim
      | some c =>
        rw [e] at post
        exact .inr (.inr ⟨z, i, c, rfl, rfl, hl, e, post _ H F (Ext.refl fh) (.str _ (strOk_one hz e))⟩)
    | _ => exact post.elim
  | _ => cases rx <;> exact post.elim
end

/-! ### slices -/
def cutD {α : Type} (xs : List α) (lo hi : Option Int) : List α := (xs.drop (HT.sIx xs.length 0 lo)).take (HT.sIx xs.length xs.length hi - HT.sIx xs.length 0 lo)
def dSl (x : D) (lo hi : Option Int) : R D := match x with
  | .tup xs => .ok (.tup (cutD xs lo hi))
  | .lst xs => .ok (.lst (cutD xs lo hi))
  | .str z => if z.length ≤ sizeLine then .ok (.str (cutS z lo hi)) else .bad
  | _ => .bad
theorem RpA.cut {K : PySem.W.Frag} {F : Hp} {vs : List V} {ds : List D} (r : RpA K F vs ds) (lo hi : Option Int) : RpA K F (cutV vs lo hi) (cutD ds lo hi) := by
  unfold cutV cutD
  rw [r.length]
  exact (r.drop _).take _
theorem strOk_cut {z : Str} (hz : PyData.strOk z = true) (lo hi : Option Int) : PyData.strOk (cutS z lo hi) = true := by
  unfold PyData.strOk at hz ⊢
  rw [← Array.all_toList, List.all_eq_true] at hz ⊢
  intro c hc
  exact hz c (List.mem_of_mem_drop (List.mem_of_mem_take (by simpa [cutS] using hc)))
def oNone : Env → R (Option Int) := fun _ => .ok none
def oSome (f : Env → R D) : Env → R (Option Int) := fun env => (f env).bind fun d => match d with
  | .int i => .ok (some i)
  | _ => .bad
def eSl (fa : Env → R D) (fl fh : Env → R (Option Int)) : Env → R D := fun env => (fa env).bind fun x => (fl env).bind fun l => (fh env).bind fun h => dSl x l h
def QO (H F : Hp) (Q : Option Int → Hp → Prop) (b : Option Int) : Prop := ∀ H' F', Ext H F H' F' → Q b H'
structure DO (X : Cx) (W : WX) (md : List Md) (e : Option Expr) (t : TO) (f : Env → R (Option Int)) : Prop where
  run : PO X e t
  den : ∀ (G : Gd) (σ : Sg) (H F : Hp) (env : Env) (Q : Option Int → Hp → Prop), Rep X.K G md σ H F env → Post X.K W σ H F (QO H F Q) (f env) → t σ H Q
section
variable {X : Cx} {W : WX} {md : List Md} {e : Expr} {te : TE} {fe : Env → R D} {lo hi : Option Expr} {pos p2 : Pos}
theorem do_none : DO X W md none tNoPart oNone := ⟨po_none, fun G σ H F env Q rep post => post H F (Ext.refl rep.fh)⟩
theorem do_some (h : DE X W md e te fe) : DO X W md (some e) (tPart te) (oSome fe) :=
  ⟨po_some h.run, fun G σ H F env Q rep post => h.den G σ H F env _ rep (post.bind fun c p1 v H1 F1 x1 r1 => by
    cases r1 with
    | int i => exact ⟨i, rfl, p1 H1 F1 x1⟩
    | _ => exact p1.elim)⟩
def rSlAll (K : PySem.W.Frag) : V → Option Int → Option Int → Hp → VK → Prop := fun x lo hi H Q => rSlF K x lo hi H Q ∨ rSlL K x lo hi H Q ∨ rSlS x lo hi H Q
theorem sl_all : SlR X (rSlAll X.K) := sl_tupF.or (sl_list.or sl_str)
theorem cut_whole {α : Type} {xs : List α} {lo hi : Option Int} (h : HT.sIx xs.length 0 lo = 0 ∧ HT.sIx xs.length xs.length hi = xs.length) : cutD xs lo hi = xs := by
  unfold cutD
  rw [h.1, h.2, List.drop_zero, Nat.sub_zero, List.take_length]
theorem v_sl {K : PySem.W.Frag} {σ : Sg} {H F : Hp} {Q : VK} {x : V} {c : D} {l u : Option Int} (fh : Same F H) (rx : Rp K F x c) (post : PostE K W σ H F Q (dSl c l u)) : rSlAll K x l u H Q := by
  cases rx with
  | tup q r =>
    rename_i a vs ds
    refine .inl ⟨a, vs, rfl, seqT fh q.sq, fun h => ?_, fun h p o np od => ?_⟩
    · rw [r.length] at h
      have p2 : PostE K W σ H F Q (.ok (.tup (cutD ds l u))) := post
      rw [cut_whole h] at p2
      exact p2 _ H F (Ext.refl fh) (.tup q r)
    · exact post _ _ (upd F p (.frz o (.tup _))) (Ext.new fh np) (.tup (TupN.of upd_same od) ((r.cut l u).mono (same_upd (fh.free np))))
  | lst q r =>
    rename_i a vs ds
    exact .inr (.inl ⟨a, vs, rfl, SqL.of (fh _ _ q), fun p np => post _ _ (upd F p (.lst _)) (Ext.new fh np) (.lst upd_same ((r.cut l u).mono (same_upd (fh.free np))))⟩)
  | str z hz =>
    obtain ⟨hl, post⟩ := Post.chk (c := z.length ≤ sizeLine) post
    exact .inr (.inr ⟨z, rfl, hl, post _ H F (Ext.refl fh) (.str _ (strOk_cut hz l u))⟩)
  | _ => exact post.elim
theorem de_sl {tl th : TO} {fl fh : Env → R (Option Int)} (he : DE X W md e te fe) (hl : DO X W md lo tl fl) (hu : DO X W md hi th fh) : DE X W md (.Subscript e (.Slice lo hi none p2) pos) (tSl (rSlAll X.K) te tl th) (eSl fe fl fh) :=
  ⟨pe_slice sl_all he.run hl.run hu.run, fun G σ H F env Q rep post => he.den G σ H F env _ rep (post.bind fun c p1 v H1 F1 x1 r1 =>
    hl.den G σ H1 F1 env _ (rep.ext x1) ((Post.extE p1 x1).bind fun l p2 H2 F2 x2 =>
      hu.den G σ H2 F2 env _ (rep.ext (x1.trans x2)) ((Post.extE p2 x2).bind fun u p3 H3 F3 x3 => v_sl x3.fh ((r1.mono x2.ff).mono x3.ff) (Post.extE p3 x3))))⟩
end
end DN
end

section
set_option Elab.async false
set_option linter.all false
set_option maxRecDepth 100000
namespace DN
open PySem PySem.Spec PyProof.Rows L2

def dLen : List D → R D
  | [.lst xs] => .ok (.int xs.length)
  | [.scr xs] => .ok (.int xs.length)
  | [.tup xs] => .ok (.int xs.length)
  | [.str z] => if z.length ≤ sizeLine then .ok (.int z.length) else .bad
  | _ => .bad
def dInt : List D → R D
  | [.int i] => .ok (.int i)
  | [.bl b] => .ok (.int (if b then 1 else 0))
  | _ => .bad
def dMin2 : List D → R D
  | [.int i, .int j] => .ok (.int (if j < i then j else i))
  | _ => .bad
def dMax2 : List D → R D
  | [.int i, .int j] => .ok (.int (if j > i then j else i))
  | _ => .bad
def dListOf : List D → R D
  | [.lst xs] => .ok (.lst xs)
  | [.tup xs] => .ok (.lst xs)
  | _ => .bad
def dTupleOf : List D → R D
  | [.lst xs] => .ok (.tup xs)
  | [.tup xs] => .ok (.tup xs)
  | _ => .bad
/-- the dbools of a list, the dints of a list -/
def dbools : List D → Option (List Bool)
  | [] => some []
  | .bl b :: r => (dbools r).map (b :: ·)
  | _ :: _ => none
def dints : List D → Option (List Int)
  | [] => some []
  | .int b :: r => (dints r).map (b :: ·)
  | _ :: _ => none
def dAll : List D → R D
  | [.lst xs] => match dbools xs with
    | some bs => .ok (.bl (bs.all id))
    | none => .bad
  | _ => .bad
def dAny : List D → R D
  | [.lst xs] => match dbools xs with
    | some bs => .ok (.bl (bs.any id))
    | none => .bad
  | _ => .bad
def imax : Int → List Int → Int
  | m, [] => m
  | m, x :: r => imax (if m < x then x else m) r
def dMaxL : List D → R D
  | [.lst xs] => match dints xs with
    | some (m :: r) => .ok (.int (imax m r))
    | _ => .bad
  | _ => .bad
def dSum : List D → R D
  | [.lst xs] => match dints xs with
    | some ns => .ok (.int ns.sum)
    | none => .bad
  | _ => .bad
theorem RpA.one {K : PySem.W.Frag} {F : Hp} {vs : List V} {d : D} (h : RpA K F vs [d]) : ∃ v, vs = [v] ∧ Rp K F v d := by
  cases h with
  | cons a b => cases b; exact ⟨_, rfl, a⟩
theorem RpA.two {K : PySem.W.Frag} {F : Hp} {vs : List V} {d e : D} (h : RpA K F vs [d, e]) : ∃ v w, vs = [v, w] ∧ Rp K F v d ∧ Rp K F w e := by
  cases h with
  | cons a b => obtain ⟨w, rfl, r⟩ := b.one; exact ⟨_, _, rfl, a, r⟩
theorem RpA.toBools {K : PySem.W.Frag} {F : Hp} : ∀ {vs : List V} {ds : List D} {bs : List Bool}, RpA K F vs ds → DN.dbools ds = some bs → vs = bs.map V.bl
  | _, _, _, .nil, e => by cases e; rfl
  | _, _, _, .cons h r, e => by
    cases h with
    | bl b =>
      simp only [DN.dbools, Option.map_eq_some_iff] at e
      obtain ⟨bs, e1, e2⟩ := e
      subst e2
      rw [RpA.toBools r e1]; rfl
    | _ => cases e
theorem RpA.toInts {K : PySem.W.Frag} {F : Hp} : ∀ {vs : List V} {ds : List D} {bs : List Int}, RpA K F vs ds → DN.dints ds = some bs → vs = bs.map V.int
  | _, _, _, .nil, e => by cases e; rfl
  | _, _, _, .cons h r, e => by
    cases h with
    | int b =>
      simp only [DN.dints, Option.map_eq_some_iff] at e
      obtain ⟨bs, e1, e2⟩ := e
      subst e2
      rw [RpA.toInts r e1]; rfl
    | _ => cases e
theorem imax_le : ∀ (l : List Int) (m : Int), m ≤ imax m l ∧ (∀ y ∈ l, y ≤ imax m l) ∧ (imax m l = m ∨ imax m l ∈ l)
  | [], m => ⟨Int.le_refl _, fun _ h => (by cases h), .inl rfl⟩
  | x :: r, m => by
    obtain ⟨h1, h2, h3⟩ := imax_le r (if m < x then x else m)
    simp only [imax]
    refine ⟨?_, fun y hy => ?_, ?_⟩
    · split at h1 <;> (split; all_goals omega)
    · rcases List.mem_cons.mp hy with rfl | hy
      · split at h1 <;> (split; all_goals omega)
      · exact h2 y hy
    · rcases h3 with h | h
      · rw [h]
        split
        · exact .inr (List.mem_cons_self ..)
        · exact .inl rfl
      · exact .inr (List.mem_cons_of_mem _ h)
section
variable {X : Cx} {K : PySem.W.Frag}
theorem v_len : VArg K (fun xs H Q => ∃ x n, xs = [x] ∧ LenV K x H n ∧ Q (.int n) H) dLen := by
  intro W σ xs cs H F Q fh r post
  match cs, r, post with
  | [.lst ys], r, post =>
    obtain ⟨v, rfl, rr⟩ := r.one
    cases rr with
    | lst q r => exact ⟨_, _, rfl, .inl ⟨_, SqL.of (fh _ _ q), r.length.symm⟩, post _ H F (Ext.refl fh) (.int _)⟩
  | [.scr ys], r, post =>
    obtain ⟨v, rfl, rr⟩ := r.one
    cases rr with
    | scr q r => exact ⟨_, _, rfl, .inl ⟨_, fh.seq q, r.length.symm⟩, post _ H F (Ext.refl fh) (.int _)⟩
  | [.tup ys], r, post =>
    obtain ⟨v, rfl, rr⟩ := r.one
    cases rr with
    | tup q r => exact ⟨_, _, rfl, .inr ⟨_, seqT fh q.sq, r.length.symm⟩, post _ H F (Ext.refl fh) (.int _)⟩
  | [.str z], r, post =>
    obtain ⟨v, rfl, rr⟩ := r.one
    cases rr with
    | str _ h =>
      obtain ⟨hl, post⟩ := Post.chk (c := z.length ≤ sizeLine) post
      exact ⟨_, _, rfl, ⟨hl, rfl⟩, post _ H F (Ext.refl fh) (.int _)⟩
  | [], r, post => exact post.elim
  | [.non], r, post => exact post.elim
  | [.bl _], r, post => exact post.elim
  | [.int _], r, post => exact post.elim
  | [.fn _], r, post => exact post.elim
  | [.pr _], r, post => exact post.elim
  | a :: _ :: _, r, post => cases a <;> exact post.elim
theorem v_intOf : VArg K (fun xs H Q => (∃ i, xs = [.int i] ∧ Q (.int i) H) ∨ ∃ k, xs = [.bl k] ∧ Q (.int (if k then 1 else 0)) H) dInt := by
  intro W σ xs cs H F Q fh r post
  match cs, r, post with
  | [.int i], r, post =>
    obtain ⟨v, rfl, rr⟩ := r.one
    cases rr
    exact .inl ⟨i, rfl, post _ H F (Ext.refl fh) (.int _)⟩
  | [.bl i], r, post =>
    obtain ⟨v, rfl, rr⟩ := r.one
    cases rr
    exact .inr ⟨i, rfl, post _ H F (Ext.refl fh) (.int _)⟩
  | [], r, post => exact post.elim
  | [.non], r, post => exact post.elim
  | [.str _], r, post => exact post.elim
  | [.lst _], r, post => exact post.elim
  | [.tup _], r, post => exact post.elim
  | [.scr _], r, post => exact post.elim
  | [.fn _], r, post => exact post.elim
  | [.pr _], r, post => exact post.elim
  | a :: _ :: _, r, post => cases a <;> exact post.elim
theorem v_min2 : VArg K (fun xs H Q => ∃ i j, xs = [.int i, .int j] ∧ Q (.int (if j < i then j else i)) H) dMin2 := by
  intro W σ xs cs H F Q fh r post
  unfold dMin2 at post
  split at post
  · obtain ⟨v, w, rfl, r1, r2⟩ := r.two
    cases r1; cases r2
    exact ⟨_, _, rfl, post _ H F (Ext.refl fh) (.int _)⟩
  · exact post.elim
theorem v_max2 : VArg K (fun xs H Q => ∃ i j, xs = [.int i, .int j] ∧ Q (.int (if j > i then j else i)) H) dMax2 := by
  intro W σ xs cs H F Q fh r post
  unfold dMax2 at post
  split at post
  · obtain ⟨v, w, rfl, r1, r2⟩ := r.two
    cases r1; cases r2
    exact ⟨_, _, rfl, post _ H F (Ext.refl fh) (.int _)⟩
  · exact post.elim
theorem vf_listOf : VArgF K (fun xs H Q => ∃ p ys, xs = [.ref p] ∧ (SqL K H p ys ∨ SqT K H p ys) ∧ ∀ l, H l = none → Q (.ref l) (upd H l (.lst ys))) dListOf := by
  intro W σ xs cs H F Q fh r post
  unfold dListOf at post
  split at post
  · obtain ⟨v, rfl, rr⟩ := r.one
    cases rr with
    | lst q r => exact ⟨_, _, rfl, .inl (SqL.of (fh _ _ q)), fun l nl => post l _ F (Ext.mine fh nl) nl ⟨⟨_, _, rfl, upd_same, r⟩, fh.free nl⟩⟩
  · obtain ⟨v, rfl, rr⟩ := r.one
    cases rr with
    | tup q r => exact ⟨_, _, rfl, .inr (seqT fh q.sq), fun l nl => post l _ F (Ext.mine fh nl) nl ⟨⟨_, _, rfl, upd_same, r⟩, fh.free nl⟩⟩
  · exact post.elim
theorem v_tupleOf : VArg K (rTupOf K) dTupleOf := by
  intro W σ xs cs H F Q fh r post
  unfold dTupleOf at post
  split at post
  · obtain ⟨v, rfl, rr⟩ := r.one
    cases rr with
    | lst q r => exact ⟨_, _, rfl, .inl ⟨SqL.of (fh _ _ q), fun l o nl od => post _ _ (upd F l (.frz o (.tup _))) (Ext.new fh nl) (.tup (TupN.of upd_same od) (r.mono (same_upd (fh.free nl))))⟩⟩
  · obtain ⟨v, rfl, rr⟩ := r.one
    cases rr with
    | tup q r => exact ⟨_, _, rfl, .inr ⟨seqT fh q.sq, post _ H F (Ext.refl fh) (.tup q r)⟩⟩
  · exact post.elim
theorem v_all : VArg K (rAll K) dAll := by
  intro W σ xs cs H F Q fh r post
  unfold dAll at post
  split at post
  · obtain ⟨v, rfl, rr⟩ := r.one
    cases rr with
    | lst q r =>
      split at post
      · rename_i bs e
        have ev := r.toBools e
        subst ev
        exact ⟨_, bs, rfl, SqL.of (fh _ _ q), post _ H F (Ext.refl fh) (.bl _)⟩
      · exact post.elim
  · exact post.elim
theorem v_any : VArg K (rAny K) dAny := by
  intro W σ xs cs H F Q fh r post
  unfold dAny at post
  split at post
  · obtain ⟨v, rfl, rr⟩ := r.one
    cases rr with
    | lst q r =>
      split at post
      · rename_i bs e
        have ev := r.toBools e
        subst ev
        exact ⟨_, bs, rfl, SqL.of (fh _ _ q), post _ H F (Ext.refl fh) (.bl _)⟩
      · exact post.elim
  · exact post.elim
theorem v_sum : VArg K (rSum K) dSum := by
  intro W σ xs cs H F Q fh r post
  unfold dSum at post
  split at post
  · obtain ⟨v, rfl, rr⟩ := r.one
    cases rr with
    | lst q r =>
      split at post
      · rename_i bs e
        have ev := r.toInts e
        subst ev
        exact ⟨_, bs, rfl, SqL.of (fh _ _ q), post _ H F (Ext.refl fh) (.int _)⟩
      · exact post.elim
  · exact post.elim
theorem v_maxL : VArg K (rMax K) dMaxL := by
  intro W σ xs cs H F Q fh r post
  unfold dMaxL at post
  split at post
  · obtain ⟨v, rfl, rr⟩ := r.one
    cases rr with
    | lst q r =>
      split at post
      · rename_i m l e
        have ev := r.toInts e
        subst ev
        refine ⟨_, m :: l, rfl, SqL.of (fh _ _ q), Nat.succ_pos _, fun k hk hu => ?_⟩
        obtain ⟨h1, h2, h3⟩ := imax_le l m
        have ek : k = imax m l := by
          have a1 : imax m l ≤ k := by
            rcases h3 with h | h
            · rw [h]; exact hu m (List.mem_cons_self ..)
            · exact hu _ (List.mem_cons_of_mem _ h)
          rcases List.mem_cons.mp hk with rfl | hk
          · omega
          · have := h2 k hk; omega
        rw [ek]
        exact post _ H F (Ext.refl fh) (.int _)
      · exact post.elim
  · exact post.elim
end

/-! ### isinstance(x, T), T a built-in type by its name -/
def D.tyName : D → Option String
  | .non => some "NoneType"
  | .bl _ => some "bool"
  | .int _ => some "int"
  | .str _ => some "str"
  | .lst _ => some "list"
  | .tup _ => some "tuple"
  | _ => none
def isiB (a b : String) : Bool := a == b || (a == "bool" && b == "int")
def dIsi (T : String) (d : D) : R D := match d.tyName with
  | some n => .ok (.bl (isiB n T))
  | none => .bad
theorem Rp.ty {K : PySem.W.Frag} {F : Hp} {v : V} {d : D} {n : String} (h : Rp K F v d) (e : d.tyName = some n) : TyX K F v (.type n) := by
  cases h with
  | non => cases e; exact .base .non
  | bl b => cases e; exact .base (.bl b)
  | int i => cases e; exact .base (.int i)
  | str x _ => cases e; exact .base (.str x)
  | lst q r => cases e; exact .base (.lst q)
  | tup q r =>
    cases e
    rcases q with ⟨o, q, _⟩ | ⟨o, its, n, hk, hc, _⟩
    · exact .fTuple q
    · exact .kTuple hk hc
  | fn a => cases e
  | scr q r => cases e
  | pr q r => cases e
theorem kit_isi (T : String) (hT : T ∈ ["int", "bool", "str", "tuple", "list"]) : ∀ n : String, n ∈ ["NoneType", "bool", "int", "str", "list", "tuple"] → kitB n T = some (isiB n T) := by
  simp only [List.mem_cons, List.mem_nil_iff, or_false] at hT
  rcases hT with rfl | rfl | rfl | rfl | rfl <;>
    (intro n hn
     simp only [List.mem_cons, List.mem_nil_iff, or_false] at hn
     rcases hn with rfl | rfl | rfl | rfl | rfl | rfl <;> decide +kernel)
theorem tyName_mem {d : D} {n : String} (e : d.tyName = some n) : n ∈ ["NoneType", "bool", "int", "str", "list", "tuple"] := by
  cases d <;> cases e <;> decide
section
variable {X : Cx} {W : WX} {md : List Md} {a : Expr} {ta : TE} {fa : Env → R D} {p q pos : Pos}
theorem de_isi {x : Str} {T : String} (hT : T ∈ ["int", "bool", "str", "tuple", "list"]) (hg : Gl X "isinstance") (hm : X.mg "isinstance" = none) (hg2 : Gl X x) (hm2 : X.mg x = none) (hb : bootBuiltins x = some (.type T)) (ha : DE X W md a ta fa)
    (hn : x ≠ "__name__" := by decide) (hdb : (x == ("__debug__" : Str)) = false := by decide) (he : starEach [a, .Name x q] X.env = (false, eval a X.env) :: starEach [.Name x q] X.env := by rfl) (he2 : starEach [.Name x q] X.env = [(false, eval (.Name x q) X.env)] := by rfl) (hpl : (backTo pos (starEach [.Name x q] X.env)).any (·.1) = false := by rfl) :
    DE X W md (.Call (.Name "isinstance" p) [a, .Name x q] [] pos) (tCB (rIsi X.K) (tCons ta (tCons (tC (.ty T)) tNil))) (eUn (dIsi T) fa) := by
  refine ⟨pe_callB call_isi hg hm (by decide +kernel) (pa_cons ha.run (pa_cons (pe_bltn hg2 hm2 hb rfl hn hdb) pa_nil he2) he) (by decide) (by decide) he hpl, fun G σ H F env Q rep post => ?_⟩
  refine ha.den G σ H F env _ rep (post.bind fun c p1 v H1 F1 x1 r1 => ?_)
  cases e : c.tyName with
  | none => simp only [dIsi, e] at p1; exact p1.elim
  | some n =>
    simp only [dIsi, e] at p1
    exact ⟨v, .ty T, _, _, isiB n T, rfl, .ty T, (r1.mono x1.fh).ty e, kit_ty (kit_isi T hT n (tyName_mem e)), p1 _ H1 F1 x1 (.bl _)⟩
end
end DN
end

section
set_option Elab.async false
set_option linter.all false
set_option maxRecDepth 100000
namespace DN
open PySem PySem.Spec PyProof.Rows L2

/-! ### modes weakened: own lists get known, slots forgotten -/
def Md.le : Md → Md → Bool
  | _, .u => true
  | .o, .v => true
  | .v, .v => true
  | .o, .o => true
  | .p, .p => true
  | _, _ => false
def leM : List Md → List Md → Bool
  | _, [] => true
  | a :: as, b :: bs => a.le b && leM as bs
  | [], b :: bs => Md.u.le b && leM [] bs
theorem leM_at : ∀ {as bs : List Md}, leM as bs = true → ∀ i, (as.getD i .u).le (bs.getD i .u) = true
  | as, [], _, i => by
    have : (([] : List Md).getD i .u) = .u := by simp
    rw [this]; cases as.getD i .u <;> rfl
  | a :: as, b :: bs, h, 0 => by
    simp only [leM, Bool.and_eq_true] at h
    simpa using h.1
  | a :: as, b :: bs, h, i + 1 => by
    simp only [leM, Bool.and_eq_true] at h
    simpa using leM_at h.2 i
  | [], b :: bs, h, 0 => by
    simp only [leM, Bool.and_eq_true] at h
    simpa using h.1
  | [], b :: bs, h, i + 1 => by
    simp only [leM, Bool.and_eq_true] at h
    have := leM_at h.2 i
    simpa using this
open Classical in
/-- F with the own lists that get known -/
noncomputable def known (F H : Hp) (S : Addr → Prop) : Hp := fun a => if S a then H a else F a
theorem Rep.weak {K : PySem.W.Frag} {G : Gd} {md md' : List Md} {σ : Sg} {H F : Hp} {env : Env} (r : Rep K G md σ H F env) (h : leM md md' = true) : ∃ F', Same F F' ∧ Rep K G md' σ H F' env := by
  have le := leM_at h
  let S : Addr → Prop := fun a => ∃ i d, md.getD i .u = .o ∧ md'.getD i .u = .v ∧ env[i]? = some (some d) ∧ σ[i]? = some (some (.ref a))
  have hS : ∀ a, S a → G.H0 a = none ∧ F a = none ∧ ∃ vs, H a = some (.lst vs) := by
    rintro a ⟨i, d, h1, h2, h3, h4⟩
    have s := r.sl i d h3
    rw [h1] at s
    obtain ⟨p, e, ⟨⟨vs, ds, _, hp, _⟩, nf⟩, n⟩ := s
    rw [h4] at e
    cases e
    exact ⟨n, nf, vs, hp⟩
  have ff : Same F (known F H S) := fun a o e => by
    unfold known
    by_cases hs : S a
    · rw [(hS a hs).2.1] at e; cases e
    · rw [if_neg hs]; exact e
  refine ⟨known F H S, ff, ?_⟩
  refine ⟨fun a o e => ?_, r.h0, r.f0.trans ff, fun a o e => ?_, r.gg, r.oo, r.len, fun i d e => ?_, fun i j p d e m1 m2 => ?_⟩
  · unfold known at e
    by_cases hs : S a
    · rw [if_pos hs] at e; exact e
    · rw [if_neg hs] at e; exact r.fh _ _ e
  · unfold known at e
    by_cases hs : S a
    · exact .inr (hS a hs).1
    · rw [if_neg hs] at e; exact r.fr _ _ e
  · have s := r.sl i d e
    have l := le i
    have own : ∀ p, md.getD i .u = md'.getD i .u → (md.getD i .u).mine = true → σ[i]? = some (some (.ref p)) → Own K H F p d → Own K H (known F H S) p d := by
      rintro p hm hmine hp ⟨⟨vs, ds, h1, h2, h3⟩, nf⟩
      refine ⟨⟨vs, ds, h1, h2, h3.mono ff⟩, ?_⟩
      unfold known
      by_cases hs : S p
      · obtain ⟨j, d2, g1, g2, g3, g4⟩ := hs
        have := r.sep i j p d d2 hmine (by rw [g1]; rfl) e g3 hp g4
        subst this
        rw [g1, g2] at hm
        cases hm
      · rw [if_neg hs]; exact nf
    cases m' : md'.getD i .u with
    | u => trivial
    | v =>
      rw [m'] at l
      cases m : md.getD i .u with
      | v => rw [m] at s; obtain ⟨v, h1, h2⟩ := s; exact ⟨v, h1, h2.mono ff⟩
      | o =>
        rw [m] at s
        obtain ⟨p, h1, ⟨⟨vs, ds, rfl, h2, h3⟩, nf⟩, n⟩ := s
        refine ⟨.ref p, h1, .lst (vs := vs) ?_ (h3.mono ff)⟩
        unfold known
        rw [if_pos ⟨i, _, m, m', e, h1⟩]
        exact h2
      | p => rw [m] at l; cases l
      | u => rw [m] at l; cases l
    | o =>
      rw [m'] at l
      cases m : md.getD i .u with
      | o =>
        rw [m] at s
        obtain ⟨p, h1, h2, n⟩ := s
        exact ⟨p, h1, own p (by rw [m, m']) (by rw [m]; rfl) h1 h2, n⟩
      | v => rw [m] at l; cases l
      | p => rw [m] at l; cases l
      | u => rw [m] at l; cases l
    | p =>
      rw [m'] at l
      cases m : md.getD i .u with
      | p =>
        rw [m] at s
        obtain ⟨p, h1, h2, n⟩ := s
        exact ⟨p, h1, own p (by rw [m, m']) (by rw [m]; rfl) h1 h2, n⟩
      | v => rw [m] at l; cases l
      | o => rw [m] at l; cases l
      | u => rw [m] at l; cases l
  · have up : ∀ k, (md'.getD k .u).mine = true → (md.getD k .u).mine = true := fun k hk => by
      have l := le k
      cases m' : md'.getD k .u with
      | u => rw [m'] at hk; cases hk
      | v => rw [m'] at hk; cases hk
      | o => rw [m'] at l; cases m : md.getD k .u <;> rw [m] at l <;> first | rfl | cases l
      | p => rw [m'] at l; cases m : md.getD k .u <;> rw [m] at l <;> first | rfl | cases l
    exact r.sep i j p d e (up i m1) (up j m2)

/-- slots forgotten alone -/
theorem Rep.drop {K : PySem.W.Frag} {G : Gd} {md md' : List Md} {σ : Sg} {H F : Hp} {env : Env} (r : Rep K G md σ H F env) (h : ∀ i, md'.getD i .u = .u ∨ md'.getD i .u = md.getD i .u) : Rep K G md' σ H F env := by
  refine ⟨r.fh, r.h0, r.f0, r.fr, r.gg, r.oo, r.len, fun i d e => ?_, fun i j p d e m1 m2 => ?_⟩
  · rcases h i with q | q
    · rw [q]; trivial
    · rw [q]; exact r.sl i d e
  · have up : ∀ k, (md'.getD k .u).mine = true → (md.getD k .u).mine = true := fun k hk => by
      rcases h k with q | q
      · rw [q] at hk; cases hk
      · rw [← q]; exact hk
    exact r.sep i j p d e (up i m1) (up j m2)
/-- only the caller's own lists are still told of -/
def onlyP (md : List Md) : Bool := md.all fun m => match m with
  | .p => true
  | .u => true
  | _ => false
theorem onlyP_drop {md md' : List Md} (h : leM md md' = true) (ho : onlyP md' = true) : ∀ i, md'.getD i .u = .u ∨ md'.getD i .u = md.getD i .u := fun i => by
  have l := leM_at h i
  have q : md'.getD i .u = .u ∨ md'.getD i .u = .p := by
    by_cases hi : i < md'.length
    · have hm : md'.getD i .u ∈ md' := by
        rw [List.getD_eq_getElem?_getD, List.getElem?_eq_getElem hi]
        exact List.getElem_mem hi
      have := List.all_eq_true.mp ho _ hm
      cases e : md'.getD i .u <;> rw [e] at this <;> first | exact .inl rfl | exact .inr rfl | cases this
    · rw [List.getD_eq_getElem?_getD, List.getElem?_eq_none (by omega)]; exact .inl rfl
  rcases q with q | q
  · exact .inl q
  · rw [q] at l ⊢
    cases e : md.getD i .u <;> rw [e] at l <;> first | exact .inr rfl | cases l

theorem own_new {K : PySem.W.Frag} {G : Gd} {md : List Md} {σ : Sg} {H F : Hp} {env : Env} {p : Addr} (r : Rep K G md σ H F env) (n : H p = none) : G.H0 p = none := by
  cases q : G.H0 p with
  | none => rfl
  | some u =>
    by_cases ha : p ∈ G.O
    · obtain ⟨o', ho⟩ := r.oo p ha
      rw [ho] at n; cases n
    · rw [r.h0 p u ha q] at n; cases n
/-! ### statements -/
inductive Fl where
  | nx (e : Env) | rt (d : D) (e : Env) | bk (e : Env) | ct (e : Env) | ex (c : Str) (x : Option (Str × D)) (e : Env)
/-- modes at break and continue, at a return, at an exception; fresh: a return hands out a new own list -/
structure Ms where
  l : List Md
  r : List Md
  x : List Md
  fresh : Bool := false

/-- a list that is handed out is new -/
def FrOk (K : PySem.W.Frag) (G : Gd) (H F : Hp) (v : V) (d : D) : Prop := match d with
  | .lst _ => ∃ p, v = .ref p ∧ Own K H F p d ∧ G.H0 p = none
  | _ => Rp K F v d
theorem FrOk.own {K : PySem.W.Frag} {G : Gd} {H F : Hp} {p : Addr} {d : D} (o : Own K H F p d) (n : G.H0 p = none) : FrOk K G H F (.ref p) d := by
  obtain ⟨vs, ds, rfl, _⟩ := o.ex
  exact ⟨p, rfl, o, n⟩
def PostFl (K : PySem.W.Frag) (G : Gd) (M : Ms) (W : WX) (mn : List Md) (E : Ends) (F : Hp) : Fl → Prop
  | .nx env => ∀ σ H F', Same F F' → Rep K G mn σ H F' env → E.nx σ H
  | .bk env => ∀ σ H F', Same F F' → Rep K G M.l σ H F' env → E.bk σ H
  | .ct env => ∀ σ H F', Same F F' → Rep K G M.l σ H F' env → E.ct σ H
  | .rt d env => ∀ σ H F' v, Same F F' → Rep K G M.r σ H F' env → (if M.fresh then FrOk K G H F' v d else Rp K F' v d) → E.rt v H
  | .ex c none env => ∀ σ H F', Same F F' → Rep K G M.x σ H F' env → W (clsOf K c) none σ H
  | .ex c (some (n, d)) env => ∀ σ H F' dx v, Same F F' → Rep K G M.x σ H F' env → G.H0 dx = none → H dx = some (.xd [(n, v)]) → Rp K F' v d → W (clsOf K c) (some dx) σ H
def PostS (K : PySem.W.Frag) (G : Gd) (M : Ms) (W : WX) (mn : List Md) (E : Ends) (F : Hp) : R Fl → Prop
  | .ok a => PostFl K G M W mn E F a
  | _ => False
def DenS (K : PySem.W.Frag) (W : WX) (M : Ms) (md mn : List Md) (t : TS) (f : Env → R Fl) : Prop :=
  ∀ (G : Gd) (σ : Sg) (H F : Hp) (env : Env) (E : Ends), Rep K G md σ H F env → PostS K G M W mn E F (f env) → t E σ H
structure DS (X : Cx) (W : WX) (M : Ms) (md mn : List Md) (st : Stmt) (t : TS) (f : Env → R Fl) : Prop where
  run : PS X st t
  den : DenS X.K W M md mn t f
structure DSs (X : Cx) (W : WX) (M : Ms) (md mn : List Md) (st : List Stmt) (t : TS) (f : Env → R Fl) : Prop where
  run : PSs X st t
  den : DenS X.K W M md mn t f

/-- an expression within a statement: what it raises leaves the statement -/
def sB {α : Type} (m : R α) (env : Env) (k : α → R Fl) : R Fl := match m with
  | .ok a => k a
  | .exc c x => .ok (.ex c x env)
  | .bad => .bad

section
variable {K : PySem.W.Frag} {G : Gd} {M : Ms} {W : WX} {md mn : List Md} {E : Ends} {σ : Sg} {H F : Hp} {env : Env}
theorem PostS.more {F' : Hp} {m : R Fl} (h : PostS K G M W mn E F m) (s : Same F F') : PostS K G M W mn E F' m := by
  cases m with
  | ok a =>
    cases a with
    | nx e => exact fun σ H F2 s2 => h σ H F2 (s.trans s2)
    | bk e => exact fun σ H F2 s2 => h σ H F2 (s.trans s2)
    | ct e => exact fun σ H F2 s2 => h σ H F2 (s.trans s2)
    | rt d e => exact fun σ H F2 v s2 => h σ H F2 v (s.trans s2)
    | ex c x e =>
      cases x with
      | none => exact fun σ H F2 s2 => h σ H F2 (s.trans s2)
      | some q => obtain ⟨n, d⟩ := q; exact fun σ H F2 dx v s2 => h σ H F2 dx v (s.trans s2)
  | exc c x => exact h
  | bad => exact h
/-- from a statement's end to its expression's end -/
theorem PostS.expr {α : Type} {m : R α} {k : α → R Fl} {P : α → Prop} (rep : Rep K G md σ H F env) (hx : leM md M.x = true) (h : PostS K G M W mn E F (sB m env k)) (c : ∀ a, PostS K G M W mn E F (k a) → P a) : Post K W σ H F P m := by
  cases m with
  | ok a => exact c a h
  | bad => exact h
  | exc c x =>
    cases x with
    | none =>
      intro H' F' e
      obtain ⟨F2, s2, r2⟩ := (rep.ext e).weak hx
      exact h σ H' F2 (e.ff.trans s2) r2
    | some q =>
      obtain ⟨n, d⟩ := q
      intro H' F' dx v e nn hd r
      obtain ⟨F2, s2, r2⟩ := (rep.ext e).weak hx
      exact h σ H' F2 dx v (e.ff.trans s2) r2 (own_new rep nn) hd (r.mono s2)
end

/-! ### slots written -/
section
variable {K : PySem.W.Frag} {G : Gd} {md : List Md} {σ : Sg} {H F : Hp} {env : Env}
theorem getD_set (md : List Md) (i j : Nat) (m : Md) (hi : i < md.length) : (md.set i m).getD j .u = if j = i then m else md.getD j .u := by
  rw [List.getD_eq_getElem?_getD, List.getD_eq_getElem?_getD]
  by_cases h : j = i
  · subst h
    rw [List.getElem?_set_self hi, if_pos rfl]; rfl
  · rw [List.getElem?_set_ne (Ne.symm h), if_neg h]
theorem Rep.set {i : Nat} {v : V} {d : D} {m : Md} (r : Rep K G md σ H F env) (hi : i < md.length) (hs : SlotOk K G H F (some (some v)) d m)
    (hm : m.mine = true → ∀ p, v = .ref p → ∀ j e, j ≠ i → (md.getD j .u).mine = true → env[j]? = some (some e) → σ[j]? ≠ some (some (.ref p))) : Rep K G (md.set i m) (σ.set i (some v)) H F (env.set i (some d)) where
  fh := r.fh
  h0 := r.h0
  f0 := r.f0
  fr := r.fr
  gg := r.gg
  oo := r.oo
  len := by rw [List.length_set, List.length_set]; exact r.len
  sl := fun j e h => by
    by_cases hj : j = i
    · subst hj
      have lt : j < env.length := by
        have := List.getElem?_eq_some_iff.mp h
        obtain ⟨q, _⟩ := this
        simpa using q
      rw [List.getElem?_set_self lt] at h
      cases h
      rw [getD_set md j j m hi, if_pos rfl, List.getElem?_set_self (by rw [← r.len]; exact lt)]
      exact hs
    · rw [List.getElem?_set_ne (Ne.symm hj)] at h
      rw [getD_set md i j m hi, if_neg hj, List.getElem?_set_ne (Ne.symm hj)]
      exact r.sl j e h
  sep := fun a b p d1 d2 m1 m2 h1 h2 s1 s2 => by
    have old : ∀ c x, c ≠ i → ((md.set i m).getD c .u).mine = true → (env.set i (some d))[c]? = some (some x) → (md.getD c .u).mine = true ∧ env[c]? = some (some x) := fun c x hc q1 q2 => by
      rw [getD_set md i c m hi, if_neg hc] at q1
      rw [List.getElem?_set_ne (Ne.symm hc)] at q2
      exact ⟨q1, q2⟩
    have new : ((md.set i m).getD i .u) = m := by rw [getD_set md i i m hi, if_pos rfl]
    have sv : ∀ x, (env.set i (some d))[i]? = some (some x) → (σ.set i (some v))[i]? = some (some v) := fun x h => by
      obtain ⟨q, _⟩ := List.getElem?_eq_some_iff.mp h
      rw [List.getElem?_set_self (by rw [← r.len]; simpa using q)]
    by_cases ha : a = i
    · by_cases hb : b = i
      · rw [ha, hb]
      · rw [ha] at m1 h1 s1
        rw [new] at m1
        rw [sv d1 h1] at s1
        cases s1
        obtain ⟨q1, q2⟩ := old b d2 hb m2 h2
        rw [List.getElem?_set_ne (Ne.symm hb)] at s2
        exact absurd s2 (hm m1 p rfl b d2 hb q1 q2)
    · obtain ⟨q1, q2⟩ := old a d1 ha m1 h1
      rw [List.getElem?_set_ne (Ne.symm ha)] at s1
      by_cases hb : b = i
      · rw [hb] at m2 h2 s2
        rw [new] at m2
        rw [sv d2 h2] at s2
        cases s2
        exact absurd s1 (hm m2 p rfl a d1 ha q1 q2)
      · obtain ⟨q3, q4⟩ := old b d2 hb m2 h2
        rw [List.getElem?_set_ne (Ne.symm hb)] at s2
        exact r.sep a b p d1 d2 q1 q3 q2 q4 s1 s2
/-- a value -/
theorem Rep.setV {i : Nat} {v : V} {d : D} (r : Rep K G md σ H F env) (hi : i < md.length) (h : Rp K F v d) : Rep K G (md.set i .v) (σ.set i (some v)) H F (env.set i (some d)) :=
  r.set hi ⟨v, rfl, h⟩ fun z => nomatch z
/-- a new own list -/
theorem Rep.setO {i : Nat} {p : Addr} {d : D} {H1 F1 : Hp} (r : Rep K G md σ H F env) (hi : i < md.length) (e : Ext H F H1 F1) (n : H p = none) (o : Own K H1 F1 p d) : Rep K G (md.set i .o) (σ.set i (some (.ref p))) H1 F1 (env.set i (some d)) := by
  have hn : G.H0 p = none := by
    cases q : G.H0 p with
    | none => rfl
    | some u =>
      by_cases ha : p ∈ G.O
      · obtain ⟨o', ho⟩ := r.oo p ha
        rw [ho] at n; cases n
      · rw [r.h0 p u ha q] at n; cases n
  refine (r.ext e).set hi ⟨p, rfl, o, hn⟩ fun _ p' hp j d' hj mj ej sj => ?_
  cases hp
  have s := r.sl j d' ej
  cases m : md.getD j .u with
  | o => rw [m] at s; obtain ⟨p2, s2, ⟨⟨vs, ds, _, hp2, _⟩, _⟩, _⟩ := s; rw [sj] at s2; cases s2; rw [n] at hp2; cases hp2
  | p => rw [m] at s; obtain ⟨p2, s2, ⟨⟨vs, ds, _, hp2, _⟩, _⟩, _⟩ := s; rw [sj] at s2; cases s2; rw [n] at hp2; cases hp2
  | v => rw [m] at mj; cases mj
  | u => rw [m] at mj; cases mj
/-- an own list is written -/
theorem Rep.write {i : Nat} {p : Addr} {vs : List V} {ds : List D} {d0 : D} (r : Rep K G md σ H F env) (hm : (md.getD i .u).mine = true) (he : env[i]? = some (some d0)) (hp : σ[i]? = some (some (.ref p))) (ra : RpA K F vs ds) :
    Rep K G md σ (upd H p (.lst vs)) F (env.set i (some (.lst ds))) := by
  have own : ∃ o, H p = some o ∧ F p = none ∧ (G.H0 p = none ∨ p ∈ G.O) := by
    have s := r.sl i d0 he
    cases m : md.getD i .u with
    | o => rw [m] at s; obtain ⟨p2, s2, ⟨⟨vs, ds, _, hp2, _⟩, nf⟩, n⟩ := s; rw [hp] at s2; cases s2; exact ⟨_, hp2, nf, .inl n⟩
    | p => rw [m] at s; obtain ⟨p2, s2, ⟨⟨vs, ds, _, hp2, _⟩, nf⟩, n⟩ := s; rw [hp] at s2; cases s2; exact ⟨_, hp2, nf, .inr n⟩
    | v => rw [m] at hm; cases hm
    | u => rw [m] at hm; cases hm
  obtain ⟨o, ho, nf, og⟩ := own
  refine ⟨fun a u e => ?_, fun a u n e => ?_, r.f0, r.fr, r.gg, fun a ha => ?_, by rw [List.length_set]; exact r.len, fun j d e => ?_, fun a b q d1 d2 m1 m2 h1 h2 s1 s2 => ?_⟩
  · rw [upd_ne (fun z => by rw [z, nf] at e; cases e)]
    exact r.fh _ _ e
  · have hne : a ≠ p := fun z => by
      rcases og with q | q
      · rw [z, q] at e; cases e
      · rw [z] at n; exact n q
    rw [upd_ne hne]
    exact r.h0 a u n e
  · by_cases hap : a = p
    · rw [hap]; exact ⟨_, upd_same⟩
    · rw [upd_ne hap]; exact r.oo a ha
  · by_cases hj : j = i
    · subst hj
      obtain ⟨lt, _⟩ := List.getElem?_eq_some_iff.mp he
      rw [List.getElem?_set_self lt] at e
      cases e
      have s := r.sl j d0 he
      cases m : md.getD j .u with
      | o => rw [m] at s; obtain ⟨p2, s2, _, n⟩ := s; rw [hp] at s2; cases s2; exact ⟨p, hp, ⟨⟨vs, ds, rfl, upd_same, ra⟩, nf⟩, n⟩
      | p => rw [m] at s; obtain ⟨p2, s2, _, n⟩ := s; rw [hp] at s2; cases s2; exact ⟨p, hp, ⟨⟨vs, ds, rfl, upd_same, ra⟩, nf⟩, n⟩
      | v => rw [m] at hm; cases hm
      | u => rw [m] at hm; cases hm
    · rw [List.getElem?_set_ne (Ne.symm hj)] at e
      have s := r.sl j d e
      have off : ∀ p2, (md.getD j .u).mine = true → σ[j]? = some (some (.ref p2)) → Own K H F p2 d → Own K (upd H p (.lst vs)) F p2 d := fun p2 mj sj o => by
        obtain ⟨⟨vs2, ds2, q1, q2, q3⟩, q4⟩ := o
        refine ⟨⟨vs2, ds2, q1, ?_, q3⟩, q4⟩
        rw [upd_ne (fun z => hj (r.sep j i p d d0 mj hm e he (by rw [← z]; exact sj) hp))]
        exact q2
      cases m : md.getD j .u with
      | v => rw [m] at s; exact s
      | u => trivial
      | o => rw [m] at s; obtain ⟨p2, s2, o2, n⟩ := s; exact ⟨p2, s2, off p2 (by rw [m]; rfl) s2 o2, n⟩
      | p => rw [m] at s; obtain ⟨p2, s2, o2, n⟩ := s; exact ⟨p2, s2, off p2 (by rw [m]; rfl) s2 o2, n⟩
  · have there : ∀ c x, (env.set i (some (.lst ds)))[c]? = some (some x) → ∃ y, env[c]? = some (some y) := fun c x q => by
      by_cases hc : c = i
      · rw [hc]; exact ⟨d0, he⟩
      · rw [List.getElem?_set_ne (Ne.symm hc)] at q; exact ⟨x, q⟩
    obtain ⟨y1, e1⟩ := there a d1 h1
    obtain ⟨y2, e2⟩ := there b d2 h2
    exact r.sep a b q y1 y2 m1 m2 e1 e2 s1 s2
/-- an own slot, read -/
theorem Rep.own {i : Nat} {d : D} (r : Rep K G md σ H F env) (hm : (md.getD i .u).mine = true) (he : env[i]? = some (some d)) : ∃ p vs ds, d = .lst ds ∧ σ[i]? = some (some (.ref p)) ∧ H p = some (.lst vs) ∧ F p = none ∧ RpA K F vs ds := by
  have s := r.sl i d he
  cases m : md.getD i .u with
  | o => rw [m] at s; obtain ⟨p2, s2, ⟨⟨vs, ds, e, hp2, ra⟩, nf⟩, n⟩ := s; exact ⟨p2, vs, ds, e, s2, hp2, nf, ra⟩
  | p => rw [m] at s; obtain ⟨p2, s2, ⟨⟨vs, ds, e, hp2, ra⟩, nf⟩, n⟩ := s; exact ⟨p2, vs, ds, e, s2, hp2, nf, ra⟩
  | v => rw [m] at hm; cases hm
  | u => rw [m] at hm; cases hm
end
end DN
end

section
set_option Elab.async false
set_option linter.all false
set_option maxRecDepth 100000
namespace DN
open PySem PySem.Spec PyProof.Rows L2

def sNx : Env → R Fl := fun env => .ok (.nx env)
def sSeq (f g : Env → R Fl) : Env → R Fl := fun env => match f env with
  | .ok (.nx e) => g e
  | r => r
def sExpr (f : Env → R D) : Env → R Fl := fun env => sB (f env) env fun _ => .ok (.nx env)
def sSet (i : Nat) (f : Env → R D) : Env → R Fl := fun env => sB (f env) env fun d => .ok (.nx (env.set i (some d)))
def sRet (f : Env → R D) : Env → R Fl := fun env => sB (f env) env fun d => .ok (.rt d env)
def sRetN : Env → R Fl := fun env => .ok (.rt .non env)
def sIf (c : Env → R Bool) (f g : Env → R Fl) : Env → R Fl := fun env => sB (c env) env fun b => match b with | true => f env | false => g env
def sBrk : Env → R Fl := fun env => .ok (.bk env)
def sCnt : Env → R Fl := fun env => .ok (.ct env)
/-- x.append(e) of an own list -/
def sApp (i : Nat) (f : Env → R D) : Env → R Fl := fun env => match env[i]? with
  | some (some (.lst xs)) => sB (f env) env fun d => if xs.length < sizeLine then .ok (.nx (env.set i (some (.lst (xs ++ [d]))))) else .bad
  | _ => .bad
/-- x += e of an own list -/
def sExt (i : Nat) (f : Env → R D) : Env → R Fl := fun env => match env[i]? with
  | some (some (.lst xs)) => sB (f env) env fun d => match d with
    | .lst ys => if xs.length + ys.length ≤ sizeLine then .ok (.nx (env.set i (some (.lst (xs ++ ys))))) else .bad
    | _ => .bad
  | _ => .bad
/-- x[e] = v of an own list -/
def sPut (i : Nat) (f : Env → R D) (g : Env → R D) : Env → R Fl := fun env => sB (f env) env fun d => match env[i]? with
  | some (some (.lst xs)) => sB (g env) env fun k => match k with
    | .int k => match ixN xs.length k with
      | some j => .ok (.nx (env.set i (some (.lst (xs.set j d)))))
      | none => .bad
    | _ => .bad
  | _ => .bad
def sAug (g : D → D → R D) (i : Nat) (f : Env → R D) : Env → R Fl := fun env => sB (eVar i env) env fun x => sB (f env) env fun y => sB (g x y) env fun z => .ok (.nx (env.set i (some z)))

section
variable {X : Cx} {W : WX} {M : Ms} {md mn : List Md} {e : Expr} {st : Stmt} {rest : List Stmt} {t u : TS} {f g : Env → R Fl} {te : TE} {fe : Env → R D} {pos : Pos}

theorem dss_nil : DSs X W M md md [] tNext sNx := ⟨pss_nil, fun G σ H F env E rep post => post σ H F (Same.refl _) rep⟩
theorem DenS.seq {K : PySem.W.Frag} {m1 : List Md} (h1 : DenS K W M md m1 t f) (h2 : DenS K W M m1 mn u g) : DenS K W M md mn (L2.tSeq t u) (sSeq f g) := fun G σ H F env E rep post => by
  refine h1 G σ H F env { E with nx := u E } rep ?_
  unfold sSeq at post
  cases q : f env with
  | ok a =>
    rw [q] at post
    cases a with
    | nx e1 => exact fun σ' H' F' s' r' => h2 G σ' H' F' e1 E r' (PostS.more post s')
    | bk e1 => exact post
    | ct e1 => exact post
    | rt d e1 => exact post
    | ex c x e1 => cases x <;> exact post
  | exc c x => rw [q] at post; exact post
  | bad => rw [q] at post; exact post
theorem dss_cons {m1 : List Md} (h1 : DS X W M md m1 st t f) (h2 : DSs X W M m1 mn rest u g) : DSs X W M md mn (st :: rest) (L2.tSeq t u) (sSeq f g) :=
  ⟨pss_cons h1.run h2.run, DenS.seq h1.den h2.den⟩
theorem dss_one (h1 : DS X W M md mn st t f) : DSs X W M md mn [st] t f := ⟨pss_one h1.run, h1.den⟩
/-- modes may be weakened ahead, and behind -/
theorem DenS.pre {K : PySem.W.Frag} {m1 : List Md} (hl : leM md m1 = true) (h : DenS K W M m1 mn t f) : DenS K W M md mn t f := fun G σ H F env E rep post => by
  obtain ⟨F2, s2, r2⟩ := rep.weak hl
  exact h G σ H F2 env E r2 (PostS.more post s2)
theorem DenS.behind {K : PySem.W.Frag} {m1 : List Md} (hl : leM m1 mn = true) (h : DenS K W M md m1 t f) : DenS K W M md mn t f := fun G σ H F env E rep post => by
  refine h G σ H F env E rep ?_
  cases q : f env with
  | ok a =>
    rw [q] at post
    cases a with
    | nx e1 =>
      intro σ' H' F' s' r'
      obtain ⟨F2, s2, r2⟩ := r'.weak hl
      exact post σ' H' F2 (s'.trans s2) r2
    | bk e1 => exact post
    | ct e1 => exact post
    | rt d e1 => exact post
    | ex c x e1 => cases x <;> exact post
  | exc c x => rw [q] at post; exact post
  | bad => rw [q] at post; exact post
theorem ds_pre (m1 : List Md) (h : DS X W M m1 mn st t f) (hl : leM md m1 = true := by rfl) : DS X W M md mn st t f := ⟨h.run, h.den.pre hl⟩
theorem dss_pre (m1 : List Md) (h : DSs X W M m1 mn rest t f) (hl : leM md m1 = true := by rfl) : DSs X W M md mn rest t f := ⟨h.run, h.den.pre hl⟩
theorem ds_post (m1 : List Md) (h : DS X W M md m1 st t f) (hl : leM m1 mn = true := by rfl) : DS X W M md mn st t f := ⟨h.run, h.den.behind hl⟩
theorem dss_post (m1 : List Md) (h : DSs X W M md m1 rest t f) (hl : leM m1 mn = true := by rfl) : DSs X W M md mn rest t f := ⟨h.run, h.den.behind hl⟩

theorem ds_pass : DS X W M md md (.Pass pos) tNext sNx := ⟨ps_pass, fun G σ H F env E rep post => post σ H F (Same.refl _) rep⟩
theorem ds_break (hl : leM md M.l = true := by rfl) : DS X W M md mn (.Break pos) tBreak sBrk := ⟨ps_break, fun G σ H F env E rep post => by
  obtain ⟨F2, s2, r2⟩ := rep.weak hl
  exact post σ H F2 s2 r2⟩
theorem ds_expr (he : DE X W md e te fe) (hx : leM md M.x = true := by rfl) (hs : swapsWith e none pos.line X.env = pure false := by rfl) : DS X W M md md (.Expr e pos) (tDrop te) (sExpr fe) :=
  ⟨ps_expr he.run hs, fun G σ H F env E rep post => he.den G σ H F env _ rep (post.expr rep hx fun d p v H1 F1 x1 r1 => p σ H1 F1 x1.ff (rep.ext x1))⟩
theorem ds_set (i : Nat) {x : Str} {pos' : Pos} (nd : X.N.Nodup) (he : DE X W md e te fe) (hi : X.N[i]? = some x := by rfl) (hx : Loc X.env.scope x := by first | exact Or.inl rfl | exact Or.inr rfl) (hm : i < md.length := by decide) (hq : leM md M.x = true := by rfl)
    (hs : swapsWith e (some (.Name x pos')) pos.line X.env = pure false := by rfl) (hf : X.fn x = true ∨ X.env.scope.names.lookup x = some .local := by first | exact .inl rfl | exact .inr rfl) :
    DS X W M md (md.set i .v) (.Assign [.Name x pos'] e pos) (tAsg te (gName i)) (sSet i fe) :=
  ⟨ps_set nd hi hx he.run hs hf, fun G σ H F env E rep post => he.den G σ H F env _ rep (post.expr rep hq fun d p v H1 F1 x1 r1 => p _ H1 F1 x1.ff ((rep.ext x1).setV hm r1))⟩
theorem ds_setO (i : Nat) {x : Str} {pos' : Pos} (nd : X.N.Nodup) (he : DF X W md e te fe) (hi : X.N[i]? = some x := by rfl) (hx : Loc X.env.scope x := by first | exact Or.inl rfl | exact Or.inr rfl) (hm : i < md.length := by decide) (hq : leM md M.x = true := by rfl)
    (hs : swapsWith e (some (.Name x pos')) pos.line X.env = pure false := by rfl) (hf : X.fn x = true ∨ X.env.scope.names.lookup x = some .local := by first | exact .inl rfl | exact .inr rfl) :
    DS X W M md (md.set i .o) (.Assign [.Name x pos'] e pos) (tAsg te (gName i)) (sSet i fe) :=
  ⟨ps_set nd hi hx he.run hs hf, fun G σ H F env E rep post => he.den G σ H F env _ rep (post.expr rep hq fun d p q H1 F1 x1 n1 o1 => p _ H1 F1 x1.ff (rep.setO hm x1 n1 o1))⟩
theorem ds_ret (he : DE X W md e te fe) (hr : leM md M.r = true := by rfl) (hf : M.fresh = false := by rfl) (hx : leM md M.x = true := by rfl) : DS X W M md mn (.Return (some e) pos) (tRet te) (sRet fe) :=
  ⟨ps_ret he.run, fun G σ H F env E rep post => he.den G σ H F env _ rep (post.expr rep hx fun d p v H1 F1 x1 r1 => by
    obtain ⟨F2, s2, r2⟩ := (rep.ext x1).weak hr
    exact p σ H1 F2 v (x1.ff.trans s2) r2 (by rw [hf]; exact iteF (r1.mono s2)))⟩
theorem ds_retN (hr : leM md M.r = true := by rfl) (hf : M.fresh = false := by rfl) : DS X W M md mn (.Return none pos) tRetN sRetN :=
  ⟨ps_retN, fun G σ H F env E rep post => by
    obtain ⟨F2, s2, r2⟩ := rep.weak hr
    exact post σ H F2 .non s2 r2 (by rw [hf]; exact iteF .non)⟩
/-- a new own list is handed out -/
theorem ds_retF (he : DF X W md e te fe) (hr : leM md M.r = true := by rfl) (hn : onlyP M.r = true := by rfl) (hf : M.fresh = true := by rfl) (hx : leM md M.x = true := by rfl) : DS X W M md mn (.Return (some e) pos) (tRet te) (sRet fe) :=
  ⟨ps_ret he.run, fun G σ H F env E rep post => he.den G σ H F env _ rep (post.expr rep hx fun d p q H1 F1 x1 n1 o1 =>
    p σ H1 F1 (.ref q) x1.ff ((rep.ext x1).drop (onlyP_drop hr hn)) (by rw [hf]; exact iteT (FrOk.own o1 (own_new rep n1))))⟩
theorem ds_retO (i : Nat) {x : Str} {pos' : Pos} (hm : md.getD i .u = .o := by rfl) (hN : X.N[i]? = some x := by rfl) (hv : Vis X.env.scope x := by first | exact Or.inl rfl | exact Or.inr (Or.inl rfl) | exact Or.inr (Or.inr rfl)) (hr : leM md M.r = true := by rfl) (hn : onlyP M.r = true := by rfl) (hf : M.fresh = true := by rfl)
    (hd : (x == ("__debug__" : Str)) = false := by decide) (hcd : (x == ("__classdict__" : Str)) = false := by decide) : DS X W M md mn (.Return (some (.Name x pos')) pos) (tRet (tVar i)) (sRet (eVar i)) :=
  ⟨ps_ret (pe_var hN hv hd hcd), fun G σ H F env E rep post => by
    unfold sRet eVar at post
    cases h : env[i]? with
    | none => rw [h] at post; exact post.elim
    | some o =>
      cases o with
      | none => rw [h] at post; exact post.elim
      | some d =>
        rw [h] at post
        have s := rep.sl i d h
        rw [hm] at s
        obtain ⟨p, s1, o1, n⟩ := s
        exact ⟨.ref p, s1, post σ H F (.ref p) (Same.refl _) (rep.drop (onlyP_drop hr hn)) (by rw [hf]; exact iteT (FrOk.own o1 n))⟩⟩
theorem ds_if {c : Expr} {a b : List Stmt} {tc : TT} {fc : Env → R Bool} (hc : DT X W md c tc fc) (ha : DSs X W M md mn a t f) (hb : DSs X W M md mn b u g) (hx : leM md M.x = true := by rfl) : DS X W M md mn (.If c a b pos) (tIfS tc t u) (sIf fc f g) :=
  ⟨ps_if hc.run ha.run hb.run, fun G σ H F env E rep post => hc.den G σ H F env _ rep (post.expr rep hx fun k p H1 F1 x1 => by
    cases k with
    | true => exact iteT (ha.den G σ H1 F1 env E (rep.ext x1) (PostS.more p x1.ff))
    | false => exact iteF (hb.den G σ H1 F1 env E (rep.ext x1) (PostS.more p x1.ff)))⟩
/-- the own list in slot i -/
theorem pe_own (i : Nat) {x : Str} (hN : X.N[i]? = some x := by rfl) (hv : Vis X.env.scope x := by first | exact Or.inl rfl | exact Or.inr (Or.inl rfl) | exact Or.inr (Or.inr rfl)) (hd : (x == ("__debug__" : Str)) = false := by decide)
    (hcd : (x == ("__classdict__" : Str)) = false := by decide) : PE X (.Name x pos) (tVar i) := pe_var hN hv hd hcd
theorem PostS.chk {K : PySem.W.Frag} {G : Gd} {E : Ends} {F : Hp} {m : R Fl} {c : Prop} [Decidable c] (h : PostS K G M W mn E F (if c then m else .bad)) : c ∧ PostS K G M W mn E F m := by
  by_cases hc : c
  · rw [if_pos hc] at h; exact ⟨hc, h⟩
  · rw [if_neg hc] at h; exact h.elim
/-- the own list of slot i -/
theorem own_at {K : PySem.W.Frag} {G : Gd} {E : Ends} {σ : Sg} {H F : Hp} {env : Env} {i : Nat} {k : List D → R Fl} (rep : Rep K G md σ H F env) (hm : (md.getD i .u).mine = true)
    (post : PostS K G M W mn E F (match env[i]? with | some (some (.lst xs)) => k xs | _ => .bad)) :
    ∃ p vs ds, env[i]? = some (some (.lst ds)) ∧ σ[i]? = some (some (.ref p)) ∧ H p = some (.lst vs) ∧ F p = none ∧ RpA K F vs ds ∧ PostS K G M W mn E F (k ds) := by
  cases h : env[i]? with
  | none => rw [h] at post; exact post.elim
  | some o =>
    rw [h] at post
    cases o with
    | none => exact post.elim
    | some d =>
      obtain ⟨p, vs, ds, rfl, h1, h2, h3, h4⟩ := rep.own hm h
      exact ⟨p, vs, ds, rfl, h1, h2, h3, h4, post⟩
theorem ds_append (i : Nat) {x : Str} {px apos cpos : Pos} (he : DE X W md e te fe) (hm : (md.getD i .u).mine = true := by rfl) (hx : leM md M.x = true := by rfl)
    (hs : swapsWith (.Call (.Attribute (.Name x px) "append" apos) [e] [] cpos) none pos.line X.env = pure false := by rfl)
    (hrun : PE X e te → PE X (.Call (.Attribute (.Name x px) "append" apos) [e] [] cpos) (tBM X.K "list" rAppend (tVar i) (tCons te tNil)) := by exact fun h => pe_bm PySem.F.plainAttrs_list PySem.F.slot_list_append PySem.F.type_list_append mt_append (pe_own _) (pa_cons h pa_nil)) :
    DS X W M md md (.Expr (.Call (.Attribute (.Name x px) "append" apos) [e] [] cpos) pos) (tDrop (tBM X.K "list" rAppend (tVar i) (tCons te tNil))) (sApp i fe) := by
  refine ⟨ps_expr (hrun he.run) hs, fun G σ H F env E rep post => ?_⟩
  obtain ⟨p, vs, ds, e0, h1, h2, h3, h4, post⟩ := own_at rep hm post
  refine ⟨.ref p, h1, .inl ⟨rfl, vs, SqL.of h2⟩, ?_⟩
  refine he.den G σ H F env _ rep (post.expr rep hx fun d q v H1 F1 x1 r1 => ?_)
  obtain ⟨hl, q⟩ := PostS.chk (c := ds.length < sizeLine) q
  have rep1 := rep.ext x1
  refine ⟨p, vs, v, rfl, rfl, x1.hh _ _ h2, by rw [h4.length]; exact hl, ?_⟩
  exact q _ _ F1 x1.ff (rep1.write hm e0 h1 ((h4.mono x1.ff).append (.cons r1 .nil)))
theorem ds_ext (i : Nat) {x : Str} {pos' : Pos} (nd : X.N.Nodup) (he : DE X W md e te fe) (hm : (md.getD i .u).mine = true := by rfl) (hq : leM md M.x = true := by rfl) (hi : X.N[i]? = some x := by rfl) (hx : Loc X.env.scope x := by first | exact Or.inl rfl | exact Or.inr rfl)
    (hf : X.fn x = true ∨ X.env.scope.names.lookup x = some .local := by first | exact .inl rfl | exact .inr rfl) :
    DS X W M md md (.AugAssign (.Name x pos') .Add e pos) (tAug i te rExt2) (sExt i fe) := by
  refine ⟨ps_aug nd hi hx he.run iop_ext hf, fun G σ H F env E rep post => ?_⟩
  obtain ⟨p, vs, ds, e0, h1, h2, h3, h4, post⟩ := own_at rep hm post
  refine ⟨.ref p, h1, he.den G σ H F env _ rep (post.expr rep hq fun d q v H1 F1 x1 r1 => ?_)⟩
  cases r1 with
  | lst h5 h6 =>
    rename_i b ws es
    obtain ⟨hl, q⟩ := PostS.chk (c := ds.length + es.length ≤ sizeLine) q
    refine ⟨p, b, vs, ws, rfl, rfl, x1.hh _ _ h2, x1.fh _ _ h5, by rw [h4.length, h6.length]; exact hl, ?_⟩
    have rep1 := (rep.ext x1).write hm e0 h1 ((h4.mono x1.ff).append h6)
    have es : σ.set i (some (.ref p)) = σ := by
      obtain ⟨lt, e1⟩ := List.getElem?_eq_some_iff.mp h1
      rw [← e1]; exact List.set_getElem_self lt
    show E.nx (σ.set i (some (.ref p))) _
    rw [es]
    exact q _ _ F1 x1.ff rep1
  | _ => exact q.elim
theorem ds_put (i : Nat) {x : Str} {k : Expr} {tk : TE} {fk : Env → R D} {px spos : Pos} (he : DE X W md e te fe) (hk : DE X W md k tk fk) (hm : (md.getD i .u).mine = true := by rfl) (hx : leM md M.x = true := by rfl)
    (hrun : PE X e te → PE X k tk → PS X (.Assign [.Subscript (.Name x px) k spos] e pos) (tAsg te (gSub (tVar i) tk rSetL)) := by exact fun h1 h2 => ps_asg h1 (pg_sub (pe_own _) h2 set_list)) :
    DS X W M md md (.Assign [.Subscript (.Name x px) k spos] e pos) (tAsg te (gSub (tVar i) tk rSetL)) (sPut i fe fk) := by
  refine ⟨hrun he.run hk.run, fun G σ H F env E rep post => ?_⟩
  refine he.den G σ H F env _ rep (post.expr rep hx fun d q v H1 F1 x1 r1 => ?_)
  have rep1 := rep.ext x1
  obtain ⟨p, vs, ds, e0, h1, h2, h3, h4, q⟩ := own_at rep1 hm (PostS.more q x1.ff)
  refine ⟨.ref p, h1, hk.den G σ H1 F1 env _ rep1 (q.expr rep1 hx fun c q2 u H2 F2 x2 r2 => ?_)⟩
  cases r2 with
  | int n =>
    cases hj : ixN ds.length n with
    | none => simp only [hj] at q2; exact q2.elim
    | some j =>
      simp only [hj] at q2
      refine ⟨p, vs, n, j, rfl, rfl, x2.hh _ _ h2, by rw [h4.length]; exact hj, ?_⟩
      exact q2 _ _ F2 x2.ff ((rep1.ext x2).write hm e0 h1 (RpA.set j (r1.mono x2.ff) (h4.mono x2.ff)))
  | _ => exact q2.elim
/-- x += e of a value -/
theorem ds_aug (i : Nat) {x : Str} {op : Operator} {r : R2} {gd : D → D → R D} {pos' : Pos} (nd : X.N.Nodup) (ho : OpR X (inplaceOp op) r) (hv : VOp X.K r gd) (he : DE X W md e te fe) (hm : md.getD i .u = .v := by rfl) (hq : leM md M.x = true := by rfl) (hi : X.N[i]? = some x := by rfl) (hx : Loc X.env.scope x := by first | exact Or.inl rfl | exact Or.inr rfl)
    (hf : X.fn x = true ∨ X.env.scope.names.lookup x = some .local := by first | exact .inl rfl | exact .inr rfl) (hl : i < md.length := by decide) :
    DS X W M md (md.set i .v) (.AugAssign (.Name x pos') op e pos) (tAug i te r) (sAug gd i fe) := by
  refine ⟨ps_aug nd hi hx he.run ho hf, fun G σ H F env E rep post => ?_⟩
  have p1 : Post X.K W σ H F (QE X.K H F fun x H1 => te σ H1 fun y H2 => r x y H2 fun z H3 => E.nx (σ.set i (some z)) H3) (eVar i env) := post.expr rep hq fun c p v H1 F1 x1 r1 =>
    he.den G σ H1 F1 env _ (rep.ext x1) ((PostS.more p x1.ff).expr (rep.ext x1) hq fun d p2 u H2 F2 x2 r2 =>
      hv W σ v u c d H2 F2 _ x2.fh (r1.mono x2.ff) r2 ((PostS.more p2 x2.ff).expr (rep.ext (x1.trans x2)) hq fun z p3 zv H3 F3 x3 r3 => p3 _ H3 F3 x3.ff ((rep.ext (x1.trans (x2.trans x3))).setV hl r3)))
  obtain ⟨v, h1, h2⟩ := DenE.var (K := X.K) (W := W) hm G σ H F env _ rep p1
  exact ⟨v, h1, h2⟩
end
end DN
end

section
set_option Elab.async false
set_option linter.all false
set_option maxRecDepth 100000
namespace DN
open PySem PySem.Spec PyProof.Rows L2

/-! ### targets -/
def gN (i : Nat) : D → Env → R Env := fun d env => .ok (env.set i (some d))
def gT (n : Nat) (g : List D → Env → R Env) : D → Env → R Env := fun d env => match d with
  | .tup ds => if ds.length = n then g ds env else .bad
  | .pr ds => if ds.length = n then g ds env else .bad
  | _ => .bad
def gL (n : Nat) (g : List D → Env → R Env) : D → Env → R Env := fun d env => match d with
  | .lst ds => if ds.length = n then g ds env else .bad
  | _ => .bad
def gNil' : List D → Env → R Env := fun ds env => match ds with
  | [] => .ok env
  | _ => .bad
def gCons' (g : D → Env → R Env) (h : List D → Env → R Env) : List D → Env → R Env := fun ds env => match ds with
  | d :: ds => (g d env).bind fun e => h ds e
  | _ => .bad
/-- slots but these are as they were -/
def Off (ws : List Nat) (σ σ' : Sg) : Prop := σ'.length = σ.length ∧ ∀ i, i ∉ ws → σ'[i]? = σ[i]?
theorem Off.refl {σ : Sg} : Off [] σ σ := ⟨rfl, fun _ _ => rfl⟩
theorem Off.trans {ws us : List Nat} {a b c : Sg} (h : Off ws a b) (k : Off us b c) : Off (ws ++ us) a c := ⟨k.1.trans h.1, fun i hi => by
  rw [List.mem_append] at hi
  exact (k.2 i fun z => hi (.inr z)).trans (h.2 i fun z => hi (.inl z))⟩
/-- what is wanted behind a target -/
def QG (K : PySem.W.Frag) (G : Gd) (md : List Md) (ws : List Nat) (σ0 : Sg) (H F : Hp) (Q : Sg → Hp → Prop) : R Env → Prop
  | .ok env => ∀ σ, Off ws σ0 σ → Rep K G md σ H F env → Q σ H
  | _ => False
structure DG (X : Cx) (md mn : List Md) (ws : List Nat) (tg : Expr) (t : TG) (f : D → Env → R Env) : Prop where
  run : PG X tg t
  den : ∀ (G : Gd) (σ : Sg) (H F : Hp) (env : Env) (v : V) (d : D) (Q : Sg → Hp → Prop), Rep X.K G md σ H F env → Rp X.K F v d → QG X.K G mn ws σ H F Q (f d env) → t v σ H Q
structure DGs (X : Cx) (md mn : List Md) (ws : List Nat) (tg : List Expr) (t : TGs) (f : List D → Env → R Env) : Prop where
  run : PGs X tg t
  den : ∀ (G : Gd) (σ : Sg) (H F : Hp) (env : Env) (vs : List V) (ds : List D) (Q : Sg → Hp → Prop), Rep X.K G md σ H F env → RpA X.K F vs ds → QG X.K G mn ws σ H F Q (f ds env) → t vs σ H Q
theorem QG.bind {K : PySem.W.Frag} {G : Gd} {md m1 : List Md} {ws us : List Nat} {σ : Sg} {H F : Hp} {Q Q1 : Sg → Hp → Prop} {m : R Env} {k : Env → R Env} (h : QG K G md (ws ++ us) σ H F Q (m.bind k))
    (c : ∀ e σ', QG K G md us σ' H F Q (k e) → Rep K G m1 σ' H F e → Q1 σ' H) : QG K G m1 ws σ H F Q1 m := by
  cases m with
  | ok e =>
    intro σ' o r
    refine c e σ' ?_ r
    cases q : k e with
    | ok e2 => simp only [R.bind, q] at h; exact fun σ2 o2 r2 => h σ2 (o.trans o2) r2
    | exc c x => simp only [R.bind, q] at h; exact h
    | bad => simp only [R.bind, q] at h; exact h
  | exc c x => exact h
  | bad => exact h
section
variable {X : Cx} {md mn m1 : List Md} {ws us : List Nat} {pos : Pos} {e : Expr} {es : List Expr} {t : TG} {f : D → Env → R Env} {u : TGs} {g : List D → Env → R Env}
theorem dg_name (i : Nat) {x : Str} (nd : X.N.Nodup) (hi : X.N[i]? = some x := by rfl) (hx : Loc X.env.scope x := by first | exact Or.inl rfl | exact Or.inr rfl) (hm : i < md.length := by decide)
    (hf : X.fn x = true ∨ X.env.scope.names.lookup x = some .local := by first | exact .inl rfl | exact .inr rfl) : DG X md (md.set i .v) [i] (.Name x pos) (gName i) (gN i) :=
  ⟨pg_name nd hi hx hf, fun G σ H F env v d Q rep r post => post _ ⟨List.length_set, fun j hj => List.getElem?_set_ne (fun z => hj (by rw [z]; exact List.mem_singleton.mpr rfl))⟩ (rep.setV hm r)⟩
theorem dgs_nil : DGs X md md [] [] gNil gNil' := ⟨pgs_nil, fun G σ H F env vs ds Q rep r post => by
  cases r with
  | nil => exact ⟨rfl, post σ Off.refl rep⟩
  | cons a b => exact post.elim⟩
theorem dgs_cons (h1 : DG X md m1 ws e t f) (h2 : DGs X m1 mn us es u g) (hs : (assignEach (e :: es) X.env).map (·.2) = assign e X.env :: (assignEach es X.env).map (·.2) := by rfl) : DGs X md mn (ws ++ us) (e :: es) (gCons t u) (gCons' f g) :=
  ⟨pgs_cons h1.run h2.run hs, fun G σ H F env vs ds Q rep r post => by
    cases r with
    | nil => exact post.elim
    | cons a b => exact ⟨_, _, rfl, h1.den G σ H F env _ _ _ rep a (QG.bind (m1 := m1) (us := us) post fun e2 σ2 q r2 => h2.den G σ2 H F e2 _ _ Q r2 b q)⟩⟩
theorem dg_tup {k n : Nat} (h : DGs X md mn ws es u g) (hc : X.calm = true := by rfl) (hn : (assignEach es X.env).length = n := by rfl) (hst : (assignEach es X.env).findIdx? (·.1) = none := by rfl) : DG X md mn ws (.Tuple es k pos) (gTup X.K n u) (gT n g) :=
  ⟨pg_tup hc h.run hn hst, fun G σ H F env v d Q rep r post => by
    cases r with
    | tup q r =>
      rename_i a vs ds
      have p2 : QG X.K G mn ws σ H F Q (if ds.length = n then g ds env else .bad) := post
      by_cases hl : ds.length = n
      · rw [if_pos hl] at p2
        exact ⟨a, vs, rfl, seqT rep.fh q.sq, by rw [r.length]; exact hl, h.den G σ H F env vs ds Q rep r p2⟩
      · rw [if_neg hl] at p2; exact p2.elim
    | pr q r =>
      rename_i a vs ds
      have p2 : QG X.K G mn ws σ H F Q (if ds.length = n then g ds env else .bad) := post
      by_cases hl : ds.length = n
      · rw [if_pos hl] at p2
        exact ⟨a, vs, rfl, seqT rep.fh q, by rw [r.length]; exact hl, h.den G σ H F env vs ds Q rep r p2⟩
      · rw [if_neg hl] at p2; exact p2.elim
    | _ => exact post.elim⟩
theorem dg_unl {k n : Nat} (h : DGs X md mn ws es u g) (hc : X.calm = true := by rfl) (hn : (assignEach es X.env).length = n := by rfl) (hst : (assignEach es X.env).findIdx? (·.1) = none := by rfl) : DG X md mn ws (.Tuple es k pos) (gUnl X.K n u) (gL n g) :=
  ⟨pg_unl hc h.run hn hst, fun G σ H F env v d Q rep r post => by
    cases r with
    | lst q r =>
      rename_i a vs ds
      have p2 : QG X.K G mn ws σ H F Q (if ds.length = n then g ds env else .bad) := post
      by_cases hl : ds.length = n
      · rw [if_pos hl] at p2
        exact ⟨a, vs, rfl, SqL.of (rep.fh _ _ q), by rw [r.length]; exact hl, h.den G σ H F env vs ds Q rep r p2⟩
      · rw [if_neg hl] at p2; exact p2.elim
    | _ => exact post.elim⟩
end
/-- target = value -/
def sAsg (f : Env → R D) (g : D → Env → R Env) : Env → R Fl := fun env => sB (f env) env fun d => match g d env with
  | .ok e => .ok (.nx e)
  | _ => .bad
section
variable {X : Cx} {W : WX} {M : Ms} {md mn : List Md} {ws : List Nat} {pos : Pos} {tg e : Expr} {t : TG} {f : D → Env → R Env} {te : TE} {fe : Env → R D}
theorem ds_asg (he : DE X W md e te fe) (hg : DG X md mn ws tg t f) (hx : leM md M.x = true := by rfl) (hs : swapsWithSole [tg] e pos.line X.env = pure false := by rfl) (hw : swappedStores [tg] e X.env = pure none := by rfl)
    (h1 : (assignEach [tg] X.env).map (·.2) = [assign tg X.env] := by rfl) : DS X W M md mn (.Assign [tg] e pos) (tAsg te t) (sAsg fe f) :=
  ⟨ps_asg he.run hg.run hs hw h1, fun G σ H F env E rep post => he.den G σ H F env _ rep (post.expr rep hx fun d p v H1 F1 x1 r1 => hg.den G σ H1 F1 env v d _ (rep.ext x1) r1 (by
    cases q : f d env with
    | ok e2 => simp only [q] at p; exact fun σ2 _ r2 => p σ2 H1 F1 x1.ff r2
    | exc c x => simp only [q] at p; exact p.elim
    | bad => simp only [q] at p; exact p.elim))⟩
end

/-! ### what is walked -/
structure ItOk (K : PySem.W.Frag) (J : It) (C : Hp → Prop) (F : Hp) (ds : List D) : Prop where
  go : ∀ i H, C H → i < ds.length → J.go i H
  yld : ∀ i H F1 x H', C H → i < ds.length → Same F F1 → Same F1 H → J.yld i H x H' → ∃ d F', ds[i]? = some d ∧ Ext H F1 H' F' ∧ Rp K F' x d
  stop : ∀ H, C H → J.stop ds.length H
/-- a walk over what is known -/
def QI (K : PySem.W.Frag) (H F : Hp) (Q : It → Hp → Prop) (ds : List D) : Prop := ∀ J H' F', Ext H F H' F' → ItOk K J (fun H => Same F' H) F' ds → Q J H'
structure DI (X : Cx) (W : WX) (md : List Md) (tg iter : Expr) (t : TI) (f : Env → R (List D)) : Prop where
  run : PI X tg iter t
  den : ∀ (G : Gd) (σ : Sg) (H F : Hp) (env : Env) (Q : It → Hp → Prop), Rep X.K G md σ H F env → Post X.K W σ H F (QI X.K H F Q) (f env) → t σ H Q
/-- a walk that an expression alone does (a comprehension's): an own list may be walked -/
def QJ (K : PySem.W.Frag) (H F : Hp) (Q : It → Hp → Prop) (ds : List D) : Prop := ∀ J C H' F', Ext H F H' F' → C H' → (∀ H1 H2, C H1 → Same H1 H2 → C H2) → ItOk K J C F' ds → Q J H'
structure DJ (X : Cx) (W : WX) (md : List Md) (tg iter : Expr) (t : TI) (f : Env → R (List D)) : Prop where
  run : PI X tg iter t
  den : ∀ (G : Gd) (σ : Sg) (H F : Hp) (env : Env) (Q : It → Hp → Prop), Rep X.K G md σ H F env → Post X.K W σ H F (QJ X.K H F Q) (f env) → t σ H Q
theorem DI.j {X : Cx} {W : WX} {md : List Md} {tg iter : Expr} {t : TI} {f : Env → R (List D)} (h : DI X W md tg iter t f) : DJ X W md tg iter t f :=
  ⟨h.run, fun G σ H F env Q rep post => h.den G σ H F env Q rep (post.imp fun ds q J H' F' x ok => q J (fun H => Same F' H) H' F' x x.fh (fun _ _ a b => a.trans b) ok)⟩

theorem itl_ok {K : PySem.W.Frag} {F : Hp} {a : Addr} {vs : List V} {ds : List D} (h : F a = some (.lst vs)) (r : RpA K F vs ds) : ItOk K (Itl K a) (fun H => Same F H) F ds where
  go := fun i H c hi => ⟨vs, vs[i]'(by rw [r.length]; exact hi), SqL.of (c _ _ h), List.getElem?_eq_getElem _⟩
  yld := fun i H F1 x H' c hi f1 f2 y => by
    obtain ⟨rfl, y⟩ := y
    obtain ⟨d, h1, h2⟩ := r.getV (y vs (SqL.of (c _ _ h)))
    exact ⟨d, F1, h1, Ext.refl f2, h2.mono f1⟩
  stop := fun H c => ⟨vs, SqL.of (c _ _ h), by rw [r.length]; exact Nat.le_refl _⟩
theorem itt_ok {K : PySem.W.Frag} {F : Hp} {a : Addr} {vs : List V} {ds : List D} (h : SqT K F a vs) (r : RpA K F vs ds) : ItOk K (Itt K a) (fun H => Same F H) F ds where
  go := fun i H c hi => ⟨vs, vs[i]'(by rw [r.length]; exact hi), seqT c h, List.getElem?_eq_getElem _⟩
  yld := fun i H F1 x H' c hi f1 f2 y => by
    obtain ⟨rfl, y⟩ := y
    obtain ⟨d, h1, h2⟩ := r.getV (y vs (seqT c h))
    exact ⟨d, F1, h1, Ext.refl f2, h2.mono f1⟩
  stop := fun H c => ⟨vs, seqT c h, by rw [r.length]; exact Nat.le_refl _⟩
def signs (z : Str) : List D := z.cps.toList.map fun c => .str ⟨#[c]⟩
theorem strOk_sign {z : Str} {c : Nat} (hz : PyData.strOk z = true) (h : c ∈ z.cps.toList) : PyData.strOk ⟨#[c]⟩ = true := by
  unfold PyData.strOk at hz ⊢
  rw [← Array.all_toList, List.all_eq_true] at hz
  simpa using hz c h
theorem its_ok {K : PySem.W.Frag} {F : Hp} {z : Str} (hz : PyData.strOk z = true) : ItOk K (Its z) (fun H => Same F H) F (signs z) where
  go := fun i H c hi => by
    show i < z.cps.size
    simpa [signs] using hi
  yld := fun i H F1 x H' c hi f1 f2 y => by
    obtain ⟨rfl, k, hk, rfl⟩ := y
    refine ⟨.str ⟨#[k]⟩, F1, ?_, Ext.refl f2, .str _ (strOk_sign hz (by
      have : z.cps.toList[i]? = some k := by simpa using hk
      exact List.mem_of_getElem? this))⟩
    simp only [signs, List.getElem?_map]
    have : z.cps.toList[i]? = some k := by simpa using hk
    rw [this]; rfl
  stop := fun H c => by
    show z.cps.size ≤ _
    simp [signs]
def rangeD (lo : Int) (n : Nat) : List D := (List.range n).map fun (k : Nat) => .int (lo + (k : Int))
theorem itr_ok {K : PySem.W.Frag} {F : Hp} {lo : Int} {n : Nat} : ItOk K (Itr lo n) (fun H => Same F H) F (rangeD lo n) where
  go := fun i H c hi => by
    show i < n
    simpa [rangeD] using hi
  yld := fun i H F1 x H' c hi f1 f2 y => by
    obtain ⟨rfl, rfl⟩ := y
    refine ⟨.int (lo + i), F1, ?_, Ext.refl f2, .int _⟩
    have h2 : i < n := by simpa [rangeD] using hi
    simp [rangeD, h2]
  stop := fun H c => by
    show n ≤ _
    simp [rangeD]

/-! a list, a tuple or a text by its value -/
def dItems : D → R (List D)
  | .lst xs => .ok xs
  | .tup xs => .ok xs
  | .str z => .ok (signs z)
  | _ => .bad
def eItems (f : Env → R D) : Env → R (List D) := fun env => (f env).bind dItems
def iAny (K : PySem.W.Frag) (tl : TE) : TI := fun σ H R => tl σ H fun x H1 => (∃ a, x = .ref a ∧ (∃ xs, SqL K H1 a xs) ∧ R (Itl K a) H1) ∨ (∃ a, x = .ref a ∧ (∃ xs, SqT K H1 a xs) ∧ R (Itt K a) H1) ∨ (∃ z, x = .str z ∧ R (Its z) H1)
/-- a walk begins at a value alone -/
def PIV (X : Cx) (tg : Expr) (r : V → Hp → (It → Hp → Prop) → Prop) : Prop :=
  ∀ (pins : List (Addr × Obj)) (s : Shared) (σ : Sg) (H : Hp) (x : V) (v : Value) (Q : It → Hp → Prop), Inv X pins σ H s → RelV x v → r x H Q → wpAny (model X.prog X.w) X.A (pyIter v) (PIE X pins σ tg Q) X.xe s
section
variable {X : Cx} {tg : Expr}
theorem piv_list : PIV X tg (fun x H Q => ∃ a, x = .ref a ∧ (∃ xs, SqL X.K H a xs) ∧ Q (Itl X.K a) H) := by
  rintro pins s1 σ H1 x v Q I1 r1 ⟨a, e, ⟨xs, hq⟩, q⟩
  subst e
  cases r1
  obtain ⟨its, rv, p, hz⟩ := I1.list hq
  exact wpAny_pyIter_list p.isList ⟨s1.heap.objs.size, [s1.heap.objs.size], _, _, H1, rfl, I1.kept (t' := s1.toks) fun b o e => Heap.get?_push_of_some _ e, turn_list a _, ⟨_, Heap.get?_push_size _ rfl, rfl, rfl⟩, fun b hb => by
    rw [List.mem_singleton.mp hb]; exact I1.fpOk (Nat.le_refl _) (I1.hok.fresh (Nat.le_refl _)), q⟩
theorem piv_tup : PIV X tg (fun x H Q => ∃ a, x = .ref a ∧ (∃ xs, SqT X.K H a xs) ∧ Q (Itt X.K a) H) := by
  rintro pins s1 σ H1 x v Q I1 r1 ⟨a, e, ⟨xs, hq⟩, q⟩
  subst e
  cases r1
  obtain ⟨its, rv, p, hz⟩ := I1.tuple hq
  exact wpAny_pyIter_tuple (show s1.heap.IsTuple a its.toArray from p) ⟨s1.heap.objs.size, [s1.heap.objs.size], _, _, H1, rfl, I1.kept (t' := s1.toks) fun b o e => Heap.get?_push_of_some _ e, turn_tuple a _, ⟨_, Heap.get?_push_size _ rfl, rfl, rfl⟩, fun b hb => by
    rw [List.mem_singleton.mp hb]; exact I1.fpOk (Nat.le_refl _) (I1.hok.fresh (Nat.le_refl _)), q⟩
theorem piv_str : PIV X tg (fun x H Q => ∃ z, x = .str z ∧ Q (Its z) H) := by
  rintro pins s1 σ H1 x v Q I1 r1 ⟨z, e, q⟩
  subst e
  obtain ⟨t, rfl⟩ := r1
  cases ha : z.cps.all (· < 128)
  · exact wpAny_pyIter_wide ha (pi_one (tk := s1.toks) I1 _ (turn_str _ z t "str_iterator" (.inr rfl)) ⟨_, Heap.get?_push_size _ rfl, rfl, rfl⟩ q)
  · exact wpAny_pyIter_ascii ha (pi_one (tk := s1.toks) I1 _ (turn_str _ z t "str_ascii_iterator" (.inl rfl)) ⟨_, Heap.get?_push_size _ rfl, rfl, rfl⟩ q)
theorem pi_any {l : Expr} {tl : TE} (hl : PE X l tl) : PI X tg l (iAny X.K tl) := by
  refine ⟨fun pins s σ H Q I h => ?_⟩
  refine thn (hl.run pins s σ H _ I h) fun v s1 ⟨x, H1, I1, r1, q1⟩ => ?_
  rcases q1 with q1 | q1 | q1
  · exact piv_list pins s1 σ H1 x v Q I1 r1 q1
  · exact piv_tup pins s1 σ H1 x v Q I1 r1 q1
  · exact piv_str pins s1 σ H1 x v Q I1 r1 q1
variable {W : WX} {md : List Md} {l : Expr} {tl : TE} {fl : Env → R D} {p pos : Pos}
theorem di_any (h : DE X W md l tl fl) : DI X W md tg l (iAny X.K tl) (eItems fl) :=
  ⟨pi_any h.run, fun G σ H F env Q rep post => h.den G σ H F env _ rep (post.bind fun c p1 v H1 F1 x1 r1 => by
    cases r1 with
    | lst q r => exact .inl ⟨_, rfl, ⟨_, SqL.of (x1.fh _ _ q)⟩, p1 _ H1 F1 x1 (itl_ok q r)⟩
    | tup q r => exact .inr (.inl ⟨_, rfl, ⟨_, seqT x1.fh q.sq⟩, p1 _ H1 F1 x1 (itt_ok q.sq r)⟩)
    | str z hz => exact .inr (.inr ⟨z, rfl, p1 _ H1 F1 x1 (its_ok hz)⟩)
    | _ => exact p1.elim)⟩
/-- an own list, walked by a comprehension -/
def eOwnItems (i : Nat) : Env → R (List D) := fun env => match env[i]? with
  | some (some (.lst xs)) => .ok xs
  | _ => .bad
theorem dj_own (i : Nat) {x : Str} (hm : (md.getD i .u).mine = true := by rfl) (hN : X.N[i]? = some x := by rfl) (hv : Vis X.env.scope x := by first | exact Or.inl rfl | exact Or.inr (Or.inl rfl) | exact Or.inr (Or.inr rfl)) (hd : (x == ("__debug__" : Str)) = false := by decide)
    (hcd : (x == ("__classdict__" : Str)) = false := by decide) : DJ X W md tg (.Name x pos) (iList X.K (tVar i)) (eOwnItems i) :=
  ⟨pi_list (pe_var hN hv hd hcd), fun G σ H F env Q rep post => by
    unfold eOwnItems at post
    cases h : env[i]? with
    | none => rw [h] at post; exact post.elim
    | some o =>
      rw [h] at post
      cases o with
      | none => exact post.elim
      | some d =>
        obtain ⟨q, vs, ds, rfl, h1, h2, h3, h4⟩ := rep.own hm h
        refine ⟨.ref q, h1, q, rfl, ⟨vs, SqL.of h2⟩, post (Itl X.K q) (fun H => H q = some (.lst vs)) H F (Ext.refl rep.fh) h2 (fun _ _ a b => b _ _ a) ?_⟩
        exact ⟨fun j H c hj => ⟨vs, vs[j]'(by rw [h4.length]; exact hj), SqL.of c, List.getElem?_eq_getElem _⟩, fun j H F1 x H' c hj f1 f2 y => by
          obtain ⟨rfl, y⟩ := y
          obtain ⟨d, g1, g2⟩ := h4.getV (y vs (SqL.of c))
          exact ⟨d, F1, g1, Ext.refl f2, g2.mono f1⟩, fun H c => ⟨vs, SqL.of c, by rw [h4.length]; exact Nat.le_refl _⟩⟩⟩
/-! range -/
def small62 (i : Int) : Bool := decide (i.natAbs < 2 ^ 62)
theorem small62_of {i : Int} (h : small62 i = true) : -(2 ^ 62) ≤ i ∧ i < 2 ^ 62 := by
  have h := of_decide_eq_true h
  omega
def dRange1 : List D → R (List D)
  | [.int j] => if small62 j = true then .ok (rangeD 0 j.toNat) else .bad
  | _ => .bad
def dRange2 : List D → R (List D)
  | [.int i, .int j] => if small62 i = true ∧ small62 j = true then .ok (rangeD i (j - i).toNat) else .bad
  | _ => .bad
/-- range(i, j, -1) -/
def downD (i : Int) (n : Nat) : List D := (List.range n).map fun (k : Nat) => .int (i + (k : Int) * (-1))
def dRange3 : List D → R (List D)
  | [.int i, .int j, .int c] => if c = -1 ∧ small62 i = true ∧ small62 j = true then .ok (downD i (i - j).toNat) else .bad
  | _ => .bad
def eItA (g : List D → R (List D)) (f : Env → R (List D)) : Env → R (List D) := fun env => (f env).bind g
variable {a b c : Expr} {ta : TA} {fa : Env → R (List D)}
theorem di_range1 (hm : X.mg "range" = none) (ha : DA X W md [a] ta fa) (hg : Gl X "range" := by rfl) (hs : starEach [a] X.env = [(false, eval a X.env)] := by rfl) : DI X W md tg (.Call (.Name "range" p) [a] [] pos) (iRng1 ta) (eItA dRange1 fa) :=
  ⟨pi_range1 hg hm ha.run hs, fun G σ H F env Q rep post => ha.den G σ H F env _ rep (post.bind fun cs p1 vs H1 F1 x1 r1 => by
    unfold dRange1 at p1
    split at p1
    · rename_i j
      obtain ⟨v, rfl, rr⟩ := r1.one
      cases rr
      obtain ⟨h1, p1⟩ := Post.chk (c := small62 j = true) p1
      obtain ⟨h2, h3⟩ := small62_of h1
      exact ⟨j, rfl, h2, h3, p1 _ H1 F1 x1 itr_ok⟩
    · exact p1.elim)⟩
theorem di_range2 (hm : X.mg "range" = none) (ha : DA X W md [a, b] ta fa) (hg : Gl X "range" := by rfl) (hs : starEach [a, b] X.env = [(false, eval a X.env), (false, eval b X.env)] := by rfl) (hs2 : starEach [b] X.env = [(false, eval b X.env)] := by rfl) :
    DI X W md tg (.Call (.Name "range" p) [a, b] [] pos) (iRng2 ta) (eItA dRange2 fa) :=
  ⟨pi_range2 hg hm ha.run hs hs2, fun G σ H F env Q rep post => ha.den G σ H F env _ rep (post.bind fun cs p1 vs H1 F1 x1 r1 => by
    unfold dRange2 at p1
    split at p1
    · rename_i i j
      obtain ⟨v, w, rfl, r2, r3⟩ := r1.two
      cases r2; cases r3
      obtain ⟨⟨h1, h2⟩, p1⟩ := Post.chk (c := small62 i = true ∧ small62 j = true) p1
      obtain ⟨h3, h4⟩ := small62_of h1
      obtain ⟨h5, h6⟩ := small62_of h2
      exact ⟨i, j, rfl, ⟨h3, h4, h5, h6⟩, p1 _ H1 F1 x1 itr_ok⟩
    · exact p1.elim)⟩
theorem itc_ok {K : PySem.W.Frag} {F : Hp} {i : Int} {n : Nat} : ItOk K (Itc i (-1) n) (fun H => Same F H) F (downD i n) where
  go := fun k H c hi => by
    show k < n
    simpa [downD] using hi
  yld := fun k H F1 x H' c hi f1 f2 y => by
    obtain ⟨rfl, rfl⟩ := y
    refine ⟨.int (i + (k : Int) * (-1)), F1, ?_, Ext.refl f2, .int _⟩
    have h2 : k < n := by simpa [downD] using hi
    simp [downD, h2]
  stop := fun H c => by
    show n ≤ _
    simp [downD]
theorem di_range3 (hm : X.mg "range" = none) (ha : DA X W md [a, b, c] ta fa) (hg : Gl X "range" := by rfl) (hs : starEach [a, b, c] X.env = (false, eval a X.env) :: starEach [b, c] X.env := by rfl) (hpl : (backTo pos (starEach [b, c] X.env)).any (·.1) = false := by rfl) :
    DI X W md tg (.Call (.Name "range" p) [a, b, c] [] pos) (iRng3 ta) (eItA dRange3 fa) :=
  ⟨pi_range3 hg hm ha.run hs hpl, fun G σ H F env Q rep post => ha.den G σ H F env _ rep (post.bind fun cs p1 vs H1 F1 x1 r1 => by
    unfold dRange3 at p1
    split at p1
    · rename_i i j k
      cases r1 with
      | cons q1 q2 =>
        obtain ⟨w, u, rfl, r2, r3⟩ := q2.two
        cases q1; cases r2; cases r3
        obtain ⟨⟨hk, h1, h2⟩, p2⟩ := Post.chk (c := k = -1 ∧ small62 i = true ∧ small62 j = true) p1
        subst hk
        obtain ⟨h3, h4⟩ := small62_of h1
        obtain ⟨h5, h6⟩ := small62_of h2
        exact ⟨i, j, -1, _, rfl, RgC.neg h3 h4 h5 h6, p2 _ H1 F1 x1 itc_ok⟩
    · exact p1.elim)⟩
end
end DN
end

section
set_option Elab.async false
set_option linter.all false
set_option maxRecDepth 100000
namespace DN
open PySem PySem.Spec PyProof.Rows L2

/-! ### for -/
def loop (g : D → Env → R Env) (b : Env → R Fl) : List D → Env → R Fl
  | [], env => .ok (.nx env)
  | d :: ds, env => match g d env with
    | .ok e1 => match b e1 with
      | .ok (.nx e2) => loop g b ds e2
      | .ok (.ct e2) => loop g b ds e2
      | .ok (.bk e2) => .ok (.nx e2)
      | r => r
    | _ => .bad
def sFor (f : Env → R (List D)) (g : D → Env → R Env) (b : Env → R Fl) : Env → R Fl := fun env => sB (f env) env fun ds => loop g b ds env
section
variable {X : Cx} {W : WX} {M : Ms} {md m1 mb : List Md} {ws : List Nat} {tg iter : Expr} {body : List Stmt} {wi : TI} {fi : Env → R (List D)} {g : TG} {fg : D → Env → R Env} {tb : TS} {fb : Env → R Fl} {pos : Pos}
theorem DenS.for {K : PySem.W.Frag} (hgd : ∀ (G : Gd) (σ : Sg) (H F : Hp) (env : Env) (v : V) (d : D) (Q : Sg → Hp → Prop), Rep K G md σ H F env → Rp K F v d → QG K G m1 ws σ H F Q (fg d env) → g v σ H Q)
    (hb : DenS K W { M with l := md } m1 mb tb fb) (hl : leM mb md = true) {G : Gd} {σ : Sg} {H F : Hp} {env : Env} {E : Ends} {J : It} {ds : List D} (rep : Rep K G md σ H F env) (ok : ItOk K J (fun H => Same F H) F ds) (post : PostS K G M W md E F (loop fg fb ds env)) :
    ∃ W : Nat → Nat → Sg → Hp → Prop, (∃ m, W 0 m σ H) ∧ ∀ i m σ H, W i m σ H →
      (J.stop i H ∧ E.nx σ H) ∨ (J.go i H ∧ ∃ N : Sg → Hp → Prop, (∀ σ' H', N σ' H' → ∃ m', m' < m ∧ W (i + 1) m' σ' H') ∧ ∀ x H', J.yld i H x H' → g x σ H' fun σ2 H2 => tb { E with nx := N, ct := N, bk := E.nx } σ2 H2) := by
  refine ⟨fun i m σ H => ∃ F1 env, m + i = ds.length ∧ Same F F1 ∧ Rep K G md σ H F1 env ∧ PostS K G M W md E F1 (loop fg fb (ds.drop i) env), ⟨ds.length, F, env, rfl, Same.refl _, rep, post⟩, ?_⟩
  rintro i m σ1 H1 ⟨F1, e1, hm, s1, r1, p1⟩
  have c1 : Same F H1 := s1.trans r1.fh
  by_cases hi : i < ds.length
  · refine .inr ⟨ok.go i H1 c1 hi, fun σ' H' => ∃ F2 e2, Same F F2 ∧ Rep K G md σ' H' F2 e2 ∧ PostS K G M W md E F2 (loop fg fb (ds.drop (i + 1)) e2), ?_, fun x H' y => ?_⟩
    · rintro σ' H' ⟨F2, e2, s2, r2, p2⟩
      exact ⟨m - 1, by omega, F2, e2, by omega, s2, r2, p2⟩
    · obtain ⟨d, F2, hd, x2, rx⟩ := ok.yld i H1 F1 x H' c1 hi s1 r1.fh y
      have ed : ds.drop i = d :: ds.drop (i + 1) := by
        obtain ⟨lt, e⟩ := List.getElem?_eq_some_iff.mp hd
        rw [List.drop_eq_getElem_cons lt, e]
      rw [ed] at p1
      have s2 : Same F F2 := s1.trans x2.ff
      have p2 := PostS.more p1 x2.ff
      have r2 := r1.ext x2
      refine hgd G σ1 H' F2 e1 x d _ r2 rx ?_
      cases q : fg d e1 with
      | exc c z => simp only [loop, q] at p2; exact p2.elim
      | bad => simp only [loop, q] at p2; exact p2.elim
      | ok e2 =>
        simp only [loop, q] at p2
        intro σ2 _ r3
        refine hb G σ2 H' F2 e2 _ r3 ?_
        cases q2 : fb e2 with
        | exc c z => simp only [q2] at p2; exact p2.elim
        | bad => simp only [q2] at p2; exact p2.elim
        | ok fl =>
          simp only [q2] at p2
          cases fl with
          | nx e3 =>
            intro σ3 H3 F3 s3 r4
            obtain ⟨F4, s4, r5⟩ := r4.weak hl
            exact ⟨F4, e3, s2.trans (s3.trans s4), r5, PostS.more p2 (s3.trans s4)⟩
          | ct e3 => exact fun σ3 H3 F3 s3 r4 => ⟨F3, e3, s2.trans s3, r4, PostS.more p2 s3⟩
          | bk e3 => exact p2
          | rt d e3 => exact p2
          | ex c z e3 => cases z <;> exact p2
  · have e0 : ds.drop i = [] := List.drop_eq_nil_of_le (by omega)
    rw [e0] at p1
    have ei : i = ds.length := by omega
    subst ei
    exact .inl ⟨ok.stop H1 c1, p1 σ1 H1 F1 (Same.refl _) r1⟩
theorem ds_for (hp : PassesOwn (model X.prog X.w) X.A X.env X.xe) (hi : DI X W md tg iter wi fi) (hg : DG X md m1 ws tg g fg) (hb : DSs X W { M with l := md } m1 mb body tb fb) (hl : leM mb md = true := by rfl) (hx : leM md M.x = true := by rfl) (hc : X.calm = true := by rfl)
    (hs : ∀ x, foldedSetIterable iter X.env x = pure x := by intro _; rfl) : DS X W M md md (.For tg iter body [] pos) (tFor wi g tb) (sFor fi fg fb) :=
  ⟨ps_for hp hc hi.run hg.run hb.run hs, fun G σ H F env E rep post => hi.den G σ H F env _ rep (post.expr rep hx fun ds p J H1 F1 x1 ok => DenS.for (fun G σ H F env v d Q => hg.den G σ H F env v d Q) hb.den hl (rep.ext x1) ok (PostS.more p x1.ff))⟩
end

/-! ### while, by a bound of its turns -/
def wloop (c : Env → R Bool) (b : Env → R Fl) : Nat → Env → R Fl
  | 0, _ => .bad
  | n + 1, env => sB (c env) env fun k => match k with
    | true => match b env with
      | .ok (.nx e2) => wloop c b n e2
      | .ok (.ct e2) => wloop c b n e2
      | .ok (.bk e2) => .ok (.nx e2)
      | r => r
    | false => .ok (.nx env)
section
variable {X : Cx} {W : WX} {M : Ms} {md mb : List Md} {c : Expr} {body : List Stmt} {tc : TT} {fc : Env → R Bool} {tb : TS} {fb : Env → R Fl} {pos : Pos}
theorem ds_while (n : Nat) (hp : PassesOwn (model X.prog X.w) X.A X.env X.xe) (hc : DT X W md c tc fc) (hb : DSs X W { M with l := md } md mb body tb fb) (hl : leM mb md = true := by rfl) (hx : leM md M.x = true := by rfl) : DS X W M md md (.While c body [] pos) (tWhile tc tb) (wloop fc fb n) := by
  refine ⟨ps_while hp hc.run hb.run, fun G σ H F env E rep post => ?_⟩
  refine ⟨fun m σ H => ∃ F1 env, Same F F1 ∧ Rep X.K G md σ H F1 env ∧ PostS X.K G M W md E F1 (wloop fc fb m env), ⟨n, F, env, Same.refl _, rep, post⟩, ?_⟩
  rintro m σ1 H1 ⟨F1, e1, s1, r1, p1⟩
  cases m with
  | zero => exact p1.elim
  | succ m =>
    refine hc.den G σ1 H1 F1 e1 _ r1 (PostS.expr r1 hx p1 fun k p2 H2 F2 x2 => ?_)
    have r2 := r1.ext x2
    cases k with
    | false => exact iteF (p2 σ1 H2 F2 x2.ff r2)
    | true =>
      refine iteT ⟨fun σ' H' => ∃ F1 env, Same F F1 ∧ Rep X.K G md σ' H' F1 env ∧ PostS X.K G M W md E F1 (wloop fc fb m env), ?_, ?_⟩
      · exact fun σ' H' h => ⟨m, Nat.lt_succ_self _, h⟩
      · have p3 := PostS.more p2 x2.ff
        have s2 : Same F F2 := s1.trans x2.ff
        refine hb.den G σ1 H2 F2 e1 _ r2 ?_
        cases q2 : fb e1 with
        | exc c z => simp only [q2] at p3; exact p3.elim
        | bad => simp only [q2] at p3; exact p3.elim
        | ok fl =>
          simp only [q2] at p3
          cases fl with
          | nx e3 =>
            intro σ3 H3 F3 s3 r4
            obtain ⟨F4, s4, r5⟩ := r4.weak hl
            exact ⟨F4, e3, s2.trans (s3.trans s4), r5, PostS.more p3 (s3.trans s4)⟩
          | ct e3 => exact fun σ3 H3 F3 s3 r4 => ⟨F3, e3, s2.trans s3, r4, PostS.more p3 s3⟩
          | bk e3 => exact p3
          | rt d e3 => exact p3
          | ex c z e3 => cases z <;> exact p3
end

/-! ### comprehensions -/
/-- what is raised within is not told of -/
def R.nox {α : Type} : R α → R α
  | .exc _ _ => .bad
  | m => m
abbrev W0 : WX := fun _ _ _ _ => False
@[simp] def wipeE (env : Env) : List Nat → Env
  | [] => env
  | v :: vs => (wipeE env vs).set v none
def lcGo (g : D → Env → R Env) (c : Env → R Bool) (f : Env → R D) (env : Env) : List D → R (List D)
  | [] => .ok []
  | d :: ds => (g d env).nox.bind fun e => (c e).nox.bind fun k => match k with
    | true => (f e).nox.bind fun y => (lcGo g c f env ds).bind fun ys => .ok (y :: ys)
    | false => lcGo g c f env ds
def eLc (vs : List Nat) (fi : Env → R (List D)) (g : D → Env → R Env) (c : Env → R Bool) (f : Env → R D) : Env → R D := fun env => (fi env).bind fun ds => if ds.length ≤ sizeLine then ((lcGo g c f (wipeE env vs) ds).nox.bind fun ys => .ok (.lst ys)) else .bad
def eYes : Env → R Bool := fun _ => .ok true
structure DTs (X : Cx) (W : WX) (md : List Md) (es : List Expr) (t : TT) (f : Env → R Bool) : Prop where
  run : PTs X es t
  den : DenT X.K W md t f
theorem dts_nil {X : Cx} {W : WX} {md : List Md} : DTs X W md [] tYes eYes := ⟨pts_nil, fun G σ H F env Q rep post => post H F (Ext.refl rep.fh)⟩
theorem dts_one {X : Cx} {W : WX} {md : List Md} {c : Expr} {t : TT} {f : Env → R Bool} (h : DT X W md c t f) : DTs X W md [c] t f := ⟨pts_one h.run, h.den⟩
theorem wipe_rep {K : PySem.W.Frag} {G : Gd} {md : List Md} {σ : Sg} {H F : Hp} {env : Env} (r : Rep K G md σ H F env) : ∀ vs : List Nat, Rep K G md (wipe σ vs) H F (wipeE env vs)
  | [] => r
  | v :: vs => by
    have ih := wipe_rep r vs
    refine ⟨ih.fh, ih.h0, ih.f0, ih.fr, ih.gg, ih.oo, by simp only [wipe, wipeE, List.length_set]; exact ih.len, fun i d e => ?_, fun i j p d e m1 m2 h1 h2 s1 s2 => ?_⟩
    · have hi : v ≠ i := fun z => by
        subst z
        simp only [wipeE] at e
        by_cases hv : v < (wipeE env vs).length
        · rw [List.getElem?_set_self hv] at e; cases e
        · rw [List.getElem?_eq_none (by simpa using hv)] at e; cases e
      simp only [wipe, wipeE] at e ⊢
      rw [List.getElem?_set_ne hi] at e ⊢
      exact ih.sl i d e
    · have ne : ∀ k x, (wipeE env (v :: vs))[k]? = some (some x) → v ≠ k ∧ (wipeE env vs)[k]? = some (some x) := fun k x e => by
        have hi : v ≠ k := fun z => by
          subst z
          simp only [wipeE] at e
          by_cases hv : v < (wipeE env vs).length
          · rw [List.getElem?_set_self hv] at e; cases e
          · rw [List.getElem?_eq_none (by simpa using hv)] at e; cases e
        simp only [wipeE] at e
        rw [List.getElem?_set_ne hi] at e
        exact ⟨hi, e⟩
      obtain ⟨n1, g1⟩ := ne i d h1
      obtain ⟨n2, g2⟩ := ne j e h2
      simp only [wipe] at s1 s2
      rw [List.getElem?_set_ne n1] at s1
      rw [List.getElem?_set_ne n2] at s2
      exact ih.sep i j p d e m1 m2 g1 g2 s1 s2

theorem wipe_get (σ : Sg) (i : Nat) : ∀ vs : List Nat, (wipe σ vs)[i]? = if i ∈ vs then (if i < σ.length then some none else none) else σ[i]?
  | [] => by simp [wipe]
  | v :: vs => by
    have ih := wipe_get σ i vs
    simp only [wipe]
    by_cases h : v = i
    · subst h
      rw [if_pos (List.mem_cons_self ..)]
      by_cases hv : v < σ.length
      · rw [if_pos hv, List.getElem?_set_self (by rw [wipe_length]; exact hv)]
      · rw [if_neg hv, List.getElem?_eq_none (by rw [List.length_set, wipe_length]; omega)]
    · rw [List.getElem?_set_ne h, ih]
      by_cases hm : i ∈ vs
      · rw [if_pos hm, if_pos (List.mem_cons_of_mem _ hm)]
      · rw [if_neg hm, if_neg (fun z => (List.mem_cons.mp z).elim (fun q => h q.symm) hm)]
theorem wipe_off {σ σ2 : Sg} {ws vs : List Nat} (o : Off ws (wipe σ vs) σ2) (hs : ∀ i, i ∈ ws → i ∈ vs) : wipe σ2 vs = wipe σ vs := by
  have hl : σ2.length = σ.length := by rw [o.1, wipe_length]
  refine List.ext_getElem? fun i => ?_
  rw [wipe_get, wipe_get, hl]
  by_cases hm : i ∈ vs
  · rw [if_pos hm, if_pos hm]
  · rw [if_neg hm, if_neg hm, o.2 i (fun z => hm (hs i z)), wipe_get, if_neg hm]
section
variable {X : Cx} {W : WX} {md m1 : List Md} {ws : List Nat} {elt tg iter : Expr} {ifs : List Expr} {scope : Scope} {own : List (Str × Nat)} {pos spos : Pos} {wi : TI} {g : TG} {tt : TT} {te : TE} {fi : Env → R (List D)} {fg : D → Env → R Env} {ft : Env → R Bool} {fe : Env → R D}
theorem nox_post {α : Type} {K : PySem.W.Frag} {σ : Sg} {H F : Hp} {P : α → Prop} {m : R α} (h : Post K W σ H F P m.nox) : Post K W0 σ H F P m := by
  cases m with
  | ok a => exact h
  | exc c x => exact h.elim
  | bad => exact h.elim
theorem nox_bind {α β : Type} {K : PySem.W.Frag} {σ : Sg} {H F : Hp} {P : β → Prop} {P1 : α → Prop} {m : R α} {k : α → R β} (h : Post K W σ H F P (m.nox.bind k)) (c : ∀ a, Post K W σ H F P (k a) → P1 a) : Post K W0 σ H F P1 m := by
  cases m with
  | ok a => exact c a h
  | exc c x => exact h.elim
  | bad => exact h.elim
/-- what the rest of a comprehension gives -/
def QL (K : PySem.W.Frag) (W : WX) (σ : Sg) (H F : Hp) (P : List D → Prop) (m : R (List D)) : Prop := match m with
  | .ok ys => P ys
  | _ => False
theorem DenF.lc {K : PySem.W.Frag} {vs : List Nat} (hgd : ∀ (G : Gd) (σ : Sg) (H F : Hp) (env : Env) (v : V) (d : D) (Q : Sg → Hp → Prop), Rep K G md σ H F env → Rp K F v d → QG K G m1 ws σ H F Q (fg d env) → g v σ H Q)
    (ht : DenT K W0 m1 tt ft) (he : DenE K W0 m1 te fe) (hw : ∀ i, i ∈ ws → i ∈ vs) {G : Gd} {σ : Sg} {H F : Hp} {env : Env} {J : It} {C : Hp → Prop} {ds : List D} {Q : VK} (rep : Rep K G md σ H F env) (hC : C H) (mono : ∀ H1 H2, C H1 → Same H1 H2 → C H2) (ok : ItOk K J C F ds) (hz : ds.length ≤ sizeLine)
    (L : Addr) (nL : H L = none) (post : QL K W σ H F (fun ys => QF K H F Q (.lst ys)) (lcGo fg ft fe (wipeE env vs) ds)) :
    ∃ W : Nat → Nat → Hp → Prop, (∃ m, W 0 m (upd H L (.lst []))) ∧ ∀ i m H, W i m H →
      (J.stop i H ∧ Q (.ref L) H) ∨ (J.go i H ∧ ∃ Nx : Hp → Prop, (∀ H', Nx H' → ∃ m', m' < m ∧ W (i + 1) m' H') ∧ ∀ x H', J.yld i H x H' → g x (wipe σ vs) H' fun σ2 H2 => wipe σ2 vs = wipe σ vs ∧ tt σ2 H2 fun b H3 =>
        if b = true then te σ2 H3 fun y H4 => ∃ acc, H4 L = some (.lst acc) ∧ acc.length < sizeLine ∧ Nx (upd H4 L (.lst (acc ++ [y]))) else Nx H3) := by
  -- what stands between two turns
  let S : Nat → Hp → Prop := fun i H1 => ∃ F1 acc accD, i ≤ ds.length ∧ Ext H F H1 F1 ∧ F1 L = none ∧ H1 L = some (.lst acc) ∧ RpA K F1 acc accD ∧ acc.length ≤ i ∧
    QL K W σ H F (fun ys => QF K H F Q (.lst (accD ++ ys))) (lcGo fg ft fe (wipeE env vs) (ds.drop i))
  have fl : F L = none := rep.fh.free nL
  refine ⟨fun i m H1 => m + i = ds.length ∧ S i H1, ⟨ds.length, rfl, F, [], [], Nat.zero_le _, Ext.mine rep.fh nL, fl, upd_same, .nil, Nat.le_refl _, post⟩, ?_⟩
  rintro i m H1 ⟨hm, F1, acc, accD, hi, x1, f1, h1, ra, hacc, p1⟩
  have c1 : C H1 := mono _ _ hC x1.hh
  by_cases lt : i < ds.length
  · refine .inr ⟨ok.go i H1 c1 lt, fun H' => S (i + 1) H', fun H' h => ⟨m - 1, by omega, by omega, h⟩, fun x H' y => ?_⟩
    obtain ⟨d, F2, hd, x2, rx⟩ := ok.yld i H1 F1 x H' c1 lt x1.ff x1.fh y
    have ed : ds.drop i = d :: ds.drop (i + 1) := by
      obtain ⟨lt, e⟩ := List.getElem?_eq_some_iff.mp hd
      rw [List.drop_eq_getElem_cons lt, e]
    rw [ed] at p1
    have f2 : F2 L = none := by
      cases q : F2 L with
      | none => rfl
      | some o =>
        rcases x2.fr _ _ q with z | z
        · rw [f1] at z; cases z
        · rw [h1] at z; cases z
    have r0 := wipe_rep (rep.ext (x1.trans x2)) vs
    refine hgd G (wipe σ vs) H' F2 (wipeE env vs) x d _ r0 rx ?_
    cases q : fg d (wipeE env vs) with
    | exc c z => simp only [lcGo, q, R.nox, R.bind] at p1; exact p1.elim
    | bad => simp only [lcGo, q, R.nox, R.bind] at p1; exact p1.elim
    | ok e2 =>
      simp only [lcGo, q, R.nox, R.bind] at p1
      intro σ2 off r2
      refine ⟨wipe_off off hw, ht G σ2 H' F2 e2 _ r2 ?_⟩
      cases q2 : ft e2 with
      | exc c z => simp only [q2] at p1; exact p1.elim
      | bad => simp only [q2] at p1; exact p1.elim
      | ok k =>
        simp only [q2] at p1
        intro H3 F3 x3
        have x13 := x1.trans (x2.trans x3)
        have f3 : F3 L = none := by
          cases q : F3 L with
          | none => rfl
          | some o =>
            rcases x3.fr _ _ q with z | z
            · rw [f2] at z; cases z
            · rw [x2.hh _ _ h1] at z; cases z
        cases k with
        | false => exact iteF ⟨F3, acc, accD, lt, x13, f3, x3.hh _ _ (x2.hh _ _ h1), ra.mono (x2.ff.trans x3.ff), by omega, p1⟩
        | true =>
          refine iteT (he G σ2 H3 F3 e2 _ (r2.ext x3) ?_)
          cases q3 : fe e2 with
          | exc c z => simp only [q3] at p1; exact p1.elim
          | bad => simp only [q3] at p1; exact p1.elim
          | ok yd =>
            simp only [q3] at p1
            intro yv H4 F4 x4 ry
            have x14 := x13.trans x4
            have h4 : H4 L = some (.lst acc) := x4.hh _ _ (x3.hh _ _ (x2.hh _ _ h1))
            have f4 : F4 L = none := by
              cases q : F4 L with
              | none => rfl
              | some o =>
                rcases x4.fr _ _ q with z | z
                · rw [f3] at z; cases z
                · rw [x3.hh _ _ (x2.hh _ _ h1)] at z; cases z
            refine ⟨acc, h4, by omega, F4, acc ++ [yv], accD ++ [yd], lt, ?_, f4, upd_same, (ra.mono (x2.ff.trans (x3.ff.trans x4.ff))).append (.cons ry .nil), by rw [List.length_append, List.length_singleton]; omega, ?_⟩
            · exact ⟨fun b o e => by rw [upd_ne (ne_of_none e nL)]; exact x14.hh _ _ e, x14.ff, fun b o e => by rw [upd_ne (fun z => by rw [z, f4] at e; cases e)]; exact x14.fh _ _ e, x14.fr⟩
            · cases q4 : lcGo fg ft fe (wipeE env vs) (ds.drop (i + 1)) with
              | exc c z => simp only [q4] at p1; exact p1.elim
              | bad => simp only [q4] at p1; exact p1.elim
              | ok ys =>
                simp only [q4] at p1
                show QF K H F Q (.lst (accD ++ [yd] ++ ys))
                rw [List.append_assoc]
                exact p1
  · have e0 : ds.drop i = [] := List.drop_eq_nil_of_le (by omega)
    rw [e0] at p1
    have p2 : QF K H F Q (.lst (accD ++ [])) := p1
    rw [List.append_nil] at p2
    have ei : i = ds.length := by omega
    subst ei
    exact .inl ⟨ok.stop H1 c1, p2 L H1 F1 x1 nL ⟨⟨acc, accD, rfl, h1, ra⟩, f1⟩⟩
theorem lc_den {K : PySem.W.Frag} {vs : List Nat} (hi : ∀ (G : Gd) (σ : Sg) (H F : Hp) (env : Env) (Q : It → Hp → Prop), Rep K G md σ H F env → Post K W σ H F (QJ K H F Q) (fi env) → wi σ H Q)
    (hgd : ∀ (G : Gd) (σ : Sg) (H F : Hp) (env : Env) (v : V) (d : D) (Q : Sg → Hp → Prop), Rep K G md σ H F env → Rp K F v d → QG K G m1 ws σ H F Q (fg d env) → g v σ H Q)
    (ht : DenT K W0 m1 tt ft) (he : DenE K W0 m1 te fe) (hw : ∀ i, i ∈ ws → i ∈ vs) : DenF K W md (tLc wi g tt te vs) (eLc vs fi fg ft fe) := fun G σ H F env Q rep post =>
  hi G σ H F env _ rep (post.bind fun ds p1 J C H1 F1 x1 c1 mono ok => by
    obtain ⟨hz, p1⟩ := Post.chk (c := ds.length ≤ sizeLine) p1
    intro L nL
    refine DenF.lc (W := W) hgd ht he hw (rep.ext x1) c1 mono ok hz L nL ?_
    cases q : lcGo fg ft fe (wipeE env vs) ds with
    | exc c z => simp only [q, R.nox, R.bind] at p1; exact p1.elim
    | bad => simp only [q, R.nox, R.bind] at p1; exact p1.elim
    | ok ys => simp only [q, R.nox, R.bind] at p1; exact QF.ext (K := K) (d := .lst ys) p1 x1)
end
end DN
end

section
set_option Elab.async false
set_option linter.all false
set_option maxRecDepth 100000
namespace DN
open PySem PySem.Spec PyProof.Rows L2

/-! ### comprehensions as expressions, as assignments -/
section
variable {X : Cx} {W : WX} {M : Ms} {md m1 : List Md} {ws : List Nat} {elt tg iter : Expr} {ifs : List Expr} {scope : Scope} {pos spos : Pos} {wi : TI} {g : TG} {tt : TT} {te : TE} {fi : Env → R (List D)} {fg : D → Env → R Env} {ft : Env → R Bool} {fe : Env → R D}
abbrev Blk (X : Cx) (scope : Scope) (s : Shared) (H : Hp) (C : Addr) (cl : List (Str × Addr)) (fp : List Addr) : Cx := X.blk s H scope (compEnvC scope cl C X.env) fp
def subB (ws vs : List Nat) : Bool := ws.all fun i => decide (i ∈ vs)
theorem subB_of {ws vs : List Nat} (h : subB ws vs = true) : ∀ i, i ∈ ws → i ∈ vs := fun i hi => of_decide_eq_true (List.all_eq_true.mp h i hi)
theorem df_lc (own : List (Str × Nat)) (nd : X.N.Nodup) (ok : BlkOk X.N X.env.scope scope own) (hi : DJ X W md tg iter wi fi) (hg : ∀ s H C cl fp, DG (Blk X scope s H C cl fp) md m1 ws tg g fg) (ht : ∀ s H C cl fp, DTs (Blk X scope s H C cl fp) W0 m1 ifs tt ft) (he : ∀ s H C cl fp, DE (Blk X scope s H C cl fp) W0 m1 elt te fe)
    (hw : subB ws (own.map (·.2)) = true := by rfl) (hc : X.calm = true := by rfl) (hs : ∀ x, foldedSetIterable iter X.env x = pure x := by intro _; rfl) :
    DF X W md (.ListComp elt [⟨tg, iter, ifs, 0⟩] scope pos) (tLc wi g tt te (own.map (·.2))) (eLc (own.map (·.2)) fi fg ft fe) :=
  ⟨pe_lc hc nd hi.run ok (fun s H C cl fp => (hg s H C cl fp).run) (fun s H C cl fp => (ht s H C cl fp).run) (fun s H C cl fp => (he s H C cl fp).run) hs,
    lc_den (K := X.K) hi.den (fun G σ H F env v d Q => (hg X.s_0 X.H_0 0 [] []).den G σ H F env v d Q) (ht X.s_0 X.H_0 0 [] []).den (he X.s_0 X.H_0 0 [] []).den (subB_of hw)⟩
/-- name = [..] on one line -/
theorem ds_lcV (i : Nat) {y : Str} {py : Pos} (own : List (Str × Nat)) (nd : X.N.Nodup) (ok : BlkOk X.N X.env.scope scope own) (hi : DJ X W md tg iter wi fi) (hg : ∀ s H C cl fp, DG (Blk X scope s H C cl fp) md m1 ws tg g fg) (ht : ∀ s H C cl fp, DTs (Blk X scope s H C cl fp) W0 m1 ifs tt ft) (he : ∀ s H C cl fp, DE (Blk X scope s H C cl fp) W0 m1 elt te fe)
    (hsw : swapsWith (.ListComp elt [⟨tg, iter, ifs, 0⟩] scope pos) (some (.Name y py)) spos.line X.env = pure true) (hy : X.N[i]? = some y := by rfl) (hyl : X.env.scope.names.lookup y = some .local := by rfl) (hm : i < md.length := by decide) (hq : leM md M.x = true := by rfl)
    (hw : subB ws (own.map (·.2)) = true := by rfl) (hc : X.calm = true := by rfl) (hs : ∀ x, foldedSetIterable iter X.env x = pure x := by intro _; rfl) :
    DS X W M md (md.set i .v) (.Assign [.Name y py] (.ListComp elt [⟨tg, iter, ifs, 0⟩] scope pos) spos) (tAsg (tLc wi g tt te (own.map (·.2))) (gName i)) (sSet i (eLc (own.map (·.2)) fi fg ft fe)) :=
  ⟨ps_setLc hc nd hy hyl hsw hi.run ok (fun s H C cl fp => (hg s H C cl fp).run) (fun s H C cl fp => (ht s H C cl fp).run) (fun s H C cl fp => (he s H C cl fp).run) hs,
    fun G σ H F env E rep post => (df_lc (pos := pos) own nd ok hi hg ht he hw hc hs).val.den G σ H F env _ rep (post.expr rep hq fun d p v H1 F1 x1 r1 => p _ H1 F1 x1.ff ((rep.ext x1).setV hm r1))⟩
theorem ds_lcO (i : Nat) {y : Str} {py : Pos} (own : List (Str × Nat)) (nd : X.N.Nodup) (ok : BlkOk X.N X.env.scope scope own) (hi : DJ X W md tg iter wi fi) (hg : ∀ s H C cl fp, DG (Blk X scope s H C cl fp) md m1 ws tg g fg) (ht : ∀ s H C cl fp, DTs (Blk X scope s H C cl fp) W0 m1 ifs tt ft) (he : ∀ s H C cl fp, DE (Blk X scope s H C cl fp) W0 m1 elt te fe)
    (hsw : swapsWith (.ListComp elt [⟨tg, iter, ifs, 0⟩] scope pos) (some (.Name y py)) spos.line X.env = pure true) (hy : X.N[i]? = some y := by rfl) (hyl : X.env.scope.names.lookup y = some .local := by rfl) (hm : i < md.length := by decide) (hq : leM md M.x = true := by rfl)
    (hw : subB ws (own.map (·.2)) = true := by rfl) (hc : X.calm = true := by rfl) (hs : ∀ x, foldedSetIterable iter X.env x = pure x := by intro _; rfl) :
    DS X W M md (md.set i .o) (.Assign [.Name y py] (.ListComp elt [⟨tg, iter, ifs, 0⟩] scope pos) spos) (tAsg (tLc wi g tt te (own.map (·.2))) (gName i)) (sSet i (eLc (own.map (·.2)) fi fg ft fe)) :=
  ⟨ps_setLc hc nd hy hyl hsw hi.run ok (fun s H C cl fp => (hg s H C cl fp).run) (fun s H C cl fp => (ht s H C cl fp).run) (fun s H C cl fp => (he s H C cl fp).run) hs,
    fun G σ H F env E rep post => (df_lc (pos := pos) own nd ok hi hg ht he hw hc hs).den G σ H F env _ rep (post.expr rep hq fun d p q H1 F1 x1 n1 o1 => p _ H1 F1 x1.ff (rep.setO hm x1 n1 o1))⟩
end

/-! ### a, b = x, y -/
def PlOk (K : PySem.W.Frag) (H H' F' : Hp) (v : V) (d : D) : Md → Prop
  | .o => ∃ p, v = .ref p ∧ H p = none ∧ Own K H' F' p d
  | _ => Rp K F' v d
/-- one place of a parallel assignment: a value, or a new own list -/
structure DV (X : Cx) (W : WX) (md : List Md) (m : Md) (e : Expr) (t : TE) (f : Env → R D) : Prop where
  run : PE X e t
  den : ∀ (G : Gd) (σ : Sg) (H F : Hp) (env : Env) (Q : VK), Rep X.K G md σ H F env → Post X.K W σ H F (fun d => ∀ v H' F', Ext H F H' F' → PlOk X.K H H' F' v d m → Q v H') (f env) → t σ H Q
section
variable {X : Cx} {W : WX} {M : Ms} {md : List Md} {e e1 e2 e3 : Expr} {t t1 t2 t3 : TE} {f f1 f2 f3 : Env → R D}
theorem DE.place (h : DE X W md e t f) : DV X W md .v e t f := ⟨h.run, h.den⟩
theorem DF.place (h : DF X W md e t f) : DV X W md .o e t f := ⟨h.run, fun G σ H F env Q rep post => h.den G σ H F env Q rep (post.imp fun d q p H' F' x n o => q (.ref p) H' F' x ⟨p, rfl, n, o⟩)⟩
theorem Post.extV {K : PySem.W.Frag} {σ : Sg} {H F H1 F1 : Hp} {Q : V → Hp → Hp → D → Prop} {m : R D} (h : Post K W σ H F (fun d => ∀ v H' F', Ext H F H' F' → Q v H' F' d) m) (x : Ext H F H1 F1) : Post K W σ H1 F1 (fun d => ∀ v H' F', Ext H1 F1 H' F' → Q v H' F' d) m :=
  Post.ext h x fun d q v H' F' x' => q v H' F' (x.trans x')
def sPar2 (i j : Nat) (f g : Env → R D) : Env → R Fl := fun env => sB (f env) env fun a => sB (g env) env fun b => .ok (.nx ((env.set i (some a)).set j (some b)))
def sPar3 (i j l : Nat) (f g h : Env → R D) : Env → R Fl := fun env => sB (f env) env fun a => sB (g env) env fun b => sB (h env) env fun c => .ok (.nx (((env.set i (some a)).set j (some b)).set l (some c)))
/-- the value that stands in a place is put into its slot -/
theorem Rep.place {K : PySem.W.Frag} {G : Gd} {σ : Sg} {H F H' F' : Hp} {env : Env} {i : Nat} {m : Md} {v : V} {d : D} (rep : Rep K G md σ H F env) (hi : i < md.length) (hm : m = .v ∨ m = .o) (x : Ext H F H' F')
    (h : PlOk K H H' F' v d m) : Rep K G (md.set i m) (σ.set i (some v)) H' F' (env.set i (some d)) := by
  rcases hm with rfl | rfl
  · exact (rep.ext x).setV hi h
  · obtain ⟨p, rfl, n, o⟩ := h
    exact rep.setO hi x n o
theorem ds_par2 (i j : Nat) {m1 m2 : Md} {x y : Str} {px py pt pos : Pos} {kt k2 : Nat} {pt2 : Pos} (nd : X.N.Nodup) (h1 : DV X W md m1 e1 t1 f1) (h2 : DV X W md m2 e2 t2 f2)
    (hw : swappedStores [.Tuple [.Name x px, .Name y py] kt pt] (.Tuple [e1, e2] k2 pt2) X.env = pure (some [x, y]) := by rfl) (hm1 : m1 = .v ∨ m1 = .o := by first | exact .inl rfl | exact .inr rfl) (hm2 : m2 = .v ∨ m2 = .o := by first | exact .inl rfl | exact .inr rfl)
    (hi : X.N[i]? = some x := by rfl) (hj : X.N[j]? = some y := by rfl) (hij : i ≠ j := by decide) (hx : X.env.scope.names.lookup x = some .local := by rfl) (hy : X.env.scope.names.lookup y = some .local := by rfl) (hli : i < md.length := by decide) (hlj : j < md.length := by decide) (hq : leM md M.x = true := by rfl)
    (hc : X.calm = true := by rfl) (ha1 : starEach [e1, e2] X.env = (false, eval e1 X.env) :: starEach [e2] X.env := by rfl) (ha2 : starEach [e2] X.env = (false, eval e2 X.env) :: starEach [] X.env := by rfl)
    (hs : swapsWithSole [.Tuple [.Name x px, .Name y py] kt pt] (.Tuple [e1, e2] k2 pt2) pos.line X.env = pure false := by rfl) :
    DS X W M md ((md.set i m1).set j m2) (.Assign [.Tuple [.Name x px, .Name y py] kt pt] (.Tuple [e1, e2] k2 pt2) pos) (tPar i j (tCons t1 (tCons t2 tNil))) (sPar2 i j f1 f2) := by
  refine ⟨ps_par hc nd hi hj hij hx hy (pa_cons h1.run (pa_cons h2.run pa_nil ha2) ha1) hw hs, fun G σ H F env E rep post => ?_⟩
  refine h1.den G σ H F env _ rep (post.expr rep hq fun a p1 v H1 F1 x1 s1 => ?_)
  refine h2.den G σ H1 F1 env _ (rep.ext x1) ((PostS.more p1 x1.ff).expr (rep.ext x1) hq fun b p2 w H2 F2 x2 s2 => ?_)
  refine ⟨v, w, rfl, p2 _ H2 F2 x2.ff ?_⟩
  have r1 := rep.place hli hm1 x1 s1
  have lj : j < (md.set i m1).length := by rw [List.length_set]; exact hlj
  exact r1.place lj hm2 x2 s2
theorem ds_par3 (i j l : Nat) {m1 m2 m3 : Md} {x y z : Str} {px py pz pt pos : Pos} {kt k2 : Nat} {pt2 : Pos} (nd : X.N.Nodup) (h1 : DV X W md m1 e1 t1 f1) (h2 : DV X W md m2 e2 t2 f2) (h3 : DV X W md m3 e3 t3 f3)
    (hw : swappedStores [.Tuple [.Name x px, .Name y py, .Name z pz] kt pt] (.Tuple [e1, e2, e3] k2 pt2) X.env = pure (some [x, y, z]) := by rfl) (hm1 : m1 = .v ∨ m1 = .o := by first | exact .inl rfl | exact .inr rfl) (hm2 : m2 = .v ∨ m2 = .o := by first | exact .inl rfl | exact .inr rfl) (hm3 : m3 = .v ∨ m3 = .o := by first | exact .inl rfl | exact .inr rfl)
    (hi : X.N[i]? = some x := by rfl) (hj : X.N[j]? = some y := by rfl) (hl : X.N[l]? = some z := by rfl) (hij : i ≠ j := by decide) (hil : i ≠ l := by decide) (hjl : j ≠ l := by decide) (hx : X.env.scope.names.lookup x = some .local := by rfl) (hy : X.env.scope.names.lookup y = some .local := by rfl) (hz : X.env.scope.names.lookup z = some .local := by rfl)
    (hli : i < md.length := by decide) (hlj : j < md.length := by decide) (hll : l < md.length := by decide) (hq : leM md M.x = true := by rfl)
    (hc : X.calm = true := by rfl) (ha1 : starEach [e1, e2, e3] X.env = (false, eval e1 X.env) :: starEach [e2, e3] X.env := by rfl) (ha2 : starEach [e2, e3] X.env = (false, eval e2 X.env) :: starEach [e3] X.env := by rfl) (ha3 : starEach [e3] X.env = (false, eval e3 X.env) :: starEach [] X.env := by rfl)
    (hs : swapsWithSole [.Tuple [.Name x px, .Name y py, .Name z pz] kt pt] (.Tuple [e1, e2, e3] k2 pt2) pos.line X.env = pure false := by rfl) :
    DS X W M md (((md.set i m1).set j m2).set l m3) (.Assign [.Tuple [.Name x px, .Name y py, .Name z pz] kt pt] (.Tuple [e1, e2, e3] k2 pt2) pos) (tPar3 i j l (tCons t1 (tCons t2 (tCons t3 tNil)))) (sPar3 i j l f1 f2 f3) := by
  refine ⟨ps_par3 hc nd hi hj hl hij hil hjl hx hy hz (pa_cons h1.run (pa_cons h2.run (pa_cons h3.run pa_nil ha3) ha2) ha1) hw hs, fun G σ H F env E rep post => ?_⟩
  refine h1.den G σ H F env _ rep (post.expr rep hq fun a p1 v H1 F1 x1 s1 => ?_)
  refine h2.den G σ H1 F1 env _ (rep.ext x1) ((PostS.more p1 x1.ff).expr (rep.ext x1) hq fun b p2 w H2 F2 x2 s2 => ?_)
  refine h3.den G σ H2 F2 env _ (rep.ext (x1.trans x2)) ((PostS.more p2 x2.ff).expr (rep.ext (x1.trans x2)) hq fun c p3 u H3 F3 x3 s3 => ?_)
  refine ⟨v, w, u, rfl, p3 _ H3 F3 x3.ff ?_⟩
  have r1 := rep.place hli hm1 x1 s1
  have lj : j < (md.set i m1).length := by rw [List.length_set]; exact hlj
  have r2 := r1.place lj hm2 x2 s2
  have ll : l < ((md.set i m1).set j m2).length := by rw [List.length_set, List.length_set]; exact hll
  exact r2.place ll hm3 x3 s3
end

/-! ### defs -/
@[simp] def startE (n : Nat) (ds : List D) : Env := ds.map some ++ List.replicate (n - ds.length) none
/-- a def's value: k parameters, n slots -/
def runF (k n : Nat) (f : Env → R Fl) (ds : List D) : R D := if ds.length = k then (match f (startE n ds) with
  | .ok (.nx _) => .ok .non
  | .ok (.rt d _) => .ok d
  | .ok (.ex c x _) => .exc c x
  | _ => .bad) else .bad
/-- a def that hands out a new own list -/
def runL (k n : Nat) (f : Env → R Fl) (ds : List D) : R D := if ds.length = k then (match f (startE n ds) with
  | .ok (.rt d _) => .ok d
  | .ok (.ex c x _) => .exc c x
  | _ => .bad) else .bad
/-- a new own list, or a value that is no list -/
def FrV (K : PySem.W.Frag) (H H' F' : Hp) (v : V) (d : D) : Prop := match d with
  | .lst _ => ∃ p, v = .ref p ∧ H p = none ∧ Own K H' F' p d
  | _ => Rp K F' v d
def QN (K : PySem.W.Frag) (H F : Hp) (Q : VK) (d : D) : Prop := ∀ v H' F', Ext H F H' F' → FrV K H H' F' v d → Q v H'
abbrev PostN (K : PySem.W.Frag) (W : WX) (σ : Sg) (H F : Hp) (Q : VK) (m : R D) : Prop := Post K W σ H F (QN K H F Q) m
theorem QN.ext {K : PySem.W.Frag} {H F H' F' : Hp} {Q : VK} {d : D} (h : QN K H F Q d) (e : Ext H F H' F') : QN K H' F' Q d := fun v H2 F2 e2 r => h v H2 F2 (e.trans e2) (by
  cases d with
  | lst ds => obtain ⟨p, e1, n, o⟩ := r; exact ⟨p, e1, e.hh.free n, o⟩
  | _ => exact r)
theorem Post.extN {K : PySem.W.Frag} {W : WX} {σ : Sg} {H F H' F' : Hp} {Q : VK} {m : R D} (h : PostN K W σ H F Q m) (e : Ext H F H' F') : PostN K W σ H' F' Q m := Post.ext h e fun _ q => q.ext e
structure DFN (X : Cx) (W : WX) (md : List Md) (e : Expr) (t : TE) (f : Env → R D) : Prop where
  run : PE X e t
  den : ∀ (G : Gd) (σ : Sg) (H F : Hp) (env : Env) (Q : VK), Rep X.K G md σ H F env → PostN X.K W σ H F Q (f env) → t σ H Q
theorem DFN.val {X : Cx} {W : WX} {md : List Md} {e : Expr} {t : TE} {f : Env → R D} (h : DFN X W md e t f) : DE X W md e t f := ⟨h.run, fun G σ H F env Q rep post => h.den G σ H F env Q rep (post.imp fun d q v H' F' x r => by
  cases d with
  | lst ds =>
    obtain ⟨p, rfl, n, o⟩ := r
    obtain ⟨⟨vs, ds, e1, hp, r⟩, nf⟩ := o
    cases e1
    exact q (.ref p) H' _ (Ext.know hp rep.fh x n) (.lst upd_same (r.mono (fun b o e => by rw [upd_ne (ne_of_none e nf)]; exact e)))
  | _ => exact q v H' F' x r)⟩
def dLs : D → R D
  | .lst xs => .ok (.lst xs)
  | _ => .bad
theorem DFN.f {X : Cx} {W : WX} {md : List Md} {e : Expr} {t : TE} {f : Env → R D} (h : DFN X W md e t f) : DF X W md e t (eUn dLs f) := ⟨h.run, fun G σ H F env Q rep post => h.den G σ H F env Q rep (Post.bind post fun d q v H' F' x r => by
  cases d with
  | lst ds => obtain ⟨p, rfl, n, o⟩ := r; exact q p H' F' x n o
  | _ => exact q.elim)⟩
theorem ds_retFN {X : Cx} {W : WX} {M : Ms} {md mn : List Md} {e : Expr} {pos : Pos} {te : TE} {fe : Env → R D} (he : DFN X W md e te fe) (hr : leM md M.r = true := by rfl) (hn : onlyP M.r = true := by rfl) (hf : M.fresh = true := by rfl) (hx : leM md M.x = true := by rfl) : DS X W M md mn (.Return (some e) pos) (tRet te) (sRet fe) :=
  ⟨ps_ret he.run, fun G σ H F env E rep post => he.den G σ H F env _ rep (post.expr rep hx fun d p v H1 F1 x1 r1 =>
    p σ H1 F1 v x1.ff ((rep.ext x1).drop (onlyP_drop hr hn)) (by
      rw [hf]
      refine iteT ?_
      cases d with
      | lst ds => obtain ⟨q, rfl, n1, o1⟩ := r1; exact FrOk.own o1 (own_new rep n1)
      | _ => exact r1))⟩
/-- no list is handed out -/
def eNoL (f : Env → R D) : Env → R D := fun env => (f env).bind fun d => match d with
  | .lst _ => .bad
  | d => .ok d
theorem DE.noL {X : Cx} {W : WX} {md : List Md} {e : Expr} {te : TE} {fe : Env → R D} (h : DE X W md e te fe) : DFN X W md e te (eNoL fe) := ⟨h.run, fun G σ H F env Q rep post => h.den G σ H F env Q rep (Post.bind post fun d q v H' F' x r => by
  cases d with
  | lst ds => exact q.elim
  | _ => exact q v H' F' x r)⟩
theorem DF.n {X : Cx} {W : WX} {md : List Md} {e : Expr} {te : TE} {fe : Env → R D} (h : DF X W md e te fe) : DFN X W md e te fe := ⟨h.run, fun G σ H F env Q rep post => h.den G σ H F env Q rep (post.imp fun d q p H' F' x n o => by
  obtain ⟨vs, ds, rfl, _⟩ := o.ex
  exact q (.ref p) H' F' x ⟨p, rfl, n, o⟩)⟩
abbrev WofE (E : XK) : WX := fun cls d _ H => E cls d H
def spP (K : PySem.W.Frag) (m : List D → R D) : Sp := fun vs H Q E => ∃ F ds, Same F H ∧ RpA K F vs ds ∧ PostE K (WofE E) [] H F Q (m ds)
def spL (K : PySem.W.Frag) (m : List D → R D) : Sp := fun vs H Q E => ∃ F ds, Same F H ∧ RpA K F vs ds ∧ PostN K (WofE E) [] H F Q (m ds)
/-- the def x as it stands: its promise, at level k -/
structure Fd (P : Program) (w : World) (K : PySem.W.Frag) (mg : Str → Option Value) (base : Heap) (k : Nat) (x : Str) (sp : Sp) : Prop where
  ex : ∃ f fd ps, FnOk P w K mg base (L2.CX P w) k f fd ps sp ∧ mg x = some (.ref f) ∧ PySem.W.keepIn K (.ref f) = true ∧ Binds K fd ps []
theorem Fd.mono {P : Program} {w : World} {K : PySem.W.Frag} {mg : Str → Option Value} {base : Heap} {j k : Nat} {x : Str} {sp : Sp} (h : Fd P w K mg base j x sp) (hk : j ≤ k) : Fd P w K mg base k x sp := by
  obtain ⟨f, fd, ps, F, r⟩ := h.ex
  exact ⟨f, fd, ps, F.mono hk, r⟩
section
variable {X : Cx} {W : WX} {M : Ms} {md : List Md} {k : Nat} {x : Str} {p pos : Pos} {e : Expr} {es : List Expr} {t : TA} {f : Env → R (List D)} {m : List D → R D}
theorem call_run {sp : Sp} (h : Fd X.prog X.w X.K X.mg X.base k x sp) (hr : Room k X.A) (hx : ∀ σ, PassesAt (L2.CX X.prog X.w) X σ (WE W σ)) (ha : PA X (e :: es) t) (hg : Gl X x) (hdb : (x == ("__debug__" : Str)) = false) (he : starEach (e :: es) X.env = (false, eval e X.env) :: starEach es X.env)
    (hpl : (backTo pos (starEach es X.env)).any (·.1) = false) : PE X (.Call (.Name x p) (e :: es) [] pos) (tCallS sp (WE W) t) := by
  obtain ⟨f, fd, ps, F, hm, hk, hb⟩ := h.ex
  exact pe_callS F hr hg hm hk hb hx ha hdb he hpl
theorem PostX.we {K : PySem.W.Frag} {σ : Sg} {H F : Hp} {c : Str} {y : Option (Str × D)} (h : PostX K W σ H F c y) : PostX K (WofE (WE W σ)) [] H F c y := by
  cases y with
  | none => exact h
  | some q => obtain ⟨n, d⟩ := q; exact h
theorem Post.we {K : PySem.W.Frag} {σ : Sg} {H F : Hp} {α : Type} {P : α → Prop} {r : R α} (h : Post K W σ H F P r) : Post K (WofE (WE W σ)) [] H F P r := by
  cases r with
  | ok a => exact h
  | exc c y => exact PostX.we h
  | bad => exact h
theorem de_call (h : Fd X.prog X.w X.K X.mg X.base k x (spP X.K m)) (hr : Room k X.A) (hx : ∀ σ, PassesAt (L2.CX X.prog X.w) X σ (WE W σ)) (ha : DA X W md (e :: es) t f) (hg : Gl X x := by rfl) (hdb : (x == ("__debug__" : Str)) = false := by decide)
    (he : starEach (e :: es) X.env = (false, eval e X.env) :: starEach es X.env := by rfl) (hpl : (backTo pos (starEach es X.env)).any (·.1) = false := by rfl) : DE X W md (.Call (.Name x p) (e :: es) [] pos) (tCallS (spP X.K m) (WE W) t) (eArgs m f) :=
  ⟨call_run h hr hx ha.run hg hdb he hpl, fun G σ H F env Q rep post => ha.den G σ H F env _ rep (post.bind fun cs p1 vs H1 F1 x1 r1 => ⟨F1, cs, x1.fh, r1, Post.we (Post.extE p1 x1)⟩)⟩
theorem df_call (h : Fd X.prog X.w X.K X.mg X.base k x (spL X.K m)) (hr : Room k X.A) (hx : ∀ σ, PassesAt (L2.CX X.prog X.w) X σ (WE W σ)) (ha : DA X W md (e :: es) t f) (hg : Gl X x := by rfl) (hdb : (x == ("__debug__" : Str)) = false := by decide)
    (he : starEach (e :: es) X.env = (false, eval e X.env) :: starEach es X.env := by rfl) (hpl : (backTo pos (starEach es X.env)).any (·.1) = false := by rfl) : DFN X W md (.Call (.Name x p) (e :: es) [] pos) (tCallS (spL X.K m) (WE W) t) (eArgs m f) :=
  ⟨call_run h hr hx ha.run hg hdb he hpl, fun G σ H F env Q rep post => ha.den G σ H F env _ rep (post.bind fun cs p1 vs H1 F1 x1 r1 => ⟨F1, cs, x1.fh, r1, Post.we (Post.extN p1 x1)⟩)⟩
/-- within a comprehension nothing is let out -/
theorem pass_none {X : Cx} : ∀ σ, PassesAt (L2.CX X.prog X.w) X σ (WE W0 σ) := fun σ _ _ _ _ _ _ h => by
  obtain ⟨_, _, _, _, _, _, _, _, _, _, _, _, z⟩ := h
  exact z.elim
end

theorem start_rep {K : PySem.W.Frag} {G : Gd} {N : List Str} {vs : List V} {ds : List D} {F H : Hp} {k : Nat} (hl : ds.length = k) (hN : k ≤ N.length) (fh : Same F H) (hG : G = ⟨H, F, []⟩) (r : RpA K F vs ds) (md : List Md) (hmd : md = List.replicate N.length .v) :
    Rep K G md (start N vs) H F (startE N.length ds) := by
  subst hG
  have hv : vs.length = ds.length := r.length
  refine ⟨fh, fun a o _ e => e, Same.refl _, fun a o e => .inl e, fh, fun a ha => (by cases ha), ?_, fun i d e => ?_, fun i j p d e m1 m2 => ?_⟩
  · simp only [startE, L2.start, List.length_append, List.length_map, List.length_replicate, hv]
  · have hi : i < ds.length := by
      refine Nat.lt_of_not_le fun z => ?_
      simp only [startE] at e
      rw [List.getElem?_append_right (by simpa using z), List.getElem?_replicate] at e
      split at e <;> cases e
    have e1 : ds[i]? = some d := by
      simp only [startE] at e
      rw [List.getElem?_append_left (by simpa using hi), List.getElem?_map] at e
      cases q : ds[i]? with
      | none => rw [q] at e; cases e
      | some z => rw [q] at e; cases e; rfl
    obtain ⟨v, h1, h2⟩ := r.get e1
    have hm : md.getD i .u = .v := by
      rw [hmd, List.getD_eq_getElem?_getD, List.getElem?_replicate, if_pos (by omega)]; rfl
    rw [hm]
    refine ⟨v, ?_, h2⟩
    simp only [L2.start]
    rw [List.getElem?_append_left (by simpa [hv] using hi), List.getElem?_map, h1]; rfl
  · have : (md.getD i .u).mine = false := by
      rw [hmd, List.getD_eq_getElem?_getD, List.getElem?_replicate]
      split <;> rfl
    rw [this] at m1; cases m1
theorem rep_ext {K : PySem.W.Frag} {H F H' F' : Hp} {md : List Md} {σ : Sg} {env : Env} (r : Rep K ⟨H, F, []⟩ md σ H' F' env) : Ext H F H' F' :=
  ⟨fun a o e => r.h0 a o (by intro z; cases z) e, r.f0, r.fh, r.fr⟩
section
variable {P : Program} {w : World} {K : PySem.W.Frag} {mg : Str → Option Value} {base : Heap} {x qual : Str} {params : Arguments} {body : List Stmt} {scope : Scope} {f : Addr} {fd : FuncData} {N ps : List Str} {k : Nat} {b : Env → R Fl} {M : Ms} {mn : List Md}
/-- the context of a def's body -/
abbrev Cb (P : Program) (w : World) (K : PySem.W.Frag) (mg : Str → Option Value) (base : Heap) (N : List Str) (qual : Str) (scope : Scope) (f : Addr) (cdv : Value) (A : Around) (outer : List PySem.Env) (s : Shared) (H : Hp) (E : XK) : Cx :=
  cxOf (L2.CX P w) P w K mg base N qual scope f cdv A outer s H E
theorem fn_den {n : Nat} (F : FunD K x qual params body scope [] [] f fd) (S : FnScope N ps scope) (hn : N.length = n) (hp : ps.length ≤ n) (mo : List Md) (hmo : mo = List.replicate n .v)
    (hb : ∀ (cdv : Value) (A : Around) (outer : List PySem.Env) (s : Shared) (H : Hp) (E : XK), Room k (A.deeper (envOfC qual scope s.heap.objs.size f cdv)) →
      ∃ t, DSs (Cb P w K mg base N qual scope f cdv A outer s H E) (WofE E) ⟨[], [], [], false⟩ mo mn body t b) : FnOk P w K mg base (L2.CX P w) (k + 1) f fd ps (spP K (runF ps.length n b)) := by
  subst hn
  refine F.ok S (fun vs H Q E h => ?_) (fun cdv A outer s H vs Q E hr h => ?_)
  · obtain ⟨F0, ds, _, r, post⟩ := h
    obtain ⟨hl, _⟩ := Post.chk (c := ds.length = ps.length) post
    rw [r.length]; exact hl
  · obtain ⟨F0, ds, fh, r, post⟩ := h
    obtain ⟨hl, post⟩ := Post.chk (c := ds.length = ps.length) post
    obtain ⟨t, ht⟩ := hb cdv A outer s H E hr
    refine ⟨t, ht.run, ht.den ⟨H, F0, []⟩ (start N vs) H F0 (startE N.length ds) _ (start_rep hl hp fh rfl r mo hmo) ?_⟩
    cases q : b (startE N.length ds) with
    | exc c y => simp only [q] at post; exact post.elim
    | bad => simp only [q] at post; exact post.elim
    | ok fl =>
      simp only [q] at post
      cases fl with
      | nx e => exact fun σ H' F' s' r' => post _ H' F' (rep_ext r') .non
      | bk e => exact post.elim
      | ct e => exact post.elim
      | rt d e => exact fun σ H' F' v s' r' h => post v H' F' (rep_ext r') (by rw [if_neg Bool.false_ne_true] at h; exact h)
      | ex c y e =>
        cases y with
        | none => exact fun σ H' F' s' r' => post H' F' (rep_ext r')
        | some z => obtain ⟨nm, d⟩ := z; exact fun σ H' F' dx v s' r' nn hd rv => post H' F' dx v (rep_ext r') nn hd rv
theorem fn_denL {n : Nat} (F : FunD K x qual params body scope [] [] f fd) (S : FnScope N ps scope) (hn : N.length = n) (hp : ps.length ≤ n) (mo : List Md) (hmo : mo = List.replicate n .v)
    (hb : ∀ (cdv : Value) (A : Around) (outer : List PySem.Env) (s : Shared) (H : Hp) (E : XK), Room k (A.deeper (envOfC qual scope s.heap.objs.size f cdv)) →
      ∃ t, DSs (Cb P w K mg base N qual scope f cdv A outer s H E) (WofE E) ⟨[], [], [], true⟩ mo mn body t b) : FnOk P w K mg base (L2.CX P w) (k + 1) f fd ps (spL K (runL ps.length n b)) := by
  subst hn
  refine F.ok S (fun vs H Q E h => ?_) (fun cdv A outer s H vs Q E hr h => ?_)
  · obtain ⟨F0, ds, _, r, post⟩ := h
    obtain ⟨hl, _⟩ := Post.chk (c := ds.length = ps.length) post
    rw [r.length]; exact hl
  · obtain ⟨F0, ds, fh, r, post⟩ := h
    obtain ⟨hl, post⟩ := Post.chk (c := ds.length = ps.length) post
    obtain ⟨t, ht⟩ := hb cdv A outer s H E hr
    refine ⟨t, ht.run, ht.den ⟨H, F0, []⟩ (start N vs) H F0 (startE N.length ds) _ (start_rep hl hp fh rfl r mo hmo) ?_⟩
    cases q : b (startE N.length ds) with
    | exc c y => simp only [q] at post; exact post.elim
    | bad => simp only [q] at post; exact post.elim
    | ok fl =>
      simp only [q] at post
      cases fl with
      | nx e => exact post.elim
      | bk e => exact post.elim
      | ct e => exact post.elim
      | rt d e =>
        intro σ H' F' v s' r' h
        have h2 : FrOk K ⟨H, F0, []⟩ H' F' v d := h
        refine post v H' F' (rep_ext r') ?_
        cases d with
        | lst ds => obtain ⟨p, rfl, o, n0⟩ := h2; exact ⟨p, rfl, n0, o⟩
        | _ => exact h2
      | ex c y e =>
        cases y with
        | none => exact fun σ H' F' s' r' => post H' F' (rep_ext r')
        | some z => obtain ⟨nm, d⟩ := z; exact fun σ H' F' dx v s' r' nn hd rv => post H' F' dx v (rep_ext r') nn hd rv
/-- the def, collected -/
theorem fd_of {sp : Sp} {y : Str} (h : FnOk P w K mg base (L2.CX P w) k f fd ps sp) (hm : mg y = some (.ref f)) (F : FunD K x qual params body scope [] [] f fd)
    (hb : ∀ (kV doc pm : Value) (an : Option Addr) (cdv ct : Value) (us : List Value), us.length = ps.length → bindArgs (PySem.W.fnOf x qual params body scope .none kV doc pm an cdv ct) ⟨us, []⟩ = pure (ps.zip us)) : Fd P w K mg base k y sp :=
  ⟨f, fd, ps, h, hm, F.kp, F.bindsN hb⟩
/-- what is taken in a def's body -/
theorem body_takes {cdv : Value} {A : Around} {outer : List PySem.Env} {s : Shared} {H : Hp} {E : XK} : Takes (Cb P w K mg base N qual scope f cdv A outer s H E) (WofE E) := takes_of rfl rfl rfl rfl
theorem body_pass {cdv : Value} {A : Around} {outer : List PySem.Env} {s : Shared} {H : Hp} {E : XK} : ∀ σ, PassesAt (L2.CX (Cb P w K mg base N qual scope f cdv A outer s H E).prog (Cb P w K mg base N qual scope f cdv A outer s H E).w) (Cb P w K mg base N qual scope f cdv A outer s H E) σ (WE (WofE E) σ) := fun σ => passAt body_takes σ
theorem body_own {cdv : Value} {A : Around} {outer : List PySem.Env} {s : Shared} {H : Hp} {E : XK} : PassesOwn (model (Cb P w K mg base N qual scope f cdv A outer s H E).prog (Cb P w K mg base N qual scope f cdv A outer s H E).w) (Cb P w K mg base N qual scope f cdv A outer s H E).A (Cb P w K mg base N qual scope f cdv A outer s H E).env (Cb P w K mg base N qual scope f cdv A outer s H E).xe := passes_of rfl
end
/-! ### raise -/
def sRaise (c : Str) : Env → R Fl := fun env => .ok (.ex c none env)
theorem ds_raise {X : Cx} {W : WX} {M : Ms} {md mn : List Md} {x m : Str} {j : Nat} {p p2 pos pos' : Pos} (tk : Takes X W) (q : PySem.W.excIn X.K (He.ga X.K x) He.veBase "ValueError.__new__" = true) (gC : X.mg x = some (.ref (He.ga X.K x))) (kC : PySem.W.keepIn X.K (.ref (He.ga X.K x)) = true)
    (b1 : PySem.W.subIn X.K (.ref (He.ga X.K x)) (.type "BaseException") = some true) (b2 : PySem.W.typeIn X.K (.ref (He.ga X.K x)) = some (.type "type")) (hg : Gl X x := by rfl) (hdb : (x == ("__debug__" : Str)) = false := by decide) (hc : X.calm = true := by rfl) (hx : leM md M.x = true := by rfl) :
    DS X W M md mn (.Raise (some (.Call (.Name x p) [.Constant (.str m) j p2] [] pos')) none pos) (fun _ σ H => (fun _ H Q => Q (.ref (He.ga X.K x)) none H) σ H fun cls d H' => W cls d σ H') (sRaise x) :=
  ⟨ps_raise hc tk (pmk_own PySem.F.excBase_ValueError q gC kC (raises_own b1 b2) hg hdb), fun G σ H F env E rep post => by
    obtain ⟨F2, s2, r2⟩ := rep.weak hx
    exact post σ H F2 s2 r2⟩
/-! ### the module's facts -/
structure Mo (fa : List He.Fa) (fn : List He.DefD) (ex : PySem.W.Frag → Bool) (w : World) (K : PySem.W.Frag) (mg : Str → Option Value) : Prop where
  ex : ∃ h, K.In h ∧ h.Ns mainGlobals mg ∧ He.SaysD fa fn K ∧ ex K = true
section
variable {fa : List He.Fa} {fn : List He.DefD} {ex : PySem.W.Frag → Bool} {w : World} {K : PySem.W.Frag} {mg : Str → Option Value}
theorem Mo.glo (m : Mo fa fn ex w K mg) (i : Nat) {x : Str} (h : fa[i]? = some (.glo x) := by rfl) : mg x = some (.ref (He.ga K x)) := by
  obtain ⟨h0, KX, G, c, _⟩ := m.ex
  exact He.glo_ok KX G (c.fact i h)
theorem Mo.free (m : Mo fa fn ex w K mg) (i : Nat) {x : Str} (h : fa[i]? = some (.free x) := by rfl) : mg x = none := by
  obtain ⟨h0, KX, G, c, _⟩ := m.ex
  exact He.free_ok KX G (c.fact i h)
theorem Mo.int (m : Mo fa fn ex w K mg) (i : Nat) {x : Str} {n : Int} (h : fa[i]? = some (.int x n) := by rfl) : ∃ t, mg x = some (.int n t) := by
  obtain ⟨h0, KX, G, c, _⟩ := m.ex
  exact He.int_ok KX G (c.fact i h)
theorem Mo.str (m : Mo fa fn ex w K mg) (i : Nat) {x z : Str} (h : fa[i]? = some (.str x z) := by rfl) : ∃ t, mg x = some (.str z t) := by
  obtain ⟨h0, KX, G, c, _⟩ := m.ex
  exact He.str_ok KX G (c.fact i h)
theorem Mo.exc (m : Mo fa fn ex w K mg) (i : Nat) {x : Str} (h : fa[i]? = some (.exc x) := by rfl) : PySem.W.excIn K (He.ga K x) He.veBase "ValueError.__new__" = true ∧ PySem.W.keepIn K (.ref (He.ga K x)) = true ∧
    PySem.W.subIn K (.ref (He.ga K x)) (.type "BaseException") = some true ∧ PySem.W.typeIn K (.ref (He.ga K x)) = some (.type "type") := by
  obtain ⟨h0, KX, G, c, _⟩ := m.ex
  obtain ⟨c1, q⟩ := He.ba (c.fact i h)
  obtain ⟨c2, q⟩ := He.ba q
  obtain ⟨c3, c4⟩ := He.ba q
  exact ⟨c1, c2, of_decide_eq_true c3, of_decide_eq_true c4⟩
theorem Mo.dfn (m : Mo fa fn ex w K mg) (i : Nat) {d : He.DefD} (h : fn[i]? = some d := by rfl) : ∃ fd, FunD K d.name d.qual d.params d.body d.scope (d.dvs K) (d.kws K) (He.fAd K d.at_) fd := by
  obtain ⟨h0, KX, G, c, _⟩ := m.ex
  exact c.def_ i h
theorem Mo.more (m : Mo fa fn ex w K mg) : ex K = true := by
  obtain ⟨h0, KX, G, c, q⟩ := m.ex
  exact q
end
/-- a global int, text, tuple of texts -/
theorem de_gint {X : Cx} {W : WX} {md : List Md} {x : Str} {n : Int} {pos : Pos} (h : ∃ t, X.mg x = some (.int n t)) (hg : Gl X x := by rfl) (hd : (x == ("__debug__" : Str)) = false := by decide) : DE X W md (.Name x pos) (tC (.int n)) (eC (.int n)) := by
  obtain ⟨t, e⟩ := h
  exact de_glob hg e ⟨t, rfl⟩ (fun F => .int n) hd
theorem de_gstr {X : Cx} {W : WX} {md : List Md} {x z : Str} {pos : Pos} (h : ∃ t, X.mg x = some (.str z t)) (hz : PyData.strOk z = true := by decide +kernel) (hg : Gl X x := by rfl) (hd : (x == ("__debug__" : Str)) = false := by decide) : DE X W md (.Name x pos) (tC (.str z)) (eC (.str z)) := by
  obtain ⟨t, e⟩ := h
  exact de_glob hg e ⟨t, rfl⟩ (fun F => .str z hz) hd
theorem rpa_strs {K : PySem.W.Frag} {F : Hp} : ∀ zs : List Str, zs.all PyData.strOk = true → RpA K F ((zs.map He.Dv.str).map (He.Dv.v K)) (zs.map D.str)
  | [], _ => .nil
  | z :: zs, h => by
    rw [List.all_cons, Bool.and_eq_true] at h
    exact .cons (.str z h.1) (rpa_strs zs h.2)
/-- the module's name x is a tuple of these texts, without a dict -/
def tupG (K : PySem.W.Frag) (x : Str) (zs : List Str) : Bool := match K.lookup (He.ga K x) with
  | some ⟨.type c, none, .seq its _, _⟩ => decide (c = "tuple") && (decide (its.size ≤ sizeLine) && He.relAll ((zs.map He.Dv.str).map (He.Dv.v K)) its.toList)
  | _ => false
theorem tupG_ok {K : PySem.W.Frag} {x : Str} {zs : List Str} (h : tupG K x zs = true) (H : Hp) : TupN K H (He.ga K x) ((zs.map He.Dv.str).map (He.Dv.v K)) := by
  unfold tupG at h
  split at h
  · rename_i c its n sl e
    simp only [Bool.and_eq_true, decide_eq_true_eq] at h
    obtain ⟨h1, h2, h3⟩ := h
    exact .inr ⟨_, its, n, e, by rw [h1], rfl, rfl, h2, He.relAll_ok h3⟩
  · cases h
theorem de_gtup {X : Cx} {W : WX} {md : List Md} {x : Str} {zs : List Str} {pos : Pos} (h : X.mg x = some (.ref (He.ga X.K x))) (ht : tupG X.K x zs = true) (hz : zs.all PyData.strOk = true := by decide +kernel) (hg : Gl X x := by rfl) (hd : (x == ("__debug__" : Str)) = false := by decide) :
    DE X W md (.Name x pos) (tC (.ref (He.ga X.K x))) (eC (.tup (zs.map D.str))) :=
  de_glob hg h rfl (fun F => .tup (tupG_ok ht F) (rpa_strs zs hz)) hd
end DN
end

section
set_option Elab.async false
set_option linter.all false
set_option maxRecDepth 100000
namespace DN
open PySem PySem.Spec PyProof.Rows L2

theorem bt_len : bootBuiltins "len" = some (.builtin "len") := by decide +kernel
theorem bt_all : bootBuiltins "all" = some (.builtin "all") := by decide +kernel
theorem bt_any : bootBuiltins "any" = some (.builtin "any") := by decide +kernel
theorem bt_sum : bootBuiltins "sum" = some (.builtin "sum") := by decide +kernel
theorem bt_min : bootBuiltins "min" = some (.builtin "min") := by decide +kernel
theorem bt_max : bootBuiltins "max" = some (.builtin "max") := by decide +kernel
theorem bt_sorted : bootBuiltins "sorted" = some (.builtin "sorted") := by decide +kernel
theorem bt_int : bootBuiltins "int" = some (.type "int") := by decide +kernel
theorem bt_bool : bootBuiltins "bool" = some (.type "bool") := by decide +kernel
theorem bt_str : bootBuiltins "str" = some (.type "str") := by decide +kernel
theorem bt_tuple : bootBuiltins "tuple" = some (.type "tuple") := by decide +kernel
theorem bt_list : bootBuiltins "list" = some (.type "list") := by decide +kernel
theorem bt_set : bootBuiltins "set" = some (.type "set") := by decide +kernel

/-! ### n += i -/
def dAddI : D → D → R D
  | .int a, .int b => .ok (.int (a + b))
  | _, _ => .bad
theorem v_addI {K : PySem.W.Frag} : VOp K (rI0 fun i j => .int (i + j)) dAddI := v_int0 (fun _ _ => rfl) (fun _ _ _ => .int _) fun c d h => by
  cases c <;> cases d <;> first | rfl | exact absurd ⟨rfl, rfl⟩ (h _ _)

/-! ### t.index(n) of a tuple of ints -/
def dIndex : D → D → R D
  | .tup xs, .int k => match dints xs with
    | some ns => if k ∈ ns then .ok (.int (ns.idxOf k : Nat)) else .bad
    | none => .bad
  | _, _ => .bad
def eIdx (f g : Env → R D) : Env → R D := fun env => (f env).bind fun x => match x with
  | .tup xs => (g env).bind fun y => dIndex (.tup xs) y
  | _ => .bad
def tIndex (K : PySem.W.Frag) (to te : TE) : TE := fun σ H Q => to σ H fun x H1 => ∃ a vs, x = .ref a ∧ TupN K H1 a vs ∧ tCons te tNil σ H1 fun ws H2 => ∃ (ns : List Int) (k : Int), SqT K H2 a (ns.map V.int) ∧ ws = [.int k] ∧ k ∈ ns ∧ Q (.int (ns.idxOf k : Nat)) H2
theorem tupN_obj {X : Cx} {pins : List (Addr × Obj)} {σ : Sg} {H : Hp} {s : Shared} {a : Addr} {vs : List V} (I : Inv X pins σ H s) (h : TupN X.K H a vs) : s.TypeIs (.ref a) "tuple" ∧ ∃ ob, s.heap.get? a = some ob ∧ ob.dict = none := by
  have ht := I.tuple h.sq
  obtain ⟨its, _, p, _⟩ := ht
  refine ⟨p.typeIs, ?_⟩
  rcases h with ⟨o, h, d⟩ | ⟨o, _, _, h, _, d, _⟩
  · exact ⟨o, (I.hok a _ h).1, d⟩
  · exact ⟨o, I.kIn a o h, d⟩
section
variable {X : Cx} {W : WX} {md : List Md} {o e : Expr} {to te : TE} {fo fe : Env → R D} {apos cpos : Pos}
theorem pe_index (ho : PE X o to) (he : PE X e te) (hbase : attributeBase o "index" X.env (eval o X.env) = eval o X.env := by rfl)
    (hfew : ((backTo cpos (starEach [e] X.env)).all (fun x => !x.1) && (backToKw cpos (keywordEach [] X.env)).all (fun x => x.1.isSome)
      && decide ([e].length + ([] : List Keyword).length + (if ([] : List Keyword).isEmpty then 0 else 1) < 30)) = true := by rfl)
    (hline : (apos.endLine == cpos.line) = true := by rfl) (hs : starEach [e] X.env = (false, eval e X.env) :: starEach [] X.env := by rfl) (hplain : (backTo cpos (starEach [] X.env)).any (·.1) = false := by rfl) :
    PE X (.Call (.Attribute o "index" apos) [e] [] cpos) (tIndex X.K to te) := by
  refine ⟨fun pins s σ H Q I h => ?_⟩
  refine wpAny_Call_method_late hbase hfew hline rfl (thn (ho.run pins s σ H _ I h) fun v s1 ⟨x, H1, I1, r1, a, vs, ex, ht, q1⟩ => ?_)
  subst ex
  cases r1
  obtain ⟨h1, ob, h2, h3⟩ := tupN_obj I1 ht
  refine ⟨"tuple", "tuple.index", PySem.F.plainAttrs_tuple, PySem.F.slot_tuple_index, PySem.F.type_tuple_index, h1, fun b eb => by cases eb; exact ⟨ob, h2, h3⟩, ?_⟩
  have hA := (pa_cons he pa_nil hs).run cpos pins s1 σ H1 _ I1 q1
  rw [hs] at hA ⊢
  refine Calls.callWith_builtin (by show (false || (backTo cpos (starEach [] X.env)).any (·.1)) = false; rw [hplain] <;> rfl) (Calls.evalArgs_plain ?_)
  refine thn hA fun us s2 ⟨ws, H2, I2, r2, ns, k, hq, ek, hk, q⟩ => ?_
  subst ek
  obtain ⟨u, rfl, ru⟩ := vals1 r2
  obtain ⟨t, rfl⟩ := ru
  obtain ⟨its, rv, p, _⟩ := I2.tuple hq
  exact SeqAt.tuple_index_ints (show s2.heap.IsTuple a its.toArray from p) (intsAre_of rv) hk ⟨.int _, H2, I2.tok _, ⟨_, rfl⟩, q⟩
theorem de_index (ho : DE X W md o to fo) (he : DE X W md e te fe) (hrun : PE X o to → PE X e te → PE X (.Call (.Attribute o "index" apos) [e] [] cpos) (tIndex X.K to te) := by exact fun h1 h2 => pe_index h1 h2) :
    DE X W md (.Call (.Attribute o "index" apos) [e] [] cpos) (tIndex X.K to te) (eIdx fo fe) :=
  ⟨hrun ho.run he.run, fun G σ H F env Q rep post => by
    refine ho.den G σ H F env _ rep (post.bind fun c p1 v H1 F1 x1 r1 => ?_)
    cases r1 with
    | tup q r =>
      rename_i a vs xs
      refine ⟨a, vs, rfl, q.same x1.fh, he.den G σ H1 F1 env _ (rep.ext x1) ((Post.extE p1 x1).bind fun d p2 u H2 F2 x2 r2 => ?_)⟩
      cases r2 with
      | int k =>
        cases hn : dints xs with
        | none => simp only [dIndex, hn] at p2; exact p2.elim
        | some ns =>
          simp only [dIndex, hn] at p2
          obtain ⟨hk, p2⟩ := Post.chk (c := k ∈ ns) p2
          have ev := r.toInts hn
          subst ev
          exact ⟨ns, k, seqT (x1.fh.trans x2.hh) q.sq, rfl, hk, p2 _ H2 F2 x2 (.int _)⟩
      | _ => exact p2.elim
    | _ => exact p1.elim⟩
end

/-! ### an own list is lent to an expression whose value is a scalar -/
def D.scal : D → Bool
  | .non => true
  | .bl _ => true
  | .int _ => true
  | .str _ => true
  | _ => false
def eScal (f : Env → R D) : Env → R D := fun env => (f env).bind fun d => if d.scal = true then .ok d else .bad
theorem Rp.scal {K : PySem.W.Frag} {F F' : Hp} {v : V} {d : D} (h : Rp K F v d) (hs : d.scal = true) : Rp K F' v d := by
  cases h with
  | non => exact .non
  | bl b => exact .bl b
  | int i => exact .int i
  | str x hx => exact .str x hx
  | _ => cases hs
section
variable {X : Cx} {W : WX} {md : List Md} {e : Expr} {te : TE} {fe : Env → R D}
theorem borrow_ext {H F F2 H' F' : Hp} (fh : Same F H) (s : Same F F2) (x : Ext H F2 H' F') : Ext H F H' F := ⟨x.hh, Same.refl _, fun b o e => x.hh _ _ (fh _ _ e), fun a o e => .inl e⟩
theorem PostX.back {K : PySem.W.Frag} {σ : Sg} {H F F2 : Hp} {c : Str} (fh : Same F H) (s : Same F F2) (h : PostX K W σ H F c none) : PostX K W σ H F2 c none := fun H' F' x => h H' F (borrow_ext fh s x)
/-- what is raised bears no attribute -/
def R.plain {α : Type} : R α → R α
  | .exc _ (some _) => .bad
  | m => m
def eBor (f : Env → R D) : Env → R D := fun env => (eScal f env).plain
def eBorT (f : Env → R Bool) : Env → R Bool := fun env => (f env).plain
theorem de_borrow (m1 : List Md) (h : DE X W m1 e te fe) (hl : leM md m1 = true := by rfl) : DE X W md e te (eBor fe) :=
  ⟨h.run, fun G σ H F env Q rep post => by
    obtain ⟨F2, s2, r2⟩ := rep.weak hl
    refine h.den G σ H F2 env Q r2 ?_
    unfold eBor eScal at post
    cases q : fe env with
    | bad => simp only [q, R.bind, R.plain] at post; exact post.elim
    | exc c y =>
      cases y with
      | none => simp only [q, R.bind, R.plain] at post; exact PostX.back rep.fh s2 post
      | some z => simp only [q, R.bind, R.plain] at post; exact post.elim
    | ok d =>
      simp only [q, R.bind] at post
      intro v H' F' x r
      by_cases hs : d.scal = true
      · rw [if_pos hs] at post
        exact post v H' F (borrow_ext rep.fh s2 x) (r.scal hs)
      · rw [if_neg hs] at post; exact post.elim⟩
theorem dt_borrow (m1 : List Md) {tt : TT} {ft : Env → R Bool} (h : DT X W m1 e tt ft) (hl : leM md m1 = true := by rfl) : DT X W md e tt (eBorT ft) :=
  ⟨h.run, fun G σ H F env Q rep post => by
    obtain ⟨F2, s2, r2⟩ := rep.weak hl
    refine h.den G σ H F2 env Q r2 ?_
    unfold eBorT at post
    cases q : ft env with
    | bad => simp only [q, R.plain] at post; exact post.elim
    | exc c y =>
      cases y with
      | none => simp only [q, R.plain] at post; exact PostX.back rep.fh s2 post
      | some z => simp only [q, R.plain] at post; exact post.elim
    | ok d =>
      simp only [q, R.plain] at post
      exact fun H' F' x => post H' F (borrow_ext rep.fh s2 x)⟩
end
/-! ### an own list plus another one -/
def eOwnCat (i : Nat) (f : Env → R D) : Env → R D := fun env => match env[i]? with
  | some (some (.lst xs)) => (f env).bind fun d => dCat (.lst xs) d
  | _ => .bad
theorem df_ownCat {X : Cx} {W : WX} {md : List Md} {e : Expr} {te : TE} {fe : Env → R D} {pos pos' : Pos} (i : Nat) {x : Str} (he : DE X W md e te fe) (hm : (md.getD i .u).mine = true := by rfl) (hN : X.N[i]? = some x := by rfl) (hv : Vis X.env.scope x := by first | exact Or.inl rfl | exact Or.inr (Or.inl rfl) | exact Or.inr (Or.inr rfl))
    (hd : (x == ("__debug__" : Str)) = false := by decide) (hcd : (x == ("__classdict__" : Str)) = false := by decide) : DF X W md (.BinOp (.Name x pos') .Add e pos) (tOp rCat (tVar i) te) (eOwnCat i fe) :=
  ⟨pe_op op_cat (pe_var hN hv hd hcd) he.run, fun G σ H F env Q rep post => by
    unfold eOwnCat at post
    cases h : env[i]? with
    | none => rw [h] at post; exact post.elim
    | some o =>
      rw [h] at post
      cases o with
      | none => exact post.elim
      | some d =>
        obtain ⟨q, vs, ds, rfl, h1, h2, h3, h4⟩ := rep.own hm h
        refine ⟨.ref q, h1, he.den G σ H F env _ rep (Post.bind post fun d p1 v H1 F1 x1 r1 => ?_)⟩
        cases r1 with
        | lst g1 g2 =>
          rename_i b ws es
          obtain ⟨hl, p1⟩ := Post.chk (c := ds.length + es.length ≤ sizeLine) p1
          exact ⟨q, b, vs, ws, rfl, rfl, x1.hh _ _ h2, x1.fh _ _ g1, by rw [h4.length, g2.length]; exact hl, fun p np => QF.ext (K := X.K) (d := .lst (ds ++ es)) p1 x1 p _ F1 (Ext.mine x1.fh np) np ⟨⟨_, _, rfl, upd_same, (h4.mono x1.ff).append g2⟩, x1.fh.free np⟩⟩
        | _ => exact p1.elim⟩

/-! ### enumerate, zip -/
def enumD (xs : List D) : List D := xs.zipIdx.map fun p => .pr [.int (p.2 : Nat), p.1]
def dEnum : List D → R (List D)
  | [.lst xs] => .ok (enumD xs)
  | [.tup xs] => .ok (enumD xs)
  | _ => .bad
def zipD (xs ys : List D) : List D := (xs.zip ys).map fun p => .pr [p.1, p.2]
def dZip : List D → R (List D)
  | [.lst xs, .lst ys] => .ok (zipD xs ys)
  | [.tup xs, .tup ys] => .ok (zipD xs ys)
  | _ => .bad
theorem enumD_get (xs : List D) (i : Nat) : (enumD xs)[i]? = xs[i]?.map fun x => .pr [.int (i : Nat), x] := by
  simp only [enumD, List.getElem?_map, List.getElem?_zipIdx, Option.map_map]
  cases xs[i]? with
  | none => rfl
  | some x => simp
theorem zipD_get (xs ys : List D) (i : Nat) (x y : D) (hx : xs[i]? = some x) (hy : ys[i]? = some y) : (zipD xs ys)[i]? = some (.pr [x, y]) := by
  simp only [zipD, List.getElem?_map]
  rw [(List.getElem?_zip_eq_some (z := (x, y))).mpr ⟨hx, hy⟩]; rfl
/-- the tuple at a, each item in a new pair -/
def IteT (K : PySem.W.Frag) (a : Addr) : It :=
  ⟨fun i H => ∃ (xs : List V) (x : V), SqT K H a xs ∧ xs[i]? = some x, fun i H v H' => ∃ T x, v = .ref T ∧ H T = none ∧ H' = upd H T (.tup [.int (i : Nat), x]) ∧ ∀ xs, SqT K H a xs → xs[i]? = some x, fun i H => ∃ xs : List V, SqT K H a xs ∧ xs.length = i⟩

theorem turn_enumT {P : Program} {w : World} {K : PySem.W.Frag} {elts : List Expr} {kk : Nat} {tpos : Pos} (a e it : Addr) :
    Turn P w K (.Tuple elts kk tpos) (IteT K a) [e, it] e (fun i h => (∃ old, IsEnum h e it ((i : Nat) : Int) old) ∧ h.IsTupleIter it a i ∧ e ≠ it) where
  mem := by simp
  obj := fun i h st b hb => by
    obtain ⟨⟨old, he⟩, ⟨o, ho, hc, hd⟩, _⟩ := st
    rcases (show b = e ∨ b = it by simpa using hb) with z | z
    · rw [z]; exact ⟨_, he, fun v q => nomatch q⟩
    · rw [z]; exact ⟨o, ho, fun v q => by rw [hd] at q; cases q⟩
  keep := fun i h h' st k => by
    obtain ⟨⟨old, he⟩, hi, hne⟩ := st
    exact ⟨⟨old, k e (by simp) _ he⟩, hi.at fun o q => k it (by simp) o q, hne⟩
  item := by
    intro X hP hw hK hc i pins s σ H E I hf st hg
    subst hP hw hK
    obtain ⟨⟨old, he⟩, hit, hne⟩ := st
    obtain ⟨xs, x, hq, hx⟩ := hg
    obtain ⟨its, rv, p, hz⟩ := I.tuple hq
    obtain ⟨u, hu, ru⟩ := rv.get hx
    have hel : e < s.heap.objs.size := Heap.lt_size he
    obtain ⟨oi, hoi, hci, hdi⟩ := id hit
    have hil : it < s.heap.objs.size := Heap.lt_size hoi
    obtain ⟨oa, hoa, hca, _⟩ := id p
    have nai : a ≠ it := fun z => by
      rw [z, hoi] at hoa; cases hoa; rw [hci] at hca; exact absurd hca (by decide)
    have nea : e ≠ a := fun z => by
      rw [← z, show s.heap.get? e = _ from he] at hoa; cases hoa; exact absurd (show Value.type "enumerate" = Value.type "tuple" from hca) (by decide)
    have D := Draws.tuple (prog := X.prog) (w := X.w) (A := X.A.in1) (I.ok.hd hc) it a nai its.toArray
    have hlt : i < its.toArray.size := by
      rw [List.size_toArray]
      exact (List.getElem?_eq_some_iff.mp hu).1
    refine wpAny_pyNext_enum_itemD D he ⟨hit, p⟩ hlt hne (by simp [hne, nea]) fun x' h' tk hP ho hst' hT hsz hk => ?_
    have ex : x' = u := by
      have q1 : its[i]? = some x' := by simpa using hP
      rw [hu] at q1; cases q1; rfl
    subst ex
    refine ⟨_, rfl, wpAny_letOwnedTupleGo_enum (s := { s with heap := h', toks := tk + 1 }) ho fun h'' he' sb => ?_⟩
    have hT2 : h''.get? s.heap.objs.size = some { cls := .type "tuple", data := .seq #[.int i tk, x'] } := (sb.2 _ (Nat.ne_of_gt hel)).trans hT
    have new : ObjOk X.prog X.w (upd H s.heap.objs.size (.tup [.int (i : Nat), x])) h'' s.heap.objs.size (.tup [.int (i : Nat), x]) :=
      ⟨by show 2 ≤ sizeLine; decide, [.int i tk, x'], .cons ⟨_, rfl⟩ (.cons ru .nil), ⟨_, hT2, rfl, _, rfl⟩⟩
    have I1 : Inv X pins σ (upd H s.heap.objs.size (.tup [.int (i : Nat), x])) { s with heap := h'', toks := tk + 1 } :=
      I.turnedNew (ch := [e, it]) (fun b ob hb q => (sb.2 b (fun z => hb (by simp [z]))).trans (hk b ob (fun z => hb (by simp [z])) (fun z => hb (by simp [z])) q)) hf (Nat.le_refl _) new
    refine ⟨.ref s.heap.objs.size, _, I1, rfl, ⟨_, x, rfl, I.hok.fresh (Nat.le_refl _), rfl, fun ys hy => by rw [I.tuple_inj hy hq]; exact hx⟩, ⟨⟨x', ?_⟩, hst'.1.at fun o q => (sb.2 it (Ne.symm hne)).trans q, hne⟩, fun b hb => ?_⟩
    · have e1 : ((i + 1 : Nat) : Int) = (i : Int) + 1 := by omega
      rw [e1]; exact he'
    · have hb' : b < s.heap.objs.size := by
        rcases (show b = e ∨ b = it by simpa using hb) with z | z
        · rw [z]; exact hel
        · rw [z]; exact hil
      rw [upd_ne (Nat.ne_of_lt hb')]
      exact (hf b hb).1
  done := by
    intro X hP hw hK hc i pins s σ H E I hf st hg
    subst hP hw hK
    obtain ⟨⟨old, he⟩, hit, hne⟩ := st
    obtain ⟨xs, hq, hx⟩ := hg
    obtain ⟨its, rv, p, hz⟩ := I.tuple hq
    obtain ⟨f0, f1, f2, f3, f4, f5⟩ := hf it (by simp)
    obtain ⟨oi, hoi, hci, hdi⟩ := id hit
    obtain ⟨oa, hoa, hca, _⟩ := id p
    have nai : a ≠ it := fun z => by
      rw [z, hoi] at hoa; cases hoa; rw [hci] at hca; exact absurd hca (by decide)
    have D := Draws.tuple (prog := X.prog) (w := X.w) (A := X.A.in1) (I.ok.hd hc) it a nai its.toArray
    have en : its.toArray.size = i := by rw [List.size_toArray, ← rv.length]; exact hx
    exact wpAny_pyNext_enum_endD D he ⟨by rw [en]; exact hit, p⟩ fun h' eb => ⟨rfl, I.turned (t' := s.toks) (fun b o hb q => eb b o hb q) f0 f1 f3 f4 f5⟩
  self := fun A i s Q E st h => by
    obtain ⟨⟨_, he⟩, _⟩ := st
    exact wpAny_pyIter_enum he h
set_option maxHeartbeats 1000000 in
theorem meets_enum1 {v : Value} {o : Obj} {H : Heap → Prop} (B : Begins v o H) :
    Meets (Builtin.«enumerate.__new__» ⟨[.type "enumerate", v], []⟩) (fun _ R s => H s.heap ∧
      R (.ok (.ret (.ref (s.heap.push o).objs.size))) { s with heap := (s.heap.push o).push { cls := .type "enumerate", data := .fields #[.none, .bool false, .ref s.heap.objs.size, rawInt 0, .none, .none] } }) :=
  .of_wp fun prog w A R s h => by
    obtain ⟨hp, g, d, tk, os⟩ := s; obtain ⟨h1, h⟩ := h
    have hsub := sub_enumerate
    have q1 : ∀ {A' : Around} {E : Value → Shared → Prop} {Q : Value → Shared → Prop}, Q (.ref hp.objs.size) ⟨hp.push o, g, d, tk, os⟩ → wpAny (model prog w) A' (pyIter v) Q E ⟨hp, g, d, tk, os⟩ :=
      fun q => B.iter prog w _ _ ⟨hp, g, d, tk, os⟩ _ h1 q
    wp_walk using q1
    refine wpAny_stack_any fun st => wpAny_pure ?_
    split
    · rename_i c _ _ _ _ _
      cases (c == Value.type "enumerate")
      · wp_walk using q1
        exact ⟨_, rfl, h⟩
      · wp_walk using q1
        exact ⟨_, rfl, h⟩
    · wp_walk using q1
      exact ⟨_, rfl, h⟩
theorem call_enumT {prog : Program} {w : World} {A : Around} {E : Value → Shared → Prop} {s : Shared} {t : Addr} {items : Array Value} {Q : Value → Shared → Prop} (hT : s.heap.IsTuple t items)
    (h : ∀ h', IsEnum h' (s.heap.objs.size + 1) s.heap.objs.size 0 .none → h'.IsTupleIter s.heap.objs.size t 0 → h'.objs.size = s.heap.objs.size + 2 →
      (∀ b o, s.heap.get? b = some o → h'.get? b = some o) → Q (.ref (s.heap.objs.size + 1)) { s with heap := h' }) :
    wpAny (model prog w) A (call (.type "enumerate") [.ref t]) Q E s := by
  refine callType_new F.called_enumerate (by decide) (F.typeCall_enumerate_1 _) (F.newCall_enumerate_1 _) (fun obj => F.args_object_init_2 obj _) F.entry_enumerate_new
    (meets_enum1 (begins_tuple t items)) ⟨hT, ?_⟩
  have hz : (s.heap.push { cls := .type "tuple_iterator", data := .fields #[.ref t, .int 0 0] }).objs.size = s.heap.objs.size + 1 := Heap.size_push ..
  show _ ∧ _
  rw [hz]
  have he : IsEnum ((s.heap.push { cls := .type "tuple_iterator", data := .fields #[.ref t, .int 0 0] }).push
      { cls := .type "enumerate", data := .fields #[.none, .bool false, .ref s.heap.objs.size, rawInt 0, .none, .none] }) (s.heap.objs.size + 1) s.heap.objs.size 0 .none := by
    have := Heap.get?_push_size (s.heap.push { cls := .type "tuple_iterator", data := .fields #[.ref t, .int 0 0] })
      (o := { cls := .type "enumerate", data := .fields #[.none, .bool false, .ref s.heap.objs.size, rawInt 0, .none, .none] }) rfl
    rw [hz] at this; exact this
  refine ⟨⟨_, he, rfl⟩, h _ he ⟨_, Heap.get?_push_of_some _ (Heap.get?_push_size _ rfl), rfl, rfl⟩ (by rw [Heap.size_push, hz]) fun b o x => Heap.get?_push_of_some _ (Heap.get?_push_of_some _ x)⟩
def iEnumA (K : PySem.W.Frag) (ta : TA) : TI := fun σ H R => ta σ H fun vs H1 => ∃ a xs, vs = [.ref a] ∧ ((SqL K H1 a xs ∧ R (Ite K a) H1) ∨ (SqT K H1 a xs ∧ R (IteT K a) H1))
theorem pi_enumA {X : Cx} {e : Expr} {ta : TA} {p pos tpos : Pos} {elts : List Expr} {kk : Nat} (hg : Gl X "enumerate") (hm : X.mg "enumerate" = none) (ha : PA X [e] ta) (hs : starEach [e] X.env = [(false, eval e X.env)]) :
    PI X (.Tuple elts kk tpos) (.Call (.Name "enumerate" p) [e] [] pos) (iEnumA X.K ta) := by
  refine ⟨fun pins s σ H R I h => ?_⟩
  refine Call_ (ld_blt I hg hm boot_enumerate (PyProof.Rows.callWith_type1 (thn (ha.run pos pins s σ H _ I h) fun us s1 ⟨vs, H1, I1, r1, q1⟩ => ?_) hs rfl))
  obtain ⟨a, xs, ex, q1⟩ := q1
  subst ex
  obtain ⟨u, rfl, ru⟩ := vals1 r1
  cases ru
  have fp : ∀ (b : Addr), b = s1.heap.objs.size + 1 ∨ b = s1.heap.objs.size → FpOk X pins H1 b := fun b e' => by
    have hle : s1.heap.objs.size ≤ b := by
      rcases e' with z | z
      · rw [z]; exact Nat.le_add_right _ _
      · rw [z]; exact Nat.le_refl _
    exact I1.fpOk hle (I1.hok.fresh hle)
  rcases q1 with ⟨hq, q⟩ | ⟨hq, q⟩
  · obtain ⟨its, rv, p', hz⟩ := I1.list hq
    refine call_enumerate_list p'.isList fun h' he hit hsz hk => wpAny_pyIter_enum he ?_
    exact ⟨s1.heap.objs.size + 1, [s1.heap.objs.size + 1, s1.heap.objs.size], _, _, H1, rfl, I1.kept (t' := s1.toks) hk, turn_enum a (s1.heap.objs.size + 1) s1.heap.objs.size, ⟨⟨.none, he⟩, hit, Nat.succ_ne_self _⟩, fun b hb => fp b (by simpa using hb), q⟩
  · obtain ⟨its, rv, p', hz⟩ := I1.tuple hq
    refine call_enumT (show s1.heap.IsTuple a its.toArray from p') fun h' he hit hsz hk => wpAny_pyIter_enum he ?_
    exact ⟨s1.heap.objs.size + 1, [s1.heap.objs.size + 1, s1.heap.objs.size], _, _, H1, rfl, I1.kept (t' := s1.toks) hk, turn_enumT a (s1.heap.objs.size + 1) s1.heap.objs.size, ⟨⟨.none, he⟩, hit, Nat.succ_ne_self _⟩, fun b hb => fp b (by simpa using hb), q⟩
theorem pair_yld {K : PySem.W.Frag} {H F1 : Hp} {T : Addr} {x y : V} {c d : D} (f2 : Same F1 H) (nT : H T = none) (rx : Rp K F1 x c) (ry : Rp K F1 y d) : Ext H F1 (upd H T (.tup [x, y])) (upd F1 T (.tup [x, y])) ∧ Rp K (upd F1 T (.tup [x, y])) (.ref T) (.pr [c, d]) :=
  ⟨Ext.new f2 nT, .pr (SqT.of upd_same) (.cons (rx.mono (same_upd (f2.free nT))) (.cons (ry.mono (same_upd (f2.free nT))) .nil))⟩
theorem ite_ok {K : PySem.W.Frag} {F : Hp} {a : Addr} {vs : List V} {ds : List D} (h : F a = some (.lst vs)) (r : RpA K F vs ds) : ItOk K (Ite K a) (fun H => Same F H) F (enumD ds) where
  go := fun i H c hi => ⟨vs, vs[i]'(by rw [r.length]; simpa [enumD] using hi), SqL.of (c _ _ h), List.getElem?_eq_getElem _⟩
  yld := fun i H F1 x H' c hi f1 f2 y => by
    obtain ⟨T, x', rfl, nT, rfl, y⟩ := y
    obtain ⟨d, h1, h2⟩ := r.getV (y vs (SqL.of (c _ _ h)))
    obtain ⟨q1, q2⟩ := pair_yld f2 nT (.int (i : Nat)) (h2.mono f1)
    exact ⟨_, _, by rw [enumD_get, h1]; rfl, q1, q2⟩
  stop := fun H c => ⟨vs, SqL.of (c _ _ h), by rw [r.length]; simp [enumD]⟩
theorem iteT_ok {K : PySem.W.Frag} {F : Hp} {a : Addr} {vs : List V} {ds : List D} (h : SqT K F a vs) (r : RpA K F vs ds) : ItOk K (IteT K a) (fun H => Same F H) F (enumD ds) where
  go := fun i H c hi => ⟨vs, vs[i]'(by rw [r.length]; simpa [enumD] using hi), seqT c h, List.getElem?_eq_getElem _⟩
  yld := fun i H F1 x H' c hi f1 f2 y => by
    obtain ⟨T, x', rfl, nT, rfl, y⟩ := y
    obtain ⟨d, h1, h2⟩ := r.getV (y vs (seqT c h))
    obtain ⟨q1, q2⟩ := pair_yld f2 nT (.int (i : Nat)) (h2.mono f1)
    exact ⟨_, _, by rw [enumD_get, h1]; rfl, q1, q2⟩
  stop := fun H c => ⟨vs, seqT c h, by rw [r.length]; simp [enumD]⟩
section
variable {X : Cx} {W : WX} {md : List Md} {e e2 : Expr} {ta : TA} {fa : Env → R (List D)} {p pos tpos : Pos} {elts : List Expr} {kk : Nat}
theorem di_enum (hm : X.mg "enumerate" = none) (ha : DA X W md [e] ta fa) (hg : Gl X "enumerate" := by rfl) (hs : starEach [e] X.env = [(false, eval e X.env)] := by rfl) : DI X W md (.Tuple elts kk tpos) (.Call (.Name "enumerate" p) [e] [] pos) (iEnumA X.K ta) (eItA dEnum fa) :=
  ⟨pi_enumA hg hm ha.run hs, fun G σ H F env Q rep post => ha.den G σ H F env _ rep (post.bind fun cs p1 vs H1 F1 x1 r1 => by
    unfold dEnum at p1
    split at p1
    · obtain ⟨v, rfl, rr⟩ := r1.one
      cases rr with
      | lst q r => exact ⟨_, _, rfl, .inl ⟨SqL.of (x1.fh _ _ q), p1 _ H1 F1 x1 (ite_ok q r)⟩⟩
    · obtain ⟨v, rfl, rr⟩ := r1.one
      cases rr with
      | tup q r => exact ⟨_, _, rfl, .inr ⟨seqT x1.fh q.sq, p1 _ H1 F1 x1 (iteT_ok q.sq r)⟩⟩
    · exact p1.elim)⟩
theorem itz_ok {K : PySem.W.Frag} {F : Hp} {a b : Addr} {vs ws : List V} {ds es : List D} (h : F a = some (.lst vs)) (h' : F b = some (.lst ws)) (r : RpA K F vs ds) (r' : RpA K F ws es) : ItOk K (Itz K a b) (fun H => Same F H) F (zipD ds es) where
  go := fun i H c hi => by
    have h2 : i < ds.length ∧ i < es.length := by
      have : i < min ds.length es.length := by simpa [zipD] using hi
      omega
    exact ⟨vs, ws, vs[i]'(by rw [r.length]; exact h2.1), ws[i]'(by rw [r'.length]; exact h2.2), SqL.of (c _ _ h), SqL.of (c _ _ h'), List.getElem?_eq_getElem _, List.getElem?_eq_getElem _⟩
  yld := fun i H F1 x H' c hi f1 f2 y => by
    obtain ⟨T, x', y', rfl, nT, rfl, y1, y2⟩ := y
    obtain ⟨d, g1, g2⟩ := r.getV (y1 vs (SqL.of (c _ _ h)))
    obtain ⟨e, g3, g4⟩ := r'.getV (y2 ws (SqL.of (c _ _ h')))
    obtain ⟨q1, q2⟩ := pair_yld f2 nT (g2.mono f1) (g4.mono f1)
    exact ⟨_, _, zipD_get ds es i d e g1 g3, q1, q2⟩
  stop := fun H c => ⟨vs, ws, SqL.of (c _ _ h), SqL.of (c _ _ h'), by
    have : (zipD ds es).length = min ds.length es.length := by simp [zipD]
    rw [r.length, r'.length, this]; omega⟩
theorem itzT_ok {K : PySem.W.Frag} {F : Hp} {a b : Addr} {vs ws : List V} {ds es : List D} (h : SqT K F a vs) (h' : SqT K F b ws) (r : RpA K F vs ds) (r' : RpA K F ws es) : ItOk K (RZ.ItzT K a b) (fun H => Same F H) F (zipD ds es) where
  go := fun i H c hi => by
    have h2 : i < ds.length ∧ i < es.length := by
      have : i < min ds.length es.length := by simpa [zipD] using hi
      omega
    exact ⟨vs, ws, vs[i]'(by rw [r.length]; exact h2.1), ws[i]'(by rw [r'.length]; exact h2.2), seqT c h, seqT c h', List.getElem?_eq_getElem _, List.getElem?_eq_getElem _⟩
  yld := fun i H F1 x H' c hi f1 f2 y => by
    obtain ⟨T, x', y', rfl, nT, rfl, y1, y2⟩ := y
    obtain ⟨d, g1, g2⟩ := r.getV (y1 vs (seqT c h))
    obtain ⟨e, g3, g4⟩ := r'.getV (y2 ws (seqT c h'))
    obtain ⟨q1, q2⟩ := pair_yld f2 nT (g2.mono f1) (g4.mono f1)
    exact ⟨_, _, zipD_get ds es i d e g1 g3, q1, q2⟩
  stop := fun H c => ⟨vs, ws, seqT c h, seqT c h', by
    have : (zipD ds es).length = min ds.length es.length := by simp [zipD]
    rw [r.length, r'.length, this]; omega⟩
theorem di_zip (hm : X.mg "zip" = none) (ha : DA X W md [e, e2] ta fa) (hg : Gl X "zip" := by rfl) (hs : starEach [e, e2] X.env = (false, eval e X.env) :: starEach [e2] X.env := by rfl) (hpl : (backTo pos (starEach [e2] X.env)).any (·.1) = false := by rfl) :
    DI X W md (.Tuple elts kk tpos) (.Call (.Name "zip" p) [e, e2] [] pos) (RZ.iZipA X.K ta) (eItA dZip fa) :=
  ⟨RZ.pi_zipA hg hm ha.run hs hpl, fun G σ H F env Q rep post => ha.den G σ H F env _ rep (post.bind fun cs p1 vs H1 F1 x1 r1 => by
    unfold dZip at p1
    split at p1
    · obtain ⟨v, w, rfl, r2, r3⟩ := r1.two
      cases r2 with
      | lst q r =>
        cases r3 with
        | lst q' r' => exact ⟨_, _, _, _, rfl, .inl ⟨SqL.of (x1.fh _ _ q), SqL.of (x1.fh _ _ q'), p1 _ H1 F1 x1 (itz_ok q q' r r')⟩⟩
    · obtain ⟨v, w, rfl, r2, r3⟩ := r1.two
      cases r2 with
      | tup q r =>
        cases r3 with
        | tup q' r' => exact ⟨_, _, _, _, rfl, .inr ⟨seqT x1.fh q.sq, seqT x1.fh q'.sq, p1 _ H1 F1 x1 (itzT_ok q.sq q'.sq r r')⟩⟩
    · exact p1.elim)⟩
end

/-! ### a, b, .. = x, y, .. by a tuple -/
section
variable {X : Cx} {W : WX} {M : Ms} {md : List Md} {e1 e2 e3 e4 : Expr} {t1 t2 t3 t4 : TE} {f1 f2 f3 f4 : Env → R D}
theorem ds_unp2 (i j : Nat) {m1 m2 : Md} {x y : Str} {px py pt pos : Pos} {kt k2 : Nat} {pt2 : Pos} (nd : X.N.Nodup) (h1 : DV X W md m1 e1 t1 f1) (h2 : DV X W md m2 e2 t2 f2)
    (hw : swappedStores [.Tuple [.Name x px, .Name y py] kt pt] (.Tuple [e1, e2] k2 pt2) X.env = pure none := by rfl) (hm1 : m1 = .v ∨ m1 = .o := by first | exact .inl rfl | exact .inr rfl) (hm2 : m2 = .v ∨ m2 = .o := by first | exact .inl rfl | exact .inr rfl)
    (hi : X.N.Nodup → PG X (.Name x px) (gName i) := by exact fun nd => pg_name nd rfl (by first | exact Or.inl rfl | exact Or.inr rfl)) (hj : X.N.Nodup → PG X (.Name y py) (gName j) := by exact fun nd => pg_name nd rfl (by first | exact Or.inl rfl | exact Or.inr rfl))
    (hli : i < md.length := by decide) (hlj : j < md.length := by decide) (hq : leM md M.x = true := by rfl) (hc : X.calm = true := by rfl)
    (ha1 : starEach [e1, e2] X.env = (false, eval e1 X.env) :: starEach [e2] X.env := by rfl) (ha2 : starEach [e2] X.env = (false, eval e2 X.env) :: starEach [] X.env := by rfl)
    (hs : swapsWithSole [.Tuple [.Name x px, .Name y py] kt pt] (.Tuple [e1, e2] k2 pt2) pos.line X.env = pure false := by rfl) :
    DS X W M md ((md.set i m1).set j m2) (.Assign [.Tuple [.Name x px, .Name y py] kt pt] (.Tuple [e1, e2] k2 pt2) pos) (tAsg (tTup (tCons t1 (tCons t2 tNil))) (gTup X.K 2 (gCons (gName i) (gCons (gName j) gNil)))) (sPar2 i j f1 f2) := by
  refine ⟨ps_asg (pe_tup (pa_cons h1.run (pa_cons h2.run pa_nil ha2) ha1)) (pg_tup hc (pgs_cons (hi nd) (pgs_cons (hj nd) pgs_nil))) hs hw, fun G σ H F env E rep post => ?_⟩
  refine h1.den G σ H F env _ rep (post.expr rep hq fun a p1 v H1 F1 x1 s1 => ?_)
  refine h2.den G σ H1 F1 env _ (rep.ext x1) ((PostS.more p1 x1.ff).expr (rep.ext x1) hq fun b p2 w H2 F2 x2 s2 => ?_)
  refine ⟨by show 2 ≤ sizeLine; decide, fun T nT => ⟨T, _, rfl, SqT.of upd_same, rfl, v, _, rfl, w, _, rfl, rfl, ?_⟩⟩
  have lj : j < (md.set i m1).length := by rw [List.length_set]; exact hlj
  exact p2 _ _ F2 x2.ff (((rep.place hli hm1 x1 s1).place lj hm2 x2 s2).ext (Ext.mine x2.fh nT))
theorem ds_unp3 (i j l : Nat) {m1 m2 m3 : Md} {x y z : Str} {px py pz pt pos : Pos} {kt k2 : Nat} {pt2 : Pos} (nd : X.N.Nodup) (h1 : DV X W md m1 e1 t1 f1) (h2 : DV X W md m2 e2 t2 f2) (h3 : DV X W md m3 e3 t3 f3)
    (hw : swappedStores [.Tuple [.Name x px, .Name y py, .Name z pz] kt pt] (.Tuple [e1, e2, e3] k2 pt2) X.env = pure none := by rfl) (hm1 : m1 = .v ∨ m1 = .o := by first | exact .inl rfl | exact .inr rfl) (hm2 : m2 = .v ∨ m2 = .o := by first | exact .inl rfl | exact .inr rfl) (hm3 : m3 = .v ∨ m3 = .o := by first | exact .inl rfl | exact .inr rfl)
    (hi : X.N.Nodup → PG X (.Name x px) (gName i) := by exact fun nd => pg_name nd rfl (by first | exact Or.inl rfl | exact Or.inr rfl)) (hj : X.N.Nodup → PG X (.Name y py) (gName j) := by exact fun nd => pg_name nd rfl (by first | exact Or.inl rfl | exact Or.inr rfl)) (hk : X.N.Nodup → PG X (.Name z pz) (gName l) := by exact fun nd => pg_name nd rfl (by first | exact Or.inl rfl | exact Or.inr rfl))
    (hli : i < md.length := by decide) (hlj : j < md.length := by decide) (hll : l < md.length := by decide) (hq : leM md M.x = true := by rfl) (hc : X.calm = true := by rfl)
    (ha1 : starEach [e1, e2, e3] X.env = (false, eval e1 X.env) :: starEach [e2, e3] X.env := by rfl) (ha2 : starEach [e2, e3] X.env = (false, eval e2 X.env) :: starEach [e3] X.env := by rfl) (ha3 : starEach [e3] X.env = (false, eval e3 X.env) :: starEach [] X.env := by rfl)
    (hs : swapsWithSole [.Tuple [.Name x px, .Name y py, .Name z pz] kt pt] (.Tuple [e1, e2, e3] k2 pt2) pos.line X.env = pure false := by rfl) :
    DS X W M md (((md.set i m1).set j m2).set l m3) (.Assign [.Tuple [.Name x px, .Name y py, .Name z pz] kt pt] (.Tuple [e1, e2, e3] k2 pt2) pos) (tAsg (tTup (tCons t1 (tCons t2 (tCons t3 tNil)))) (gTup X.K 3 (gCons (gName i) (gCons (gName j) (gCons (gName l) gNil))))) (sPar3 i j l f1 f2 f3) := by
  refine ⟨ps_asg (pe_tup (pa_cons h1.run (pa_cons h2.run (pa_cons h3.run pa_nil ha3) ha2) ha1)) (pg_tup hc (pgs_cons (hi nd) (pgs_cons (hj nd) (pgs_cons (hk nd) pgs_nil)))) hs hw, fun G σ H F env E rep post => ?_⟩
  refine h1.den G σ H F env _ rep (post.expr rep hq fun a p1 v H1 F1 x1 s1 => ?_)
  refine h2.den G σ H1 F1 env _ (rep.ext x1) ((PostS.more p1 x1.ff).expr (rep.ext x1) hq fun b p2 w H2 F2 x2 s2 => ?_)
  refine h3.den G σ H2 F2 env _ (rep.ext (x1.trans x2)) ((PostS.more p2 x2.ff).expr (rep.ext (x1.trans x2)) hq fun c p3 u H3 F3 x3 s3 => ?_)
  refine ⟨by show 3 ≤ sizeLine; decide, fun T nT => ⟨T, _, rfl, SqT.of upd_same, rfl, v, _, rfl, w, _, rfl, u, _, rfl, rfl, ?_⟩⟩
  have lj : j < (md.set i m1).length := by rw [List.length_set]; exact hlj
  have ll : l < ((md.set i m1).set j m2).length := by rw [List.length_set, List.length_set]; exact hll
  exact p3 _ _ F3 x3.ff ((((rep.place hli hm1 x1 s1).place lj hm2 x2 s2).place ll hm3 x3 s3).ext (Ext.mine x3.fh nT))
def sPar4 (i j l n : Nat) (f g h k : Env → R D) : Env → R Fl := fun env => sB (f env) env fun a => sB (g env) env fun b => sB (h env) env fun c => sB (k env) env fun d => .ok (.nx ((((env.set i (some a)).set j (some b)).set l (some c)).set n (some d)))
theorem ds_unp4 (i j l n : Nat) {m1 m2 m3 m4 : Md} {x y z z4 : Str} {px py pz p4 pt pos : Pos} {kt k2 : Nat} {pt2 : Pos} (nd : X.N.Nodup) (h1 : DV X W md m1 e1 t1 f1) (h2 : DV X W md m2 e2 t2 f2) (h3 : DV X W md m3 e3 t3 f3) (h4 : DV X W md m4 e4 t4 f4)
    (hw : swappedStores [.Tuple [.Name x px, .Name y py, .Name z pz, .Name z4 p4] kt pt] (.Tuple [e1, e2, e3, e4] k2 pt2) X.env = pure none := by rfl) (hm1 : m1 = .v ∨ m1 = .o := by first | exact .inl rfl | exact .inr rfl) (hm2 : m2 = .v ∨ m2 = .o := by first | exact .inl rfl | exact .inr rfl) (hm3 : m3 = .v ∨ m3 = .o := by first | exact .inl rfl | exact .inr rfl) (hm4 : m4 = .v ∨ m4 = .o := by first | exact .inl rfl | exact .inr rfl)
    (hi : X.N.Nodup → PG X (.Name x px) (gName i) := by exact fun nd => pg_name nd rfl (by first | exact Or.inl rfl | exact Or.inr rfl)) (hj : X.N.Nodup → PG X (.Name y py) (gName j) := by exact fun nd => pg_name nd rfl (by first | exact Or.inl rfl | exact Or.inr rfl)) (hk : X.N.Nodup → PG X (.Name z pz) (gName l) := by exact fun nd => pg_name nd rfl (by first | exact Or.inl rfl | exact Or.inr rfl)) (hk4 : X.N.Nodup → PG X (.Name z4 p4) (gName n) := by exact fun nd => pg_name nd rfl (by first | exact Or.inl rfl | exact Or.inr rfl))
    (hli : i < md.length := by decide) (hlj : j < md.length := by decide) (hll : l < md.length := by decide) (hln : n < md.length := by decide) (hq : leM md M.x = true := by rfl) (hc : X.calm = true := by rfl)
    (ha1 : starEach [e1, e2, e3, e4] X.env = (false, eval e1 X.env) :: starEach [e2, e3, e4] X.env := by rfl) (ha2 : starEach [e2, e3, e4] X.env = (false, eval e2 X.env) :: starEach [e3, e4] X.env := by rfl) (ha3 : starEach [e3, e4] X.env = (false, eval e3 X.env) :: starEach [e4] X.env := by rfl) (ha4 : starEach [e4] X.env = (false, eval e4 X.env) :: starEach [] X.env := by rfl)
    (hs : swapsWithSole [.Tuple [.Name x px, .Name y py, .Name z pz, .Name z4 p4] kt pt] (.Tuple [e1, e2, e3, e4] k2 pt2) pos.line X.env = pure false := by rfl) :
    DS X W M md ((((md.set i m1).set j m2).set l m3).set n m4) (.Assign [.Tuple [.Name x px, .Name y py, .Name z pz, .Name z4 p4] kt pt] (.Tuple [e1, e2, e3, e4] k2 pt2) pos) (tAsg (tTup (tCons t1 (tCons t2 (tCons t3 (tCons t4 tNil))))) (gTup X.K 4 (gCons (gName i) (gCons (gName j) (gCons (gName l) (gCons (gName n) gNil)))))) (sPar4 i j l n f1 f2 f3 f4) := by
  refine ⟨ps_asg (pe_tup (pa_cons h1.run (pa_cons h2.run (pa_cons h3.run (pa_cons h4.run pa_nil ha4) ha3) ha2) ha1)) (pg_tup hc (pgs_cons (hi nd) (pgs_cons (hj nd) (pgs_cons (hk nd) (pgs_cons (hk4 nd) pgs_nil))))) hs hw, fun G σ H F env E rep post => ?_⟩
  refine h1.den G σ H F env _ rep (post.expr rep hq fun a p1 v H1 F1 x1 s1 => ?_)
  refine h2.den G σ H1 F1 env _ (rep.ext x1) ((PostS.more p1 x1.ff).expr (rep.ext x1) hq fun b p2 w H2 F2 x2 s2 => ?_)
  refine h3.den G σ H2 F2 env _ (rep.ext (x1.trans x2)) ((PostS.more p2 x2.ff).expr (rep.ext (x1.trans x2)) hq fun c p3 u H3 F3 x3 s3 => ?_)
  refine h4.den G σ H3 F3 env _ (rep.ext (x1.trans (x2.trans x3))) ((PostS.more p3 x3.ff).expr (rep.ext (x1.trans (x2.trans x3))) hq fun d p4 u4 H4 F4 x4 s4 => ?_)
  refine ⟨by show 4 ≤ sizeLine; decide, fun T nT => ⟨T, _, rfl, SqT.of upd_same, rfl, v, _, rfl, w, _, rfl, u, _, rfl, u4, _, rfl, rfl, ?_⟩⟩
  have lj : j < (md.set i m1).length := by rw [List.length_set]; exact hlj
  have ll : l < ((md.set i m1).set j m2).length := by rw [List.length_set, List.length_set]; exact hll
  have ln : n < (((md.set i m1).set j m2).set l m3).length := by rw [List.length_set, List.length_set, List.length_set]; exact hln
  exact p4 _ _ F4 x4.ff (((((rep.place hli hm1 x1 s1).place lj hm2 x2 s2).place ll hm3 x3 s3).place ln hm4 x4 s4).ext (Ext.mine x4.fh nT))
end
end DN
end

section
set_option Elab.async false
set_option linter.all false
set_option maxRecDepth 100000
/-! the rules with the written part K as a letter of its own (within a comprehension's block it must not lean on the block) -/
namespace DN
open PySem PySem.Spec PyProof.Rows L2
section
variable {X : Cx} {W : WX} {M : Ms} {md mn m1 : List Md} {ws : List Nat} {a b e o tg : Expr} {es : List Expr} {ta tb te to : TE} {fa fb fe fo : Env → R D} {pos p q apos cpos : Pos} {K : PySem.W.Frag}
theorem kt_tru (h : DE X W md e te fe) (hK : X.K = K := by rfl) (he : ∀ whole, isTrue e X.env whole = (do let v ← whole; standAt e.pos; holding [v] (truthy v)) := by intro _; rfl) : DT X W md e (fun σ H Q => te σ H fun x H' => ∃ k, TruV K x H' k ∧ Q k H') (eT dTru fe) := by
  subst hK; exact dt_tru h he
theorem ke_isi {x : Str} {T : String} (hT : T ∈ ["int", "bool", "str", "tuple", "list"]) (hm : X.mg "isinstance" = none) (hm2 : X.mg x = none) (hb : bootBuiltins x = some (.type T)) (ha : DE X W md a ta fa) (hK : X.K = K := by rfl) (hg : Gl X "isinstance" := by rfl) (hg2 : Gl X x := by rfl)
    (hn : x ≠ "__name__" := by decide) (hdb : (x == ("__debug__" : Str)) = false := by decide) (he : starEach [a, .Name x q] X.env = (false, eval a X.env) :: starEach [.Name x q] X.env := by rfl) (he2 : starEach [.Name x q] X.env = [(false, eval (.Name x q) X.env)] := by rfl) (hpl : (backTo pos (starEach [.Name x q] X.env)).any (·.1) = false := by rfl) :
    DE X W md (.Call (.Name "isinstance" p) [a, .Name x q] [] pos) (tCB (rIsi K) (tCons ta (tCons (tC (.ty T)) tNil))) (eUn (dIsi T) fa) := by
  subst hK; exact de_isi hT hg hm hg2 hm2 hb ha hn hdb he he2 hpl
theorem ke_sl {lo hi : Option Expr} {p2 : Pos} {tl th : TO} {fl fh : Env → R (Option Int)} (he : DE X W md e te fe) (hl : DO X W md lo tl fl) (hu : DO X W md hi th fh) (hK : X.K = K := by rfl) : DE X W md (.Subscript e (.Slice lo hi none p2) pos) (tSl (rSlAll K) te tl th) (eSl fe fl fh) := by
  subst hK; exact de_sl he hl hu
theorem kg_tup {k n : Nat} {u : TGs} {g : List D → Env → R Env} (h : DGs X md mn ws es u g) (hK : X.K = K := by rfl) (hc : X.calm = true := by rfl) (hn : (assignEach es X.env).length = n := by rfl) (hst : (assignEach es X.env).findIdx? (·.1) = none := by rfl) : DG X md mn ws (.Tuple es k pos) (gTup K n u) (gT n g) := by
  subst hK; exact dg_tup h hc hn hst
theorem kg_unl {k n : Nat} {u : TGs} {g : List D → Env → R Env} (h : DGs X md mn ws es u g) (hK : X.K = K := by rfl) (hc : X.calm = true := by rfl) (hn : (assignEach es X.env).length = n := by rfl) (hst : (assignEach es X.env).findIdx? (·.1) = none := by rfl) : DG X md mn ws (.Tuple es k pos) (gUnl K n u) (gL n g) := by
  subst hK; exact dg_unl h hc hn hst
theorem ki_any (h : DE X W md e te fe) (hK : X.K = K := by rfl) : DI X W md tg e (iAny K te) (eItems fe) := by
  subst hK; exact di_any h
theorem kj_own (i : Nat) {x : Str} (hK : X.K = K := by rfl) (hm : (md.getD i .u).mine = true := by rfl) (hN : X.N[i]? = some x := by rfl) (hv : Vis X.env.scope x := by first | exact Or.inl rfl | exact Or.inr (Or.inl rfl) | exact Or.inr (Or.inr rfl)) (hd : (x == ("__debug__" : Str)) = false := by decide)
    (hcd : (x == ("__classdict__" : Str)) = false := by decide) : DJ X W md tg (.Name x pos) (iList K (tVar i)) (eOwnItems i) := by
  subst hK; exact dj_own i hm hN hv hd hcd
theorem ki_enum {t : TA} {f : Env → R (List D)} {tpos : Pos} {elts : List Expr} {kk : Nat} (hm : X.mg "enumerate" = none) (ha : DA X W md [e] t f) (hK : X.K = K := by rfl) (hg : Gl X "enumerate" := by rfl) (hs : starEach [e] X.env = [(false, eval e X.env)] := by rfl) :
    DI X W md (.Tuple elts kk tpos) (.Call (.Name "enumerate" p) [e] [] pos) (iEnumA K t) (eItA dEnum f) := by
  subst hK; exact di_enum hm ha hg hs
theorem ki_zip {t : TA} {f : Env → R (List D)} {tpos : Pos} {elts : List Expr} {kk : Nat} (hm : X.mg "zip" = none) (ha : DA X W md [e, o] t f) (hK : X.K = K := by rfl) (hg : Gl X "zip" := by rfl) (hs : starEach [e, o] X.env = (false, eval e X.env) :: starEach [o] X.env := by rfl) (hpl : (backTo pos (starEach [o] X.env)).any (·.1) = false := by rfl) :
    DI X W md (.Tuple elts kk tpos) (.Call (.Name "zip" p) [e, o] [] pos) (RZ.iZipA K t) (eItA dZip f) := by
  subst hK; exact di_zip hm ha hg hs hpl
theorem ke_index (ho : DE X W md o to fo) (he : DE X W md e te fe) (hK : X.K = K := by rfl) (hrun : PE X o to → PE X e te → PE X (.Call (.Attribute o "index" apos) [e] [] cpos) (tIndex X.K to te) := by exact fun h1 h2 => pe_index h1 h2) :
    DE X W md (.Call (.Attribute o "index" apos) [e] [] cpos) (tIndex K to te) (eIdx fo fe) := by
  subst hK; exact de_index ho he hrun
variable {k : Nat} {x : Str} {t : TA} {f : Env → R (List D)} {m : List D → R D}
theorem ke_call (h : Fd X.prog X.w X.K X.mg X.base k x (spP X.K m)) (hr : Room k X.A) (hx : ∀ σ, PassesAt (L2.CX X.prog X.w) X σ (WE W σ)) (ha : DA X W md (e :: es) t f) (hK : X.K = K := by rfl) (hg : Gl X x := by rfl) (hdb : (x == ("__debug__" : Str)) = false := by decide)
    (he : starEach (e :: es) X.env = (false, eval e X.env) :: starEach es X.env := by rfl) (hpl : (backTo pos (starEach es X.env)).any (·.1) = false := by rfl) : DE X W md (.Call (.Name x p) (e :: es) [] pos) (tCallS (spP K m) (WE W) t) (eArgs m f) := by
  subst hK; exact de_call h hr hx ha hg hdb he hpl
theorem kf_call (h : Fd X.prog X.w X.K X.mg X.base k x (spL X.K m)) (hr : Room k X.A) (hx : ∀ σ, PassesAt (L2.CX X.prog X.w) X σ (WE W σ)) (ha : DA X W md (e :: es) t f) (hK : X.K = K := by rfl) (hg : Gl X x := by rfl) (hdb : (x == ("__debug__" : Str)) = false := by decide)
    (he : starEach (e :: es) X.env = (false, eval e X.env) :: starEach es X.env := by rfl) (hpl : (backTo pos (starEach es X.env)).any (·.1) = false := by rfl) : DFN X W md (.Call (.Name x p) (e :: es) [] pos) (tCallS (spL K m) (WE W) t) (eArgs m f) := by
  subst hK; exact df_call h hr hx ha hg hdb he hpl
theorem ke_gtup {y : Str} {zs : List Str} (h : X.mg y = some (.ref (He.ga K y))) (ht : tupG K y zs = true) (hK : X.K = K := by rfl) (hz : zs.all PyData.strOk = true := by decide +kernel) (hg : Gl X y := by rfl) (hd : (y == ("__debug__" : Str)) = false := by decide) :
    DE X W md (.Name y pos) (tC (.ref (He.ga K y))) (eC (.tup (zs.map D.str))) := by
  subst hK; exact de_gtup h ht hz hg hd
/-- len(x) -/
def rLenK (K : PySem.W.Frag) : List V → Hp → VK → Prop := fun xs H Q => ∃ x n, xs = [x] ∧ LenV K x H n ∧ Q (.int n) H
def rListOf (K : PySem.W.Frag) : List V → Hp → VK → Prop := fun xs H Q => ∃ p ys, xs = [.ref p] ∧ (SqL K H p ys ∨ SqT K H p ys) ∧ ∀ l, H l = none → Q (.ref l) (upd H l (.lst ys))
theorem k_len : CallR X (.builtin "len") (rLenK X.K) := call_len
theorem k_vlen : VArg K (rLenK K) dLen := v_len
theorem k_listOf : CallR X (.type "list") (rListOf X.K) := call_list_of
theorem k_vlistOf : VArgF K (rListOf K) dListOf := vf_listOf
end
end DN
end

section
set_option Elab.async false
set_option linter.all false
set_option maxRecDepth 100000
/-! expressions that write own lists (the bag) on their way -/
namespace DN
open PySem PySem.Spec PyProof.Rows L2

def PX {α : Type} (P : α → Prop) : R α → Prop
  | .ok a => P a
  | _ => False
theorem PX.bind {α β : Type} {P : β → Prop} {P1 : α → Prop} {m : R α} {k : α → R β} (h : PX P (m.bind k)) (c : ∀ a, PX P (k a) → P1 a) : PX P1 m := by
  cases m with
  | ok a => exact c a h
  | exc c x => exact h
  | bad => exact h
theorem PX.imp {α : Type} {P P1 : α → Prop} {m : R α} (h : PX P m) (c : ∀ a, P a → P1 a) : PX P1 m := by
  cases m with
  | ok a => exact c a h
  | exc c x => exact h
  | bad => exact h
/-- from an effect's end to a plain part's end -/
theorem PX.post {α β : Type} {K : PySem.W.Frag} {W : WX} {σ : Sg} {H F : Hp} {P : β → Prop} {P1 : α → Prop} {m : R α} {k : α → R β} (h : PX P (m.bind k)) (c : ∀ a, PX P (k a) → P1 a) : Post K W σ H F P1 m := by
  cases m with
  | ok a => exact c a h
  | exc c x => exact h.elim
  | bad => exact h
def QX (K : PySem.W.Frag) (G : Gd) (md : List Md) (σ : Sg) (F : Hp) (Q : VK) (r : D × Env) : Prop := ∀ v H' F', Same F F' → Rep K G md σ H' F' r.2 → Rp K F' v r.1 → Q v H'
def QXT (K : PySem.W.Frag) (G : Gd) (md : List Md) (σ : Sg) (F : Hp) (Q : Bool → Hp → Prop) (r : Bool × Env) : Prop := ∀ H' F', Same F F' → Rep K G md σ H' F' r.2 → Q r.1 H'
def QXA (K : PySem.W.Frag) (G : Gd) (md : List Md) (σ : Sg) (F : Hp) (Q : List V → Hp → Prop) (r : List D × Env) : Prop := ∀ vs H' F', Same F F' → Rep K G md σ H' F' r.2 → RpA K F' vs r.1 → Q vs H'
theorem QX.more {K : PySem.W.Frag} {G : Gd} {md : List Md} {σ : Sg} {F F1 : Hp} {Q : VK} {m : R (D × Env)} (h : PX (QX K G md σ F Q) m) (s : Same F F1) : PX (QX K G md σ F1 Q) m := h.imp fun _ q v H' F' s' => q v H' F' (s.trans s')
theorem QXT.more {K : PySem.W.Frag} {G : Gd} {md : List Md} {σ : Sg} {F F1 : Hp} {Q : Bool → Hp → Prop} {m : R (Bool × Env)} (h : PX (QXT K G md σ F Q) m) (s : Same F F1) : PX (QXT K G md σ F1 Q) m := h.imp fun _ q H' F' s' => q H' F' (s.trans s')
theorem QXA.more {K : PySem.W.Frag} {G : Gd} {md : List Md} {σ : Sg} {F F1 : Hp} {Q : List V → Hp → Prop} {m : R (List D × Env)} (h : PX (QXA K G md σ F Q) m) (s : Same F F1) : PX (QXA K G md σ F1 Q) m := h.imp fun _ q v H' F' s' => q v H' F' (s.trans s')
structure DX (X : Cx) (W : WX) (md : List Md) (e : Expr) (t : TE) (f : Env → R (D × Env)) : Prop where
  run : PE X e t
  den : ∀ (G : Gd) (σ : Sg) (H F : Hp) (env : Env) (Q : VK), Rep X.K G md σ H F env → PX (QX X.K G md σ F Q) (f env) → t σ H Q
structure DXT (X : Cx) (W : WX) (md : List Md) (e : Expr) (t : TT) (f : Env → R (Bool × Env)) : Prop where
  run : PT X e t
  den : ∀ (G : Gd) (σ : Sg) (H F : Hp) (env : Env) (Q : Bool → Hp → Prop), Rep X.K G md σ H F env → PX (QXT X.K G md σ F Q) (f env) → t σ H Q
structure DXA (X : Cx) (W : WX) (md : List Md) (es : List Expr) (t : TA) (f : Env → R (List D × Env)) : Prop where
  run : PA X es t
  den : ∀ (G : Gd) (σ : Sg) (H F : Hp) (env : Env) (Q : List V → Hp → Prop), Rep X.K G md σ H F env → PX (QXA X.K G md σ F Q) (f env) → t σ H Q
def xOf {α : Type} (f : Env → R α) : Env → R (α × Env) := fun env => (f env).bind fun d => .ok (d, env)
def xBin (g : D → D → R D) (f h : Env → R (D × Env)) : Env → R (D × Env) := fun env => (f env).bind fun a => (h a.2).bind fun b => (g a.1 b.1).bind fun c => .ok (c, b.2)
def xNil : Env → R (List D × Env) := fun env => .ok ([], env)
def xCons (f : Env → R (D × Env)) (h : Env → R (List D × Env)) : Env → R (List D × Env) := fun env => (f env).bind fun a => (h a.2).bind fun b => .ok (a.1 :: b.1, b.2)
def xArgs (g : List D → R D) (f : Env → R (List D × Env)) : Env → R (D × Env) := fun env => (f env).bind fun a => (g a.1).bind fun c => .ok (c, a.2)
section
variable {X : Cx} {W : WX} {M : Ms} {md : List Md} {a b e : Expr} {es : List Expr} {ta tb te : TE} {fa fb fe : Env → R (D × Env)} {pos p : Pos} {t : TA} {f : Env → R (List D × Env)}
theorem DE.x {f : Env → R D} (h : DE X W md e te f) : DX X W md e te (xOf f) :=
  ⟨h.run, fun G σ H F env Q rep post => h.den G σ H F env Q rep (PX.post post fun d q v H' F' x r => q v H' F' x.ff (rep.ext x) r)⟩
theorem DT.x {tt : TT} {f : Env → R Bool} (h : DT X W md e tt f) : DXT X W md e tt (xOf f) :=
  ⟨h.run, fun G σ H F env Q rep post => h.den G σ H F env Q rep (PX.post post fun d q H' F' x => q H' F' x.ff (rep.ext x))⟩
theorem xden_op {K : PySem.W.Frag} {r : R2} {g : D → D → R D} (hv : VOp K r g) (ha : ∀ (G : Gd) (σ : Sg) (H F : Hp) (env : Env) (Q : VK), Rep K G md σ H F env → PX (QX K G md σ F Q) (fa env) → ta σ H Q)
    (hb : ∀ (G : Gd) (σ : Sg) (H F : Hp) (env : Env) (Q : VK), Rep K G md σ H F env → PX (QX K G md σ F Q) (fb env) → tb σ H Q) (G : Gd) (σ : Sg) (H F : Hp) (env : Env) (Q : VK) (rep : Rep K G md σ H F env) (post : PX (QX K G md σ F Q) (xBin g fa fb env)) : tOp r ta tb σ H Q :=
  ha G σ H F env _ rep (post.bind fun c p1 v H1 F1 s1 r1 q1 => hb G σ H1 F1 c.2 _ r1 ((QX.more p1 s1).bind fun d p2 u H2 F2 s2 r2 q2 =>
    hv W0 σ v u c.1 d.1 H2 F2 Q r2.fh (q1.mono s2) q2 (PX.post p2 fun z q w H' F' x rz => q w H' F' (s2.trans x.ff) (r2.ext x) rz)))
theorem dx_bin {op : Operator} {r : R2} {g : D → D → R D} (ho : OpR X (binaryOp op) r) (hv : VOp X.K r g) (ha : DX X W md a ta fa) (hb : DX X W md b tb fb) : DX X W md (.BinOp a op b pos) (tOp r ta tb) (xBin g fa fb) :=
  ⟨pe_op ho ha.run hb.run, xden_op hv ha.den hb.den⟩
theorem dx_ix {r : R2} {g : D → D → R D} (ho : IxR X r) (hv : VOp X.K r g) (ha : DX X W md a ta fa) (hb : DX X W md b tb fb) (hs : PlainIx b := by exact fun _ _ => rfl) : DX X W md (.Subscript a b pos) (tOp r ta tb) (xBin g fa fb) :=
  ⟨pe_ix ho ha.run hb.run hs, xden_op hv ha.den hb.den⟩
def xT (g : D → R Bool) (f : Env → R (D × Env)) : Env → R (Bool × Env) := fun env => (f env).bind fun a => (g a.1).bind fun c => .ok (c, a.2)
theorem dxt_cmp {op : CmpOp} {r : R2} {g : D → D → R D} (ho : OpR X (compareOp op) r) (hv : VOp X.K r g) (ha : DX X W md a ta fa) (hb : DX X W md b tb fb) (hm : behindInMarks op b = false := by first | exact nomark _ | rfl | (with_unfolding_all rfl)) :
    DXT X W md (.Compare a [op] [b] pos) (tTest (tOp r ta tb)) (xT dB (xBin g fa fb)) :=
  ⟨pt_cmpR ho ha.run hb.run hm, fun G σ H F env Q rep post => xden_op hv ha.den hb.den G σ H F env _ rep (post.bind fun c p1 v H1 F1 s1 r1 q1 => by
    obtain ⟨c, e2⟩ := c
    cases c with
    | bl k => cases q1; exact ⟨k, rfl, p1 H1 F1 s1 r1⟩
    | _ => exact p1.elim)⟩
theorem dxt_val (h : DX X W md e te fe) (he : ∀ whole, isTrue e X.env whole = (do let v ← whole; standAt e.pos; holding [v] (truthy v)) := by intro _; rfl) : DXT X W md e (tB te) (xT dB fe) :=
  ⟨pt_val h.run he, fun G σ H F env Q rep post => h.den G σ H F env _ rep (post.bind fun c p1 v H1 F1 s1 r1 q1 => by
    obtain ⟨c, e2⟩ := c
    cases c with
    | bl k => cases q1; exact ⟨k, rfl, p1 H1 F1 s1 r1⟩
    | _ => exact p1.elim)⟩
def xNot (f : Env → R (Bool × Env)) : Env → R (Bool × Env) := fun env => (f env).bind fun c => .ok (!c.1, c.2)
def xOr (f h : Env → R (Bool × Env)) : Env → R (Bool × Env) := fun env => (f env).bind fun c => match c.1 with | true => .ok (true, c.2) | false => h c.2
def xAnd (f h : Env → R (Bool × Env)) : Env → R (Bool × Env) := fun env => (f env).bind fun c => match c.1 with | true => h c.2 | false => .ok (false, c.2)
theorem dxt_not {tt : TT} {ft : Env → R (Bool × Env)} (h : DXT X W md a tt ft) : DXT X W md (.UnaryOp .Not a pos) (tNot tt) (xNot ft) :=
  ⟨pt_not h.run, fun G σ H F env Q rep post => h.den G σ H F env _ rep (post.bind fun c p1 H1 F1 s1 r1 => p1 H1 F1 s1 r1)⟩
structure DXW (X : Cx) (W : WX) (md : List Md) (e : Expr) (t : TT) (f : Env → R (Bool × Env)) : Prop where
  run : PW X e t
  den : ∀ (G : Gd) (σ : Sg) (H F : Hp) (env : Env) (Q : Bool → Hp → Prop), Rep X.K G md σ H F env → PX (QXT X.K G md σ F Q) (f env) → t σ H Q
theorem DXW.dt {tt : TT} {ft : Env → R (Bool × Env)} (h : DXW X W md e tt ft) : DXT X W md e tt ft := ⟨h.run.pt, h.den⟩
theorem dxw_or1 {tt : TT} {ft : Env → R (Bool × Env)} (h : DXT X W md a tt ft) : DXW X W md (.BoolOp .Or [a] pos) tt ft := ⟨pw_or1 h.run, h.den⟩
theorem dxw_and1 {tt : TT} {ft : Env → R (Bool × Env)} (h : DXT X W md a tt ft) : DXW X W md (.BoolOp .And [a] pos) tt ft := ⟨pw_and1 h.run, h.den⟩
theorem dxw_or {tt uu : TT} {ft gt : Env → R (Bool × Env)} {rest : List Expr} (h : DXT X W md a tt ft) (h2 : DXW X W md (.BoolOp .Or (b :: rest) pos) uu gt) : DXW X W md (.BoolOp .Or (a :: b :: rest) pos) (tOr tt uu) (xOr ft gt) :=
  ⟨pw_or h.run h2.run, fun G σ H F env Q rep post => h.den G σ H F env _ rep (post.bind fun c p1 H1 F1 s1 r1 => by
    obtain ⟨c, e2⟩ := c
    cases c with
    | false => exact iteF (h2.den G σ H1 F1 e2 Q r1 (QXT.more p1 s1))
    | true => exact iteT (p1 H1 F1 s1 r1))⟩
theorem dxw_and {tt uu : TT} {ft gt : Env → R (Bool × Env)} {rest : List Expr} (h : DXT X W md a tt ft) (h2 : DXW X W md (.BoolOp .And (b :: rest) pos) uu gt) : DXW X W md (.BoolOp .And (a :: b :: rest) pos) (tAnd tt uu) (xAnd ft gt) :=
  ⟨pw_and h.run h2.run, fun G σ H F env Q rep post => h.den G σ H F env _ rep (post.bind fun c p1 H1 F1 s1 r1 => by
    obtain ⟨c, e2⟩ := c
    cases c with
    | true => exact iteT (h2.den G σ H1 F1 e2 Q r1 (QXT.more p1 s1))
    | false => exact iteF (p1 H1 F1 s1 r1))⟩
theorem dxa_nil : DXA X W md [] tNil xNil := ⟨pa_nil, fun G σ H F env Q rep post => post [] H F (Same.refl _) rep .nil⟩
theorem dxa_cons (ha : DX X W md e te fe) (hr : DXA X W md es t f) (hs : starEach (e :: es) X.env = (false, eval e X.env) :: starEach es X.env := by rfl) : DXA X W md (e :: es) (tCons te t) (xCons fe f) :=
  ⟨pa_cons ha.run hr.run hs, fun G σ H F env Q rep post => ha.den G σ H F env _ rep (post.bind fun c p1 v H1 F1 s1 r1 q1 => hr.den G σ H1 F1 c.2 _ r1 ((QXA.more p1 s1).bind fun cs p2 vs H2 F2 s2 r2 q2 => p2 (v :: vs) H2 F2 s2 r2 (.cons (q1.mono s2) q2)))⟩
/-- what a call gives by its values, made anew -/
theorem xden_args {r : List V → Hp → VK → Prop} {g : List D → R D} {K : PySem.W.Frag} (hv : VArg K r g) (ha : ∀ (G : Gd) (σ : Sg) (H F : Hp) (env : Env) (Q : List V → Hp → Prop), Rep K G md σ H F env → PX (QXA K G md σ F Q) (f env) → t σ H Q)
    (G : Gd) (σ : Sg) (H F : Hp) (env : Env) (Q : VK) (rep : Rep K G md σ H F env) (post : PX (QX K G md σ F Q) (xArgs g f env)) : tCB r t σ H Q :=
  ha G σ H F env _ rep (post.bind fun c p1 vs H1 F1 s1 r1 q1 => hv W0 σ vs c.1 H1 F1 Q r1.fh q1 (PX.post p1 fun z q w H' F' x rz => q w H' F' (s1.trans x.ff) (r1.ext x) rz))
theorem dx_callB {x : Str} {id : String} {r : List V → Hp → VK → Prop} {g : List D → R D} (hc : CallR X (.builtin id) r) (hv : VArg X.K r g) (hg : Gl X x) (hm : X.mg x = none) (hb : bootBuiltins x = some (.builtin id)) (ha : DXA X W md (e :: es) t f)
    (hn : x ≠ "__name__" := by decide) (hdb : (x == ("__debug__" : Str)) = false := by decide) (he : starEach (e :: es) X.env = (false, eval e X.env) :: starEach es X.env := by rfl) (hpl : (backTo pos (starEach es X.env)).any (·.1) = false := by rfl) :
    DX X W md (.Call (.Name x p) (e :: es) [] pos) (tCB r t) (xArgs g f) := ⟨pe_callB hc hg hm hb ha.run hn hdb he hpl, xden_args hv ha.den⟩
theorem dx_callTy {x : Str} {id : String} {r : List V → Hp → VK → Prop} {g : List D → R D} (hc : CallR X (.type id) r) (hv : VArg X.K r g) (hg : Gl X x) (hm : X.mg x = none) (hb : bootBuiltins x = some (.type id)) (ha : DXA X W md (e :: es) t f)
    (hn : x ≠ "__name__" := by decide) (hdb : (x == ("__debug__" : Str)) = false := by decide) (he : starEach (e :: es) X.env = (false, eval e X.env) :: starEach es X.env := by rfl) (hpl : (backTo pos (starEach es X.env)).any (·.1) = false := by rfl) :
    DX X W md (.Call (.Name x p) (e :: es) [] pos) (tCB r t) (xArgs g f) := ⟨pe_callTy hc hg hm hb ha.run hn hdb he hpl, xden_args hv ha.den⟩
theorem dx_tup {k : Nat} (h : DXA X W md es t f) : DX X W md (.Tuple es k pos) (tTupF t) (xArgs dTup f) :=
  ⟨pe_tupF h.run, fun G σ H F env Q rep post => h.den G σ H F env _ rep (post.bind fun c p1 vs H1 F1 s1 r1 q1 => by
    obtain ⟨cs, e2⟩ := c
    by_cases hl : cs.length ≤ sizeLine
    · simp only [dTup, if_pos hl, R.bind] at p1
      exact ⟨by rw [q1.length]; exact hl, fun p o np od => p1 (.ref p) _ (upd F1 p (.frz o (.tup vs))) (s1.trans (same_upd (r1.fh.free np))) (r1.ext (Ext.new r1.fh np)) (.tup (TupN.of upd_same od) (q1.mono (same_upd (r1.fh.free np))))⟩
    · simp only [dTup, if_neg hl, R.bind] at p1; exact p1.elim)⟩
theorem dx_lst (h : DXA X W md es t f) : DX X W md (.List es pos) (tLst t) (xArgs dLst f) :=
  ⟨pe_lst h.run, fun G σ H F env Q rep post => h.den G σ H F env _ rep (post.bind fun c p1 vs H1 F1 s1 r1 q1 => by
    obtain ⟨cs, e2⟩ := c
    by_cases hl : cs.length ≤ sizeLine
    · simp only [dLst, if_pos hl, R.bind] at p1
      exact ⟨by rw [q1.length]; exact hl, fun p np => p1 (.ref p) _ (upd F1 p (.lst vs)) (s1.trans (same_upd (r1.fh.free np))) (r1.ext (Ext.new r1.fh np)) (.lst upd_same (q1.mono (same_upd (r1.fh.free np))))⟩
    · simp only [dLst, if_neg hl, R.bind] at p1; exact p1.elim)⟩
theorem dx_call {k : Nat} {x : Str} {m : List D → R D} {K : PySem.W.Frag} (h : Fd X.prog X.w X.K X.mg X.base k x (spP X.K m)) (hr : Room k X.A) (hx : ∀ σ, PassesAt (L2.CX X.prog X.w) X σ (WE W σ)) (ha : DXA X W md (e :: es) t f) (hK : X.K = K := by rfl) (hg : Gl X x := by rfl) (hdb : (x == ("__debug__" : Str)) = false := by decide)
    (he : starEach (e :: es) X.env = (false, eval e X.env) :: starEach es X.env := by rfl) (hpl : (backTo pos (starEach es X.env)).any (·.1) = false := by rfl) : DX X W md (.Call (.Name x p) (e :: es) [] pos) (tCallS (spP K m) (WE W) t) (xArgs m f) := by
  subst hK
  exact ⟨call_run h hr hx ha.run hg hdb he hpl, fun G σ H F env Q rep post => ha.den G σ H F env _ rep (post.bind fun c p1 vs H1 F1 s1 r1 q1 => ⟨F1, c.1, r1.fh, q1, PX.post p1 fun z q w H' F' x rz => q w H' F' (s1.trans x.ff) (r1.ext x) rz⟩)⟩
end

/-! ### defs whose first parameter is a list that they write -/
/-- m: the list's content and the other arguments -/
def spB (K : PySem.W.Frag) (m : D → List D → R (D × D)) : Sp := fun vs H Q _ => ∃ F p bvs bds ws ds, vs = .ref p :: ws ∧ Same F H ∧ H p = some (.lst bvs) ∧ F p = none ∧ RpA K F bvs bds ∧ RpA K F ws ds ∧
  PX (fun r => ∀ v H' F', (∀ a o, a ≠ p → H a = some o → H' a = some o) → Same F F' → Same F' H' → (∀ a o, F' a = some o → F a = some o ∨ H a = none) → Own K H' F' p r.2 → Rp K F' v r.1 → Q v H') (m (.lst bds) ds)
/-- k parameters (the list among them), n slots -/
def runB (k n : Nat) (f : Env → R Fl) (b : D) (ds : List D) : R (D × D) := if ds.length + 1 = k then (match f (startE n (b :: ds)) with
  | .ok (.nx e) => (match e[0]? with
    | some (some c) => .ok (.non, c)
    | _ => .bad)
  | .ok (.rt d e) => (match e[0]? with
    | some (some c) => .ok (d, c)
    | _ => .bad)
  | _ => .bad) else .bad
theorem start_repB {K : PySem.W.Frag} {G : Gd} {N : List Str} {p : Addr} {bvs ws : List V} {bds ds : List D} {F H : Hp} {k : Nat} (hl : ds.length + 1 = k) (hN : k ≤ N.length) (fh : Same F H) (hp : H p = some (.lst bvs)) (nf : F p = none) (rb : RpA K F bvs bds) (hG : G = ⟨H, F, [p]⟩) (r : RpA K F ws ds) (md : List Md) (hmd : md = .p :: List.replicate (N.length - 1) .v) :
    Rep K G md (start N (.ref p :: ws)) H F (startE N.length (.lst bds :: ds)) := by
  subst hG
  have hv : ws.length = ds.length := r.length
  have get : ∀ i d, (startE N.length (.lst bds :: ds))[i]? = some (some d) → (i = 0 ∧ d = .lst bds) ∨ ∃ j v, i = j + 1 ∧ j + 1 < N.length ∧ ds[j]? = some d ∧ (start N (.ref p :: ws))[i]? = some (some v) ∧ Rp K F v d := fun i d e => by
    cases i with
    | zero => left; simp [startE] at e; exact ⟨rfl, e.symm⟩
    | succ j =>
      right
      have hi : j < ds.length := by
        refine Nat.lt_of_not_le fun z => ?_
        simp only [startE] at e
        rw [List.getElem?_append_right (by simp; omega), List.getElem?_replicate] at e
        split at e <;> cases e
      have e1 : ds[j]? = some d := by
        simp only [startE] at e
        rw [List.getElem?_append_left (by simp; omega), List.getElem?_map, List.getElem?_cons_succ] at e
        cases q : ds[j]? with
        | none => rw [q] at e; cases e
        | some z => rw [q] at e; cases e; rfl
      obtain ⟨v, h1, h2⟩ := r.get e1
      refine ⟨j, v, rfl, by omega, e1, ?_, h2⟩
      simp only [L2.start]
      rw [List.getElem?_append_left (by simp; omega), List.getElem?_map, List.getElem?_cons_succ, h1]; rfl
  have m0 : md.getD 0 .u = .p := by rw [hmd]; rfl
  have ms : ∀ j, j + 1 < N.length → md.getD (j + 1) .u = .v := fun j hj => by
    rw [hmd, List.getD_eq_getElem?_getD, List.getElem?_cons_succ, List.getElem?_replicate, if_pos (by omega)]; rfl
  have s0 : (start N (.ref p :: ws))[0]? = some (some (.ref p)) := by simp [L2.start]
  refine ⟨fh, fun a o _ e => e, Same.refl _, fun a o e => .inl e, fh, fun a ha => ?_, ?_, fun i d e => ?_, fun i j q d e m1 m2 h1 h2 => ?_⟩
  · rw [List.mem_singleton.mp ha]; exact ⟨_, hp⟩
  · simp only [startE, L2.start, List.length_append, List.length_map, List.length_replicate, List.length_cons, hv]
  · rcases get i d e with ⟨rfl, rfl⟩ | ⟨j, v, rfl, hj, h1, h2, h3⟩
    · rw [m0]; exact ⟨p, s0, ⟨⟨bvs, bds, rfl, hp, rb⟩, nf⟩, List.mem_singleton.mpr rfl⟩
    · rw [ms j hj]; exact ⟨v, h2, h3⟩
  · have z : ∀ i d, (startE N.length (.lst bds :: ds))[i]? = some (some d) → (md.getD i .u).mine = true → i = 0 := fun i d e m => by
      rcases get i d e with ⟨rfl, _⟩ | ⟨j, v, rfl, hj, _⟩
      · rfl
      · rw [ms j hj] at m; cases m
    intro _ _
    rw [z i d h1 m1, z j e h2 m2]
end DN
end

section
set_option Elab.async false
set_option linter.all false
set_option maxRecDepth 100000
/-! defs that write their first parameter (the bag): their promise, their calls, statements with such calls -/
namespace DN
open PySem PySem.Spec PyProof.Rows L2

section
variable {P : Program} {w : World} {K : PySem.W.Frag} {mg : Str → Option Value} {base : Heap} {x qual : Str} {params : Arguments} {body : List Stmt} {scope : Scope} {f : Addr} {fd : FuncData} {N ps : List Str} {k : Nat} {b : Env → R Fl} {M : Ms} {mn : List Md}
theorem rep_bag {H F H' F' : Hp} {p : Addr} {md : List Md} {σ : Sg} {env : Env} {c : D} (r : Rep K ⟨H, F, [p]⟩ md σ H' F' env) (hm : md.getD 0 .u = .p) (he : env[0]? = some (some c)) : Own K H' F' p c := by
  have s := r.sl 0 c he
  rw [hm] at s
  obtain ⟨q, _, o, hq⟩ := s
  rw [← List.mem_singleton.mp hq]
  exact o
theorem fn_denB {n : Nat} (F : FunD K x qual params body scope [] [] f fd) (S : FnScope N ps scope) (hn : N.length = n) (hp : ps.length ≤ n) (mo : List Md) (hmo : mo = .p :: List.replicate (n - 1) .v) (hmn : mn.getD 0 .u = .p)
    (hb : ∀ (cdv : Value) (A : Around) (outer : List PySem.Env) (s : Shared) (H : Hp) (E : XK), Room k (A.deeper (envOfC qual scope s.heap.objs.size f cdv)) →
      ∃ t, DSs (Cb P w K mg base N qual scope f cdv A outer s H E) (WofE E) ⟨[], [.p], [], false⟩ mo mn body t b) : FnOk P w K mg base (L2.CX P w) (k + 1) f fd ps (spB K (runB ps.length n b)) := by
  subst hn
  refine F.ok S (fun vs H Q E h => ?_) (fun cdv A outer s H vs Q E hr h => ?_)
  · obtain ⟨F0, p, bvs, bds, ws, ds, rfl, fh, hp0, nf, rb, r, post⟩ := h
    unfold runB at post
    by_cases hl : ds.length + 1 = ps.length
    · rw [List.length_cons, r.length]; exact hl
    · rw [if_neg hl] at post; exact post.elim
  · obtain ⟨F0, p, bvs, bds, ws, ds, rfl, fh, hp0, nf, rb, r, post⟩ := h
    unfold runB at post
    by_cases hl : ds.length + 1 = ps.length
    · rw [if_pos hl] at post
      obtain ⟨t, ht⟩ := hb cdv A outer s H E hr
      refine ⟨t, ht.run, ht.den ⟨H, F0, [p]⟩ (start N (.ref p :: ws)) H F0 (startE N.length (.lst bds :: ds)) _ (start_repB hl hp fh hp0 nf rb rfl r mo hmo) ?_⟩
      have fin : ∀ (md : List Md) (σ : Sg) (H' F' : Hp) (env : Env) (c d : D) (v : V), Rep K ⟨H, F0, [p]⟩ md σ H' F' env → md.getD 0 .u = .p → env[0]? = some (some c) → Rp K F' v d →
          (∀ v H' F', (∀ a o, a ≠ p → H a = some o → H' a = some o) → Same F0 F' → Same F' H' → (∀ a o, F' a = some o → F0 a = some o ∨ H a = none) → Own K H' F' p c → Rp K F' v d → Q v H') → Q v H' :=
        fun md σ H' F' env c d v r' hm he rv q => q v H' F' (fun a o na e => r'.h0 a o (fun z => na (List.mem_singleton.mp z)) e) r'.f0 r'.fh r'.fr (rep_bag r' hm he) rv
      cases q : b (startE N.length (.lst bds :: ds)) with
      | exc c y => simp only [q] at post; exact post.elim
      | bad => simp only [q] at post; exact post.elim
      | ok fl =>
        simp only [q] at post
        cases fl with
        | nx e =>
          simp only at post
          cases h0 : e[0]? with
          | none => rw [h0] at post; exact post.elim
          | some o =>
            cases o with
            | none => rw [h0] at post; exact post.elim
            | some c => rw [h0] at post; exact fun σ H' F' s' r' => fin mn σ H' F' e c .non .non r' hmn h0 .non post
        | bk e => exact post.elim
        | ct e => exact post.elim
        | rt d e =>
          simp only at post
          cases h0 : e[0]? with
          | none => rw [h0] at post; exact post.elim
          | some o =>
            cases o with
            | none => rw [h0] at post; exact post.elim
            | some c => rw [h0] at post; exact fun σ H' F' v s' r' h => fin [.p] σ H' F' e c d v r' rfl h0 (by rw [if_neg Bool.false_ne_true] at h; exact h) post
        | ex c y e => exact post.elim
    · rw [if_neg hl] at post; exact post.elim
end

/-! ### an own list that a call has written -/
theorem Rep.eff {K : PySem.W.Frag} {G : Gd} {md : List Md} {σ : Sg} {H F H' F' : Hp} {env : Env} {i : Nat} {p : Addr} {d0 d1 : D} (r : Rep K G md σ H F env) (hm : (md.getD i .u).mine = true) (he : env[i]? = some (some d0)) (hp : σ[i]? = some (some (.ref p)))
    (kp : ∀ a o, a ≠ p → H a = some o → H' a = some o) (ff : Same F F') (fh : Same F' H') (fr : ∀ a o, F' a = some o → F a = some o ∨ H a = none) (ow : Own K H' F' p d1) : Rep K G md σ H' F' (env.set i (some d1)) := by
  have own : ∃ o, H p = some o ∧ (G.H0 p = none ∨ p ∈ G.O) := by
    have s := r.sl i d0 he
    cases m : md.getD i .u with
    | o => rw [m] at s; obtain ⟨p2, s2, ⟨⟨vs, ds, _, hp2, _⟩, nf⟩, n⟩ := s; rw [hp] at s2; cases s2; exact ⟨_, hp2, .inl n⟩
    | p => rw [m] at s; obtain ⟨p2, s2, ⟨⟨vs, ds, _, hp2, _⟩, nf⟩, n⟩ := s; rw [hp] at s2; cases s2; exact ⟨_, hp2, .inr n⟩
    | v => rw [m] at hm; cases hm
    | u => rw [m] at hm; cases hm
  obtain ⟨o, ho, og⟩ := own
  refine ⟨fh, fun a u n e => ?_, r.f0.trans ff, fun a u e => ?_, r.gg, fun a ha => ?_, by rw [List.length_set]; exact r.len, fun j d e => ?_, fun a b q d1 d2 m1 m2 h1 h2 s1 s2 => ?_⟩
  · have hne : a ≠ p := fun z => by
      rcases og with q | q
      · rw [z, q] at e; cases e
      · rw [z] at n; exact n q
    exact kp a u hne (r.h0 a u n e)
  · rcases fr a u e with z | z
    · exact r.fr a u z
    · cases q : G.H0 a with
      | none => exact .inr rfl
      | some u2 =>
        by_cases ha : a ∈ G.O
        · obtain ⟨o', ho'⟩ := r.oo a ha
          rw [ho'] at z; cases z
        · rw [r.h0 a u2 ha q] at z; cases z
  · by_cases hap : a = p
    · rw [hap]; obtain ⟨⟨vs, ds, _, q, _⟩, _⟩ := ow; exact ⟨_, q⟩
    · obtain ⟨o', ho'⟩ := r.oo a ha; exact ⟨o', kp a o' hap ho'⟩
  · by_cases hj : j = i
    · subst hj
      obtain ⟨lt, _⟩ := List.getElem?_eq_some_iff.mp he
      rw [List.getElem?_set_self lt] at e
      cases e
      have s := r.sl j d0 he
      cases m : md.getD j .u with
      | o => rw [m] at s; obtain ⟨p2, s2, _, n⟩ := s; rw [hp] at s2; cases s2; exact ⟨p, hp, ow, n⟩
      | p => rw [m] at s; obtain ⟨p2, s2, _, n⟩ := s; rw [hp] at s2; cases s2; exact ⟨p, hp, ow, n⟩
      | v => rw [m] at hm; cases hm
      | u => rw [m] at hm; cases hm
    · rw [List.getElem?_set_ne (Ne.symm hj)] at e
      have s := r.sl j d e
      have off : ∀ p2, (md.getD j .u).mine = true → σ[j]? = some (some (.ref p2)) → Own K H F p2 d → Own K H' F' p2 d := fun p2 mj sj o => by
        obtain ⟨⟨vs2, ds2, q1, q2, q3⟩, q4⟩ := o
        have hne : p2 ≠ p := fun z => hj (r.sep j i p d d0 mj hm e he (by rw [← z]; exact sj) hp)
        refine ⟨⟨vs2, ds2, q1, kp _ _ hne q2, q3.mono ff⟩, ?_⟩
        cases q : F' p2 with
        | none => rfl
        | some u =>
          rcases fr _ _ q with z | z
          · rw [q4] at z; cases z
          · rw [q2] at z; cases z
      cases m : md.getD j .u with
      | v => rw [m] at s; obtain ⟨v, h1, h2⟩ := s; exact ⟨v, h1, h2.mono ff⟩
      | u => trivial
      | o => rw [m] at s; obtain ⟨p2, s2, o2, n⟩ := s; exact ⟨p2, s2, off p2 (by rw [m]; rfl) s2 o2, n⟩
      | p => rw [m] at s; obtain ⟨p2, s2, o2, n⟩ := s; exact ⟨p2, s2, off p2 (by rw [m]; rfl) s2 o2, n⟩
  · have there : ∀ c x, (env.set i (some d1))[c]? = some (some x) → ∃ y, env[c]? = some (some y) := fun c x q => by
      by_cases hc : c = i
      · rw [hc]; exact ⟨d0, he⟩
      · rw [List.getElem?_set_ne (Ne.symm hc)] at q; exact ⟨x, q⟩
    rename_i dd
    have t1 : ∃ y, env[a]? = some (some y) := by
      by_cases hc : a = i
      · rw [hc]; exact ⟨d0, he⟩
      · rw [List.getElem?_set_ne (Ne.symm hc)] at h1; exact ⟨_, h1⟩
    have t2 : ∃ y, env[b]? = some (some y) := by
      by_cases hc : b = i
      · rw [hc]; exact ⟨d0, he⟩
      · rw [List.getElem?_set_ne (Ne.symm hc)] at h2; exact ⟨_, h2⟩
    obtain ⟨y1, e1⟩ := t1
    obtain ⟨y2, e2⟩ := t2
    exact r.sep a b q y1 y2 m1 m2 e1 e2 s1 s2

/-- f(bag, ..): the other arguments, then the call -/
def xBag (i : Nat) (m : D → List D → R (D × D)) (f : Env → R (List D × Env)) : Env → R (D × Env) := fun env => match env[i]? with
  | some (some _) => (f env).bind fun a => match a.2[i]? with
    | some (some b) => (m b a.1).bind fun r => .ok (r.1, a.2.set i (some r.2))
    | _ => .bad
  | _ => .bad
section
variable {X : Cx} {W : WX} {M : Ms} {md mn m1 mb : List Md} {a b e c : Expr} {es : List Expr} {ta tb te : TE} {fa fb fe : Env → R (D × Env)} {pos p pb : Pos} {t : TA} {f : Env → R (List D × Env)} {K : PySem.W.Frag}
theorem PX.at_ {α : Type} {P : α → Prop} {env : Env} {i : Nat} {k : D → R α} (h : PX P (match env[i]? with | some (some d) => k d | _ => .bad)) : ∃ d, env[i]? = some (some d) ∧ PX P (k d) := by
  cases h1 : env[i]? with
  | none => rw [h1] at h; exact h.elim
  | some o =>
    cases o with
    | none => rw [h1] at h; exact h.elim
    | some d => rw [h1] at h; exact ⟨d, rfl, h⟩
theorem dx_bag {k : Nat} {x y : Str} {m : D → List D → R (D × D)} (i : Nat) (h : Fd X.prog X.w X.K X.mg X.base k x (spB X.K m)) (hr : Room k X.A) (hx : ∀ σ, PassesAt (L2.CX X.prog X.w) X σ (WE W σ)) (ha : DXA X W md es t f) (hK : X.K = K := by rfl) (hm : (md.getD i .u).mine = true := by rfl) (hN : X.N[i]? = some y := by rfl)
    (hv : Vis X.env.scope y := by first | exact Or.inl rfl | exact Or.inr (Or.inl rfl) | exact Or.inr (Or.inr rfl)) (hd : (y == ("__debug__" : Str)) = false := by decide) (hcd : (y == ("__classdict__" : Str)) = false := by decide) (hg : Gl X x := by rfl) (hdb : (x == ("__debug__" : Str)) = false := by decide)
    (he : starEach (.Name y pb :: es) X.env = (false, eval (.Name y pb) X.env) :: starEach es X.env := by rfl) (hpl : (backTo pos (starEach es X.env)).any (·.1) = false := by rfl) :
    DX X W md (.Call (.Name x p) (.Name y pb :: es) [] pos) (tCallS (spB K m) (WE W) (tCons (tVar i) t)) (xBag i m f) := by
  subst hK
  refine ⟨call_run h hr hx (pa_cons (pe_var hN hv hd hcd) ha.run he) hg hdb he hpl, fun G σ H F env Q rep post => ?_⟩
  obtain ⟨d0, h0, post⟩ := PX.at_ post
  obtain ⟨q, _, _, _, hq, _⟩ := rep.own hm h0
  refine ⟨.ref q, hq, ha.den G σ H F env _ rep (post.bind fun c p1 vs H1 F1 s1 r1 q1 => ?_)⟩
  obtain ⟨b0, h1, p1⟩ := PX.at_ p1
  obtain ⟨q2, bvs, bds, rfl, hq2, hb, nf, rb⟩ := r1.own hm h1
  rw [hq] at hq2
  cases hq2
  exact ⟨F1, q, bvs, bds, vs, c.1, rfl, r1.fh, hb, nf, rb, q1, p1.bind fun r p2 v H' F' kp ff fh fr ow rv => p2 v H' F' (s1.trans ff) (r1.eff hm h1 hq kp ff fh fr ow) rv⟩

/-! ### statements -/
def sX {α : Type} (m : R (α × Env)) (k : α → Env → R Fl) : R Fl := match m with
  | .ok (a, e) => k a e
  | _ => .bad
theorem sX_post {α : Type} {G : Gd} {E : Ends} {F : Hp} {m : R (α × Env)} {k : α → Env → R Fl} {P : α × Env → Prop} (h : PostS K G M W mn E F (sX m k)) (c : ∀ a e, PostS K G M W mn E F (k a e) → P (a, e)) : PX P m := by
  cases m with
  | ok a => obtain ⟨a, e⟩ := a; exact c a e h
  | exc c x => exact h
  | bad => exact h
def sExprX (f : Env → R (D × Env)) : Env → R Fl := fun env => sX (f env) fun _ e => .ok (.nx e)
def sSetX (i : Nat) (f : Env → R (D × Env)) : Env → R Fl := fun env => sX (f env) fun d e => .ok (.nx (e.set i (some d)))
def sRetX (f : Env → R (D × Env)) : Env → R Fl := fun env => sX (f env) fun d e => .ok (.rt d e)
def sIfX (c : Env → R (Bool × Env)) (f g : Env → R Fl) : Env → R Fl := fun env => sX (c env) fun b e => match b with | true => f e | false => g e
def sAsgX (f : Env → R (D × Env)) (g : D → Env → R Env) : Env → R Fl := fun env => sX (f env) fun d e => match g d e with
  | .ok e2 => .ok (.nx e2)
  | _ => .bad
theorem ds_exprX (he : DX X W md e te fe) (hs : swapsWith e none pos.line X.env = pure false := by rfl) : DS X W M md md (.Expr e pos) (tDrop te) (sExprX fe) :=
  ⟨ps_expr he.run hs, fun G σ H F env E rep post => he.den G σ H F env _ rep (sX_post post fun d e2 p v H1 F1 s1 r1 q1 => p σ H1 F1 s1 r1)⟩
theorem ds_setX (i : Nat) {x : Str} {pos' : Pos} (nd : X.N.Nodup) (he : DX X W md e te fe) (hi : X.N[i]? = some x := by rfl) (hx : Loc X.env.scope x := by first | exact Or.inl rfl | exact Or.inr rfl) (hm : i < md.length := by decide)
    (hs : swapsWith e (some (.Name x pos')) pos.line X.env = pure false := by rfl) (hf : X.fn x = true ∨ X.env.scope.names.lookup x = some .local := by first | exact .inl rfl | exact .inr rfl) :
    DS X W M md (md.set i .v) (.Assign [.Name x pos'] e pos) (tAsg te (gName i)) (sSetX i fe) :=
  ⟨ps_set nd hi hx he.run hs hf, fun G σ H F env E rep post => he.den G σ H F env _ rep (sX_post post fun d e2 p v H1 F1 s1 r1 q1 => p _ H1 F1 s1 (r1.setV hm q1))⟩
theorem ds_retX (he : DX X W md e te fe) (hr : leM md M.r = true := by rfl) (hf : M.fresh = false := by rfl) : DS X W M md mn (.Return (some e) pos) (tRet te) (sRetX fe) :=
  ⟨ps_ret he.run, fun G σ H F env E rep post => he.den G σ H F env _ rep (sX_post post fun d e2 p v H1 F1 s1 r1 q1 => by
    obtain ⟨F2, s2, r2⟩ := r1.weak hr
    exact p σ H1 F2 v (s1.trans s2) r2 (by rw [hf]; exact iteF (q1.mono s2)))⟩
theorem ds_ifX {st1 st2 : List Stmt} {t1 t2 : TS} {f1 f2 : Env → R Fl} {tc : TT} {fc : Env → R (Bool × Env)} (hc : DXT X W md c tc fc) (h1 : DSs X W M md mn st1 t1 f1) (h2 : DSs X W M md mn st2 t2 f2) : DS X W M md mn (.If c st1 st2 pos) (tIfS tc t1 t2) (sIfX fc f1 f2) :=
  ⟨ps_if hc.run h1.run h2.run, fun G σ H F env E rep post => hc.den G σ H F env _ rep (sX_post post fun k e2 p H1 F1 s1 r1 => by
    cases k with
    | true => exact iteT (h1.den G σ H1 F1 e2 E r1 (PostS.more p s1))
    | false => exact iteF (h2.den G σ H1 F1 e2 E r1 (PostS.more p s1)))⟩
theorem ds_asgX {ws : List Nat} {tg : Expr} {tt : TG} {fg : D → Env → R Env} (he : DX X W md e te fe) (hg : DG X md mn ws tg tt fg) (hs : swapsWithSole [tg] e pos.line X.env = pure false := by rfl) (hw : swappedStores [tg] e X.env = pure none := by rfl)
    (h1 : (assignEach [tg] X.env).map (·.2) = [assign tg X.env] := by rfl) : DS X W M md mn (.Assign [tg] e pos) (tAsg te tt) (sAsgX fe fg) :=
  ⟨ps_asg he.run hg.run hs hw h1, fun G σ H F env E rep post => he.den G σ H F env _ rep (sX_post post fun d e2 p v H1 F1 s1 r1 q1 => hg.den G σ H1 F1 e2 v d _ r1 q1 (by
    cases q : fg d e2 with
    | ok e3 => simp only [q] at p; exact fun σ2 _ r2 => p σ2 H1 F1 s1 r2
    | exc c x => simp only [q] at p; exact p.elim
    | bad => simp only [q] at p; exact p.elim))⟩
/-- x.append(e), where e writes other own lists -/
def sAppX (i : Nat) (f : Env → R (D × Env)) : Env → R Fl := fun env => match env[i]? with
  | some (some _) => sX (f env) fun d e => match e[i]? with
    | some (some (.lst xs)) => if xs.length < sizeLine then .ok (.nx (e.set i (some (.lst (xs ++ [d]))))) else .bad
    | _ => .bad
  | _ => .bad
theorem PostS.at_ {G : Gd} {E : Ends} {F : Hp} {env : Env} {i : Nat} {k : D → R Fl} (h : PostS K G M W mn E F (match env[i]? with | some (some d) => k d | _ => .bad)) : ∃ d, env[i]? = some (some d) ∧ PostS K G M W mn E F (k d) := by
  cases h1 : env[i]? with
  | none => rw [h1] at h; exact h.elim
  | some o =>
    cases o with
    | none => rw [h1] at h; exact h.elim
    | some d => rw [h1] at h; exact ⟨d, rfl, h⟩
theorem ds_appendX (i : Nat) {x : Str} {px apos cpos : Pos} (he : DX X W md e te fe) (hm : (md.getD i .u).mine = true := by rfl)
    (hs : swapsWith (.Call (.Attribute (.Name x px) "append" apos) [e] [] cpos) none pos.line X.env = pure false := by rfl)
    (hrun : PE X e te → PE X (.Call (.Attribute (.Name x px) "append" apos) [e] [] cpos) (tBM X.K "list" rAppend (tVar i) (tCons te tNil)) := by exact fun h => pe_bm PySem.F.plainAttrs_list PySem.F.slot_list_append PySem.F.type_list_append mt_append (pe_own _) (pa_cons h pa_nil)) :
    DS X W M md md (.Expr (.Call (.Attribute (.Name x px) "append" apos) [e] [] cpos) pos) (tDrop (tBM X.K "list" rAppend (tVar i) (tCons te tNil))) (sAppX i fe) := by
  refine ⟨ps_expr (hrun he.run) hs, fun G σ H F env E rep post => ?_⟩
  obtain ⟨d0, h0, post⟩ := PostS.at_ post
  obtain ⟨p, vs, ds, rfl, h1, h2, _, _⟩ := rep.own hm h0
  refine ⟨.ref p, h1, .inl ⟨rfl, vs, SqL.of h2⟩, ?_⟩
  refine he.den G σ H F env _ rep (sX_post post fun d e2 q v H1 F1 s1 r1 q1 => ?_)
  obtain ⟨p2, vs2, ds2, e0, g1, g2, g3, g4, q⟩ := own_at r1 hm (PostS.more q s1)
  rw [h1] at g1
  cases g1
  obtain ⟨hl, q⟩ := PostS.chk (c := ds2.length < sizeLine) q
  exact ⟨p, vs2, v, rfl, rfl, g2, by rw [g4.length]; exact hl, q _ _ F1 (Same.refl _) (r1.write hm e0 h1 (g4.append (.cons q1 .nil)))⟩
/-- x[k] = e, where e writes other own lists -/
def sPutX (i : Nat) (f : Env → R (D × Env)) (g : Env → R D) : Env → R Fl := fun env => sX (f env) fun d env => match env[i]? with
  | some (some (.lst xs)) => sB (g env) env fun k => match k with
    | .int k => match ixN xs.length k with
      | some j => .ok (.nx (env.set i (some (.lst (xs.set j d)))))
      | none => .bad
    | _ => .bad
  | _ => .bad
theorem ds_putX (i : Nat) {x : Str} {k : Expr} {tk : TE} {fk : Env → R D} {px spos : Pos} (he : DX X W md e te fe) (hk : DE X W md k tk fk) (hm : (md.getD i .u).mine = true := by rfl) (hx : leM md M.x = true := by rfl)
    (hrun : PE X e te → PE X k tk → PS X (.Assign [.Subscript (.Name x px) k spos] e pos) (tAsg te (gSub (tVar i) tk rSetL)) := by exact fun h1 h2 => ps_asg h1 (pg_sub (pe_own _) h2 set_list)) :
    DS X W M md md (.Assign [.Subscript (.Name x px) k spos] e pos) (tAsg te (gSub (tVar i) tk rSetL)) (sPutX i fe fk) := by
  refine ⟨hrun he.run hk.run, fun G σ H F env E rep post => ?_⟩
  refine he.den G σ H F env _ rep (sX_post post fun d e2 q v H1 F1 s1 rep1 r1 => ?_)
  obtain ⟨p, vs, ds, e0, h1, h2, h3, h4, q⟩ := own_at rep1 hm (PostS.more q s1)
  refine ⟨.ref p, h1, hk.den G σ H1 F1 e2 _ rep1 (q.expr rep1 hx fun c q2 u H2 F2 x2 r2 => ?_)⟩
  cases r2 with
  | int n =>
    cases hj : ixN ds.length n with
    | none => simp only [hj] at q2; exact q2.elim
    | some j =>
      simp only [hj] at q2
      refine ⟨p, vs, n, j, rfl, rfl, x2.hh _ _ h2, by rw [h4.length]; exact hj, ?_⟩
      exact q2 _ _ F2 x2.ff ((rep1.ext x2).write hm e0 h1 (RpA.set j (r1.mono x2.ff) (h4.mono x2.ff)))
  | _ => exact q2.elim
/-! what is walked, made with effects -/
def QIX (K : PySem.W.Frag) (G : Gd) (md : List Md) (σ : Sg) (F : Hp) (Q : It → Hp → Prop) (r : List D × Env) : Prop := ∀ J H' F', Same F F' → Rep K G md σ H' F' r.2 → ItOk K J (fun H => Same F' H) F' r.1 → Q J H'
structure DIX (X : Cx) (W : WX) (md : List Md) (tg iter : Expr) (t : TI) (f : Env → R (List D × Env)) : Prop where
  run : PI X tg iter t
  den : ∀ (G : Gd) (σ : Sg) (H F : Hp) (env : Env) (Q : It → Hp → Prop), Rep X.K G md σ H F env → PX (QIX X.K G md σ F Q) (f env) → t σ H Q
def xIt (g : List D → R (List D)) (f : Env → R (List D × Env)) : Env → R (List D × Env) := fun env => (f env).bind fun a => (g a.1).bind fun ds => .ok (ds, a.2)
def xItems (f : Env → R (D × Env)) : Env → R (List D × Env) := fun env => (f env).bind fun a => (dItems a.1).bind fun ds => .ok (ds, a.2)
theorem dix_range1 {tg : Expr} (hm : X.mg "range" = none) (ha : DXA X W md [a] t f) (hg : Gl X "range" := by rfl) (hs : starEach [a] X.env = [(false, eval a X.env)] := by rfl) : DIX X W md tg (.Call (.Name "range" p) [a] [] pos) (iRng1 t) (xIt dRange1 f) :=
  ⟨pi_range1 hg hm ha.run hs, fun G σ H F env Q rep post => ha.den G σ H F env _ rep (post.bind fun c p1 vs H1 F1 s1 rp r1 => by
    obtain ⟨cs, e2⟩ := c
    unfold dRange1 at p1
    dsimp only at p1 r1
    split at p1
    · rename_i j
      obtain ⟨v, rfl, rr⟩ := r1.one
      cases rr
      by_cases h1 : small62 j = true
      · rw [if_pos h1] at p1
        obtain ⟨h2, h3⟩ := small62_of h1
        exact ⟨j, rfl, h2, h3, p1 _ H1 F1 s1 rp itr_ok⟩
      · rw [if_neg h1] at p1; exact p1.elim
    · exact p1.elim)⟩
theorem dix_any {tg : Expr} (h : DX X W md e te fe) (hK : X.K = K := by rfl) : DIX X W md tg e (iAny K te) (xItems fe) := by
  subst hK
  exact ⟨pi_any h.run, fun G σ H F env Q rep post => h.den G σ H F env _ rep (post.bind fun c p1 v H1 F1 s1 rp r1 => by
    obtain ⟨c, e2⟩ := c
    dsimp only at r1
    cases r1 with
    | lst q r => exact .inl ⟨_, rfl, ⟨_, SqL.of (rp.fh _ _ q)⟩, p1 _ H1 F1 s1 rp (itl_ok q r)⟩
    | tup q r => exact .inr (.inl ⟨_, rfl, ⟨_, seqT rp.fh q.sq⟩, p1 _ H1 F1 s1 rp (itt_ok q.sq r)⟩)
    | str z hz => exact .inr (.inr ⟨z, rfl, p1 _ H1 F1 s1 rp (its_ok hz)⟩)
    | _ => exact p1.elim)⟩
def sForX (f : Env → R (List D × Env)) (g : D → Env → R Env) (b : Env → R Fl) : Env → R Fl := fun env => sX (f env) fun ds e => loop g b ds e
theorem ds_forX {ws : List Nat} {tg iter : Expr} {body : List Stmt} {wi : TI} {fi : Env → R (List D × Env)} {g : TG} {fg : D → Env → R Env} {tb : TS} {fb : Env → R Fl} (hp : PassesOwn (model X.prog X.w) X.A X.env X.xe) (hi : DIX X W md tg iter wi fi) (hg : DG X md m1 ws tg g fg) (hb : DSs X W { M with l := md } m1 mb body tb fb) (hl : leM mb md = true := by rfl) (hc : X.calm = true := by rfl)
    (hs : ∀ x, foldedSetIterable iter X.env x = pure x := by intro _; rfl) : DS X W M md md (.For tg iter body [] pos) (tFor wi g tb) (sForX fi fg fb) :=
  ⟨ps_for hp hc hi.run hg.run hb.run hs, fun G σ H F env E rep post => hi.den G σ H F env _ rep (sX_post post fun ds e2 p J H1 F1 s1 rp ok => DenS.for (fun G σ H F env v d Q => hg.den G σ H F env v d Q) hb.den hl rp ok (PostS.more p s1))⟩
end
end DN
end

section
set_option Elab.async false
set_option linter.all false
set_option maxRecDepth 100000
/-! own lists read at an index; defs as values -/
namespace DN
open PySem PySem.Spec PyProof.Rows L2
section
variable {X : Cx} {W : WX} {M : Ms} {md mn m1 mb : List Md} {a b e c : Expr} {es : List Expr} {ta tb te : TE} {fe : Env → R D} {pos p pb : Pos} {t : TA} {f : Env → R (List D)} {K : PySem.W.Frag}
/-- x[e] of an own list -/
def eIxO (i : Nat) (f : Env → R D) : Env → R D := fun env => match env[i]? with
  | some (some (.lst xs)) => (f env).bind fun d => dIx (.lst xs) d
  | _ => .bad
theorem ke_ixO (i : Nat) {x : Str} (he : DE X W md e te fe) (hK : X.K = K := by rfl) (hm : (md.getD i .u).mine = true := by rfl) (hN : X.N[i]? = some x := by rfl) (hv : Vis X.env.scope x := by first | exact Or.inl rfl | exact Or.inr (Or.inl rfl) | exact Or.inr (Or.inr rfl))
    (hd : (x == ("__debug__" : Str)) = false := by decide) (hcd : (x == ("__classdict__" : Str)) = false := by decide) (hs : PlainIx e := by exact fun _ _ => rfl) : DE X W md (.Subscript (.Name x pb) e pos) (tOp (rIx K) (tVar i) te) (eIxO i fe) := by
  subst hK
  refine ⟨pe_ix ix_seq (pe_var hN hv hd hcd) he.run hs, fun G σ H F env Q rep post => ?_⟩
  unfold eIxO at post
  cases h : env[i]? with
  | none => rw [h] at post; exact post.elim
  | some o =>
    rw [h] at post
    cases o with
    | none => exact post.elim
    | some d =>
      obtain ⟨q, vs, ds, rfl, h1, h2, h3, h4⟩ := rep.own hm h
      refine ⟨.ref q, h1, he.den G σ H F env _ rep (Post.bind post fun d p1 v H1 F1 x1 r1 => ?_)⟩
      cases r1 with
      | int n =>
        cases ez : L2.atI ds n with
        | none => simp only [dIx, ez] at p1; exact p1.elim
        | some z =>
          simp only [dIx, ez] at p1
          obtain ⟨u, g1, g2⟩ := h4.atI ez
          exact .inl ⟨q, vs, n, u, rfl, rfl, SqL.of (x1.hh _ _ h2), g1, p1 u H1 F1 x1 (g2.mono x1.ff)⟩
      | _ => exact p1.elim
/-- a def's name as a value -/
theorem ke_gfn {y : Str} (h : X.mg y = some (.ref (He.ga K y))) (hK : X.K = K := by rfl) (hg : Gl X y := by rfl) (hd : (y == ("__debug__" : Str)) = false := by decide) : DE X W md (.Name y pos) (tC (.ref (He.ga K y))) (eC (.fn y)) := by
  subst hK; exact de_glob hg h rfl (fun F => .fn y) hd
/-- the defs that a local name may hold -/
abbrev FnTab := List (Str × (List D → R D))
def FnTab.get (T : FnTab) (x : Str) : Option (List D → R D) := match T with
  | [] => none
  | (y, m) :: T => if y = x then some m else FnTab.get T x
structure TabOk (P : Program) (w : World) (K : PySem.W.Frag) (mg : Str → Option Value) (base : Heap) (S : PySem.W.Frag → (List D → R D) → Sp) (k : Nat) (T : FnTab) : Prop where
  all : ∀ x m, T.get x = some m → ∃ fd ps, FnOk P w K mg base (L2.CX P w) k (He.ga K x) fd ps (S K m) ∧ PySem.W.keepIn K (.ref (He.ga K x)) = true ∧ Binds K fd ps []
theorem tab_nil {P : Program} {w : World} {K : PySem.W.Frag} {mg : Str → Option Value} {base : Heap} {S : PySem.W.Frag → (List D → R D) → Sp} {k : Nat} : TabOk P w K mg base S k [] := ⟨fun x m h => by cases h⟩
theorem tab_cons {P : Program} {w : World} {K : PySem.W.Frag} {mg : Str → Option Value} {base : Heap} {S : PySem.W.Frag → (List D → R D) → Sp} {k j : Nat} {T : FnTab} {x : Str} {m : List D → R D} (h : Fd P w K mg base j x (S K m)) (hg : mg x = some (.ref (He.ga K x))) (r : TabOk P w K mg base S k T) (hk : j ≤ k := by decide) : TabOk P w K mg base S k ((x, m) :: T) := by
  refine ⟨fun y m2 h2 => ?_⟩
  simp only [FnTab.get] at h2
  by_cases e : x = y
  · rw [if_pos e] at h2
    cases h2
    subst e
    obtain ⟨f, fd, ps, F, h1, h3, h4⟩ := (h.mono hk).ex
    rw [hg] at h1
    cases h1
    exact ⟨fd, ps, F, h3, h4⟩
  · rw [if_neg e] at h2
    exact r.all y m2 h2
def eCallV (T : FnTab) (i : Nat) (f : Env → R (List D)) : Env → R D := fun env => match env[i]? with
  | some (some (.fn x)) => match T.get x with
    | some m => (f env).bind m
    | none => .bad
  | _ => .bad
/-- a call of what a local name holds -/
def tCallV (S : PySem.W.Frag → (List D → R D) → Sp) (K : PySem.W.Frag) (T : FnTab) (i : Nat) (E : Sg → XK) (t : TA) : TE := fun σ H Q => ∃ x m, σ[i]? = some (some (.ref (He.ga K x))) ∧ T.get x = some m ∧ t σ H fun vs H1 => S K m vs H1 Q (E σ)
theorem ke_callV {k : Nat} {T : FnTab} (i : Nat) {x : Str} (h : TabOk X.prog X.w X.K X.mg X.base spP k T) (hr : Room k X.A) (hx : ∀ σ, PassesAt (L2.CX X.prog X.w) X σ (WE W σ)) (ha : DA X W md (e :: es) t f) (hK : X.K = K := by rfl) (hm : md.getD i .u = .v := by rfl) (hN : X.N[i]? = some x := by rfl) (hv : Vis X.env.scope x := by first | exact Or.inl rfl | exact Or.inr (Or.inl rfl) | exact Or.inr (Or.inr rfl))
    (hdb : (x == ("__debug__" : Str)) = false := by decide) (hcd : (x == ("__classdict__" : Str)) = false := by decide) (he : starEach (e :: es) X.env = (false, eval e X.env) :: starEach es X.env := by rfl) (hpl : (backTo pos (starEach es X.env)).any (·.1) = false := by rfl) :
    DE X W md (.Call (.Name x p) (e :: es) [] pos) (tCallV spP K T i (WE W) t) (eCallV T i f) := by
  subst hK
  refine ⟨⟨fun pins s σ H Q I h0 => ?_⟩, fun G σ H F env Q rep post => ?_⟩
  · obtain ⟨y, m, hs, hT, ht⟩ := h0
    obtain ⟨fd, ps, Fk, hk, hb⟩ := h.all y m hT
    refine wpAny_Call_Name_kw (thn ((pe_var (pos := p) hN hv hdb hcd).run pins s σ H (fun v H1 => v = .ref (He.ga X.K y) ∧ H1 = H) I ⟨_, hs, rfl, rfl⟩) fun u s1 ⟨v, H1, I1, r1, q1⟩ => ?_)
    obtain ⟨rfl, rfl⟩ := q1
    cases r1
    refine PySem.W.callWith_K (h₀ := X.base) I.ok.mod.kin hk (thn (ha.run.run pos pins s1 σ _ _ I1 ht) fun us s2 ⟨vs, H2, I2, r, q⟩ => ⟨I2.kIn, ?_⟩) he hpl
    exact run_fnS Fk hr hb (hx σ) I2 r q
  · unfold eCallV at post
    cases h1 : env[i]? with
    | none => rw [h1] at post; exact post.elim
    | some o =>
      rw [h1] at post
      cases o with
      | none => exact post.elim
      | some d =>
        have sl := rep.sl i d h1
        rw [hm] at sl
        obtain ⟨v, s1, r1⟩ := sl
        cases r1 with
        | fn y =>
          simp only at post
          cases hT : T.get y with
          | none => simp only [hT] at post; exact post.elim
          | some m =>
            simp only [hT] at post
            exact ⟨y, m, s1, hT, ha.den G σ H F env _ rep (Post.bind post fun cs p1 vs H1 F1 x1 r1 => ⟨F1, cs, x1.fh, r1, Post.we (Post.extE p1 x1)⟩)⟩
        | _ => exact post.elim
theorem kf_callV {k : Nat} {T : FnTab} (i : Nat) {x : Str} (h : TabOk X.prog X.w X.K X.mg X.base spL k T) (hr : Room k X.A) (hx : ∀ σ, PassesAt (L2.CX X.prog X.w) X σ (WE W σ)) (ha : DA X W md (e :: es) t f) (hK : X.K = K := by rfl) (hm : md.getD i .u = .v := by rfl) (hN : X.N[i]? = some x := by rfl) (hv : Vis X.env.scope x := by first | exact Or.inl rfl | exact Or.inr (Or.inl rfl) | exact Or.inr (Or.inr rfl))
    (hdb : (x == ("__debug__" : Str)) = false := by decide) (hcd : (x == ("__classdict__" : Str)) = false := by decide) (he : starEach (e :: es) X.env = (false, eval e X.env) :: starEach es X.env := by rfl) (hpl : (backTo pos (starEach es X.env)).any (·.1) = false := by rfl) :
    DFN X W md (.Call (.Name x p) (e :: es) [] pos) (tCallV spL K T i (WE W) t) (eCallV T i f) := by
  subst hK
  refine ⟨⟨fun pins s σ H Q I h0 => ?_⟩, fun G σ H F env Q rep post => ?_⟩
  · obtain ⟨y, m, hs, hT, ht⟩ := h0
    obtain ⟨fd, ps, Fk, hk, hb⟩ := h.all y m hT
    refine wpAny_Call_Name_kw (thn ((pe_var (pos := p) hN hv hdb hcd).run pins s σ H (fun v H1 => v = .ref (He.ga X.K y) ∧ H1 = H) I ⟨_, hs, rfl, rfl⟩) fun u s1 ⟨v, H1, I1, r1, q1⟩ => ?_)
    obtain ⟨rfl, rfl⟩ := q1
    cases r1
    refine PySem.W.callWith_K (h₀ := X.base) I.ok.mod.kin hk (thn (ha.run.run pos pins s1 σ _ _ I1 ht) fun us s2 ⟨vs, H2, I2, r, q⟩ => ⟨I2.kIn, ?_⟩) he hpl
    exact run_fnS Fk hr hb (hx σ) I2 r q
  · unfold eCallV at post
    cases h1 : env[i]? with
    | none => rw [h1] at post; exact post.elim
    | some o =>
      rw [h1] at post
      cases o with
      | none => exact post.elim
      | some d =>
        have sl := rep.sl i d h1
        rw [hm] at sl
        obtain ⟨v, s1, r1⟩ := sl
        cases r1 with
        | fn y =>
          simp only at post
          cases hT : T.get y with
          | none => simp only [hT] at post; exact post.elim
          | some m =>
            simp only [hT] at post
            exact ⟨y, m, s1, hT, ha.den G σ H F env _ rep (Post.bind post fun cs p1 vs H1 F1 x1 r1 => ⟨F1, cs, x1.fh, r1, Post.we (Post.extN p1 x1)⟩)⟩
        | _ => exact post.elim
end
end DN
end

section
set_option Elab.async false
set_option linter.all false
set_option maxRecDepth 100000
/-! a list of new lists is made, read in a test, and its lists are written; nothing of it is read behind -/
namespace DN
open PySem PySem.Spec PyProof.Rows L2
/-- new own lists, all apart -/
inductive OwnS (K : PySem.W.Frag) (H F H0 : Hp) : List Addr → List D → Prop
  | nil : OwnS K H F H0 [] []
  | cons {q : Addr} {qs : List Addr} {d : D} {ds : List D} : H0 q = none → Own K H F q d → q ∉ qs → OwnS K H F H0 qs ds → OwnS K H F H0 (q :: qs) (d :: ds)
section
variable {K : PySem.W.Frag} {H F H0 H' F' : Hp}
theorem OwnS.length : ∀ {qs : List Addr} {ds : List D}, OwnS K H F H0 qs ds → qs.length = ds.length
  | _, _, .nil => rfl
  | _, _, .cons _ _ _ r => congrArg Nat.succ r.length
theorem OwnS.ext (x : Ext H F H' F') : ∀ {qs : List Addr} {ds : List D}, OwnS K H F H0 qs ds → OwnS K H' F' H0 qs ds
  | _, _, .nil => .nil
  | _, _, .cons a b c r => .cons a (b.ext x) c (r.ext x)
theorem OwnS.upd {L : Addr} {o : HO} : ∀ {qs : List Addr} {ds : List D}, L ∉ qs → OwnS K H F H0 qs ds → OwnS K (upd H L o) F H0 qs ds
  | _, _, _, .nil => .nil
  | _, _, n, .cons a b c r => .cons a (by
      obtain ⟨⟨vs, ds, e, h, ra⟩, nf⟩ := b
      refine ⟨⟨vs, ds, e, ?_, ra⟩, nf⟩
      rw [upd_ne (fun z => n (by rw [z]; exact List.mem_cons_self ..))]
      exact h) c (r.upd fun z => n (List.mem_cons_of_mem _ z))
theorem OwnS.mem : ∀ {qs : List Addr} {ds : List D} {q : Addr}, OwnS K H F H0 qs ds → q ∈ qs → H0 q = none ∧ ∃ d, d ∈ ds ∧ Own K H F q d
  | _, _, _, .cons a b c r, h => by
    rcases List.mem_cons.mp h with e | h
    · subst e; exact ⟨a, _, List.mem_cons_self .., b⟩
    · obtain ⟨n, d, hd, o⟩ := r.mem h
      exact ⟨n, d, List.mem_cons_of_mem _ hd, o⟩
theorem OwnS.snoc {q : Addr} {d : D} (n : H0 q = none) (o : Own K H F q d) : ∀ {qs : List Addr} {ds : List D}, q ∉ qs → OwnS K H F H0 qs ds → OwnS K H F H0 (qs ++ [q]) (ds ++ [d])
  | _, _, _, .nil => .cons n o (fun z => by cases z) .nil
  | _, _, h, .cons a b c r => .cons a b (fun z => by
      rcases List.mem_append.mp z with z | z
      · exact c z
      · exact h (by rw [List.mem_singleton.mp z]; exact List.mem_cons_self ..)) (r.snoc n o fun z => h (List.mem_cons_of_mem _ z))
theorem OwnS.nodup : ∀ {qs : List Addr} {ds : List D}, OwnS K H F H0 qs ds → qs.Nodup
  | _, _, .nil => .nil
  | _, _, .cons _ _ c r => List.nodup_cons.mpr ⟨c, r.nodup⟩
open Classical in
/-- the lists, known -/
theorem OwnS.rpa {F2 : Hp} (s : Same F F2) : ∀ {qs : List Addr} {ds : List D}, OwnS K H F H0 qs ds → (∀ q o, q ∈ qs → H q = some o → F2 q = some o) → RpA K F2 (qs.map V.ref) ds
  | _, _, .nil, _ => .nil
  | _, _, .cons a b c r, h => by
    obtain ⟨⟨vs, ds, e, hq, ra⟩, nf⟩ := b
    subst e
    exact .cons (.lst (h _ _ (List.mem_cons_self ..) hq) (ra.mono s)) (r.rpa s fun q o hm => h q o (List.mem_cons_of_mem _ hm))
end
section
variable {W : WX} {md m1 : List Md} {ws : List Nat} {wi : TI} {g : TG} {tt : TT} {te : TE} {fi : Env → R (List D)} {fg : D → Env → R Env} {ft : Env → R Bool} {fe : Env → R D}
theorem own_lc {K : PySem.W.Frag} {vs : List Nat} (hgd : ∀ (G : Gd) (σ : Sg) (H F : Hp) (env : Env) (v : V) (d : D) (Q : Sg → Hp → Prop), Rep K G md σ H F env → Rp K F v d → QG K G m1 ws σ H F Q (fg d env) → g v σ H Q)
    (ht : DenT K W0 m1 tt ft) (he : DenF K W0 m1 te fe) (hw : ∀ i, i ∈ ws → i ∈ vs) {G : Gd} {σ : Sg} {H F : Hp} {env : Env} {J : It} {C : Hp → Prop} {ds : List D} {Q : VK} (rep : Rep K G md σ H F env) (hC : C H) (mono : ∀ H1 H2, C H1 → Same H1 H2 → C H2) (ok : ItOk K J C F ds) (hz : ds.length ≤ sizeLine)
    (L : Addr) (nL : H L = none) (post : QL K W σ H F (fun ys => ∀ qs H1 F1, Ext H F H1 F1 → H1 L = some (.lst (qs.map V.ref)) → L ∉ qs → OwnS K H1 F1 H qs ys → F1 L = none → Q (.ref L) H1) (lcGo fg ft fe (wipeE env vs) ds)) :
    ∃ W : Nat → Nat → Hp → Prop, (∃ m, W 0 m (upd H L (.lst []))) ∧ ∀ i m H, W i m H →
      (J.stop i H ∧ Q (.ref L) H) ∨ (J.go i H ∧ ∃ Nx : Hp → Prop, (∀ H', Nx H' → ∃ m', m' < m ∧ W (i + 1) m' H') ∧ ∀ x H', J.yld i H x H' → g x (wipe σ vs) H' fun σ2 H2 => wipe σ2 vs = wipe σ vs ∧ tt σ2 H2 fun b H3 =>
        if b = true then te σ2 H3 fun y H4 => ∃ acc, H4 L = some (.lst acc) ∧ acc.length < sizeLine ∧ Nx (upd H4 L (.lst (acc ++ [y]))) else Nx H3) := by
  let P : List D → Prop := fun ys => ∀ qs H1 F1, Ext H F H1 F1 → H1 L = some (.lst (qs.map V.ref)) → L ∉ qs → OwnS K H1 F1 H qs ys → F1 L = none → Q (.ref L) H1
  let S : Nat → Hp → Prop := fun i H1 => ∃ F1 qs accD, i ≤ ds.length ∧ Ext H F H1 F1 ∧ F1 L = none ∧ H1 L = some (.lst (qs.map V.ref)) ∧ OwnS K H1 F1 H qs accD ∧ L ∉ qs ∧ qs.length ≤ i ∧
    QL K W σ H F (fun ys => P (accD ++ ys)) (lcGo fg ft fe (wipeE env vs) (ds.drop i))
  have fl : F L = none := rep.fh.free nL
  refine ⟨fun i m H1 => m + i = ds.length ∧ S i H1, ⟨ds.length, rfl, F, [], [], Nat.zero_le _, Ext.mine rep.fh nL, fl, upd_same, .nil, (fun z => nomatch z), Nat.le_refl _, post⟩, ?_⟩
  rintro i m H1 ⟨hm, F1, acc, accD, hi, x1, f1, h1, ra, nl, hacc, p1⟩
  have c1 : C H1 := mono _ _ hC x1.hh
  by_cases lt : i < ds.length
  · refine .inr ⟨ok.go i H1 c1 lt, fun H' => S (i + 1) H', fun H' h => ⟨m - 1, by omega, by omega, h⟩, fun x H' y => ?_⟩
    obtain ⟨d, F2, hd, x2, rx⟩ := ok.yld i H1 F1 x H' c1 lt x1.ff x1.fh y
    have ed : ds.drop i = d :: ds.drop (i + 1) := by
      obtain ⟨lt, e⟩ := List.getElem?_eq_some_iff.mp hd
      rw [List.drop_eq_getElem_cons lt, e]
    rw [ed] at p1
    have nof : ∀ {Ha Fa Hb Fb : Hp}, Ext Ha Fa Hb Fb → Fa L = none → (∃ o, Ha L = some o) → Fb L = none := fun {Ha Fa Hb Fb} e fa ⟨o, ho⟩ => by
      cases q : Fb L with
      | none => rfl
      | some o =>
        rcases e.fr _ _ q with z | z
        · rw [fa] at z; cases z
        · rw [ho] at z; cases z
    have f2 := nof x2 f1 ⟨_, h1⟩
    have r0 := wipe_rep (rep.ext (x1.trans x2)) vs
    refine hgd G (wipe σ vs) H' F2 (wipeE env vs) x d _ r0 rx ?_
    cases q : fg d (wipeE env vs) with
    | exc c z => simp only [lcGo, q, R.nox, R.bind] at p1; exact p1.elim
    | bad => simp only [lcGo, q, R.nox, R.bind] at p1; exact p1.elim
    | ok e2 =>
      simp only [lcGo, q, R.nox, R.bind] at p1
      intro σ2 off r2
      refine ⟨wipe_off off hw, ht G σ2 H' F2 e2 _ r2 ?_⟩
      cases q2 : ft e2 with
      | exc c z => simp only [q2] at p1; exact p1.elim
      | bad => simp only [q2] at p1; exact p1.elim
      | ok k =>
        simp only [q2] at p1
        intro H3 F3 x3
        have x13 := x1.trans (x2.trans x3)
        have h3 : H3 L = some (.lst (acc.map V.ref)) := x3.hh _ _ (x2.hh _ _ h1)
        have f3 := nof x3 f2 ⟨_, x2.hh _ _ h1⟩
        have ra3 := (ra.ext x2).ext x3
        cases k with
        | false => exact iteF ⟨F3, acc, accD, lt, x13, f3, h3, ra3, nl, by omega, p1⟩
        | true =>
          refine iteT (he G σ2 H3 F3 e2 _ (r2.ext x3) ?_)
          cases q3 : fe e2 with
          | exc c z => simp only [q3] at p1; exact p1.elim
          | bad => simp only [q3] at p1; exact p1.elim
          | ok yd =>
            simp only [q3] at p1
            intro qn H4 F4 x4 nq ow
            have x14 := x13.trans x4
            have h4 : H4 L = some (.lst (acc.map V.ref)) := x4.hh _ _ h3
            have f4 := nof x4 f3 ⟨_, h3⟩
            have hqL : L ≠ qn := fun z => by rw [← z, h3] at nq; cases nq
            have hqs : qn ∉ acc := fun z => by
              obtain ⟨_, d, _, ⟨⟨vs, ds, _, hv, _⟩, _⟩⟩ := ra3.mem z
              rw [nq] at hv; cases hv
            refine ⟨acc.map V.ref, h4, by rw [List.length_map]; omega, F4, acc ++ [qn], accD ++ [yd], lt, ?_, f4, by rw [List.map_append]; exact upd_same, ?_, ?_, by rw [List.length_append, List.length_singleton]; omega, ?_⟩
            · exact ⟨fun b o e => by rw [upd_ne (ne_of_none e nL)]; exact x14.hh _ _ e, x14.ff, fun b o e => by rw [upd_ne (fun z => by rw [z, f4] at e; cases e)]; exact x14.fh _ _ e, x14.fr⟩
            · exact (OwnS.snoc (x13.hh.free nq) ow hqs (ra3.ext x4)).upd fun z => by
                rcases List.mem_append.mp z with z | z
                · exact nl z
                · exact hqL (List.mem_singleton.mp z)
            · intro z
              rcases List.mem_append.mp z with z | z
              · exact nl z
              · exact hqL (List.mem_singleton.mp z)
            · cases q4 : lcGo fg ft fe (wipeE env vs) (ds.drop (i + 1)) with
              | exc c z => simp only [q4] at p1; exact p1.elim
              | bad => simp only [q4] at p1; exact p1.elim
              | ok ys =>
                simp only [q4] at p1
                show P (accD ++ [yd] ++ ys)
                rw [List.append_assoc]
                exact p1
  · have e0 : ds.drop i = [] := List.drop_eq_nil_of_le (by omega)
    rw [e0] at p1
    have p2 : P (accD ++ []) := p1
    rw [List.append_nil] at p2
    have ei : i = ds.length := by omega
    subst ei
    exact .inl ⟨ok.stop H1 c1, p2 acc H1 F1 x1 h1 nl ra f1⟩
end
/-- a slot of which nothing is said -/
theorem Rep.junk {K : PySem.W.Frag} {G : Gd} {md : List Md} {σ : Sg} {H F : Hp} {env : Env} {i : Nat} {x : Option V} (r : Rep K G md σ H F env) (hm : md.getD i .u = .u) : Rep K G md (σ.set i x) H F env := by
  have ne : ∀ j, (md.getD j .u).mine = true → j ≠ i := fun j h z => by rw [z, hm] at h; cases h
  refine ⟨r.fh, r.h0, r.f0, r.fr, r.gg, r.oo, by rw [List.length_set]; exact r.len, fun j d e => ?_, fun a b p d e m1 m2 h1 h2 s1 s2 => ?_⟩
  · by_cases hj : j = i
    · rw [hj, hm]; trivial
    · rw [List.getElem?_set_ne (Ne.symm hj)]; exact r.sl j d e
  · rw [List.getElem?_set_ne (Ne.symm (ne a m1))] at s1
    rw [List.getElem?_set_ne (Ne.symm (ne b m2))] at s2
    exact r.sep a b p d e m1 m2 h1 h2 s1 s2
def shortD : D → Bool
  | .lst xs => decide (xs.length < sizeLine)
  | _ => false
/-- told = [..]; if test: ..; for one in told: one.append(None) -/
def sTold (i j : Nat) (fc : Env → R D) (ft : Env → R Bool) (fa fr : Env → R Fl) : Env → R Fl := fun env => sB (fc env) env fun d => match d with
  | .lst ds => sB (ft (env.set i (some (.lst ds)))) (env.set i (some (.lst ds))) fun b => match b with
    | true => match fa (env.set i (some (.lst ds))) with
      | .ok (.nx _) => .bad
      | r => r
    | false => if ds.all shortD = true ∧ i < env.length ∧ j < env.length then fr env else .bad
  | _ => .bad
section
variable {X : Cx} {W : WX} {M : Ms} {md m1 mn : List Md} {ws : List Nat} {elt tg iter tc : Expr} {ifs : List Expr} {scope : Scope} {pos spos fpos ipos : Pos} {wi : TI} {g : TG} {tt tct : TT} {te : TE} {fi : Env → R (List D)} {fg : D → Env → R Env} {ft fct : Env → R Bool} {fe : Env → R D} {sa rest : List Stmt} {ta tr : TS} {fa fr : Env → R Fl}
open Classical in
theorem dss_told (i j : Nat) {y z : Str} {py p1 p2 p3 p4 apos cpos epos : Pos} {k0 : Nat} (own : List (Str × Nat)) (nd : X.N.Nodup) (ok : BlkOk X.N X.env.scope scope own) (hi : DI X W md tg iter wi fi) (hg : ∀ s H C cl fp, DG (Blk X scope s H C cl fp) md m1 ws tg g fg) (ht : ∀ s H C cl fp, DTs (Blk X scope s H C cl fp) W0 m1 ifs tt ft) (he : ∀ s H C cl fp, DF (Blk X scope s H C cl fp) W0 m1 elt te fe)
    (hsw : swapsWith (.ListComp elt [⟨tg, iter, ifs, 0⟩] scope pos) (some (.Name y py)) spos.line X.env = pure true) (hp : PassesOwn (model X.prog X.w) X.A X.env X.xe) (hc : DT X W (md.set i .v) tc tct fct) (ha : DSs X W M (md.set i .v) mn sa ta fa) (hr : DSs X W M ((md.set i .u).set j .u) mn rest tr fr)
    (hy : X.N[i]? = some y := by rfl) (hyl : X.env.scope.names.lookup y = some .local := by rfl) (hm : i < md.length := by decide) (hmj : j < md.length := by decide) (hij : i ≠ j := by decide) (hq : leM md M.x = true := by rfl) (hq2 : leM (md.set i .v) M.x = true := by rfl)
    (hw : subB ws (own.map (·.2)) = true := by rfl) (hcm : X.calm = true := by rfl) (hs : ∀ x, foldedSetIterable iter X.env x = pure x := by intro _; rfl)
    (hz : X.N[j]? = some z := by rfl) (hzl : Loc X.env.scope z := by first | exact Or.inl rfl | exact Or.inr rfl) (hzf : X.fn z = true ∨ X.env.scope.names.lookup z = some .local := by first | exact .inl rfl | exact .inr rfl)
    (hrun : PE X (.Call (.Attribute (.Name z p3) "append" apos) [.Constant .none k0 p4] [] cpos) (tBM X.K "list" rAppend (tVar j) (tCons (tC .non) tNil)) := by exact pe_bm PySem.F.plainAttrs_list PySem.F.slot_list_append PySem.F.type_list_append mt_append (pe_own _) (pa_cons pe_non pa_nil))
    (hyr : PE X (.Name y p2) (tVar i) := by exact pe_own _)
    (hsx : swapsWith (.Call (.Attribute (.Name z p3) "append" apos) [.Constant .none k0 p4] [] cpos) none epos.line X.env = pure false := by rfl) (hfs : ∀ x, foldedSetIterable (.Name y p2) X.env x = pure x := by intro _; rfl) :
    DSs X W M md mn (.Assign [.Name y py] (.ListComp elt [⟨tg, iter, ifs, 0⟩] scope pos) spos :: .If tc sa [] ipos :: .For (.Name z p1) (.Name y p2) [.Expr (.Call (.Attribute (.Name z p3) "append" apos) [.Constant .none k0 p4] [] cpos) epos] [] fpos :: rest)
      (L2.tSeq (tAsg (tLc wi g tt te (own.map (·.2))) (gName i)) (L2.tSeq (tIfS tct ta tNext) (L2.tSeq (tFor (iList X.K (tVar i)) (gName j) (tDrop (tBM X.K "list" rAppend (tVar j) (tCons (tC .non) tNil)))) tr)))
      (sTold i j (eLc (own.map (·.2)) fi fg ft fe) fct fa fr) := by
  refine ⟨pss_cons (ps_setLc hcm nd hy hyl hsw hi.run ok (fun s H C cl fp => (hg s H C cl fp).run) (fun s H C cl fp => (ht s H C cl fp).run) (fun s H C cl fp => (he s H C cl fp).run) hs) (pss_cons (ps_if hc.run ha.run pss_nil) (pss_cons (ps_for hp hcm (pi_list hyr) (pg_name nd hz hzl hzf) (pss_one (ps_expr hrun hsx)) hfs) hr.run)), fun G σ H F env E rep post => ?_⟩
  refine hi.den G σ H F env _ rep ?_
  unfold sTold eLc at post
  cases q0 : fi env with
  | exc c x => simp only [q0, R.bind] at post; exact (PostS.expr (P := fun _ : List D => True) rep hq (m := .exc c x) (k := fun _ => .bad) post fun a h => h.elim)
  | bad => simp only [q0, R.bind] at post; exact post.elim
  | ok ds0 =>
    simp only [q0, R.bind] at post
    intro J HJ FJ xJ okJ
    by_cases hz0 : ds0.length ≤ sizeLine
    · rw [if_pos hz0] at post
      intro L nL
      have repJ := rep.ext xJ
      refine own_lc (W := W) (Q := fun x H1 => gName i x σ H1 (L2.tSeq (tIfS tct ta tNext) (L2.tSeq (tFor (iList X.K (tVar i)) (gName j) (tDrop (tBM X.K "list" rAppend (tVar j) (tCons (tC .non) tNil)))) tr) E)) (fun G σ H F env v d Q => (hg X.s_0 X.H_0 0 [] []).den G σ H F env v d Q) (ht X.s_0 X.H_0 0 [] []).den (he X.s_0 X.H_0 0 [] []).den (subB_of hw) repJ xJ.fh (fun _ _ a b => a.trans b) okJ hz0 L nL ?_
      cases q1 : lcGo fg ft fe (wipeE env (own.map (·.2))) ds0 with
      | exc c x => simp only [q1, R.nox, R.bind] at post; exact post.elim
      | bad => simp only [q1, R.nox, R.bind] at post; exact post.elim
      | ok ys =>
        simp only [q1, R.nox, R.bind] at post
        intro qs H1 F1 x1 h1 nLq ow f1
        -- all known, for the test
        let S : Addr → Prop := fun a => a = L ∨ a ∈ qs
        have hS : ∀ a, S a → HJ a = none ∧ F1 a = none := fun a ha => by
          rcases ha with e | e
          · rw [e]; exact ⟨nL, f1⟩
          · obtain ⟨n, d, _, o⟩ := ow.mem e; exact ⟨n, o.nf⟩
        have xk : Ext HJ FJ H1 (known F1 H1 S) := ⟨x1.hh, fun a o e => by
          unfold known
          by_cases hs : S a
          · rw [x1.ff _ _ e] at *; have := (hS a hs).2; rw [x1.ff _ _ e] at this; cases this
          · rw [if_neg hs]; exact x1.ff _ _ e, fun a o e => by
          unfold known at e
          by_cases hs : S a
          · rw [if_pos hs] at e; exact e
          · rw [if_neg hs] at e; exact x1.fh _ _ e, fun a o e => by
          unfold known at e
          by_cases hs : S a
          · exact .inr (hS a hs).1
          · rw [if_neg hs] at e; exact x1.fr _ _ e⟩
        have sk : Same F1 (known F1 H1 S) := fun a o e => by
          unfold known
          by_cases hs : S a
          · rw [(hS a hs).2] at e; cases e
          · rw [if_neg hs]; exact e
        have rtold : Rp X.K (known F1 H1 S) (.ref L) (.lst ys) := .lst (by unfold known; rw [if_pos (.inl rfl)]; exact h1) (ow.rpa sk fun q o hm hq => by unfold known; rw [if_pos (.inr hm)]; exact hq)
        have rep1 := (repJ.ext xk).setV hm rtold
        refine hc.den G _ H1 _ _ _ rep1 ?_
        simp only [sB] at post
        cases qt : fct (env.set i (some (.lst ys))) with
        | bad => simp only [qt] at post; exact post.elim
        | exc c x =>
          simp only [qt] at post
          exact PostS.expr (P := fun b : Bool => QT _ _ _ b) rep1 hq2 (m := .exc c x) (k := fun _ => .bad) (PostS.more post (xJ.trans xk).ff) fun a h => h.elim
        | ok b =>
          simp only [qt] at post
          intro H3 F3 x3
          cases b with
          | true =>
            refine iteT (ha.den G _ H3 F3 _ _ (rep1.ext x3) ?_)
            have p3 := PostS.more post ((xJ.trans xk).ff.trans x3.ff)
            cases qa : fa (env.set i (some (.lst ys))) with
            | bad => rw [qa] at p3; exact p3.elim
            | exc c x => rw [qa] at p3; exact p3.elim
            | ok fl =>
              rw [qa] at p3
              cases fl with
              | nx e => exact p3.elim
              | rt d e => exact p3
              | bk e => exact p3
              | ct e => exact p3
              | ex c x e => cases x <;> exact p3
          | false =>
            refine iteF ?_
            obtain ⟨⟨hsh, hie, hje⟩, post⟩ := PostS.chk (c := ys.all shortD = true ∧ i < env.length ∧ j < env.length) post
            have hiσ : i < σ.length := by rw [← rep.len]; exact hie
            have hh3 : Same H H3 := xJ.hh.trans (x1.hh.trans x3.hh)
            have hL3 : H3 L = some (.lst (qs.map V.ref)) := x3.hh _ _ h1
            have hLn : H L = none := xJ.hh.free nL
            let σ1 : Sg := σ.set i (some (.ref L))
            let I : Nat → Nat → Sg → Hp → Prop := fun k m σ' H' => m + k = qs.length ∧ Same H H' ∧ (σ' = σ1 ∨ ∃ v, σ' = σ1.set j (some v)) ∧ H' L = some (.lst (qs.map V.ref)) ∧ ∀ t q, k ≤ t → qs[t]? = some q → ∃ vs, H' q = some (.lst vs) ∧ vs.length < sizeLine
            refine ⟨.ref L, List.getElem?_set_self hiσ, L, rfl, ⟨_, SqL.of hL3⟩, I, ⟨qs.length, rfl, hh3, .inl rfl, hL3, fun t q _ hq => ?_⟩, ?_⟩
            · obtain ⟨_, d, hd, ⟨⟨vs, ds, e, hv, ra⟩, _⟩⟩ := ow.mem (List.mem_of_getElem? hq)
              refine ⟨vs, x3.hh _ _ hv, ?_⟩
              have := List.all_eq_true.mp hsh d hd
              rw [e] at this
              rw [ra.length]
              exact of_decide_eq_true this
            · rintro k m σ' H' ⟨hm, hh, hσ, hL, hqs⟩
              by_cases lt : k < qs.length
              · refine .inr ⟨⟨_, .ref (qs[k]'lt), SqL.of hL, by rw [List.getElem?_map, List.getElem?_eq_getElem lt]; rfl⟩, fun σ' H' => ∃ m', I (k + 1) m' σ' H', fun σ2 H2 h => ?_, fun x H2 yl => ?_⟩
                · obtain ⟨m', h⟩ := h
                  exact ⟨m', by have := h.1; omega, h⟩
                · obtain ⟨rfl, yl⟩ := yl
                  have ex : x = .ref (qs[k]'lt) := by
                    have := yl _ (SqL.of hL)
                    rw [List.getElem?_map, List.getElem?_eq_getElem lt] at this
                    cases this; rfl
                  subst ex
                  obtain ⟨vs, hv, hvl⟩ := hqs k (qs[k]'lt) (Nat.le_refl _) (List.getElem?_eq_getElem lt)
                  have hjσ : j < σ'.length := by
                    rw [rep.len] at hje
                    rcases hσ with e | ⟨v, e⟩
                    · rw [e, List.length_set]; exact hje
                    · rw [e, List.length_set, List.length_set]; exact hje
                  have hmem : qs[k]'lt ∈ qs := List.getElem_mem lt
                  have hne : L ≠ qs[k]'lt := fun z => nLq (by rw [z]; exact hmem)
                  have hqn : H (qs[k]'lt) = none := xJ.hh.free (ow.mem hmem).1
                  refine ⟨.ref (qs[k]'lt), List.getElem?_set_self hjσ, .inl ⟨rfl, vs, SqL.of hv⟩, qs[k]'lt, vs, .non, rfl, rfl, hv, hvl, m - 1, by omega, fun a o e => ?_, ?_, ?_, fun t q ht hq => ?_⟩
                  · rw [upd_ne (ne_of_none e hqn)]; exact hh _ _ e
                  · rcases hσ with e | ⟨v, e⟩
                    · rw [e]; exact .inr ⟨_, rfl⟩
                    · rw [e, List.set_set]; exact .inr ⟨_, rfl⟩
                  · rw [upd_ne hne]; exact hL
                  · have hn2 : q ≠ qs[k]'lt := fun z => by
                      obtain ⟨lt2, e2⟩ := List.getElem?_eq_some_iff.mp hq
                      have hkt : k < t := Nat.lt_of_succ_le ht
                      exact List.pairwise_iff_getElem.mp ow.nodup k t lt lt2 hkt (by rw [e2, z])
                    rw [upd_ne hn2]
                    exact hqs t q (by omega) hq
              · refine .inl ⟨⟨_, SqL.of hL, by rw [List.length_map]; omega⟩, ?_⟩
                have rX : Rep X.K G ((md.set i .u).set j .u) σ H' F env := (rep.ext (⟨hh, Same.refl _, rep.fh.trans hh, fun _ _ e => .inl e⟩ : Ext H F H' F)).drop fun t => by
                  have lj : j < (md.set i .u).length := by rw [List.length_set]; exact hmj
                  rw [getD_set _ j t .u lj]
                  by_cases e : t = j
                  · rw [if_pos e]; exact .inl rfl
                  · rw [if_neg e, getD_set _ i t .u ‹i < md.length›]
                    by_cases e2 : t = i
                    · rw [if_pos e2]; exact .inl rfl
                    · rw [if_neg e2]; exact .inr rfl
                have lj : j < (md.set i .u).length := by rw [List.length_set]; exact hmj
                have mi : ((md.set i .u).set j .u).getD i .u = .u := by rw [getD_set _ j i .u lj, if_neg hij, getD_set _ i i .u ‹i < md.length›, if_pos rfl]
                have mj : ((md.set i .u).set j .u).getD j .u = .u := by rw [getD_set _ j j .u lj, if_pos rfl]
                rcases hσ with e | ⟨v, e⟩
                · rw [e]; exact hr.den G _ H' F env E (rX.junk mi) post
                · rw [e]; exact hr.den G _ H' F env E ((rX.junk mi).junk mj) post
    · rw [if_neg hz0] at post; exact post.elim
end
end DN
end

section
set_option Elab.async false
set_option linter.all false
set_option maxRecDepth 100000
/-! from a law's denotation to its statement -/
namespace DN
open PySem PySem.Spec PyProof.Rows L2
theorem rpa_ints {K : PySem.W.Frag} {F : Hp} : ∀ ns : List Int, RpA K F (ns.map V.int) (ns.map D.int)
  | [] => .nil
  | n :: ns => .cons (.int n) (rpa_ints ns)
/-- the script as it comes -/
theorem law_says {K : PySem.W.Frag} {m : List D → R D} {H : Hp} {a : Addr} {ns : List Int} (h : m [.scr (ns.map D.int)] = .ok (.bl true)) (hS : SqL K H a (ns.map V.int)) :
    spP K m [.ref a] H (fun v _ => v = .bl true) (fun _ _ _ => False) := by
  refine ⟨H, [.scr (ns.map D.int)], Same.refl _, .cons (.scr hS (rpa_ints ns)) .nil, ?_⟩
  rw [h]
  intro v H' F' _ r
  cases r
  rfl
theorem law_walk {l : PySem.W.OpenLaw} {n k : Nat} {q : Program} {loose : List Str} {XP : (Str → Option Value) → Heap → Prop} {YP : World → Heap → Prop} {d : DefRec} {x : Str} {m : List D → R D}
    (hn : l.most = some n) (hn2 : n ≤ sizeLine) (hdf : d.params.defaults = []) (hr : Room k callerA) (hm : ∀ ns : List Int, ns.length ≤ n → m [.scr (ns.map D.int)] = .ok (.bl true))
    (F : ∀ (w : World) (mg : Str → Option Value) (fa : Addr) (h : Heap), YP w h → h.Ns mainGlobals mg → mg d.name = some (.ref fa) →
      ∃ (K : PySem.W.Frag) (fd : FuncData), K.In h ∧ (∀ (s : Shared) (u : Value), BindsTo s fd ⟨[u], []⟩ [(x, u)]) ∧ ∀ base : Heap, FnOk l.prog w K mg base (L2.CX l.prog w) k fa fd [x] (spP K m)) :
    PySem.W.WalkO q loose XP YP l.row.toRowW d [] (fun f vs => PySem.call f vs) := by
  refine Att.attach_call hn hdf ?_
  intro w s₀ s₁ mg mb fa o pm cd doc a vs ns G Y ho hd hcd hmg hobj hints hlen hg
  obtain ⟨K, fd, KX, hb, hF⟩ := F w mg fa _ Y G.T.g hmg
  refine law_call (sp := spP K m) KX G.T.g G.T.b G.T.builtins G.T.nolimit hg hobj hints ?_ hr (fun base _ _ => hF base) hb ?_ ?_
  · exact Nat.le_trans hlen hn2
  · exact fun H _ hS => law_says (hm ns hlen) hS
  · rintro H e s' ⟨_, _, _, _, _, _, _, _, _, _, _, _, z⟩
    exact z
end DN
end

section
set_option Elab.async false
set_option linter.all false
set_option maxRecDepth 100000
namespace DN
open PySem PySem.Spec PyProof.Rows L2
/-! the smallest of a list -/
def imin : Int → List Int → Int
  | m, [] => m
  | m, x :: r => imin (if x < m then x else m) r
def dMinL : List D → R D
  | [.lst xs] => match dints xs with
    | some (m :: r) => .ok (.int (imin m r))
    | _ => .bad
  | _ => .bad
theorem imin_le : ∀ (l : List Int) (m : Int), imin m l ≤ m ∧ (∀ y ∈ l, imin m l ≤ y) ∧ (imin m l = m ∨ imin m l ∈ l)
  | [], m => ⟨Int.le_refl _, fun _ h => (by cases h), .inl rfl⟩
  | x :: r, m => by
    obtain ⟨h1, h2, h3⟩ := imin_le r (if x < m then x else m)
    simp only [imin]
    refine ⟨?_, fun y hy => ?_, ?_⟩
    · split at h1 <;> (split; all_goals omega)
    · rcases List.mem_cons.mp hy with rfl | hy
      · split at h1 <;> (split; all_goals omega)
      · exact h2 y hy
    · rcases h3 with h | h
      · rw [h]
        split
        · exact .inr (List.mem_cons_self ..)
        · exact .inl rfl
      · exact .inr (List.mem_cons_of_mem _ h)
theorem v_minL {K : PySem.W.Frag} : VArg K (rMin K) dMinL := by
  intro W σ xs cs H F Q fh r post
  unfold dMinL at post
  split at post
  · obtain ⟨v, rfl, rr⟩ := r.one
    cases rr with
    | lst q r =>
      split at post
      · rename_i m l e
        have ev := r.toInts e
        subst ev
        refine ⟨_, m :: l, rfl, SqL.of (fh _ _ q), Nat.succ_pos _, fun k hk hu => ?_⟩
        obtain ⟨h1, h2, h3⟩ := imin_le l m
        have ek : k = imin m l := by
          have a1 : k ≤ imin m l := by
            rcases h3 with h | h
            · rw [h]; exact hu m (List.mem_cons_self ..)
            · exact hu _ (List.mem_cons_of_mem _ h)
          rcases List.mem_cons.mp hk with rfl | hk
          · omega
          · have := h2 k hk; omega
        rw [ek]
        exact post _ H F (Ext.refl fh) (.int _)
      · exact post.elim
  · exact post.elim
end DN
end

section
set_option Elab.async false
set_option linter.all false
set_option maxRecDepth 100000
/-! more with effects: parallel assignments, comprehensions -/
namespace DN
open PySem PySem.Spec PyProof.Rows L2
def sPar2X (i j : Nat) (f g : Env → R (D × Env)) : Env → R Fl := fun env => sX (f env) fun a e1 => sX (g e1) fun b e2 => .ok (.nx ((e2.set i (some a)).set j (some b)))
section
variable {X : Cx} {W : WX} {M : Ms} {md : List Md} {e1 e2 : Expr} {t1 t2 : TE} {f1 f2 : Env → R (D × Env)}
theorem ds_par2X (i j : Nat) {x y : Str} {px py pt pos : Pos} {kt k2 : Nat} {pt2 : Pos} (nd : X.N.Nodup) (h1 : DX X W md e1 t1 f1) (h2 : DX X W md e2 t2 f2)
    (hw : swappedStores [.Tuple [.Name x px, .Name y py] kt pt] (.Tuple [e1, e2] k2 pt2) X.env = pure (some [x, y]) := by rfl)
    (hi : X.N[i]? = some x := by rfl) (hj : X.N[j]? = some y := by rfl) (hij : i ≠ j := by decide) (hx : X.env.scope.names.lookup x = some .local := by rfl) (hy : X.env.scope.names.lookup y = some .local := by rfl) (hli : i < md.length := by decide) (hlj : j < md.length := by decide)
    (hc : X.calm = true := by rfl) (ha1 : starEach [e1, e2] X.env = (false, eval e1 X.env) :: starEach [e2] X.env := by rfl) (ha2 : starEach [e2] X.env = (false, eval e2 X.env) :: starEach [] X.env := by rfl)
    (hs : swapsWithSole [.Tuple [.Name x px, .Name y py] kt pt] (.Tuple [e1, e2] k2 pt2) pos.line X.env = pure false := by rfl) :
    DS X W M md ((md.set i .v).set j .v) (.Assign [.Tuple [.Name x px, .Name y py] kt pt] (.Tuple [e1, e2] k2 pt2) pos) (tPar i j (tCons t1 (tCons t2 tNil))) (sPar2X i j f1 f2) := by
  refine ⟨ps_par hc nd hi hj hij hx hy (pa_cons h1.run (pa_cons h2.run pa_nil ha2) ha1) hw hs, fun G σ H F env E rep post => ?_⟩
  refine h1.den G σ H F env _ rep (sX_post post fun a e1 p1 v H1 F1 s1 r1 q1 => ?_)
  refine h2.den G σ H1 F1 e1 _ r1 (sX_post (PostS.more p1 s1) fun b e2 p2 w H2 F2 s2 r2 q2 => ?_)
  have lj : j < (md.set i .v).length := by rw [List.length_set]; exact hlj
  exact ⟨v, w, rfl, p2 _ H2 F2 s2 ((r2.setV hli (q1.mono s2)).setV lj q2)⟩
end

/-! ### a list in the making beside what is told -/
section
variable {K : PySem.W.Frag} {G : Gd} {md : List Md} {σ : Sg} {H F : Hp} {env : Env} {L : Addr} {x : HO}
theorem Rep.newL (r : Rep K G md σ H F env) (n : H L = none) : L ∉ G.O ∧ G.H0 L = none ∧ G.F0 L = none := by
  have h1 : L ∉ G.O := fun z => by obtain ⟨o, e⟩ := r.oo L z; rw [n] at e; cases e
  have h2 : G.H0 L = none := by
    cases q : G.H0 L with
    | none => rfl
    | some o => rw [r.h0 L o h1 q] at n; cases n
  refine ⟨h1, h2, ?_⟩
  cases q : G.F0 L with
  | none => rfl
  | some o => rw [r.gg _ _ q] at h2; cases h2
theorem Rep.mineNe (r : Rep K G md σ H F env) (n : H L = none) {i : Nat} {p : Addr} {d : D} (hm : (md.getD i .u).mine = true) (he : env[i]? = some (some d)) (hs : σ[i]? = some (some (.ref p))) : p ≠ L := fun z => by
  obtain ⟨q, vs, ds, _, h1, h2, _⟩ := r.own hm he
  rw [hs] at h1
  cases h1
  rw [z, n] at h2
  cases h2
theorem Rep.markL (r : Rep K G md σ H F env) (n : H L = none) (x : HO) : Rep K ⟨upd G.H0 L x, G.F0, G.O⟩ md σ (upd H L x) F env := by
  obtain ⟨hO, h0, f0⟩ := r.newL n
  have fl : F L = none := r.fh.free n
  refine ⟨fun a o e => by rw [upd_ne (fun z => by rw [z, fl] at e; cases e)]; exact r.fh _ _ e, fun a o na e => ?_, r.f0, fun a o e => ?_, fun a o e => ?_, fun a ha => ?_, r.len, fun i d e => ?_, r.sep⟩
  · by_cases h : a = L
    · subst h; simp only [upd_same] at e ⊢; exact e
    · simp only [upd_ne h] at e ⊢; exact r.h0 a o na e
  · by_cases h : a = L
    · subst h; rw [fl] at e; cases e
    · simp only [upd_ne h]; exact r.fr a o e
  · by_cases h : a = L
    · subst h; rw [f0] at e; cases e
    · simp only [upd_ne h]; exact r.gg _ _ e
  · obtain ⟨o, q⟩ := r.oo a ha
    by_cases h : a = L
    · subst h; exact ⟨x, upd_same⟩
    · exact ⟨o, by rw [upd_ne h]; exact q⟩
  · have s := r.sl i d e
    have off : ∀ p, (md.getD i .u).mine = true → σ[i]? = some (some (.ref p)) → Own K H F p d → Own K (upd H L x) F p d := fun p m hs o => by
      obtain ⟨⟨vs, ds, q1, q2, q3⟩, q4⟩ := o
      exact ⟨⟨vs, ds, q1, by rw [upd_ne (r.mineNe n m e hs)]; exact q2, q3⟩, q4⟩
    cases m : md.getD i .u with
    | v => rw [m] at s; exact s
    | u => trivial
    | o =>
      rw [m] at s
      obtain ⟨p, hs, o, hn⟩ := s
      exact ⟨p, hs, off p (by rw [m]; rfl) hs o, by simp only [upd_ne (r.mineNe n (by rw [m]; rfl) e hs)]; exact hn⟩
    | p =>
      rw [m] at s
      obtain ⟨p, hs, o, hn⟩ := s
      exact ⟨p, hs, off p (by rw [m]; rfl) hs o, hn⟩
theorem Rep.atL (r : Rep K ⟨upd G.H0 L x, G.F0, G.O⟩ md σ H F env) (hO : L ∉ G.O) (hF : G.F0 L = none) : H L = some x ∧ F L = none := by
  refine ⟨r.h0 L x hO upd_same, ?_⟩
  cases q : F L with
  | none => rfl
  | some o =>
    rcases r.fr L o q with z | z
    · simp only [hF] at z; cases z
    · simp only [upd_same] at z; cases z
theorem Rep.mineL (r : Rep K ⟨upd G.H0 L x, G.F0, G.O⟩ md σ H F env) (hO : L ∉ G.O) {i : Nat} {p : Addr} {d : D} (hm : (md.getD i .u).mine = true) (he : env[i]? = some (some d)) (hs : σ[i]? = some (some (.ref p))) : p ≠ L := fun z => by
  have s := r.sl i d he
  cases m : md.getD i .u with
  | v => rw [m] at hm; cases hm
  | u => rw [m] at hm; cases hm
  | o =>
    rw [m] at s
    obtain ⟨q, h1, _, h3⟩ := s
    rw [hs] at h1; cases h1
    rw [z] at h3; simp only [upd_same] at h3; cases h3
  | p =>
    rw [m] at s
    obtain ⟨q, h1, _, h3⟩ := s
    rw [hs] at h1; cases h1
    rw [z] at h3; exact hO h3
theorem Rep.swapL (r : Rep K ⟨upd G.H0 L x, G.F0, G.O⟩ md σ H F env) (hO : L ∉ G.O) (hF : G.F0 L = none) (y : HO) : Rep K ⟨upd G.H0 L y, G.F0, G.O⟩ md σ (upd H L y) F env := by
  obtain ⟨hl, fl⟩ := r.atL hO hF
  refine ⟨fun a o e => by rw [upd_ne (fun z => by rw [z, fl] at e; cases e)]; exact r.fh _ _ e, fun a o na e => ?_, r.f0, fun a o e => ?_, fun a o e => ?_, fun a ha => ?_, r.len, fun i d e => ?_, r.sep⟩
  · by_cases h : a = L
    · subst h; simp only [upd_same] at e ⊢; exact e
    · simp only [upd_ne h] at e ⊢; exact r.h0 a o na (by simp only [upd_ne h]; exact e)
  · by_cases h : a = L
    · subst h; rw [fl] at e; cases e
    · have := r.fr a o e; simp only [upd_ne h] at this ⊢; exact this
  · by_cases h : a = L
    · subst h; simp only [hF] at e; cases e
    · have := r.gg _ _ e; simp only [upd_ne h] at this ⊢; exact this
  · obtain ⟨o, q⟩ := r.oo a ha
    by_cases h : a = L
    · subst h; exact ⟨y, upd_same⟩
    · exact ⟨o, by rw [upd_ne h]; exact q⟩
  · have s := r.sl i d e
    have off : ∀ p, (md.getD i .u).mine = true → σ[i]? = some (some (.ref p)) → Own K H F p d → Own K (upd H L y) F p d := fun p m hs o => by
      obtain ⟨⟨vs, ds, q1, q2, q3⟩, q4⟩ := o
      exact ⟨⟨vs, ds, q1, by rw [upd_ne (r.mineL hO m e hs)]; exact q2, q3⟩, q4⟩
    cases m : md.getD i .u with
    | v => rw [m] at s; exact s
    | u => trivial
    | o =>
      rw [m] at s
      obtain ⟨p, hs, o, hn⟩ := s
      have hne := r.mineL hO (by rw [m]; rfl) e hs
      exact ⟨p, hs, off p (by rw [m]; rfl) hs o, by simp only [upd_ne hne] at hn ⊢; exact hn⟩
    | p =>
      rw [m] at s
      obtain ⟨p, hs, o, hn⟩ := s
      exact ⟨p, hs, off p (by rw [m]; rfl) hs o, hn⟩
/-- the list is done, and known -/
theorem Rep.doneL (r : Rep K ⟨upd G.H0 L x, G.F0, G.O⟩ md σ H F env) (hO : L ∉ G.O) (h0 : G.H0 L = none) (hF : G.F0 L = none) : Rep K G md σ H (upd F L x) env := by
  obtain ⟨hl, fl⟩ := r.atL hO hF
  have mono : Same F (upd F L x) := same_upd fl
  refine ⟨fun a o e => ?_, fun a o na e => ?_, r.f0.trans mono, fun a o e => ?_, fun a o e => ?_, r.oo, r.len, fun i d e => ?_, r.sep⟩
  · by_cases h : a = L
    · subst h; rw [upd_same] at e; rw [← e]; exact hl
    · rw [upd_ne h] at e; exact r.fh _ _ e
  · have h : a ≠ L := fun z => by rw [z, h0] at e; cases e
    exact r.h0 a o na (by simp only [upd_ne h]; exact e)
  · by_cases h : a = L
    · subst h; exact .inr h0
    · rw [upd_ne h] at e
      have := r.fr a o e
      simp only [upd_ne h] at this; exact this
  · have := r.gg a o e
    have h : a ≠ L := fun z => by rw [z] at e; simp only [hF] at e; cases e
    simp only [upd_ne h] at this; exact this
  · have s := r.sl i d e
    have off : ∀ p, (md.getD i .u).mine = true → σ[i]? = some (some (.ref p)) → Own K H F p d → Own K H (upd F L x) p d := fun p m hs o => by
      obtain ⟨⟨vs, ds, q1, q2, q3⟩, q4⟩ := o
      exact ⟨⟨vs, ds, q1, q2, q3.mono mono⟩, by rw [upd_ne (r.mineL hO m e hs)]; exact q4⟩
    cases m : md.getD i .u with
    | v => rw [m] at s; obtain ⟨v, h1, h2⟩ := s; exact ⟨v, h1, h2.mono mono⟩
    | u => trivial
    | o =>
      rw [m] at s
      obtain ⟨p, hs, o, hn⟩ := s
      have hne := r.mineL hO (by rw [m]; rfl) e hs
      exact ⟨p, hs, off p (by rw [m]; rfl) hs o, by simp only [upd_ne hne] at hn; exact hn⟩
    | p =>
      rw [m] at s
      obtain ⟨p, hs, o, hn⟩ := s
      exact ⟨p, hs, off p (by rw [m]; rfl) hs o, hn⟩
end
end DN
end

section
set_option Elab.async false
set_option linter.all false
set_option maxRecDepth 100000
namespace DN
open PySem PySem.Spec PyProof.Rows L2
/-! ### comprehensions whose elements write own lists -/
def lcGoX (g : D → Env → R Env) (c : Env → R Bool) (f : Env → R (D × Env)) (vs : List Nat) : Env → List D → R (List D × Env)
  | env, [] => .ok ([], env)
  | env, d :: ds => (g d env).nox.bind fun e => (c e).nox.bind fun k => match k with
    | true => (f e).bind fun y => (lcGoX g c f vs (wipeE y.2 vs) ds).bind fun ys => .ok (y.1 :: ys.1, ys.2)
    | false => lcGoX g c f vs env ds
def xLc (vs : List Nat) (fi : Env → R (List D × Env)) (g : D → Env → R Env) (c : Env → R Bool) (f : Env → R (D × Env)) : Env → R (D × Env) := fun env => (fi env).bind fun a => if a.1.length ≤ sizeLine then ((lcGoX g c f vs (wipeE a.2 vs) a.1).bind fun b => .ok (.lst b.1, b.2)) else .bad
def offB (m1 md : List Md) (vs : List Nat) : Bool := (List.range (max m1.length md.length)).all fun i => decide (i ∈ vs) || decide (m1.getD i .u = md.getD i .u)
theorem offB_of {m1 md : List Md} {vs : List Nat} (h : offB m1 md vs = true) (i : Nat) (hi : i ∉ vs) : m1.getD i .u = md.getD i .u := by
  by_cases hl : i < max m1.length md.length
  · have := List.all_eq_true.mp h i (List.mem_range.mpr hl)
    rw [Bool.or_eq_true] at this
    rcases this with z | z
    · exact absurd (of_decide_eq_true z) hi
    · exact of_decide_eq_true z
  · rw [List.getD_eq_getElem?_getD, List.getD_eq_getElem?_getD, List.getElem?_eq_none (by omega), List.getElem?_eq_none (by omega)]
theorem wipeE_len (env : Env) : ∀ vs : List Nat, (wipeE env vs).length = env.length
  | [] => rfl
  | v :: vs => by simp only [wipeE, List.length_set]; exact wipeE_len env vs
theorem wipeE_some {env : Env} {i : Nat} {d : D} : ∀ {vs : List Nat}, (wipeE env vs)[i]? = some (some d) → i ∉ vs
  | [], _ => by simp
  | v :: vs, h => by
    simp only [wipeE] at h
    by_cases hv : v = i
    · subst hv
      by_cases hl : v < (wipeE env vs).length
      · rw [List.getElem?_set_self hl] at h; cases h
      · rw [List.getElem?_eq_none (by rw [List.length_set]; omega)] at h; cases h
    · rw [List.getElem?_set_ne hv] at h
      intro hm
      rcases List.mem_cons.mp hm with z | z
      · exact hv z.symm
      · exact wipeE_some h z
/-- other modes, and the slots back, where nothing is told -/
theorem Rep.remode {K : PySem.W.Frag} {G : Gd} {md m1 : List Md} {σ σ' : Sg} {H F : Hp} {env : Env} {vs : List Nat} (r : Rep K G m1 σ H F (wipeE env vs)) (hm : ∀ i, i ∉ vs → m1.getD i .u = md.getD i .u) (hl : σ'.length = σ.length) (hs : ∀ i, i ∉ vs → σ'[i]? = σ[i]?) : Rep K G md σ' H F (wipeE env vs) := by
  refine ⟨r.fh, r.h0, r.f0, r.fr, r.gg, r.oo, by rw [hl]; exact r.len, fun i d e => ?_, fun i j p d e m1' m2' h1 h2 s1 s2 => ?_⟩
  · have hi := wipeE_some e
    rw [hs i hi, ← hm i hi]; exact r.sl i d e
  · have hi := wipeE_some h1
    have hj := wipeE_some h2
    rw [hs i hi] at s1
    rw [hs j hj] at s2
    rw [← hm i hi] at m1'
    rw [← hm j hj] at m2'
    exact r.sep i j p d e m1' m2' h1 h2 s1 s2
theorem wipe_same (σ : Sg) (vs : List Nat) (i : Nat) (h : i ∉ vs) : (wipe σ vs)[i]? = σ[i]? := by rw [wipe_get, if_neg h]
section
variable {X : Cx} {W : WX} {md m1 : List Md} {ws : List Nat} {elt tg iter : Expr} {ifs : List Expr} {scope : Scope} {pos spos : Pos} {wi : TI} {g : TG} {tt : TT} {te : TE} {fi : Env → R (List D × Env)} {fg : D → Env → R Env} {ft : Env → R Bool} {fe : Env → R (D × Env)}
theorem PX.noxb {α β : Type} {P : β → Prop} {m : R α} {k : α → R β} (h : PX P (m.nox.bind k)) : ∃ a, m = .ok a ∧ PX P (k a) := by
  cases m with
  | ok a => exact ⟨a, rfl, h⟩
  | exc c x => exact h.elim
  | bad => exact h.elim
theorem lcX_den {K : PySem.W.Frag} {vs : List Nat} (hi : ∀ (G : Gd) (σ : Sg) (H F : Hp) (env : Env) (Q : It → Hp → Prop), Rep K G md σ H F env → PX (QIX K G md σ F Q) (fi env) → wi σ H Q)
    (hgd : ∀ (G : Gd) (σ : Sg) (H F : Hp) (env : Env) (v : V) (d : D) (Q : Sg → Hp → Prop), Rep K G md σ H F env → Rp K F v d → QG K G m1 ws σ H F Q (fg d env) → g v σ H Q)
    (ht : DenT K W0 m1 tt ft) (he : ∀ (G : Gd) (σ : Sg) (H F : Hp) (env : Env) (Q : VK), Rep K G m1 σ H F env → PX (QX K G m1 σ F Q) (fe env) → te σ H Q) (hw : ∀ i, i ∈ ws → i ∈ vs) (hm : ∀ i, i ∉ vs → m1.getD i .u = md.getD i .u)
    (G : Gd) (σ : Sg) (H F : Hp) (env : Env) (Q : VK) (rep : Rep K G md σ H F env) (post : PX (QX K G md σ F Q) (xLc vs fi fg ft fe env)) : tLc wi g tt te vs σ H Q := by
  refine hi G σ H F env _ rep (post.bind fun a p1 J H1 F1 s1 r1 ok => ?_)
  obtain ⟨ds, e1⟩ := a
  by_cases hz : ds.length ≤ sizeLine
  · simp only [if_pos hz] at p1
    intro L nL
    obtain ⟨hO, h0, hF0⟩ := r1.newL nL
    let S : Nat → Hp → Prop := fun i H2 => ∃ F2 acc accD e2, i ≤ ds.length ∧ Same F1 F2 ∧ Rep K ⟨upd G.H0 L (.lst acc), G.F0, G.O⟩ md (wipe σ vs) H2 F2 (wipeE e2 vs) ∧ RpA K F2 acc accD ∧ acc.length ≤ i ∧
      PX (fun r : List D × Env => (∃ e3, r.2 = wipeE e3 vs) → QX K G md σ F Q (.lst (accD ++ r.1), r.2)) (lcGoX fg ft fe vs (wipeE e2 vs) (ds.drop i))
    refine ⟨fun i m H2 => m + i = ds.length ∧ S i H2, ⟨ds.length, rfl, F1, [], [], e1, Nat.zero_le _, Same.refl _, wipe_rep (r1.markL nL (.lst [])) vs, .nil, Nat.le_refl _, ?_⟩, ?_⟩
    · rw [List.drop_zero]
      cases q : lcGoX fg ft fe vs (wipeE e1 vs) ds with
      | ok b => rw [q] at p1; exact fun _ => p1
      | exc c z => rw [q] at p1; exact p1.elim
      | bad => rw [q] at p1; exact p1.elim
    · rintro i m H2 ⟨hmi, F2, acc, accD, e2, hi2, s12, r2, ra, hacc, p2⟩
      have c2 : Same F1 H2 := s12.trans r2.fh
      by_cases lt : i < ds.length
      · refine .inr ⟨ok.go i H2 c2 lt, fun H' => S (i + 1) H', fun H' h => ⟨m - 1, by omega, by omega, h⟩, fun x H' y => ?_⟩
        obtain ⟨d, F3, hd, x3, rx⟩ := ok.yld i H2 F2 x H' c2 lt s12 r2.fh y
        have ed : ds.drop i = d :: ds.drop (i + 1) := by
          obtain ⟨lt, e⟩ := List.getElem?_eq_some_iff.mp hd
          rw [List.drop_eq_getElem_cons lt, e]
        rw [ed, lcGoX] at p2
        obtain ⟨e3, q3, p2⟩ := PX.noxb p2
        refine hgd _ (wipe σ vs) H' F3 (wipeE e2 vs) x d _ (r2.ext x3) rx ?_
        rw [q3]
        intro σ2 off r3
        refine ⟨wipe_off off hw, ht _ σ2 H' F3 e3 _ r3 ?_⟩
        obtain ⟨k, q4, p2⟩ := PX.noxb p2
        rw [q4]
        intro H4 F4 x4
        cases k with
        | false => exact iteF ⟨F4, acc, accD, e2, lt, s12.trans (x3.ff.trans x4.ff), (r2.ext x3).ext x4, ra.mono (x3.ff.trans x4.ff), by omega, p2⟩
        | true =>
          refine iteT (he _ σ2 H4 F4 e3 _ (r3.ext x4) (p2.bind fun yd p5 yv H5 F5 s5 r5 ry => ?_))
          obtain ⟨h5, f5⟩ := r5.atL hO hF0
          refine ⟨acc, h5, by omega, F5, acc ++ [yv], accD ++ [yd.1], yd.2, lt, s12.trans (x3.ff.trans (x4.ff.trans s5)), ?_, (ra.mono (x3.ff.trans (x4.ff.trans s5))).append (.cons ry .nil), by rw [List.length_append, List.length_singleton]; omega, ?_⟩
          · have r6 := wipe_rep (r5.swapL hO hF0 (.lst (acc ++ [yv]))) vs
            rw [wipe_off off hw] at r6
            exact r6.remode hm rfl fun _ _ => rfl
          · cases q6 : lcGoX fg ft fe vs (wipeE yd.2 vs) (ds.drop (i + 1)) with
            | ok b =>
              rw [q6] at p5
              intro hx
              have := p5 hx
              rw [List.append_assoc]; exact this
            | exc c z => rw [q6] at p5; exact p5.elim
            | bad => rw [q6] at p5; exact p5.elim
      · have e0 : ds.drop i = [] := List.drop_eq_nil_of_le (by omega)
        rw [e0, lcGoX] at p2
        have p3 := p2 ⟨e2, rfl⟩
        rw [List.append_nil] at p3
        have ei : i = ds.length := by omega
        subst ei
        refine .inl ⟨ok.stop H2 c2, p3 (.ref L) H2 (upd F2 L (.lst acc)) ?_ ?_ ?_⟩
        · exact s1.trans (s12.trans (same_upd (r2.atL hO hF0).2))
        · exact (r2.doneL hO h0 hF0).remode (fun _ _ => rfl) (by rw [wipe_length]) fun i hi => (wipe_same σ vs i hi).symm
        · exact .lst upd_same (ra.mono (same_upd (r2.atL hO hF0).2))
  · simp only [if_neg hz] at p1; exact p1.elim
theorem dx_lc (own : List (Str × Nat)) (nd : X.N.Nodup) (ok : BlkOk X.N X.env.scope scope own) (hi : DIX X W md tg iter wi fi) (hg : ∀ s H C cl fp, DG (Blk X scope s H C cl fp) md m1 ws tg g fg) (ht : ∀ s H C cl fp, DTs (Blk X scope s H C cl fp) W0 m1 ifs tt ft) (he : ∀ s H C cl fp, DX (Blk X scope s H C cl fp) W0 m1 elt te fe)
    (hw : subB ws (own.map (·.2)) = true := by rfl) (hme : offB m1 md (own.map (·.2)) = true := by rfl) (hc : X.calm = true := by rfl) (hs : ∀ x, foldedSetIterable iter X.env x = pure x := by intro _; rfl) :
    DX X W md (.ListComp elt [⟨tg, iter, ifs, 0⟩] scope pos) (tLc wi g tt te (own.map (·.2))) (xLc (own.map (·.2)) fi fg ft fe) :=
  ⟨pe_lc hc nd hi.run ok (fun s H C cl fp => (hg s H C cl fp).run) (fun s H C cl fp => (ht s H C cl fp).run) (fun s H C cl fp => (he s H C cl fp).run) hs,
    lcX_den (K := X.K) hi.den (fun G σ H F env v d Q => (hg X.s_0 X.H_0 0 [] []).den G σ H F env v d Q) (ht X.s_0 X.H_0 0 [] []).den (he X.s_0 X.H_0 0 [] []).den (subB_of hw) (offB_of hme)⟩
/-- name = [..] on one line -/
theorem ds_lcX {M : Ms} (i : Nat) {y : Str} {py : Pos} (own : List (Str × Nat)) (nd : X.N.Nodup) (ok : BlkOk X.N X.env.scope scope own) (hi : DIX X W md tg iter wi fi) (hg : ∀ s H C cl fp, DG (Blk X scope s H C cl fp) md m1 ws tg g fg) (ht : ∀ s H C cl fp, DTs (Blk X scope s H C cl fp) W0 m1 ifs tt ft) (he : ∀ s H C cl fp, DX (Blk X scope s H C cl fp) W0 m1 elt te fe)
    (hsw : swapsWith (.ListComp elt [⟨tg, iter, ifs, 0⟩] scope pos) (some (.Name y py)) spos.line X.env = pure true) (hy : X.N[i]? = some y := by rfl) (hyl : X.env.scope.names.lookup y = some .local := by rfl) (hm : i < md.length := by decide)
    (hw : subB ws (own.map (·.2)) = true := by rfl) (hme : offB m1 md (own.map (·.2)) = true := by rfl) (hc : X.calm = true := by rfl) (hs : ∀ x, foldedSetIterable iter X.env x = pure x := by intro _; rfl) :
    DS X W M md (md.set i .v) (.Assign [.Name y py] (.ListComp elt [⟨tg, iter, ifs, 0⟩] scope pos) spos) (tAsg (tLc wi g tt te (own.map (·.2))) (gName i)) (sSetX i (xLc (own.map (·.2)) fi fg ft fe)) :=
  ⟨ps_setLc hc nd hy hyl hsw hi.run ok (fun s H C cl fp => (hg s H C cl fp).run) (fun s H C cl fp => (ht s H C cl fp).run) (fun s H C cl fp => (he s H C cl fp).run) hs,
    fun G σ H F env E rep post => (dx_lc (pos := pos) own nd ok hi hg ht he hw hme hc hs).den G σ H F env _ rep (sX_post post fun d e2 p v H1 F1 s1 r1 q1 => p _ H1 F1 s1 (r1.setV hm q1))⟩
end
end DN
namespace DN
open PySem PySem.Spec PyProof.Rows L2
theorem DI.x {X : Cx} {W : WX} {md : List Md} {tg iter : Expr} {t : TI} {f : Env → R (List D)} (h : DI X W md tg iter t f) : DIX X W md tg iter t (xOf f) :=
  ⟨h.run, fun G σ H F env Q rep post => h.den G σ H F env Q rep (PX.post post fun ds q J H' F' x ok => q J H' F' x.ff (rep.ext x) ok)⟩
end DN
end

section
set_option Elab.async false
set_option linter.all false
set_option maxRecDepth 100000
/-! a tuple from its end: t[::-1] -/
namespace DN
open PySem PySem.Spec PyProof.Rows L2 HT
section
variable {prog : Program} {w : World} {A : Around} {E : Value → Shared → Prop} {s : Shared}
theorem back_adj (n : Nat) : Builtin.Slice.sliceAdjust none none (-1) (n : Int) = ((n : Int) - 1, -1) := rfl
theorem back_places (n : Nat) : Builtin.Slice.slicePlaces ((n : Int) - 1) (-1) (-1) = n := by
  unfold Builtin.Slice.slicePlaces
  rw [if_neg (show ¬ ((-1 : Int) > 0) by decide), show (- -1 : Int) = 1 by decide, Int.ediv_one]
  split <;> omega
theorem back_pick (xs : Array Value) : ((List.range xs.size).filterMap fun (m : Nat) => xs[((xs.size : Int) - 1 + (m : Int) * (-1)).toNat]?) = xs.toList.reverse := by
  have e1 : (List.range xs.size).filterMap (fun (m : Nat) => xs[((xs.size : Int) - 1 + (m : Int) * (-1)).toNat]?) = ((List.range xs.size).map (fun k => xs.size - 1 - k)).filterMap (xs[·]?) := by
    rw [List.filterMap_map]
    have key : ∀ l : List Nat, (∀ m ∈ l, m < xs.size) → l.filterMap (fun (m : Nat) => xs[((xs.size : Int) - 1 + (m : Int) * (-1)).toNat]?) = l.filterMap ((fun x => xs[x]?) ∘ fun k => xs.size - 1 - k) := by
      intro l
      induction l with
      | nil => intro _; rfl
      | cons m l ih =>
        intro hl
        have hm := hl m (List.mem_cons_self ..)
        have e : ((xs.size : Int) - 1 + (m : Int) * (-1)).toNat = xs.size - 1 - m := by omega
        rw [List.filterMap_cons, List.filterMap_cons, ih fun x hx => hl x (List.mem_cons_of_mem _ hx), e]; rfl
    exact key _ fun m hm => List.mem_range.mp hm
  rw [e1, PySem.W.krv_range, List.filterMap_reverse, PySem.W.krv_all]
theorem back_applied {a : Addr} {u1 u2 u3 : Value} {n : Nat} {Q : Int × Int × Nat → Shared → Prop} (hS : s.heap.IsSliceOf a u1 u2 u3) (p1 : IsPart u1 none) (p2 : IsPart u2 none) (p3 : IsPart u3 (some (-1)))
    (h : Q ((n : Int) - 1, -1, n) s) : wpAny (model prog w) A (Builtin.Slice.sliceApplied (.ref a) (pure (n : Int))) Q E s := by
  obtain ⟨o, ho, hc, hd⟩ := id hS
  unfold Builtin.Slice.sliceApplied; unfold Builtin.Slice.sliceFields
  refine wpAny_bind (wpAny_bind (wpAny_field ho hd (x := u1) rfl (wpAny_bind (wpAny_field ho hd (x := u2) rfl (wpAny_bind (wpAny_field ho hd (x := u3) rfl (wpAny_pure ?_)))))))
  refine wpAny_bind (slicePart_ p3 ?_)
  show wpAny _ _ (if ((-1 : Int) == 0) = true then _ else _) _ _ s
  rw [if_neg (show ¬ ((-1 : Int) == 0) = true by decide)]
  refine wpAny_bind (slicePart_ p1 (wpAny_bind (slicePart_ p2 (wpAny_bind (wpAny_pure ?_)))))
  show wpAny _ _ (pure ((n : Int) - 1, (-1 : Int), Builtin.Slice.slicePlaces ((n : Int) - 1) (-1) (-1))) _ _ s
  rw [back_places n]
  exact wpAny_pure h
theorem back_get {t a : Addr} {its : Array Value} {u1 u2 u3 : Value} {Q : Value → Shared → Prop} (hT : IsTup s.heap t its) (hS : s.heap.IsSliceOf a u1 u2 u3) (p1 : IsPart u1 none) (p2 : IsPart u2 none) (p3 : IsPart u3 (some (-1)))
    (h : Q (.ref s.heap.objs.size) { s with heap := s.heap.push { cls := .type "tuple", data := .seq its.toList.reverse.toArray } }) (hz : its.size ≤ sizeLine) : wpAny (model prog w) A (getItem (.ref t) (.ref a)) Q E s := by
  have fits : sizeOk (.seq its.toList.reverse.toArray) := by
    show its.toList.reverse.toArray.size ≤ sizeLine
    rw [List.size_toArray, List.length_reverse, Array.length_toList]; exact hz
  obtain ⟨o, ho, hc, hd⟩ := id hS
  have hTy : s.TypeIs (.ref a) "slice" := ⟨o, ho, hc⟩
  unfold getItem
  try with_reducible refine wpAny_holding ?_
  first | refine wpAny_bind (wpAny_pure ?_) | skip
  refine wpAny_bind (wpAny_sequenceKey hT.typeIs (by decide) ?_)
  refine wpAny_bind (wpAny_callSpecial?_slot (name := Str.ofString "__getitem__") hT.typeIs slot_tuple_getitem (wpAny_call_entry slot_tuple_getitem hT.typeIs entry_tuple_getitem ?_ (args_tuple_getitem _ _)))
  show wpAny _ _ (Builtin.Tuple.tupleItemsOf (.ref t) >>= _) _ _ s; refine wpAny_bind (tupleItemsOf_ hT ?_)
  refine wpAny_bind (wpAny_typeOf hTy ?_)
  rw [if_pos (show _ = true by decide)]
  refine wpAny_bind (back_applied hS p1 p2 p3 ?_)
  have no : ¬ ((((its.size : Int) - 1 == 0) && ((-1 : Int) == 1) && (its.size == its.size)) = true) := by simp
  show wpAny _ _ (if (((its.size : Int) - 1 == 0) && ((-1 : Int) == 1) && (its.size == its.size)) = true then _ else _) _ _ s
  rw [if_neg no, back_pick its]
  first
    | exact wpAny_bind (m := Builtin.Tuple.tupleExact _) (wpAny_newObj_type (wpAny_pure ⟨_, rfl, wpAny_pure h⟩) fits)
    | exact wpAny_bind (m := Builtin.Tuple.tupleExact _) (wpAny_newObj_type (wpAny_bind (wpAny_pure (wpAny_pure ⟨_, rfl, wpAny_pure h⟩))) fits)
    | exact wpAny_bind (wpAny_bind (m := Builtin.Tuple.tupleExact _) (wpAny_newObj_type (wpAny_pure (wpAny_pure ⟨_, rfl, wpAny_pure h⟩)) fits))
    | exact wpAny_bind (wpAny_bind (m := Builtin.Tuple.tupleExact _) (wpAny_newObj_type (wpAny_pure ⟨_, rfl, wpAny_pure h⟩) fits))
end
section
variable {X : Cx} {W : WX} {md : List Md} {e : Expr} {te : TE} {fe : Env → R D}
def tRevT (K : PySem.W.Frag) (te : TE) : TE := fun σ H Q => te σ H fun x H1 => ∃ a xs, x = .ref a ∧ SqT K H1 a xs ∧ newT H1 xs.reverse Q
theorem pe_revT {k : Nat} {q1 q2 q3 pos : Pos} (he : PE X e te) : PE X (.Subscript e (.Slice none none (some (.UnaryOp .USub (.Constant (.int 1) k q1) q2)) q3) pos) (tRevT X.K te) := by
  refine ⟨fun pins s σ H Q I h => ?_⟩
  refine Subscript_ (thn (he.run pins s σ H _ I h) fun v s1 ⟨x, H1, I1, r1, z⟩ => ?_)
  obtain ⟨a, xs, rfl, hx, q⟩ := z
  cases r1
  have st : PO X (some (.UnaryOp .USub (.Constant (.int 1) k q1) q2)) (tPart (tUn (rU fun i => .int (-i)) (tC (.int 1)))) := po_some (pe_un un_neg pe_int)
  refine wpAny_Slice (thn (po_none.run pins s1 σ H1 (fun o H2 => o = none ∧ H2 = H1) I1 ⟨rfl, rfl⟩) fun vl s2 ⟨l, H2, I2, pl, el, e2⟩ => ?_)
  cases el; cases e2
  refine thn (po_none.run pins s2 σ H1 (fun o H3 => o = none ∧ H3 = H1) I2 ⟨rfl, rfl⟩) fun vu s3 ⟨u, H3, I3, pu, eu, e3⟩ => ?_
  cases eu; cases e3
  refine thn (st.run pins s3 σ H1 (fun o H4 => o = some (-1) ∧ H4 = H1) I3 ⟨1, rfl, -1, rfl, rfl, rfl⟩) fun vs s4 ⟨o, H4, I4, ps, eo, e4⟩ => ?_
  cases eo; cases e4
  have I5 : L2.Inv X pins σ H1 { s4 with heap := s4.heap.push { cls := .type "slice", data := .fields #[vl, vu, vs] } } := I4.kept (t' := s4.toks) fun b ob z => Heap.get?_push_of_some _ z
  obtain ⟨its, r, hT, hz⟩ := I5.tuple hx
  have hlen : its.length = xs.length := r.length.symm
  show wpAny (model X.prog X.w) X.A (subscriptTail e (.Slice none none (some (.UnaryOp .USub (.Constant (.int 1) k q1) q2)) q3) (.ref a) (.ref s4.heap.objs.size)) (EP X pins σ Q) X.xe { s4 with heap := s4.heap.push { cls := .type "slice", data := .fields #[vl, vu, vs] } }
  refine tail_any (ops := [.ref a, .ref s4.heap.objs.size]) hT.typeIs (PyProof.Rows.slot_tuple_getitem.lookup) ?_ (by with_unfolding_all rfl)
  refine back_get hT (Heap.IsSliceOf.new _ vl vu vs) pl pu ps ?_ (by rw [List.size_toArray, hlen]; exact hz)
  exact laidT I5 r.reverse (by rw [List.length_reverse]; exact hz) q
def dRev : D → R D
  | .tup xs => .ok (.tup xs.reverse)
  | _ => .bad
theorem RpA.rev {K : PySem.W.Frag} {F : Hp} : ∀ {vs : List V} {ds : List D}, RpA K F vs ds → RpA K F vs.reverse ds.reverse
  | _, _, .nil => .nil
  | _, _, .cons h r => by
    rw [List.reverse_cons, List.reverse_cons]
    exact (RpA.rev r).append (.cons h .nil)
theorem ke_rev {K : PySem.W.Frag} {k : Nat} {q1 q2 q3 pos : Pos} (h : DE X W md e te fe) (hK : X.K = K := by rfl) : DE X W md (.Subscript e (.Slice none none (some (.UnaryOp .USub (.Constant (.int 1) k q1) q2)) q3) pos) (tRevT K te) (eUn dRev fe) := by
  subst hK
  refine ⟨pe_revT h.run, fun G σ H F env Q rep post => h.den G σ H F env _ rep (post.bind fun c p1 v H1 F1 x1 r1 => ?_)⟩
  cases r1 with
  | tup q r =>
    exact ⟨_, _, rfl, seqT x1.fh q.sq, fun p o np od => p1 (.ref p) _ (upd F1 p (.frz o (.tup _))) (x1.trans (Ext.new x1.fh np)) (.tup (TupN.of upd_same od) ((r.rev).mono (same_upd (x1.fh.free np))))⟩
  | _ => exact p1.elim
end
end DN
end

section
set_option Elab.async false
set_option linter.all false
set_option maxRecDepth 100000
/-! the run of the top, look by look -/
namespace DN
open PySem PySem.W PySem.Calls PyProof.Rows HandSHeadRun
noncomputable abbrev endR (r : OpenRow) (M : Nat) (w : World) (os : OsState) : Option SharedT := endF (stepQ (denQ tabQ) r.prog w) M r.prog w os
theorem map_two {α β γ : Type} {o : Option α} {f : α → β} {g : α → γ} {b : β} {c : γ} (h1 : o.map f = some b) (h2 : o.map g = some c) : o.map (fun s => (f s, g s)) = some (b, c) := by
  cases o with
  | none => cases h1
  | some a => simp only [Option.map_some, Option.some.injEq] at h1 h2 ⊢; rw [h1, h2]
theorem map_and {α : Type} {o : Option α} {f g : α → Bool} (h1 : o.map f = some true) (h2 : o.map g = some true) : o.map (fun s => f s && g s) = some true := by
  cases o with
  | none => cases h1
  | some a => simp only [Option.map_some, Option.some.injEq] at h1 h2 ⊢; rw [h1, h2]; rfl
theorem run_join {r : OpenRow} {q : Program} {H : Hook} {ob : SharedT → H.α} {M : Nat} {loose : List PySem.Str} {w : World}
    (a1 : ∀ os, (endR r M w os).map (fun s => staticsOk (importedModules r.prog.main.body) (boot_heap w.params) s.abs.heap) = some true)
    (a2 : ∀ os, (endR r M w os).map (fun s => namesBound r.prog s.abs.heap) = some true)
    (a3 : ∀ os, (endR r M w os).map (fun s => gensDone s.abs && laidKept (boot_heap w.params) s.abs.heap) = some true)
    (a4 : ∀ os, (endR r M w os).map (fun s => seenQ q loose (importedModules r.prog.main.body) (fun s => xlAt q [] s && recOk r.toRowW.records s) s.abs) = some (openGood q loose))
    (a5 : ∀ os, (endR r M w os).map ob = some (H.val w)) : RunEq r q H ob M loose w := by
  intro os
  have h1 := map_and (map_and (a1 os) (a2 os)) (a3 os)
  have h2 := map_two h1 (map_two (a4 os) (a5 os))
  have e : (fun s : SharedT => ((staticsOk (importedModules r.prog.main.body) (boot_heap w.params) s.abs.heap && namesBound r.prog s.abs.heap && (gensDone s.abs && laidKept (boot_heap w.params) s.abs.heap)), seenQ q loose (importedModules r.prog.main.body) (fun s => xlAt q [] s && recOk r.toRowW.records s) s.abs, ob s)) = (fun s : SharedT => (looksF r.prog (boot_heap w.params) s.abs, seenQ q loose (importedModules r.prog.main.body) (fun s => xlAt q [] s && recOk r.toRowW.records s) s.abs, ob s)) := by
    funext s
    unfold looksF
    rw [Bool.and_assoc, Bool.and_assoc, Bool.and_assoc]
  rw [e] at h2
  exact h2
/-- facts of what the top has left, by a list of addresses -/
def obsA (as : List Addr) (fa : List He.Fa) (fn : List He.DefD) (ex : Frag → Bool) (g : Addr → Option Obj) : He.AlD × Bool := (He.obsD fa fn (He.frG g as), ex (He.frG g as))
def hookA (as : List Addr) (fa : List He.Fa) (fn : List He.DefD) (ex : Frag → Bool) : Hook where
  α := He.AlD × Bool
  obs := fun s => obsA as fa fn ex s.heap.get?
  val := fun _ => (He.valD fn, true)
  says := fun _ h => ∃ K : Frag, K.In h ∧ He.SaysD fa fn K ∧ ex K = true
  of := fun _ _ e => ⟨_, He.frG_in, congrArg (fun z : He.AlD × Bool => z.1) e, congrArg (fun z : He.AlD × Bool => z.2) e⟩
  keeps := fun _ _ _ ⟨K, hK, c⟩ k => ⟨K, Frag.In.keeps hK k, c⟩
theorem obsA_eq {as : List Addr} {fa : List He.Fa} {fn : List He.DefD} {ex : Frag → Bool} {g : Addr → Option Obj} {s : Shared} (h : ∀ a, g a = s.heap.get? a) : obsA as fa fn ex g = (hookA as fa fn ex).obs s := by
  have e : g = s.heap.get? := funext h
  rw [e] <;> rfl
def newAs : List Addr := mainGlobals :: List.range' 11 1500
end DN
end

section
set_option Elab.async false
set_option linter.all false
set_option maxRecDepth 100000
/-! reckoning with denotations: what is not reached is not looked at -/
namespace DN
open PySem
theorem bind_f {α β : Type} {m : R α} {f g : α → R β} (h : ∀ a, f a = g a) : m.bind f = m.bind g := by rw [funext h]
theorem sB_f {α : Type} {m : R α} {env : Env} {f g : α → R Fl} (h : ∀ a, f a = g a) : sB m env f = sB m env g := by rw [funext h]
theorem sX_f {α : Type} {m : R (α × Env)} {f g : α → Env → R Fl} (h : ∀ a e, f a e = g a e) : sX m f = sX m g := by rw [funext fun a => funext fun e => h a e]
def andV (k : R D) : D → R D
  | .bl b => if b = true then k else .ok (.bl false)
  | _ => .bad
def orV (k : R D) : D → R D
  | .bl b => if b = true then .ok (.bl true) else k
  | _ => .bad
@[simp] theorem andV_b (k : R D) (b : Bool) : andV k (.bl b) = if b = true then k else .ok (.bl false) := rfl
@[simp] theorem orV_b (k : R D) (b : Bool) : orV k (.bl b) = if b = true then .ok (.bl true) else k := rfl
@[simp] theorem bind_ok {α β : Type} (a : α) (f : α → R β) : (R.ok a).bind f = f a := rfl
@[simp] theorem bind_exc {α β : Type} (c : Str) (x : Option (Str × D)) (f : α → R β) : (R.exc c x).bind f = .exc c x := rfl
@[simp] theorem bind_bad {α β : Type} (f : α → R β) : (R.bad : R α).bind f = .bad := rfl
def ofSlot : Option (Option D) → R D
  | some (some d) => .ok d
  | _ => .bad
@[simp] theorem ofSlot_s (d : D) : ofSlot (some (some d)) = .ok d := rfl
@[simp] theorem eVar_eq (i : Nat) (env : Env) : eVar i env = ofSlot env[i]? := rfl
@[simp] theorem eC_eq (d : D) (env : Env) : eC d env = .ok d := rfl
@[simp] theorem eUn_eq (g : D → R D) (a : Env → R D) (env : Env) : eUn g a env = (a env).bind g := rfl
@[simp] theorem eBin_eq (g : D → D → R D) (a b : Env → R D) (env : Env) : eBin g a b env = (a env).bind fun x => (b env).bind fun y => g x y := rfl
@[simp] theorem eT_eq (g : D → R Bool) (a : Env → R D) (env : Env) : eT g a env = (a env).bind g := rfl
@[simp] theorem eAnd_eq (a b : Env → R Bool) (env : Env) : eAnd a b env = (a env).bind fun c => if c = true then b env else .ok false := bind_f fun c => by cases c <;> rfl
@[simp] theorem eOr_eq (a b : Env → R Bool) (env : Env) : eOr a b env = (a env).bind fun c => if c = true then .ok true else b env := bind_f fun c => by cases c <;> rfl
@[simp] theorem eNot_eq (a : Env → R Bool) (env : Env) : eNot a env = (a env).bind fun c => .ok (!c) := rfl
@[simp] theorem eIf_eq (c : Env → R Bool) (a b : Env → R D) (env : Env) : eIf c a b env = (c env).bind fun c => if c = true then a env else b env := bind_f fun c => by cases c <;> rfl
@[simp] theorem eNil_eq (env : Env) : eNil env = .ok [] := rfl
@[simp] theorem eCons_eq (a : Env → R D) (b : Env → R (List D)) (env : Env) : eCons a b env = (a env).bind fun x => (b env).bind fun xs => .ok (x :: xs) := rfl
@[simp] theorem eArgs_eq (g : List D → R D) (a : Env → R (List D)) (env : Env) : eArgs g a env = (a env).bind g := rfl
@[simp] theorem eAndV_eq (a b : Env → R D) (env : Env) : eAndV a b env = (a env).bind (andV (b env)) := bind_f fun c => by cases c with | bl c => cases c <;> rfl | _ => rfl
@[simp] theorem eOrV_eq (a b : Env → R D) (env : Env) : eOrV a b env = (a env).bind (orV (b env)) := bind_f fun c => by cases c with | bl c => cases c <;> rfl | _ => rfl
@[simp] theorem eChain_eq (g h : D → D → R D) (a b c : Env → R D) (env : Env) : eChain g h a b c env = (a env).bind fun x => (b env).bind fun y => (g x y).bind (andV ((c env).bind fun w => h y w)) := bind_f fun x => bind_f fun y => bind_f fun z => by cases z with | bl c => cases c <;> rfl | _ => rfl
@[simp] theorem oNone_eq (env : Env) : oNone env = .ok none := rfl
def toI : D → R (Option Int)
  | .int i => .ok (some i)
  | _ => .bad
@[simp] theorem toI_i (i : Int) : toI (.int i) = .ok (some i) := rfl
@[simp] theorem oSome_eq (f : Env → R D) (env : Env) : oSome f env = (f env).bind toI := rfl
@[simp] theorem eSl_eq (fa : Env → R D) (fl fh : Env → R (Option Int)) (env : Env) : eSl fa fl fh env = (fa env).bind fun x => (fl env).bind fun l => (fh env).bind fun h => dSl x l h := rfl
@[simp] theorem eItems_eq (f : Env → R D) (env : Env) : eItems f env = (f env).bind dItems := rfl
@[simp] theorem eItA_eq (g : List D → R (List D)) (f : Env → R (List D)) (env : Env) : eItA g f env = (f env).bind g := rfl
def idxK (g : Env → R D) (env : Env) : D → R D
  | .tup xs => (g env).bind fun y => dIndex (.tup xs) y
  | _ => .bad
@[simp] theorem idxK_t (g : Env → R D) (env : Env) (xs : List D) : idxK g env (.tup xs) = (g env).bind fun y => dIndex (.tup xs) y := rfl
@[simp] theorem eIdx_eq (f g : Env → R D) (env : Env) : eIdx f g env = (f env).bind (idxK g env) := rfl
@[simp] theorem eYes_eq (env : Env) : eYes env = .ok true := rfl
@[simp] theorem eNoL_eq (f : Env → R D) (env : Env) : eNoL f env = (f env).bind fun d => match d with | .lst _ => .bad | d => .ok d := rfl
@[simp] theorem eScal_eq (f : Env → R D) (env : Env) : eScal f env = (f env).bind fun d => if d.scal = true then .ok d else .bad := rfl
@[simp] theorem eBor_eq (f : Env → R D) (env : Env) : eBor f env = (eScal f env).plain := rfl
@[simp] theorem eBorT_eq (f : Env → R Bool) (env : Env) : eBorT f env = (f env).plain := rfl
@[simp] theorem plain_ok {α : Type} (a : α) : (R.ok a).plain = .ok a := rfl
def ownK (k : List D → R D) : Option (Option D) → R D
  | some (some (.lst xs)) => k xs
  | _ => .bad
@[simp] theorem ownK_l (k : List D → R D) (xs : List D) : ownK k (some (some (.lst xs))) = k xs := rfl
@[simp] theorem eIxO_eq (i : Nat) (f : Env → R D) (env : Env) : eIxO i f env = ownK (fun xs => (f env).bind fun d => dIx (.lst xs) d) env[i]? := rfl
@[simp] theorem eOwnCat_eq (i : Nat) (f : Env → R D) (env : Env) : eOwnCat i f env = ownK (fun xs => (f env).bind fun d => dCat (.lst xs) d) env[i]? := rfl
def ownI : Option (Option D) → R (List D)
  | some (some (.lst xs)) => .ok xs
  | _ => .bad
@[simp] theorem ownI_l (xs : List D) : ownI (some (some (.lst xs))) = .ok xs := rfl
@[simp] theorem eOwnItems_eq (i : Nat) (env : Env) : eOwnItems i env = ownI env[i]? := rfl
@[simp] theorem dB_b (b : Bool) : dB (.bl b) = .ok b := rfl
@[simp] theorem dTru_b (b : Bool) : dTru (.bl b) = .ok b := rfl
@[simp] theorem dTru_n  : dTru .non = .ok false := rfl
@[simp] theorem dTru_i (i : Int) : dTru (.int i) = .ok (i != 0) := rfl
@[simp] theorem dTru_t (xs : List D) : dTru (.tup xs) = .ok (!xs.isEmpty) := rfl
@[simp] theorem dTru_l (xs : List D) : dTru (.lst xs) = .ok (!xs.isEmpty) := rfl
@[simp] theorem dTru_s (xs : List D) : dTru (.scr xs) = .ok (!xs.isEmpty) := rfl
@[simp] theorem dNot_b (b : Bool) : dNot (.bl b) = .ok (.bl (!b)) := rfl
@[simp] theorem dLs_l (xs : List D) : dLs (.lst xs) = .ok (.lst xs) := rfl
@[simp] theorem dItems_l (xs : List D) : dItems (.lst xs) = .ok xs := rfl
@[simp] theorem dItems_t (xs : List D) : dItems (.tup xs) = .ok xs := rfl
@[simp] theorem dItems_s (z : Str) : dItems (.str z) = .ok (signs z) := rfl
@[simp] theorem isNon_n  : D.isNon .non = true := rfl
@[simp] theorem flat_n  : D.flat .non = true := rfl
@[simp] theorem scal_n  : D.scal .non = true := rfl
@[simp] theorem isNon_b (b : Bool) : D.isNon (.bl b) = false := rfl
@[simp] theorem flat_b (b : Bool) : D.flat (.bl b) = true := rfl
@[simp] theorem scal_b (b : Bool) : D.scal (.bl b) = true := rfl
@[simp] theorem isNon_i (i : Int) : D.isNon (.int i) = false := rfl
@[simp] theorem flat_i (i : Int) : D.flat (.int i) = true := rfl
@[simp] theorem scal_i (i : Int) : D.scal (.int i) = true := rfl
@[simp] theorem isNon_s (z : Str) : D.isNon (.str z) = false := rfl
@[simp] theorem flat_s (z : Str) : D.flat (.str z) = true := rfl
@[simp] theorem scal_s (z : Str) : D.scal (.str z) = true := rfl
@[simp] theorem isNon_f (z : Str) : D.isNon (.fn z) = false := rfl
@[simp] theorem flat_f (z : Str) : D.flat (.fn z) = false := rfl
@[simp] theorem scal_f (z : Str) : D.scal (.fn z) = false := rfl
@[simp] theorem isNon_c (xs : List D) : D.isNon (.scr xs) = false := rfl
@[simp] theorem flat_c (xs : List D) : D.flat (.scr xs) = false := rfl
@[simp] theorem scal_c (xs : List D) : D.scal (.scr xs) = false := rfl
@[simp] theorem isNon_p (xs : List D) : D.isNon (.pr xs) = false := rfl
@[simp] theorem flat_p (xs : List D) : D.flat (.pr xs) = false := rfl
@[simp] theorem scal_p (xs : List D) : D.scal (.pr xs) = false := rfl
@[simp] theorem isNon_l (xs : List D) : D.isNon (.lst xs) = false := rfl
@[simp] theorem flat_l (xs : List D) : D.flat (.lst xs) = false := rfl
@[simp] theorem scal_l (xs : List D) : D.scal (.lst xs) = false := rfl
@[simp] theorem isNon_t (xs : List D) : D.isNon (.tup xs) = false := rfl
@[simp] theorem flat_t (xs : List D) : D.flat (.tup xs) = false := rfl
@[simp] theorem scal_t (xs : List D) : D.scal (.tup xs) = false := rfl
@[simp] theorem dNeg_i (i : Int) : dNeg (.int i) = .ok (.int (-i)) := rfl
@[simp] theorem dLt_i (a b : Int) : dLt (.int a) (.int b) = .ok (.bl (decide (a < b))) := rfl
@[simp] theorem dLe_i (a b : Int) : dLe (.int a) (.int b) = .ok (.bl (decide (a ≤ b))) := rfl
@[simp] theorem dGt_i (a b : Int) : dGt (.int a) (.int b) = .ok (.bl (decide (a > b))) := rfl
@[simp] theorem dGe_i (a b : Int) : dGe (.int a) (.int b) = .ok (.bl (decide (a ≥ b))) := rfl
@[simp] theorem dSub_i (a b : Int) : dSub (.int a) (.int b) = .ok (.int (a - b)) := rfl
@[simp] theorem dIs_n (a : D) : dIs a .non = .ok (.bl a.isNon) := by cases a <;> rfl
@[simp] theorem dIsNot_n (a : D) : dIsNot a .non = .ok (.bl (!a.isNon)) := by cases a <;> rfl
@[simp] theorem dIs_b (a b : Bool) : dIs (.bl a) (.bl b) = .ok (.bl (decide (a = b))) := rfl
@[simp] theorem dIsNot_b (a b : Bool) : dIsNot (.bl a) (.bl b) = .ok (.bl (!decide (a = b))) := rfl
@[simp] theorem dLen_l (xs : List D) : dLen [.lst xs] = .ok (.int xs.length) := rfl
@[simp] theorem dLen_t (xs : List D) : dLen [.tup xs] = .ok (.int xs.length) := rfl
@[simp] theorem dLen_s (xs : List D) : dLen [.scr xs] = .ok (.int xs.length) := rfl
@[simp] theorem dInt_i (i : Int) : dInt [.int i] = .ok (.int i) := rfl
@[simp] theorem dInt_b (b : Bool) : dInt [.bl b] = .ok (.int (if b = true then 1 else 0)) := rfl
@[simp] theorem dMin2_i (i j : Int) : dMin2 [.int i, .int j] = .ok (.int (if j < i then j else i)) := rfl
@[simp] theorem dMax2_i (i j : Int) : dMax2 [.int i, .int j] = .ok (.int (if j > i then j else i)) := rfl
@[simp] theorem dListOf_l (xs : List D) : dListOf [.lst xs] = .ok (.lst xs) := rfl
@[simp] theorem dListOf_t (xs : List D) : dListOf [.tup xs] = .ok (.lst xs) := rfl
@[simp] theorem dTupleOf_l (xs : List D) : dTupleOf [.lst xs] = .ok (.tup xs) := rfl
@[simp] theorem dTupleOf_t (xs : List D) : dTupleOf [.tup xs] = .ok (.tup xs) := rfl
@[simp] theorem dEnum_l (xs : List D) : dEnum [.lst xs] = .ok (enumD xs) := rfl
@[simp] theorem dEnum_t (xs : List D) : dEnum [.tup xs] = .ok (enumD xs) := rfl
@[simp] theorem dZip_l (xs ys : List D) : dZip [.lst xs, .lst ys] = .ok (zipD xs ys) := rfl
@[simp] theorem dZip_t (xs ys : List D) : dZip [.tup xs, .tup ys] = .ok (zipD xs ys) := rfl
theorem dRange1_ok (j : Int) (h : small62 j = true) : dRange1 [.int j] = .ok (rangeD 0 j.toNat) := by
  unfold dRange1; exact if_pos h
theorem dRange2_ok (i j : Int) (h1 : small62 i = true) (h2 : small62 j = true) : dRange2 [.int i, .int j] = .ok (rangeD i (j - i).toNat) := by
  unfold dRange2; exact if_pos ⟨h1, h2⟩
def chk {α : Type} (c : Prop) [Decidable c] (m : R α) : R α := if c then m else .bad
theorem chk_pos {α : Type} {c : Prop} [Decidable c] {m : R α} (h : c) : chk c m = m := if_pos h
@[simp] theorem chk_t {α : Type} {m : R α} : chk True m = m := rfl
@[simp] theorem dTup_eq (ds : List D) : dTup ds = chk (ds.length ≤ 16777216) (.ok (.tup ds)) := by simp only [dTup, sizeLine_eq]; rfl
@[simp] theorem dLst_eq (ds : List D) : dLst ds = chk (ds.length ≤ 16777216) (.ok (.lst ds)) := by simp only [dLst, sizeLine_eq]; rfl
@[simp] theorem dAdd_i (a b : Int) : dAdd (.int a) (.int b) = .ok (.int (a + b)) := rfl
@[simp] theorem dAdd_t (a b : List D) : dAdd (.tup a) (.tup b) = chk (a.length + b.length ≤ 16777216) (.ok (.tup (a ++ b))) := by simp only [dAdd, sizeLine_eq]; rfl
@[simp] theorem dAdd_l (a b : List D) : dAdd (.lst a) (.lst b) = chk (a.length + b.length ≤ 16777216) (.ok (.lst (a ++ b))) := by simp only [dAdd, sizeLine_eq]; rfl
@[simp] theorem dCat_l (a b : List D) : dCat (.lst a) (.lst b) = chk (a.length + b.length ≤ 16777216) (.ok (.lst (a ++ b))) := by simp only [dCat, sizeLine_eq]; rfl
@[simp] theorem dAddI_i (a b : Int) : dAddI (.int a) (.int b) = .ok (.int (a + b)) := rfl
@[simp] theorem dMul_i (a b : Int) : dMul (.int a) (.int b) = chk (a.natAbs < 2 ^ 64) (.ok (.int (a * b))) := rfl
@[simp] theorem dFdiv_i (a b : Int) : dFdiv (.int a) (.int b) = chk (0 < b ∧ b.natAbs < 1073741824) (.ok (.int (a / b))) := rfl
@[simp] theorem dMod_i (a b : Int) : dMod (.int a) (.int b) = chk (0 < b) (.ok (.int (a % b))) := rfl
@[simp] theorem dMul_l (a : List D) (k : Int) : dMul (.lst a) (.int k) = chk (k.natAbs < 2 ^ 63 ∧ a.length * k.toNat ≤ 16777216) (.ok (.lst (List.replicate k.toNat a).flatten)) := by simp only [dMul, sizeLine_eq]; rfl
@[simp] theorem dMul_t (a : List D) (k : Int) : dMul (.tup a) (.int k) = chk (a.isEmpty = false ∧ 2 ≤ k ∧ k ≤ 1000 ∧ a.length ≤ 1000) (.ok (.tup (List.replicate k.toNat a).flatten)) := rfl
@[simp] theorem dEq_eq (a b : D) : dEq a b = chk (D.dp a ≤ 64 ∧ D.dp b ≤ 64) (.ok (.bl (D.eqv a b))) := rfl
@[simp] theorem dNe_eq (a b : D) : dNe a b = chk (D.dp a ≤ 64 ∧ D.dp b ≤ 64) (.ok (.bl (!D.eqv a b))) := rfl
def ofO {α : Type} : Option α → R α
  | some d => .ok d
  | none => .bad
@[simp] theorem ofO_s {α : Type} (d : α) : ofO (some d) = .ok d := rfl
@[simp] theorem dIx_t (xs : List D) (i : Int) : dIx (.tup xs) (.int i) = ofO (L2.atI xs i) := by
  simp only [dIx]; cases L2.atI xs i <;> rfl
@[simp] theorem dIx_l (xs : List D) (i : Int) : dIx (.lst xs) (.int i) = ofO (L2.atI xs i) := by
  simp only [dIx]; cases L2.atI xs i <;> rfl
@[simp] theorem dIx_s (xs : List D) (i : Int) : dIx (.scr xs) (.int i) = ofO (L2.atI xs i) := by
  simp only [dIx]; cases L2.atI xs i <;> rfl
@[simp] theorem dIx_p (xs : List D) (i : Int) : dIx (.pr xs) (.int i) = ofO (L2.atI xs i) := by
  simp only [dIx]; cases L2.atI xs i <;> rfl
@[simp] theorem dSl_t (xs : List D) (lo hi : Option Int) : dSl (.tup xs) lo hi = .ok (.tup (cutD xs lo hi)) := rfl
@[simp] theorem dSl_l (xs : List D) (lo hi : Option Int) : dSl (.lst xs) lo hi = .ok (.lst (cutD xs lo hi)) := rfl
@[simp] theorem dIn_ti (i : Int) (ys : List D) : dIn (.int i) (.tup ys) = chk (ys.all D.flat = true) (.ok (.bl (ys.any fun y => D.eqv y (.int i)))) := by
  by_cases h : ys.all D.flat = true
  · rw [chk_pos h]; simp only [dIn, dInB]; rw [if_pos ⟨rfl, h⟩]; rfl
  · unfold chk; simp only [dIn, dInB]; rw [if_neg h, if_neg (fun z => h z.2)]; rfl
@[simp] theorem dNotIn_ti (i : Int) (ys : List D) : dNotIn (.int i) (.tup ys) = chk (ys.all D.flat = true) (.ok (.bl (!ys.any fun y => D.eqv y (.int i)))) := by
  by_cases h : ys.all D.flat = true
  · rw [chk_pos h]; simp only [dNotIn, dInB]; rw [if_pos ⟨rfl, h⟩]; rfl
  · unfold chk; simp only [dNotIn, dInB]; rw [if_neg h, if_neg (fun z => h z.2)]; rfl
@[simp] theorem dIn_ts (i : Str) (ys : List D) : dIn (.str i) (.tup ys) = chk (ys.all D.flat = true) (.ok (.bl (ys.any fun y => D.eqv y (.str i)))) := by
  by_cases h : ys.all D.flat = true
  · rw [chk_pos h]; simp only [dIn, dInB]; rw [if_pos ⟨rfl, h⟩]; rfl
  · unfold chk; simp only [dIn, dInB]; rw [if_neg h, if_neg (fun z => h z.2)]; rfl
@[simp] theorem dNotIn_ts (i : Str) (ys : List D) : dNotIn (.str i) (.tup ys) = chk (ys.all D.flat = true) (.ok (.bl (!ys.any fun y => D.eqv y (.str i)))) := by
  by_cases h : ys.all D.flat = true
  · rw [chk_pos h]; simp only [dNotIn, dInB]; rw [if_pos ⟨rfl, h⟩]; rfl
  · unfold chk; simp only [dNotIn, dInB]; rw [if_neg h, if_neg (fun z => h z.2)]; rfl
@[simp] theorem dIn_tn  (ys : List D) : dIn .non (.tup ys) = chk (ys.all D.flat = true) (.ok (.bl (ys.any fun y => D.eqv y .non))) := by
  by_cases h : ys.all D.flat = true
  · rw [chk_pos h]; simp only [dIn, dInB]; rw [if_pos ⟨rfl, h⟩]; rfl
  · unfold chk; simp only [dIn, dInB]; rw [if_neg h, if_neg (fun z => h z.2)]; rfl
@[simp] theorem dNotIn_tn  (ys : List D) : dNotIn .non (.tup ys) = chk (ys.all D.flat = true) (.ok (.bl (!ys.any fun y => D.eqv y .non))) := by
  by_cases h : ys.all D.flat = true
  · rw [chk_pos h]; simp only [dNotIn, dInB]; rw [if_pos ⟨rfl, h⟩]; rfl
  · unfold chk; simp only [dNotIn, dInB]; rw [if_neg h, if_neg (fun z => h z.2)]; rfl
@[simp] theorem dIn_tb (i : Bool) (ys : List D) : dIn (.bl i) (.tup ys) = chk (ys.all D.flat = true) (.ok (.bl (ys.any fun y => D.eqv y (.bl i)))) := by
  by_cases h : ys.all D.flat = true
  · rw [chk_pos h]; simp only [dIn, dInB]; rw [if_pos ⟨rfl, h⟩]; rfl
  · unfold chk; simp only [dIn, dInB]; rw [if_neg h, if_neg (fun z => h z.2)]; rfl
@[simp] theorem dNotIn_tb (i : Bool) (ys : List D) : dNotIn (.bl i) (.tup ys) = chk (ys.all D.flat = true) (.ok (.bl (!ys.any fun y => D.eqv y (.bl i)))) := by
  by_cases h : ys.all D.flat = true
  · rw [chk_pos h]; simp only [dNotIn, dInB]; rw [if_pos ⟨rfl, h⟩]; rfl
  · unfold chk; simp only [dNotIn, dInB]; rw [if_neg h, if_neg (fun z => h z.2)]; rfl
theorem dIn_l (x : D) (ys : List D) (h : x.flat = true ∧ ys.all D.flat = true) : dIn x (.lst ys) = .ok (.bl (ys.any fun y => D.eqv y x)) := by
  simp only [dIn, dInB, if_pos h]; rfl
theorem dIn_ld (x : D) (ys : List D) (h : D.dp x ≤ 64 ∧ D.dps ys + 1 ≤ 64) : dIn x (.lst ys) = .ok (.bl (ys.any fun y => D.eqv y x)) := by
  simp only [dIn, dInB]
  by_cases h2 : x.flat = true ∧ ys.all D.flat = true
  · rw [if_pos h2]; rfl
  · rw [if_neg h2, if_pos h]; rfl
/-! statements -/
@[simp] theorem sB_ok {α : Type} (a : α) (env : Env) (k : α → R Fl) : sB (.ok a) env k = k a := rfl
@[simp] theorem sB_exc {α : Type} (c : Str) (x : Option (Str × D)) (env : Env) (k : α → R Fl) : sB (.exc c x) env k = .ok (.ex c x env) := rfl
@[simp] theorem sB_bad {α : Type} (env : Env) (k : α → R Fl) : sB (.bad : R α) env k = .bad := rfl
def rseq (m : R Fl) (g : Env → R Fl) : R Fl := match m with
  | .ok (.nx e) => g e
  | r => r
@[simp] theorem rseq_nx (e : Env) (g : Env → R Fl) : rseq (.ok (.nx e)) g = g e := rfl
@[simp] theorem rseq_rt (d : D) (e : Env) (g : Env → R Fl) : rseq (.ok (.rt d e)) g = .ok (.rt d e) := rfl
@[simp] theorem rseq_bk (e : Env) (g : Env → R Fl) : rseq (.ok (.bk e)) g = .ok (.bk e) := rfl
@[simp] theorem rseq_ct (e : Env) (g : Env → R Fl) : rseq (.ok (.ct e)) g = .ok (.ct e) := rfl
@[simp] theorem rseq_ex (c : Str) (x : Option (Str × D)) (e : Env) (g : Env → R Fl) : rseq (.ok (.ex c x e)) g = .ok (.ex c x e) := rfl
@[simp] theorem sSeq_eq (f g : Env → R Fl) (env : Env) : sSeq f g env = rseq (f env) g := rfl
@[simp] theorem sNx_eq (env : Env) : sNx env = .ok (.nx env) := rfl
@[simp] theorem sBrk_eq (env : Env) : sBrk env = .ok (.bk env) := rfl
@[simp] theorem sExpr_eq (f : Env → R D) (env : Env) : sExpr f env = sB (f env) env fun _ => .ok (.nx env) := rfl
@[simp] theorem sSet_eq (i : Nat) (f : Env → R D) (env : Env) : sSet i f env = sB (f env) env fun d => .ok (.nx (env.set i (some d))) := rfl
@[simp] theorem sRet_eq (f : Env → R D) (env : Env) : sRet f env = sB (f env) env fun d => .ok (.rt d env) := rfl
@[simp] theorem sRetN_eq (env : Env) : sRetN env = .ok (.rt .non env) := rfl
@[simp] theorem sRaise_eq (c : Str) (env : Env) : sRaise c env = .ok (.ex c none env) := rfl
@[simp] theorem sIf_eq (c : Env → R Bool) (f g : Env → R Fl) (env : Env) : sIf c f g env = sB (c env) env fun b => if b = true then f env else g env := sB_f fun c => by cases c <;> rfl
def ownS (k : List D → R Fl) : Option (Option D) → R Fl
  | some (some (.lst xs)) => k xs
  | _ => .bad
@[simp] theorem ownS_l (k : List D → R Fl) (xs : List D) : ownS k (some (some (.lst xs))) = k xs := rfl
@[simp] theorem sApp_eq (i : Nat) (f : Env → R D) (env : Env) : sApp i f env = ownS (fun xs => sB (f env) env fun d => chk (xs.length < 16777216) (.ok (.nx (env.set i (some (.lst (xs ++ [d]))))))) env[i]? := by
  simp only [sApp, sizeLine_eq]; rfl
def putK (i : Nat) (env : Env) (d : D) (xs : List D) : D → R Fl
  | .int k => match L2.ixN xs.length k with
    | some j => .ok (.nx (env.set i (some (.lst (xs.set j d)))))
    | none => .bad
  | _ => .bad
@[simp] theorem sPut_eq (i : Nat) (f g : Env → R D) (env : Env) : sPut i f g env = sB (f env) env fun d => ownS (fun xs => sB (g env) env (putK i env d xs)) env[i]? := rfl
@[simp] theorem sAug_eq (g : D → D → R D) (i : Nat) (f : Env → R D) (env : Env) : sAug g i f env = sB (eVar i env) env fun x => sB (f env) env fun y => sB (g x y) env fun z => .ok (.nx (env.set i (some z))) := rfl
@[simp] theorem sPar2_eq (i j : Nat) (f g : Env → R D) (env : Env) : sPar2 i j f g env = sB (f env) env fun a => sB (g env) env fun b => .ok (.nx ((env.set i (some a)).set j (some b))) := rfl
@[simp] theorem sPar3_eq (i j l : Nat) (f g h : Env → R D) (env : Env) : sPar3 i j l f g h env = sB (f env) env fun a => sB (g env) env fun b => sB (h env) env fun c => .ok (.nx (((env.set i (some a)).set j (some b)).set l (some c))) := rfl
@[simp] theorem sPar4_eq (i j l n : Nat) (f g h k : Env → R D) (env : Env) : sPar4 i j l n f g h k env = sB (f env) env fun a => sB (g env) env fun b => sB (h env) env fun c => sB (k env) env fun d => .ok (.nx ((((env.set i (some a)).set j (some b)).set l (some c)).set n (some d))) := rfl
@[simp] theorem sFor_eq (f : Env → R (List D)) (g : D → Env → R Env) (b : Env → R Fl) (env : Env) : sFor f g b env = sB (f env) env fun ds => loop g b ds env := rfl
def gk {α : Type} (m : R Env) (k : Env → R α) : R α := match m with
  | .ok e => k e
  | _ => .bad
@[simp] theorem gk_ok {α : Type} (e : Env) (k : Env → R α) : gk (.ok e) k = k e := rfl
@[simp] theorem sAsg_eq (f : Env → R D) (g : D → Env → R Env) (env : Env) : sAsg f g env = sB (f env) env fun d => gk (g d env) fun e => .ok (.nx e) := rfl
def lk (m : R Fl) (k : Env → R Fl) : R Fl := match m with
  | .ok (.nx e) => k e
  | .ok (.ct e) => k e
  | .ok (.bk e) => .ok (.nx e)
  | r => r
@[simp] theorem lk_nx (e : Env) (k : Env → R Fl) : lk (.ok (.nx e)) k = k e := rfl
@[simp] theorem lk_bk (e : Env) (k : Env → R Fl) : lk (.ok (.bk e)) k = .ok (.nx e) := rfl
@[simp] theorem lk_ct (e : Env) (k : Env → R Fl) : lk (.ok (.ct e)) k = k e := rfl
@[simp] theorem lk_rt (d : D) (e : Env) (k : Env → R Fl) : lk (.ok (.rt d e)) k = .ok (.rt d e) := rfl
@[simp] theorem lk_ex (c : Str) (x : Option (Str × D)) (e : Env) (k : Env → R Fl) : lk (.ok (.ex c x e)) k = .ok (.ex c x e) := rfl
@[simp] theorem loop_nil (g : D → Env → R Env) (b : Env → R Fl) (env : Env) : loop g b [] env = .ok (.nx env) := rfl
theorem loop_cons (g : D → Env → R Env) (b : Env → R Fl) (d : D) (ds : List D) (env : Env) : loop g b (d :: ds) env = gk (g d env) fun e => lk (b e) fun e2 => loop g b ds e2 := by
  simp only [loop]
  cases g d env with
  | ok e =>
    simp only [gk]
    cases b e with
    | ok f => cases f <;> rfl
    | _ => rfl
  | _ => rfl
@[simp] theorem gN_eq (i : Nat) (d : D) (env : Env) : gN i d env = .ok (env.set i (some d)) := rfl
@[simp] theorem gT_p (n : Nat) (g : List D → Env → R Env) (ds : List D) (env : Env) : gT n g (.pr ds) env = chk (ds.length = n) (g ds env) := rfl
@[simp] theorem gT_t (n : Nat) (g : List D → Env → R Env) (ds : List D) (env : Env) : gT n g (.tup ds) env = chk (ds.length = n) (g ds env) := rfl
@[simp] theorem gCons_eq (g : D → Env → R Env) (h : List D → Env → R Env) (d : D) (ds : List D) (env : Env) : gCons' g h (d :: ds) env = (g d env).bind fun e => h ds e := rfl
@[simp] theorem gNil_eq (env : Env) : gNil' [] env = .ok env := rfl
/-! ends -/
def finF : R Fl → R D
  | .ok (.nx _) => .ok .non
  | .ok (.rt d _) => .ok d
  | .ok (.ex c x _) => .exc c x
  | _ => .bad
@[simp] theorem finF_nx (e : Env) : finF (.ok (.nx e)) = .ok .non := rfl
@[simp] theorem finF_rt (d : D) (e : Env) : finF (.ok (.rt d e)) = .ok d := rfl
@[simp] theorem finF_ex (c : Str) (x : Option (Str × D)) (e : Env) : finF (.ok (.ex c x e)) = .exc c x := rfl
@[simp] theorem runF_eq (k n : Nat) (f : Env → R Fl) (ds : List D) : runF k n f ds = chk (ds.length = k) (finF (f (startE n ds))) := rfl
def finL : R Fl → R D
  | .ok (.rt d _) => .ok d
  | .ok (.ex c x _) => .exc c x
  | _ => .bad
@[simp] theorem finL_rt (d : D) (e : Env) : finL (.ok (.rt d e)) = .ok d := rfl
@[simp] theorem finL_ex (c : Str) (x : Option (Str × D)) (e : Env) : finL (.ok (.ex c x e)) = .exc c x := rfl
@[simp] theorem runL_eq (k n : Nat) (f : Env → R Fl) (ds : List D) : runL k n f ds = chk (ds.length = k) (finL (f (startE n ds))) := rfl
def finB : R Fl → R (D × D)
  | .ok (.nx e) => (match e[0]? with
    | some (some c) => .ok (.non, c)
    | _ => .bad)
  | .ok (.rt d e) => (match e[0]? with
    | some (some c) => .ok (d, c)
    | _ => .bad)
  | _ => .bad
@[simp] theorem finB_rt (d c : D) (e : Env) : finB (.ok (.rt d (some c :: e))) = .ok (d, c) := rfl
@[simp] theorem runB_eq (k n : Nat) (f : Env → R Fl) (b : D) (ds : List D) : runB k n f b ds = chk (ds.length + 1 = k) (finB (f (startE n (b :: ds)))) := rfl
/-! effects -/
@[simp] theorem xOf_eq {α : Type} (f : Env → R α) (env : Env) : xOf f env = (f env).bind fun d => .ok (d, env) := rfl
@[simp] theorem xBin_eq (g : D → D → R D) (f h : Env → R (D × Env)) (env : Env) : xBin g f h env = (f env).bind fun a => (h a.2).bind fun b => (g a.1 b.1).bind fun c => .ok (c, b.2) := rfl
@[simp] theorem xNil_eq (env : Env) : xNil env = .ok ([], env) := rfl
@[simp] theorem xCons_eq (f : Env → R (D × Env)) (h : Env → R (List D × Env)) (env : Env) : xCons f h env = (f env).bind fun a => (h a.2).bind fun b => .ok (a.1 :: b.1, b.2) := rfl
@[simp] theorem xArgs_eq (g : List D → R D) (f : Env → R (List D × Env)) (env : Env) : xArgs g f env = (f env).bind fun a => (g a.1).bind fun c => .ok (c, a.2) := rfl
@[simp] theorem xT_eq (g : D → R Bool) (f : Env → R (D × Env)) (env : Env) : xT g f env = (f env).bind fun a => (g a.1).bind fun c => .ok (c, a.2) := rfl
@[simp] theorem xNot_eq (f : Env → R (Bool × Env)) (env : Env) : xNot f env = (f env).bind fun c => .ok (!c.1, c.2) := rfl
@[simp] theorem xOr_eq (f h : Env → R (Bool × Env)) (env : Env) : xOr f h env = (f env).bind fun c => if c.1 = true then .ok (true, c.2) else h c.2 := bind_f fun c => by obtain ⟨c, e⟩ := c; cases c <;> rfl
@[simp] theorem xAnd_eq (f h : Env → R (Bool × Env)) (env : Env) : xAnd f h env = (f env).bind fun c => if c.1 = true then h c.2 else .ok (false, c.2) := bind_f fun c => by obtain ⟨c, e⟩ := c; cases c <;> rfl
def bagK (i : Nat) (m : D → List D → R (D × D)) (a : List D × Env) : Option (Option D) → R (D × Env)
  | some (some b) => (m b a.1).bind fun r => .ok (r.1, a.2.set i (some r.2))
  | _ => .bad
@[simp] theorem bagK_s (i : Nat) (m : D → List D → R (D × D)) (a : List D × Env) (b : D) : bagK i m a (some (some b)) = (m b a.1).bind fun r => .ok (r.1, a.2.set i (some r.2)) := rfl
def bag0 (k : R (D × Env)) : Option (Option D) → R (D × Env)
  | some (some _) => k
  | _ => .bad
@[simp] theorem bag0_s (k : R (D × Env)) (b : D) : bag0 k (some (some b)) = k := rfl
@[simp] theorem xBag_eq (i : Nat) (m : D → List D → R (D × D)) (f : Env → R (List D × Env)) (env : Env) : xBag i m f env = bag0 ((f env).bind fun a => bagK i m a a.2[i]?) env[i]? := rfl
@[simp] theorem sX_ok {α : Type} (a : α) (e : Env) (k : α → Env → R Fl) : sX (.ok (a, e)) k = k a e := rfl
@[simp] theorem sExprX_eq (f : Env → R (D × Env)) (env : Env) : sExprX f env = sX (f env) fun _ e => .ok (.nx e) := rfl
@[simp] theorem sSetX_eq (i : Nat) (f : Env → R (D × Env)) (env : Env) : sSetX i f env = sX (f env) fun d e => .ok (.nx (e.set i (some d))) := rfl
@[simp] theorem sRetX_eq (f : Env → R (D × Env)) (env : Env) : sRetX f env = sX (f env) fun d e => .ok (.rt d e) := rfl
@[simp] theorem sIfX_eq (c : Env → R (Bool × Env)) (f g : Env → R Fl) (env : Env) : sIfX c f g env = sX (c env) fun b e => if b = true then f e else g e := sX_f fun c e => by cases c <;> rfl
@[simp] theorem sAsgX_eq (f : Env → R (D × Env)) (g : D → Env → R Env) (env : Env) : sAsgX f g env = sX (f env) fun d e => gk (g d e) fun e2 => .ok (.nx e2) := rfl
@[simp] theorem sPutX_eq (i : Nat) (f : Env → R (D × Env)) (g : Env → R D) (env : Env) : sPutX i f g env = sX (f env) fun d e => ownS (fun xs => sB (g e) e (putK i e d xs)) e[i]? := rfl
@[simp] theorem xIt_eq (g : List D → R (List D)) (f : Env → R (List D × Env)) (env : Env) : xIt g f env = (f env).bind fun a => (g a.1).bind fun ds => .ok (ds, a.2) := rfl
@[simp] theorem xItems_eq (f : Env → R (D × Env)) (env : Env) : xItems f env = (f env).bind fun a => (dItems a.1).bind fun ds => .ok (ds, a.2) := rfl
@[simp] theorem sForX_eq (f : Env → R (List D × Env)) (g : D → Env → R Env) (b : Env → R Fl) (env : Env) : sForX f g b env = sX (f env) fun ds e => loop g b ds e := rfl
/-! comprehensions -/
theorem lc_all {α : Type} {g : D → Env → R Env} {c : Env → R Bool} {f : Env → R D} {env : Env} {p : α → Bool} {y : α → D} (en : α → D) (e : α → Env) :
    ∀ xs : List α, (∀ x ∈ xs, g (en x) env = .ok (e x) ∧ c (e x) = .ok (p x) ∧ (p x = true → f (e x) = .ok (y x))) → lcGo g c f env (xs.map en) = .ok ((xs.filter p).map y)
  | [], _ => rfl
  | x :: xs, h => by
    obtain ⟨h1, h2, h3⟩ := h x (List.mem_cons_self ..)
    have ih := lc_all en e xs fun z hz => h z (List.mem_cons_of_mem _ hz)
    simp only [List.map_cons, lcGo, h1, R.nox, bind_ok, h2]
    cases hp : p x with
    | true => simp only [h3 hp, R.nox, bind_ok, ih, List.filter_cons, hp, if_pos, List.map_cons]
    | false => rw [List.filter_cons, hp]; exact ih
@[simp] theorem eLc_eq (vs : List Nat) (fi : Env → R (List D)) (g : D → Env → R Env) (c : Env → R Bool) (f : Env → R D) (env : Env) : eLc vs fi g c f env = (fi env).bind fun ds => chk (ds.length ≤ 16777216) ((lcGo g c f (wipeE env vs) ds).nox.bind fun ys => .ok (.lst ys)) := by
  simp only [eLc, sizeLine_eq]; rfl
@[simp] theorem nox_ok {α : Type} (a : α) : (R.ok a).nox = .ok a := rfl
@[simp] theorem isi_int_n  : dIsi "int" .non = .ok (.bl false) := rfl
@[simp] theorem isi_int_b (b : Bool) : dIsi "int" (.bl b) = .ok (.bl true) := rfl
@[simp] theorem isi_int_i (i : Int) : dIsi "int" (.int i) = .ok (.bl true) := rfl
@[simp] theorem isi_int_s (z : Str) : dIsi "int" (.str z) = .ok (.bl false) := rfl
@[simp] theorem isi_int_l (xs : List D) : dIsi "int" (.lst xs) = .ok (.bl false) := rfl
@[simp] theorem isi_int_t (xs : List D) : dIsi "int" (.tup xs) = .ok (.bl false) := rfl
@[simp] theorem isi_bool_n  : dIsi "bool" .non = .ok (.bl false) := rfl
@[simp] theorem isi_bool_b (b : Bool) : dIsi "bool" (.bl b) = .ok (.bl true) := rfl
@[simp] theorem isi_bool_i (i : Int) : dIsi "bool" (.int i) = .ok (.bl false) := rfl
@[simp] theorem isi_bool_s (z : Str) : dIsi "bool" (.str z) = .ok (.bl false) := rfl
@[simp] theorem isi_bool_l (xs : List D) : dIsi "bool" (.lst xs) = .ok (.bl false) := rfl
@[simp] theorem isi_bool_t (xs : List D) : dIsi "bool" (.tup xs) = .ok (.bl false) := rfl
@[simp] theorem isi_str_n  : dIsi "str" .non = .ok (.bl false) := rfl
@[simp] theorem isi_str_b (b : Bool) : dIsi "str" (.bl b) = .ok (.bl false) := rfl
@[simp] theorem isi_str_i (i : Int) : dIsi "str" (.int i) = .ok (.bl false) := rfl
@[simp] theorem isi_str_s (z : Str) : dIsi "str" (.str z) = .ok (.bl true) := rfl
@[simp] theorem isi_str_l (xs : List D) : dIsi "str" (.lst xs) = .ok (.bl false) := rfl
@[simp] theorem isi_str_t (xs : List D) : dIsi "str" (.tup xs) = .ok (.bl false) := rfl
@[simp] theorem isi_tuple_n  : dIsi "tuple" .non = .ok (.bl false) := rfl
@[simp] theorem isi_tuple_b (b : Bool) : dIsi "tuple" (.bl b) = .ok (.bl false) := rfl
@[simp] theorem isi_tuple_i (i : Int) : dIsi "tuple" (.int i) = .ok (.bl false) := rfl
@[simp] theorem isi_tuple_s (z : Str) : dIsi "tuple" (.str z) = .ok (.bl false) := rfl
@[simp] theorem isi_tuple_l (xs : List D) : dIsi "tuple" (.lst xs) = .ok (.bl false) := rfl
@[simp] theorem isi_tuple_t (xs : List D) : dIsi "tuple" (.tup xs) = .ok (.bl true) := rfl
@[simp] theorem isi_list_n  : dIsi "list" .non = .ok (.bl false) := rfl
@[simp] theorem isi_list_b (b : Bool) : dIsi "list" (.bl b) = .ok (.bl false) := rfl
@[simp] theorem isi_list_i (i : Int) : dIsi "list" (.int i) = .ok (.bl false) := rfl
@[simp] theorem isi_list_s (z : Str) : dIsi "list" (.str z) = .ok (.bl false) := rfl
@[simp] theorem isi_list_l (xs : List D) : dIsi "list" (.lst xs) = .ok (.bl true) := rfl
@[simp] theorem isi_list_t (xs : List D) : dIsi "list" (.tup xs) = .ok (.bl false) := rfl
/-! continuations as instances: what is not reached is not looked at -/
class Kt (α β : Type) where
  k : α → β
def bd {α β : Type} (m : R α) [c : Kt α (R β)] : R β := m.bind c.k
@[simp ↓] theorem bind_to {α β : Type} (m : R α) (f : α → R β) : m.bind f = @bd α β m ⟨f⟩ := rfl
@[simp] theorem bd_ok {α β : Type} (a : α) (f : α → R β) : @bd α β (.ok a) ⟨f⟩ = f a := rfl
@[simp] theorem bd_exc {α β : Type} (c : Str) (x : Option (Str × D)) (f : α → R β) : @bd α β (.exc c x) ⟨f⟩ = .exc c x := rfl
@[simp] theorem bd_bad {α β : Type} (f : α → R β) : @bd α β .bad ⟨f⟩ = .bad := rfl
def chki {α : Type} (p : Prop) [Decidable p] [c : Kt Unit (R α)] : R α := chk p (c.k ())
@[simp ↓] theorem chk_to {α : Type} (p : Prop) [Decidable p] (m : R α) : chk p m = @chki α p _ ⟨fun _ => m⟩ := rfl
@[simp] theorem chki_t {α : Type} (f : Unit → R α) : @chki α True _ ⟨f⟩ = f () := rfl
@[simp] theorem chki_f {α : Type} (f : Unit → R α) : @chki α False _ ⟨f⟩ = .bad := rfl
def sbi {α : Type} (m : R α) (env : Env) [c : Kt α (R Fl)] : R Fl := sB m env c.k
@[simp ↓] theorem sB_to {α : Type} (m : R α) (env : Env) (f : α → R Fl) : sB m env f = @sbi α m env ⟨f⟩ := rfl
@[simp] theorem sbi_ok {α : Type} (a : α) (env : Env) (k : α → R Fl) : @sbi α (.ok a) env ⟨k⟩ = k a := rfl
@[simp] theorem sbi_exc {α : Type} (c : Str) (x : Option (Str × D)) (env : Env) (k : α → R Fl) : @sbi α (.exc c x) env ⟨k⟩ = .ok (.ex c x env) := rfl
@[simp] theorem sbi_bad {α : Type} (env : Env) (k : α → R Fl) : @sbi α .bad env ⟨k⟩ = .bad := rfl
def rsi (m : R Fl) [c : Kt Env (R Fl)] : R Fl := rseq m c.k
@[simp ↓] theorem rseq_to (m : R Fl) (g : Env → R Fl) : rseq m g = @rsi m ⟨g⟩ := rfl
@[simp] theorem rsi_nx (e : Env) (g : Env → R Fl) : @rsi (.ok (.nx e)) ⟨g⟩ = g e := rfl
@[simp] theorem rsi_rt (d : D) (e : Env) (g : Env → R Fl) : @rsi (.ok (.rt d e)) ⟨g⟩ = .ok (.rt d e) := rfl
@[simp] theorem rsi_bk (e : Env) (g : Env → R Fl) : @rsi (.ok (.bk e)) ⟨g⟩ = .ok (.bk e) := rfl
@[simp] theorem rsi_ct (e : Env) (g : Env → R Fl) : @rsi (.ok (.ct e)) ⟨g⟩ = .ok (.ct e) := rfl
@[simp] theorem rsi_ex (c : Str) (x : Option (Str × D)) (e : Env) (g : Env → R Fl) : @rsi (.ok (.ex c x e)) ⟨g⟩ = .ok (.ex c x e) := rfl
@[simp] theorem rsi_bad (g : Env → R Fl) : @rsi .bad ⟨g⟩ = .bad := rfl
def gki {α : Type} (m : R Env) [c : Kt Env (R α)] : R α := gk m c.k
@[simp ↓] theorem gk_to {α : Type} (m : R Env) (k : Env → R α) : gk m k = @gki α m ⟨k⟩ := rfl
@[simp] theorem gki_ok {α : Type} (e : Env) (k : Env → R α) : @gki α (.ok e) ⟨k⟩ = k e := rfl
def lki (m : R Fl) [c : Kt Env (R Fl)] : R Fl := lk m c.k
@[simp ↓] theorem lk_to (m : R Fl) (k : Env → R Fl) : lk m k = @lki m ⟨k⟩ := rfl
@[simp] theorem lki_nx (e : Env) (k : Env → R Fl) : @lki (.ok (.nx e)) ⟨k⟩ = k e := rfl
@[simp] theorem lki_bk (e : Env) (k : Env → R Fl) : @lki (.ok (.bk e)) ⟨k⟩ = .ok (.nx e) := rfl
@[simp] theorem lki_ct (e : Env) (k : Env → R Fl) : @lki (.ok (.ct e)) ⟨k⟩ = k e := rfl
@[simp] theorem lki_rt (d : D) (e : Env) (k : Env → R Fl) : @lki (.ok (.rt d e)) ⟨k⟩ = .ok (.rt d e) := rfl
@[simp] theorem lki_ex (c : Str) (x : Option (Str × D)) (e : Env) (k : Env → R Fl) : @lki (.ok (.ex c x e)) ⟨k⟩ = .ok (.ex c x e) := rfl
def sxi {α : Type} (m : R (α × Env)) [c : Kt α (Env → R Fl)] : R Fl := sX m c.k
@[simp ↓] theorem sX_to {α : Type} (m : R (α × Env)) (k : α → Env → R Fl) : sX m k = @sxi α m ⟨k⟩ := rfl
@[simp] theorem sxi_ok {α : Type} (a : α) (e : Env) (k : α → Env → R Fl) : @sxi α (.ok (a, e)) ⟨k⟩ = k a e := rfl
end DN
end

section
set_option Elab.async false
set_option linter.all false
set_option maxRecDepth 100000
set_option maxHeartbeats 4000000
namespace Pf
open PySem DN
abbrev b_is_integer : DN.Env → R Fl := sRet (eAndV (eUn (dIsi "int") (eVar 0)) (eAndV (eUn dNot (eUn (dIsi "bool") (eVar 0))) (eChain dLe dLe (eVar 1) (eVar 0) (eVar 2))))
def m_is_integer : List D → R D := runF 3 3 b_is_integer
abbrev b_is_name : DN.Env → R Fl := sRet (eAndV (eUn (dIsi "str") (eVar 0)) (eAndV (eChain dLe dLe (eC (.int 1)) (eArgs dLen (eCons (eVar 0) (eNil))) (eC (.int 8))) (eArgs dAll (eCons (eLc [1] (eItems (eVar 0)) (gN 1) (eYes) (eBin dIn (eVar 1) (eC (.str "abcdefghijklmnopqrstuvwxyz")))) (eNil)))))
def m_is_name : List D → R D := runF 1 2 b_is_name
abbrev b_fits : DN.Env → R Fl := sRet (eAndV (eBin dLe (eArgs dLen (eCons (eVar 0) (eNil))) (eC (.int 24))) (eBin dLe (eArgs dLen (eCons (eLc [1] (eItems (eVar 0)) (gN 1) (eT dB (eBin dIn (eBin dIx (eVar 1) (eC (.int 0))) (eC (.tup (List.map D.str ["enter", "tail"]))))) (eVar 1)) (eNil))) (eC (.int 10))))
def m_fits : List D → R D := runF 1 2 b_fits
abbrev b_created_at : DN.Env → R Fl := sRet (eLc [1, 2] (eItA dEnum (eCons (eVar 0) (eNil))) (gT 2 (gCons' (gN 1) (gCons' (gN 2) (gNil')))) (eT dB (eBin dIn (eBin dIx (eVar 2) (eC (.int 0))) (eC (.tup (List.map D.str ["enter", "tail"]))))) (eVar 1))
def m_created_at : List D → R D := runF 1 3 b_created_at
def l_created_before_1 : DN.Env → R Fl := sApp 1 (eBin dAdd (eIxO 1 (eUn dNeg (eC (.int 1)))) (eArgs dInt (eCons (eBin dIn (eBin dIx (eVar 2) (eC (.int 0))) (eC (.tup (List.map D.str ["enter", "tail"])))) (eNil))))
abbrev b_created_before : DN.Env → R Fl := sSeq (sSet 1 (eArgs dLst (eCons (eC (.int 0)) (eNil)))) (sSeq (sFor (eItems (eVar 0)) (gN 2) l_created_before_1) (sRet (eVar 1)))
def m_created_before : List D → R D := runL 1 3 b_created_before
abbrev b_stack_after : DN.Env → R Fl := sSeq (sIf (eT dB (eBin dEq (eBin dIx (eVar 1) (eC (.int 0))) (eC (.str "enter")))) (sRet (eBin dAdd (eVar 0) (eArgs dTup (eCons (eVar 2) (eNil))))) (sNx)) (sSeq (sIf (eT dB (eBin dEq (eBin dIx (eVar 1) (eC (.int 0))) (eC (.str "tail")))) (sRet (eIf (eT dTru (eVar 0)) (eBin dAdd (eSl (eVar 0) (oNone) (oSome (eUn dNeg (eC (.int 1))))) (eArgs dTup (eCons (eVar 2) (eNil)))) (eC .non))) (sNx)) (sSeq (sIf (eT dB (eBin dEq (eBin dIx (eVar 1) (eC (.int 0))) (eC (.str "exit")))) (sRet (eIf (eAnd (eT dTru (eVar 0)) (eT dB (eBin dEq (eBin dIx (eVar 0) (eUn dNeg (eC (.int 1)))) (eBin dIx (eVar 1) (eC (.int 1)))))) (eSl (eVar 0) (oNone) (oSome (eUn dNeg (eC (.int 1))))) (eC .non))) (sNx)) (sSeq (sIf (eT dB (eBin dEq (eBin dIx (eVar 1) (eC (.int 0))) (eC (.str "catch")))) (sRet (eIf (eT dB (eBin dIn (eBin dIx (eVar 1) (eC (.int 1))) (eVar 0))) (eSl (eVar 0) (oNone) (oSome (eBin dAdd (eIdx (eVar 0) (eBin dIx (eVar 1) (eC (.int 1)))) (eC (.int 1))))) (eC .non))) (sNx)) (sRet (eVar 0)))))
def m_stack_after : List D → R D := runF 3 3 b_stack_after
abbrev b_is_tail : DN.Env → R Fl := sRet (eBin dEq (eBin dIx (eBin dIx (eVar 0) (eVar 1)) (eC (.int 0))) (eC (.str "tail")))
def m_is_tail : List D → R D := runF 2 2 b_is_tail
abbrev b_right_side : DN.Env → R Fl := sRet (eArgs dMaxL (eCons (eLc [2, 3] (eItems (eVar 0)) (gT 2 (gCons' (gN 2) (gCons' (gN 3) (gNil')))) (eYes) (eIf (eT dB (eBin dIs (eVar 2) (eC .non))) (eVar 3) (eBin dAdd (eBin dIx (eVar 1) (eVar 2)) (eVar 3)))) (eNil)))
def m_right_side : List D → R D := runF 2 4 b_right_side
abbrev b_down_to_start : DN.Env → R Fl := sRet (eLc [2] (eItA dRange3 (eCons (eBin dSub (eVar 0) (eC (.int 1))) (eCons (eUn dNeg (eC (.int 1))) (eCons (eUn dNeg (eC (.int 1))) (eNil))))) (gN 2) (eYes) (eArgs dTup (eCons (eVar 2) (eCons (eVar 1) (eCons (eArgs dTup (eCons (eC (.str "event")) (eCons (eVar 2) (eNil)))) (eNil))))))
def m_down_to_start : List D → R D := runF 2 3 b_down_to_start
abbrev b__law_bag : DN.Env → R Fl := sSeq (sSet 2 (eC (.int 0))) (sSeq (sIf (eT dB (eBin dLt (eVar 1) (eArgs dLen (eCons (eVar 0) (eNil))))) (sSet 2 (eBin dMod (eBin dIx (eVar 0) (eVar 1)) (eBin dPow (eC (.int 10)) (eC (.int 60))))) (sNx)) (sSeq (sSet 3 (eBin dAdd (eC (.int 1)) (eBin dMod (eBin dAdd (eBin dAdd (eBin dAdd (eBin dMul (eBin dMod (eVar 2) (eC (.int 2147483629))) (eC (.int 16807))) (eBin dMul (eBin dMul (eC (.int 40009)) (eVar 1)) (eVar 1))) (eBin dMul (eC (.int 7919)) (eVar 1))) (eC (.int 1009))) (eC (.int 2147483645))))) (sSeq (sIf (eT dB (eBin dLt (eVar 2) (eBin dPow (eC (.int 10)) (eC (.int 18))))) (sRet (eArgs dLst (eCons (eC (.int 0)) (eCons (eVar 3) (eNil))))) (sNx)) (sRet (eArgs dLst (eCons (eVar 2) (eCons (eVar 3) (eNil))))))))
def m__law_bag : List D → R D := runL 2 4 b__law_bag
abbrev b__law_take : DN.Env → R Fl := sSeq (sIf (eT dB (eBin dGt (eIxO 0 (eC (.int 0))) (eC (.int 0)))) (sSeq (sSet 2 (eBin dMod (eIxO 0 (eC (.int 0))) (eVar 1))) (sSeq (sPut 0 (eBin dFdiv (eIxO 0 (eC (.int 0))) (eVar 1)) (eC (.int 0))) (sRet (eVar 2)))) (sNx)) (sSeq (sPut 0 (eBin dMod (eBin dMul (eIxO 0 (eC (.int 1))) (eC (.int 48271))) (eC (.int 2147483647))) (eC (.int 1))) (sRet (eBin dMod (eBin dFdiv (eBin dMod (eBin dMul (eBin dFdiv (eIxO 0 (eC (.int 1))) (eC (.int 13))) (eBin dAdd (eBin dMod (eIxO 0 (eC (.int 1))) (eC (.int 32749))) (eC (.int 17)))) (eC (.int 2147483629))) (eC (.int 32))) (eVar 1))))
def m__law_take : D → List D → R (D × D) := runB 2 3 b__law_take
abbrev b__law_after : DN.Env → R Fl := sSeq (sIf (eT dB (eBin dEq (eBin dIx (eVar 1) (eC (.int 0))) (eC (.str "enter")))) (sRet (eBin dAdd (eVar 0) (eArgs dTup (eCons (eVar 2) (eNil))))) (sNx)) (sSeq (sIf (eT dB (eBin dEq (eBin dIx (eVar 1) (eC (.int 0))) (eC (.str "mark")))) (sRet (eVar 0)) (sNx)) (sSeq (sIf (eT dB (eBin dEq (eVar 0) (eArgs dTup (eNil)))) (sRet (eC .non)) (sNx)) (sSeq (sIf (eT dB (eBin dEq (eBin dIx (eVar 1) (eC (.int 0))) (eC (.str "tail")))) (sRet (eBin dAdd (eSl (eVar 0) (oNone) (oSome (eUn dNeg (eC (.int 1))))) (eArgs dTup (eCons (eVar 2) (eNil))))) (sNx)) (sSeq (sIf (eT dB (eBin dEq (eBin dIx (eVar 1) (eC (.int 0))) (eC (.str "exit")))) (sRet (eIf (eT dB (eBin dEq (eBin dIx (eVar 0) (eUn dNeg (eC (.int 1)))) (eBin dIx (eVar 1) (eC (.int 1))))) (eSl (eVar 0) (oNone) (oSome (eUn dNeg (eC (.int 1))))) (eC .non))) (sNx)) (sSeq (sIf (eT dB (eBin dNotIn (eBin dIx (eVar 1) (eC (.int 1))) (eVar 0))) (sRet (eC .non)) (sNx)) (sRet (eArgs dTupleOf (eCons (eLc [3] (eItems (eVar 0)) (gN 3) (eT dB (eBin dLe (eVar 3) (eBin dIx (eVar 1) (eC (.int 1))))) (eVar 3)) (eNil)))))))))
def m__law_after : List D → R D := runF 3 4 b__law_after
def l__law_created_1 : DN.Env → R Fl := sApp 1 (eBin dAdd (eIxO 1 (eUn dNeg (eC (.int 1)))) (eArgs dInt (eCons (eBin dIn (eBin dIx (eVar 2) (eC (.int 0))) (eArgs dTup (eCons (eC (.str "enter")) (eCons (eC (.str "tail")) (eNil))))) (eNil))))
abbrev b__law_created : DN.Env → R Fl := sSeq (sSet 1 (eArgs dLst (eCons (eC (.int 0)) (eNil)))) (sSeq (sFor (eItems (eVar 0)) (gN 2) l__law_created_1) (sRet (eVar 1)))
def m__law_created : List D → R D := runL 1 3 b__law_created
abbrev b__law_events : DN.Env → R Fl := sRet (eLc [1, 2] (eItA dEnum (eCons (eVar 0) (eNil))) (gT 2 (gCons' (gN 1) (gCons' (gN 2) (gNil')))) (eT dB (eBin dIn (eBin dIx (eVar 2) (eC (.int 0))) (eArgs dTup (eCons (eC (.str "enter")) (eCons (eC (.str "tail")) (eNil)))))) (eVar 1))
def m__law_events : List D → R D := runF 1 3 b__law_events
abbrev b__law_is_number : DN.Env → R Fl := sRet (eAndV (eUn (dIsi "int") (eVar 0)) (eAndV (eUn dNot (eUn (dIsi "bool") (eVar 0))) (eChain dLe dLe (eVar 1) (eVar 0) (eVar 2))))
def m__law_is_number : List D → R D := runF 3 3 b__law_is_number
abbrev b__law_is_name : DN.Env → R Fl := sSeq (sIf (eOr (eNot (eT dTru (eUn (dIsi "str") (eVar 0)))) (eNot (eT dB (eChain dLe dLe (eC (.int 1)) (eArgs dLen (eCons (eVar 0) (eNil))) (eC (.int 8)))))) (sRet (eC (.bl false))) (sNx)) (sRet (eBin dEq (eLc [1] (eItems (eVar 0)) (gN 1) (eT dB (eBin dNotIn (eVar 1) (eC (.str "abcdefghijklmnopqrstuvwxyz")))) (eVar 1)) (eArgs dLst (eNil))))
def m__law_is_name : List D → R D := runF 1 2 b__law_is_name
abbrev b_number_in : DN.Env → R Fl := sSeq (sIf (eOr (eNot (eT dB (eChain dLe dLe (eC (.int 1)) (eArgs dLen (eCons (eVar 0) (eNil))) (eC (.int 2))))) (eOr (eNot (eT dTru (eArgs dAll (eCons (eLc [1] (eItems (eVar 0)) (gN 1) (eYes) (eBin dIn (eVar 1) (eC (.str "0123456789")))) (eNil))))) (eAnd (eT dB (eBin dEq (eBin dIx (eVar 0) (eC (.int 0))) (eC (.str "0")))) (eT dB (eBin dGt (eArgs dLen (eCons (eVar 0) (eNil))) (eC (.int 1))))))) (sRet (eC .non)) (sNx)) (sRet (eArgs dInt (eCons (eVar 0) (eNil))))
def m_number_in : List D → R D := runF 1 2 b_number_in
abbrev b__law_is_decimal : DN.Env → R Fl := sSeq (sSet 1 (eLc [2] (eItems (eVar 0)) (gN 2) (eT dB (eBin dNotIn (eVar 2) (eC (.str "0123456789")))) (eVar 2))) (sRet (eAndV (eBin dNe (eVar 0) (eC (.str ""))) (eAndV (eBin dEq (eVar 1) (eArgs dLst (eNil))) (eOrV (eBin dEq (eVar 0) (eC (.str "0"))) (eBin dNe (eBin dIx (eVar 0) (eC (.int 0))) (eC (.str "0")))))))
def m__law_is_decimal : List D → R D := runF 1 3 b__law_is_decimal
abbrev b__law_clipped : DN.Env → R Fl := sSeq (sIf (eT dB (eBin dEq (eBin dIx (eVar 0) (eC (.int 0))) (eC (.str "deeper")))) (sRet (eBin dAdd (eSl (eVar 0) (oNone) (oSome (eC (.int 3)))) (eArgs dTup (eCons (eArgs dMax2 (eCons (eUn dNeg (eC (.int 10))) (eCons (eArgs dMin2 (eCons (eC (.int 10)) (eCons (eBin dIx (eVar 0) (eC (.int 3))) (eNil)))) (eNil)))) (eNil))))) (sNx)) (sRet (eVar 0))
def m__law_clipped : List D → R D := runF 1 1 b__law_clipped
abbrev b_has_all : DN.Env → R Fl := sRet (eArgs dAll (eCons (eLc [2] (eItems (eVar 1)) (gN 2) (eYes) (eBin dIn (eVar 2) (eVar 0))) (eNil)))
def m_has_all : List D → R D := runF 2 3 b_has_all
abbrev b_chosen : DN.Env → R Fl := sRet (eArgs dTupleOf (eCons (eLc [2] (eItems (eVar 1)) (gN 2) (eYes) (eBin dIx (eVar 0) (eVar 2))) (eNil)))
def m_chosen : List D → R D := runF 2 3 b_chosen
abbrev b_is_whole : DN.Env → R Fl := sRet (eAndV (eUn (dIsi "int") (eVar 0)) (eUn dNot (eUn (dIsi "bool") (eVar 0))))
def m_is_whole : List D → R D := runF 1 1 b_is_whole
abbrev b__law_tails : DN.Env → R Fl := sRet (eLc [3] (eItA dRange2 (eCons (eBin dAdd (eVar 1) (eC (.int 1))) (eCons (eVar 2) (eNil)))) (gN 3) (eT dB (eBin dEq (eBin dIx (eBin dIx (eVar 0) (eVar 3)) (eC (.int 0))) (eC (.str "tail")))) (eVar 3))
def m__law_tails : List D → R D := runF 3 4 b__law_tails
abbrev b__law_end : DN.Env → R Fl := sSeq (sSet 3 (eLc [4] (eItA dRange2 (eCons (eBin dAdd (eVar 2) (eC (.int 1))) (eCons (eArgs dLen (eCons (eVar 0) (eNil))) (eNil)))) (gN 4) (eT dB (eBin dNotIn (eVar 1) (eBin dIx (eVar 0) (eVar 4)))) (eVar 4))) (sRet (eIf (eT dB (eBin dNe (eVar 3) (eArgs dLst (eNil)))) (eBin dIx (eVar 3) (eC (.int 0))) (eC .non)))
def m__law_end : List D → R D := runF 3 5 b__law_end
abbrev b__law_within : DN.Env → R Fl := sRet (eBin dEq (eLc [2] (eItems (eVar 0)) (gN 2) (eT dB (eBin dNotIn (eVar 2) (eVar 1))) (eVar 2)) (eArgs dLst (eNil)))
def m__law_within : List D → R D := runF 2 3 b__law_within
abbrev b__law_renamed : DN.Env → R Fl := sRet (eArgs dTupleOf (eCons (eLc [1] (eItems (eVar 0)) (gN 1) (eYes) (eIf (eT dB (eBin dIn (eBin dIx (eVar 1) (eC (.int 0))) (eArgs dTup (eCons (eC (.str "enter")) (eCons (eC (.str "tail")) (eNil)))))) (eArgs dTup (eCons (eBin dIx (eVar 1) (eC (.int 0))) (eCons (eBin dAdd (eC (.str "x")) (eSl (eBin dIx (eVar 1) (eC (.int 1))) (oNone) (oSome (eC (.int 7))))) (eNil)))) (eVar 1))) (eNil)))
def m__law_renamed : List D → R D := runF 1 2 b__law_renamed
abbrev b_is_event : DN.Env → R Fl := sSeq (sIf (eOr (eNot (eT dTru (eUn (dIsi "tuple") (eVar 0)))) (eOr (eNot (eT dTru (eVar 0))) (eNot (eT dTru (eUn (dIsi "str") (eBin dIx (eVar 0) (eC (.int 0)))))))) (sRet (eC (.bl false))) (sNx)) (sSeq (sIf (eT dB (eBin dEq (eBin dIx (eVar 0) (eC (.int 0))) (eC (.str "mark")))) (sRet (eBin dEq (eArgs dLen (eCons (eVar 0) (eNil))) (eC (.int 1)))) (sNx)) (sSeq (sIf (eT dB (eBin dNe (eArgs dLen (eCons (eVar 0) (eNil))) (eC (.int 2)))) (sRet (eC (.bl false))) (sNx)) (sSeq (sIf (eT dB (eBin dIn (eBin dIx (eVar 0) (eC (.int 0))) (eC (.tup (List.map D.str ["enter", "tail"]))))) (sRet (eAndV (eArgs m_is_name (eCons (eBin dIx (eVar 0) (eC (.int 1))) (eNil))) (eOrV (eBin dEq (eBin dIx (eVar 0) (eC (.int 0))) (eC (.str "enter"))) (eBin dGt (eVar 1) (eC (.int 0)))))) (sNx)) (sRet (eAndV (eBin dIn (eBin dIx (eVar 0) (eC (.int 0))) (eArgs dTup (eCons (eC (.str "exit")) (eCons (eC (.str "catch")) (eNil))))) (eArgs m_is_integer (eCons (eBin dIx (eVar 0) (eC (.int 1))) (eCons (eC (.int 0)) (eCons (eBin dSub (eVar 1) (eC (.int 1))) (eNil))))))))))
def m_is_event : List D → R D := runF 2 2 b_is_event
def l_stacks_of_1 : DN.Env → R Fl := sSeq (sIf (eT dB (eBin dGt (eVar 6) (eArgs dLen (eCons (eVar 2) (eNil))))) (sRet (eNoL (eC .non))) (sNx)) (sSeq (sSet 2 (eSl (eVar 2) (oNone) (oSome (eBin dSub (eArgs dLen (eCons (eVar 2) (eNil))) (eVar 6))))) (sSeq (sApp 4 (eVar 2)) (sIf (eT dB (eBin dLt (eVar 5) (eArgs dLen (eCons (eVar 0) (eNil))))) (sSeq (sSet 2 (eArgs m_stack_after (eCons (eVar 2) (eCons (eBin dIx (eVar 0) (eVar 5)) (eCons (eVar 3) (eNil)))))) (sSeq (sAug dAddI 3 (eArgs dInt (eCons (eBin dIn (eBin dIx (eBin dIx (eVar 0) (eVar 5)) (eC (.int 0))) (eC (.tup (List.map D.str ["enter", "tail"])))) (eNil)))) (sIf (eT dB (eBin dIs (eVar 2) (eC .non))) (sRet (eNoL (eC .non))) (sNx)))) (sNx))))
abbrev b_stacks_of : DN.Env → R Fl := sSeq (sPar3 2 3 4 (eArgs dTup (eNil)) (eC (.int 0)) (eArgs dLst (eNil))) (sSeq (sFor (eItA dEnum (eCons (eVar 1) (eNil))) (gT 2 (gCons' (gN 5) (gCons' (gN 6) (gNil')))) l_stacks_of_1) (sRet (eVar 4)))
def m_stacks_of : List D → R D := runL 2 7 b_stacks_of
def l_with_totals_1 : DN.Env → R Fl := sSeq (sSet 7 (eBin dSub (eVar 6) (eBin dSub (eVar 3) (eArgs dLen (eCons (eVar 2) (eNil)))))) (sSeq (sIf (eNot (eT dB (eChain dLe dLe (eC (.int 0)) (eVar 7) (eArgs dLen (eCons (eVar 2) (eNil)))))) (sRet (eC .non)) (sNx)) (sSeq (sApp 4 (eVar 7)) (sSeq (sSet 2 (eSl (eVar 2) (oNone) (oSome (eBin dSub (eArgs dLen (eCons (eVar 2) (eNil))) (eVar 7))))) (sIf (eT dB (eBin dLt (eVar 5) (eArgs dLen (eCons (eVar 0) (eNil))))) (sSeq (sSet 2 (eArgs m_stack_after (eCons (eVar 2) (eCons (eBin dIx (eVar 0) (eVar 5)) (eCons (eVar 3) (eNil)))))) (sSeq (sAug dAddI 3 (eArgs dInt (eCons (eBin dIn (eBin dIx (eBin dIx (eVar 0) (eVar 5)) (eC (.int 0))) (eC (.tup (List.map D.str ["enter", "tail"])))) (eNil)))) (sIf (eT dB (eBin dIs (eVar 2) (eC .non))) (sRet (eC .non)) (sNx)))) (sNx)))))
abbrev b_with_totals : DN.Env → R Fl := sSeq (sPar3 2 3 4 (eArgs dTup (eNil)) (eC (.int 0)) (eArgs dLst (eNil))) (sSeq (sFor (eItA dEnum (eCons (eVar 1) (eNil))) (gT 2 (gCons' (gN 5) (gCons' (gN 6) (gNil')))) l_with_totals_1) (sRet (eArgs dTupleOf (eCons (eVar 4) (eNil)))))
def m_with_totals : List D → R D := runF 2 8 b_with_totals
abbrev b_is_moment : DN.Env → R Fl := sRet (eArgs m_is_integer (eCons (eVar 1) (eCons (eC (.int 0)) (eCons (eArgs dLen (eCons (eVar 0) (eNil))) (eNil)))))
def m_is_moment : List D → R D := runF 2 2 b_is_moment
abbrev b_is_range : DN.Env → R Fl := sRet (eAndV (eArgs m_is_integer (eCons (eVar 1) (eCons (eC (.int 0)) (eCons (eC (.int 10)) (eNil))))) (eArgs m_is_integer (eCons (eVar 0) (eCons (eC (.int 0)) (eCons (eVar 1) (eNil))))))
def m_is_range : List D → R D := runF 2 2 b_is_range
abbrev b_holds_for : DN.Env → R Fl := sSeq (sIf (eT dB (eBin dEq (eBin dIx (eVar 2) (eC (.int 0))) (eC (.str "depth")))) (sRet (eChain dLe dLe (eBin dIx (eVar 2) (eC (.int 2))) (eArgs dLen (eCons (eBin dIx (eVar 1) (eBin dIx (eVar 2) (eC (.int 1)))) (eNil))) (eBin dIx (eVar 2) (eC (.int 3))))) (sNx)) (sSeq (sIf (eT dB (eBin dEq (eBin dIx (eVar 2) (eC (.int 0))) (eC (.str "active")))) (sRet (eBin dIn (eBin dIx (eVar 2) (eC (.int 1))) (eBin dIx (eVar 1) (eBin dIx (eVar 2) (eC (.int 2)))))) (sNx)) (sSeq (sIf (eT dB (eBin dEq (eBin dIx (eVar 2) (eC (.int 0))) (eC (.str "returned")))) (sRet (eBin dNotIn (eBin dIx (eVar 2) (eC (.int 1))) (eBin dIx (eVar 1) (eBin dIx (eVar 2) (eC (.int 2)))))) (sNx)) (sSeq (sIf (eT dB (eBin dEq (eBin dIx (eVar 2) (eC (.int 0))) (eC (.str "innermost")))) (sRet (eBin dEq (eSl (eBin dIx (eVar 1) (eBin dIx (eVar 2) (eC (.int 2)))) (oSome (eUn dNeg (eC (.int 1)))) (oNone)) (eArgs dTup (eCons (eBin dIx (eVar 2) (eC (.int 1))) (eNil))))) (sNx)) (sSeq (sIf (eT dB (eBin dEq (eBin dIx (eVar 2) (eC (.int 0))) (eC (.str "stack")))) (sRet (eBin dEq (eBin dIx (eVar 1) (eBin dIx (eVar 2) (eC (.int 1)))) (eBin dIx (eVar 2) (eC (.int 2))))) (sNx)) (sSeq (sIf (eT dB (eBin dEq (eBin dIx (eVar 2) (eC (.int 0))) (eC (.str "deeper")))) (sRet (eBin dGe (eArgs dLen (eCons (eBin dIx (eVar 1) (eBin dIx (eVar 2) (eC (.int 1)))) (eNil))) (eBin dAdd (eArgs dLen (eCons (eBin dIx (eVar 1) (eBin dIx (eVar 2) (eC (.int 2)))) (eNil))) (eBin dIx (eVar 2) (eC (.int 3)))))) (sNx)) (sSeq (sSet 3 (eArgs m_created_before (eCons (eVar 0) (eNil)))) (sSeq (sAsg (eLc [6] (eItems (eSl (eVar 2) (oSome (eC (.int 1))) (oSome (eC (.int 3))))) (gN 6) (eYes) (eBin dSub (eBin dIx (eVar 3) (eVar 6)) (eArgs dLen (eCons (eBin dIx (eVar 1) (eVar 6)) (eNil))))) (gL 2 (gCons' (gN 4) (gCons' (gN 5) (gNil'))))) (sRet (eChain dLe dLe (eBin dIx (eVar 2) (eC (.int 3))) (eBin dSub (eVar 5) (eVar 4)) (eBin dIx (eVar 2) (eC (.int 4))))))))))))
def m_holds_for : List D → R D := runF 3 7 b_holds_for
def l_all_completions_1 : DN.Env → R Fl := sSeq (sSet 9 (eSl (eVar 6) (oNone) (oSome (eBin dSub (eArgs dLen (eCons (eVar 6) (eNil))) (eVar 8))))) (sSeq (sSet 10 (eIf (eT dB (eBin dEq (eVar 3) (eArgs dLen (eCons (eVar 0) (eNil))))) (eVar 9) (eArgs m_stack_after (eCons (eVar 9) (eCons (eBin dIx (eVar 0) (eVar 3)) (eCons (eVar 2) (eNil))))))) (sIf (eT dB (eBin dIsNot (eVar 10) (eC .non))) (sApp 4 (eArgs dTup (eCons (eBin dAdd (eVar 5) (eArgs dTup (eCons (eVar 8) (eNil)))) (eCons (eVar 10) (eCons (eBin dAdd (eVar 7) (eArgs dLst (eCons (eVar 9) (eNil)))) (eNil)))))) (sNx)))
def l_all_completions_2 : DN.Env → R Fl := sFor (eItA dRange1 (eCons (eBin dAdd (eArgs dLen (eCons (eVar 6) (eNil))) (eC (.int 1))) (eNil))) (gN 8) l_all_completions_1
def l_all_completions_3 : DN.Env → R Fl := sSeq (sSet 4 (eArgs dLst (eNil))) (sSeq (sFor (eItems (eVar 1)) (gT 3 (gCons' (gN 5) (gCons' (gN 6) (gCons' (gN 7) (gNil'))))) l_all_completions_2) (sSeq (sSet 1 (eVar 4)) (sIf (eT dB (eBin dLt (eVar 3) (eArgs dLen (eCons (eVar 0) (eNil))))) (sAug dAddI 2 (eArgs dInt (eCons (eBin dIn (eBin dIx (eBin dIx (eVar 0) (eVar 3)) (eC (.int 0))) (eC (.tup (List.map D.str ["enter", "tail"])))) (eNil)))) (sNx))))
abbrev b_all_completions : DN.Env → R Fl := sSeq (sPar2 1 2 (eArgs dLst (eCons (eArgs dTup (eCons (eArgs dTup (eNil)) (eCons (eArgs dTup (eNil)) (eCons (eArgs dLst (eNil)) (eNil))))) (eNil))) (eC (.int 0))) (sSeq (sFor (eItA dRange1 (eCons (eBin dAdd (eArgs dLen (eCons (eVar 0) (eNil))) (eC (.int 1))) (eNil))) (gN 3) l_all_completions_3) (sRet (eLc [5, 6, 7] (eItems (eVar 1)) (gT 3 (gCons' (gN 5) (gCons' (gN 6) (gCons' (gN 7) (gNil'))))) (eYes) (eArgs dTup (eCons (eVar 5) (eCons (eVar 7) (eNil)))))))
def m_all_completions : List D → R D := runF 1 11 b_all_completions
abbrev b_tails_between : DN.Env → R Fl := sRet (eLc [3] (eItA dRange2 (eCons (eBin dAdd (eVar 1) (eC (.int 1))) (eCons (eVar 2) (eNil)))) (gN 3) (eT dTru (eArgs m_is_tail (eCons (eVar 0) (eCons (eVar 3) (eNil))))) (eVar 3))
def m_tails_between : List D → R D := runF 3 4 b_tails_between
abbrev b_rows_not_deeper : DN.Env → R Fl := sSeq (sPar2 5 6 (eArgs m_created_before (eCons (eVar 0) (eNil))) (eBin dIx (eArgs m_created_at (eCons (eVar 0) (eNil))) (eVar 2))) (sSeq (sSet 7 (eBin dSub (eBin dSub (eBin dAdd (eBin dIx (eVar 5) (eVar 6)) (eC (.int 1))) (eArgs dInt (eCons (eArgs m_is_tail (eCons (eVar 0) (eCons (eVar 6) (eNil)))) (eNil)))) (eBin dIx (eVar 5) (eVar 3)))) (sRet (eArgs dLst (eCons (eArgs dTup (eCons (eVar 1) (eCons (eVar 6) (eCons (eArgs dLst (eCons (eArgs dTup (eCons (eVar 4) (eCons (eVar 7) (eNil)))) (eNil))) (eNil))))) (eNil)))))
def m_rows_not_deeper : List D → R D := runF 5 8 b_rows_not_deeper
def l_lowered_1 : DN.Env → R Fl := sSeq (sSet 8 (eBor (eArgs m_right_side (eCons (eVar 7) (eCons (eVar 2) (eNil)))))) (sIf (eT dB (eBin dLt (eVar 8) (eIxO 2 (eVar 6)))) (sSeq (sPut 2 (eVar 8) (eVar 6)) (sSeq (sApp 3 (eArgs dTup (eCons (eVar 6) (eCons (eVar 8) (eCons (eVar 5) (eNil)))))) (sSeq (sSet 4 (eC (.bl true))) (sIf (eT dB (eBin dLt (eVar 8) (eC (.int 0)))) (sRet (eArgs dTup (eCons (eC .non) (eCons (eOwnCat 3 (eArgs m_down_to_start (eCons (eVar 6) (eCons (eVar 8) (eNil))))) (eNil))))) (sNx))))) (sNx))
abbrev b_lowered : DN.Env → R Fl := sSeq (sPar3 2 3 4 (eUn dLs (eArgs m_created_before (eCons (eVar 0) (eNil)))) (eArgs dLst (eNil)) (eC (.bl true))) (sSeq (wloop (eT dTru (eVar 4)) (sSeq (sSet 4 (eC (.bl false))) (sFor (eItems (eVar 1)) (gT 3 (gCons' (gN 5) (gCons' (gN 6) (gCons' (gN 7) (gNil'))))) l_lowered_1)) 1000) (sRet (eArgs dTup (eCons (eVar 2) (eCons (eVar 3) (eNil))))))
def m_lowered : List D → R D := runF 2 9 b_lowered
abbrev b__law_of : DN.Env → R Fl := sRetX (xBin dIx (xOf (eVar 1)) (xBag 0 m__law_take (xCons (xOf (eArgs dLen (eCons (eVar 1) (eNil)))) (xNil))))
def m__law_of : D → List D → R (D × D) := runB 2 2 b__law_of
def l__law_rows_1 : DN.Env → R Fl := sSeq (sIf (eT dB (eBin dGt (eVar 6) (eArgs dLen (eCons (eVar 2) (eNil))))) (sRet (eC .non)) (sNx)) (sSeq (sSet 2 (eSl (eVar 2) (oNone) (oSome (eBin dSub (eArgs dLen (eCons (eVar 2) (eNil))) (eVar 6))))) (sSeq (sApp 4 (eVar 2)) (sIf (eT dB (eBin dLt (eVar 5) (eArgs dLen (eCons (eVar 0) (eNil))))) (sSeq (sSet 2 (eArgs m__law_after (eCons (eVar 2) (eCons (eBin dIx (eVar 0) (eVar 5)) (eCons (eVar 3) (eNil)))))) (sSeq (sSet 3 (eBin dAdd (eVar 3) (eArgs dInt (eCons (eBin dIn (eBin dIx (eBin dIx (eVar 0) (eVar 5)) (eC (.int 0))) (eArgs dTup (eCons (eC (.str "enter")) (eCons (eC (.str "tail")) (eNil))))) (eNil))))) (sIf (eT dB (eBin dIs (eVar 2) (eC .non))) (sRet (eC .non)) (sNx)))) (sNx))))
abbrev b__law_rows : DN.Env → R Fl := sSeq (sPar3 2 3 4 (eArgs dTup (eNil)) (eC (.int 0)) (eArgs dLst (eNil))) (sSeq (sFor (eItA dEnum (eCons (eVar 1) (eNil))) (gT 2 (gCons' (gN 5) (gCons' (gN 6) (gNil')))) l__law_rows_1) (sRet (eVar 4)))
def m__law_rows : List D → R D := runF 2 7 b__law_rows
abbrev b__law_totals : DN.Env → R Fl := sRet (eLc [2, 3] (eItA dZip (eCons (eArgs m__law_created (eCons (eVar 0) (eNil))) (eCons (eVar 1) (eNil)))) (gT 2 (gCons' (gN 2) (gCons' (gN 3) (gNil')))) (eYes) (eBin dSub (eVar 2) (eArgs dLen (eCons (eVar 3) (eNil)))))
def m__law_totals : List D → R D := runF 2 4 b__law_totals
def l__law_callers_1 : DN.Env → R Fl := sSeq (sSet 5 (eArgs m__law_after (eCons (eBin dIx (eVar 1) (eVar 4)) (eCons (eBin dIx (eVar 0) (eVar 4)) (eCons (eVar 3) (eNil)))))) (sApp 2 (eIf (eT dB (eBin dGt (eArgs dLen (eCons (eVar 5) (eNil))) (eC (.int 1)))) (eBin dIx (eVar 5) (eUn dNeg (eC (.int 2)))) (eC .non)))
abbrev b__law_callers : DN.Env → R Fl := sSeq (sSet 2 (eArgs dLst (eNil))) (sSeq (sFor (eItA dEnum (eCons (eArgs m__law_events (eCons (eVar 0) (eNil))) (eNil))) (gT 2 (gCons' (gN 3) (gCons' (gN 4) (gNil')))) l__law_callers_1) (sRet (eVar 2)))
def m__law_callers : List D → R D := runF 2 6 b__law_callers
def l__law_ends_1 : DN.Env → R Fl := sSeq (sSet 5 (eLc [6] (eItA dRange2 (eCons (eBin dAdd (eVar 4) (eC (.int 1))) (eCons (eArgs dLen (eCons (eVar 1) (eNil))) (eNil)))) (gN 6) (eT dB (eBin dNotIn (eVar 3) (eBin dIx (eVar 1) (eVar 6)))) (eVar 6))) (sApp 2 (eIf (eT dB (eBin dNe (eVar 5) (eArgs dLst (eNil)))) (eBin dIx (eVar 5) (eC (.int 0))) (eC .non)))
abbrev b__law_ends : DN.Env → R Fl := sSeq (sSet 2 (eArgs dLst (eNil))) (sSeq (sFor (eItA dEnum (eCons (eArgs m__law_events (eCons (eVar 0) (eNil))) (eNil))) (gT 2 (gCons' (gN 3) (gCons' (gN 4) (gNil')))) l__law_ends_1) (sRet (eVar 2)))
def m__law_ends : List D → R D := runF 2 7 b__law_ends
abbrev b_event_in : DN.Env → R Fl := sSeq (sIf (eAnd (eT dB (eBin dEq (eArgs dLen (eCons (eVar 0) (eNil))) (eC (.int 2)))) (eT dB (eBin dIn (eBin dIx (eVar 0) (eC (.int 0))) (eArgs dTup (eCons (eC (.str "exit")) (eCons (eC (.str "catch")) (eNil))))))) (sRet (eArgs dTup (eCons (eBin dIx (eVar 0) (eC (.int 0))) (eCons (eArgs m_number_in (eCons (eBin dIx (eVar 0) (eC (.int 1))) (eNil))) (eNil))))) (sNx)) (sRet (eArgs dTupleOf (eCons (eVar 0) (eNil))))
def m_event_in : List D → R D := runF 1 1 b_event_in
abbrev b__law_event_of : DN.Env → R Fl := sSeq (sIf (eT dB (eBin dEq (eVar 0) (eArgs dLst (eCons (eC (.str "mark")) (eNil))))) (sRet (eArgs dTup (eCons (eC (.str "mark")) (eNil)))) (sNx)) (sSeq (sIf (eT dB (eBin dNe (eArgs dLen (eCons (eVar 0) (eNil))) (eC (.int 2)))) (sRet (eC .non)) (sNx)) (sSeq (sIf (eT dB (eBin dIn (eBin dIx (eVar 0) (eC (.int 0))) (eArgs dTup (eCons (eC (.str "enter")) (eCons (eC (.str "tail")) (eNil)))))) (sSeq (sSet 2 (eLc [4] (eItems (eBin dIx (eVar 0) (eC (.int 1)))) (gN 4) (eT dB (eBin dNotIn (eVar 4) (eC (.str "abcdefghijklmnopqrstuvwxyz")))) (eVar 4))) (sSeq (sSet 3 (eAndV (eChain dLe dLe (eC (.int 1)) (eArgs dLen (eCons (eBin dIx (eVar 0) (eC (.int 1))) (eNil))) (eC (.int 8))) (eAndV (eBin dEq (eVar 2) (eArgs dLst (eNil))) (eBin dLt (eVar 1) (eC (.int 10)))))) (sRet (eIf (eAnd (eT dTru (eVar 3)) (eOr (eT dB (eBin dEq (eBin dIx (eVar 0) (eC (.int 0))) (eC (.str "enter")))) (eT dB (eBin dGt (eVar 1) (eC (.int 0)))))) (eArgs dTup (eCons (eBin dIx (eVar 0) (eC (.int 0))) (eCons (eBin dIx (eVar 0) (eC (.int 1))) (eNil)))) (eC .non))))) (sNx)) (sSeq (sIf (eOr (eT dB (eBin dNotIn (eBin dIx (eVar 0) (eC (.int 0))) (eArgs dTup (eCons (eC (.str "exit")) (eCons (eC (.str "catch")) (eNil)))))) (eOr (eNot (eT dTru (eArgs m__law_is_decimal (eCons (eBin dIx (eVar 0) (eC (.int 1))) (eNil))))) (eT dB (eBin dGt (eArgs dLen (eCons (eBin dIx (eVar 0) (eC (.int 1))) (eNil))) (eC (.int 2)))))) (sRet (eC .non)) (sNx)) (sRet (eIf (eT dB (eBin dLt (eArgs dInt (eCons (eBin dIx (eVar 0) (eC (.int 1))) (eNil))) (eVar 1))) (eArgs dTup (eCons (eBin dIx (eVar 0) (eC (.int 0))) (eCons (eArgs dInt (eCons (eBin dIx (eVar 0) (eC (.int 1))) (eNil))) (eNil)))) (eC .non))))))
def m__law_event_of : List D → R D := runF 2 5 b__law_event_of
abbrev b__law_frame_fact : DN.Env → R Fl := sSeq (sSet 3 (eArgs m__law_events (eCons (eVar 1) (eNil)))) (sSeq (sIf (eT dB (eBin dEq (eVar 3) (eArgs dLst (eNil)))) (sRet (eC .non)) (sNx)) (sSeq (sSetX 4 (xBag 0 m__law_take (xCons (xOf (eArgs dLen (eCons (eVar 3) (eNil)))) (xNil)))) (sSeq (sSetX 5 (xBin dAdd (xOf (eBin dAdd (eBin dIx (eVar 3) (eVar 4)) (eC (.int 1)))) (xBag 0 m__law_take (xCons (xOf (eBin dSub (eArgs dLen (eCons (eVar 1) (eNil))) (eBin dIx (eVar 3) (eVar 4)))) (xNil))))) (sRet (eArgs dTup (eCons (eVar 2) (eCons (eVar 4) (eCons (eVar 5) (eNil)))))))))
def m__law_frame_fact : D → List D → R (D × D) := runB 3 6 b__law_frame_fact
abbrev b__law_is_range : DN.Env → R Fl := sRet (eAndV (eArgs m__law_is_number (eCons (eVar 1) (eCons (eC (.int 0)) (eCons (eC (.int 10)) (eNil))))) (eArgs m__law_is_number (eCons (eVar 0) (eCons (eC (.int 0)) (eCons (eVar 1) (eNil))))))
def m__law_is_range : List D → R D := runF 2 2 b__law_is_range
abbrev b_require_frame : DN.Env → R Fl := sIf (eNot (eT dTru (eArgs m_is_integer (eCons (eVar 1) (eCons (eC (.int 0)) (eCons (eBin dSub (eArgs dLen (eCons (eArgs m_created_at (eCons (eVar 0) (eNil))) (eNil))) (eC (.int 1))) (eNil))))))) (sRaise "InvalidFrame") (sNx)
def m_require_frame : List D → R D := runF 2 2 b_require_frame
abbrev b_is_line : DN.Env → R Fl := sSeq (sIf (eOr (eNot (eT dTru (eUn (dIsi "tuple") (eVar 1)))) (eOr (eT dB (eBin dNe (eArgs dLen (eCons (eVar 1) (eNil))) (eC (.int 3)))) (eOr (eNot (eT dTru (eArgs m_is_whole (eCons (eBin dIx (eVar 1) (eC (.int 0))) (eNil))))) (eNot (eT dTru (eArgs m_is_whole (eCons (eBin dIx (eVar 1) (eC (.int 1))) (eNil)))))))) (sRet (eC (.bl false))) (sNx)) (sSeq (sIf (eOr (eNot (eT dB (eChain dLe dLe (eC (.int 0)) (eBin dIx (eVar 1) (eC (.int 0))) (eArgs dLen (eCons (eVar 0) (eNil)))))) (eOr (eNot (eT dTru (eUn (dIsi "tuple") (eBin dIx (eVar 1) (eC (.int 2)))))) (eT dB (eBin dNe (eArgs dLen (eCons (eBin dIx (eVar 1) (eC (.int 2))) (eNil))) (eC (.int 2)))))) (sRet (eC (.bl false))) (sNx)) (sRet (eAndV (eUn (dIsi "str") (eBin dIx (eBin dIx (eVar 1) (eC (.int 2))) (eC (.int 0)))) (eArgs m_is_whole (eCons (eBin dIx (eBin dIx (eVar 1) (eC (.int 2))) (eC (.int 1))) (eNil))))))
def m_is_line : List D → R D := runF 2 2 b_is_line
def l__law_all_1 : DN.Env → R Fl := sSeq (sSet 9 (eSl (eVar 6) (oNone) (oSome (eBin dSub (eArgs dLen (eCons (eVar 6) (eNil))) (eVar 8))))) (sSeq (sSet 10 (eIf (eT dB (eBin dLt (eVar 3) (eArgs dLen (eCons (eVar 0) (eNil))))) (eArgs m__law_after (eCons (eVar 9) (eCons (eBin dIx (eVar 0) (eVar 3)) (eCons (eVar 2) (eNil))))) (eVar 9))) (sIf (eT dB (eBin dIsNot (eVar 10) (eC .non))) (sApp 4 (eArgs dTup (eCons (eBin dAdd (eVar 5) (eArgs dTup (eCons (eVar 8) (eNil)))) (eCons (eVar 10) (eCons (eBin dAdd (eVar 7) (eArgs dLst (eCons (eVar 9) (eNil)))) (eNil)))))) (sNx)))
def l__law_all_2 : DN.Env → R Fl := sFor (eItA dRange1 (eCons (eBin dAdd (eArgs dLen (eCons (eVar 6) (eNil))) (eC (.int 1))) (eNil))) (gN 8) l__law_all_1
def l__law_all_3 : DN.Env → R Fl := sSeq (sSet 4 (eArgs dLst (eNil))) (sSeq (sFor (eItems (eVar 1)) (gT 3 (gCons' (gN 5) (gCons' (gN 6) (gCons' (gN 7) (gNil'))))) l__law_all_2) (sSeq (sSet 1 (eVar 4)) (sIf (eT dB (eBin dLt (eVar 3) (eArgs dLen (eCons (eVar 0) (eNil))))) (sSet 2 (eBin dAdd (eVar 2) (eArgs dInt (eCons (eBin dIn (eBin dIx (eBin dIx (eVar 0) (eVar 3)) (eC (.int 0))) (eArgs dTup (eCons (eC (.str "enter")) (eCons (eC (.str "tail")) (eNil))))) (eNil))))) (sNx))))
abbrev b__law_all : DN.Env → R Fl := sSeq (sPar2 1 2 (eArgs dLst (eCons (eArgs dTup (eCons (eArgs dTup (eNil)) (eCons (eArgs dTup (eNil)) (eCons (eArgs dLst (eNil)) (eNil))))) (eNil))) (eC (.int 0))) (sSeq (sFor (eItA dRange1 (eCons (eBin dAdd (eArgs dLen (eCons (eVar 0) (eNil))) (eC (.int 1))) (eNil))) (gN 3) l__law_all_3) (sRet (eLc [5, 6, 7] (eItems (eVar 1)) (gT 3 (gCons' (gN 5) (gCons' (gN 6) (gCons' (gN 7) (gNil'))))) (eYes) (eArgs dTup (eCons (eVar 5) (eCons (eVar 7) (eNil)))))))
def m__law_all : List D → R D := runF 1 11 b__law_all
abbrev b__law_level : DN.Env → R Fl := sSeq (sSet 2 (eBin dIx (eArgs m__law_events (eCons (eVar 0) (eNil))) (eVar 1))) (sRet (eArgs dTup (eCons (eVar 2) (eCons (eBin dSub (eBin dAdd (eBin dIx (eArgs m__law_created (eCons (eVar 0) (eNil))) (eVar 2)) (eC (.int 1))) (eArgs dInt (eCons (eBin dEq (eBin dIx (eBin dIx (eVar 0) (eVar 2)) (eC (.int 0))) (eC (.str "tail"))) (eNil)))) (eNil)))))
def m__law_level : List D → R D := runF 2 3 b__law_level
abbrev b__law_caller : DN.Env → R Fl := sSeq (sSet 4 (eArgs m__law_after (eCons (eBin dIx (eVar 1) (eVar 3)) (eCons (eBin dIx (eVar 0) (eVar 3)) (eCons (eVar 2) (eNil)))))) (sRet (eIf (eT dB (eBin dGt (eArgs dLen (eCons (eVar 4) (eNil))) (eC (.int 1)))) (eBin dIx (eVar 4) (eUn dNeg (eC (.int 2)))) (eC .non)))
def m__law_caller : List D → R D := runF 4 5 b__law_caller
def l__law_stack_parts_1 : DN.Env → R Fl := sApp 3 (eArgs dTup (eCons (eIf (eT dB (eBin dIn (eVar 4) (eVar 2))) (eC (.str "active")) (eC (.str "returned"))) (eCons (eVar 4) (eCons (eVar 1) (eNil)))))
abbrev b__law_stack_parts : DN.Env → R Fl := sSeq (sSet 3 (eArgs dLst (eNil))) (sSeq (sFor (eItA dRange1 (eCons (eBin dIx (eArgs m__law_created (eCons (eVar 0) (eNil))) (eVar 1)) (eNil))) (gN 4) l__law_stack_parts_1) (sRet (eArgs dTupleOf (eCons (eVar 3) (eNil)))))
def m__law_stack_parts : List D → R D := runF 3 5 b__law_stack_parts
def l_are_events_1 : DN.Env → R Fl := sSeq (sIf (eNot (eT dTru (eArgs m_is_event (eCons (eVar 2) (eCons (eVar 1) (eNil)))))) (sRet (eC (.bl false))) (sNx)) (sAug dAddI 1 (eArgs dInt (eCons (eBin dIn (eBin dIx (eVar 2) (eC (.int 0))) (eC (.tup (List.map D.str ["enter", "tail"])))) (eNil))))
abbrev b_are_events : DN.Env → R Fl := sSeq (sSet 1 (eC (.int 0))) (sSeq (sFor (eItems (eVar 0)) (gN 2) l_are_events_1) (sRet (eC (.bl true))))
def m_are_events : List D → R D := runF 1 3 b_are_events
abbrev b_is_valid : DN.Env → R Fl := sSeq (sIf (eOr (eNot (eT dTru (eUn (dIsi "tuple") (eVar 1)))) (eT dB (eBin dNe (eArgs dLen (eCons (eVar 1) (eNil))) (eBin dAdd (eArgs dLen (eCons (eVar 0) (eNil))) (eC (.int 1)))))) (sRet (eC (.bl false))) (sNx)) (sRet (eAndV (eArgs dAll (eCons (eLc [2] (eItems (eVar 1)) (gN 2) (eYes) (eArgs m_is_integer (eCons (eVar 2) (eCons (eC (.int 0)) (eCons (eC (.int 10)) (eNil)))))) (eNil))) (eBin dIsNot (eArgs m_stacks_of (eCons (eVar 0) (eCons (eVar 1) (eNil)))) (eC .non))))
def m_is_valid : List D → R D := runF 2 3 b_is_valid
abbrev b_totals_of : DN.Env → R Fl := sSeq (sSet 2 (eArgs m_created_before (eCons (eVar 0) (eNil)))) (sRet (eLc [3, 4] (eItA dZip (eCons (eVar 2) (eCons (eArgs m_stacks_of (eCons (eVar 0) (eCons (eVar 1) (eNil)))) (eNil)))) (gT 2 (gCons' (gN 3) (gCons' (gN 4) (gNil')))) (eYes) (eBin dSub (eVar 3) (eArgs dLen (eCons (eVar 4) (eNil))))))
def m_totals_of : List D → R D := runL 2 5 b_totals_of
abbrev b_is_frame_fact : DN.Env → R Fl := sSeq (sSet 2 (eArgs m_created_at (eCons (eVar 0) (eNil)))) (sSeq (sIf (eOr (eT dB (eBin dNe (eArgs dLen (eCons (eVar 1) (eNil))) (eC (.int 3)))) (eNot (eT dTru (eArgs m_is_integer (eCons (eBin dIx (eVar 1) (eC (.int 1))) (eCons (eC (.int 0)) (eCons (eBin dSub (eArgs dLen (eCons (eVar 2) (eNil))) (eC (.int 1))) (eNil)))))))) (sRet (eC (.bl false))) (sNx)) (sRet (eAndV (eArgs m_is_moment (eCons (eVar 0) (eCons (eBin dIx (eVar 1) (eC (.int 2))) (eNil)))) (eBin dGt (eBin dIx (eVar 1) (eC (.int 2))) (eBin dIx (eVar 2) (eBin dIx (eVar 1) (eC (.int 1))))))))
def m_is_frame_fact : List D → R D := runF 2 3 b_is_frame_fact
abbrev b_is_stack_fact : DN.Env → R Fl := sSeq (sIf (eOr (eT dB (eBin dNe (eArgs dLen (eCons (eVar 1) (eNil))) (eC (.int 3)))) (eOr (eNot (eT dTru (eArgs m_is_moment (eCons (eVar 0) (eCons (eBin dIx (eVar 1) (eC (.int 1))) (eNil)))))) (eNot (eT dTru (eUn (dIsi "tuple") (eBin dIx (eVar 1) (eC (.int 2)))))))) (sRet (eC (.bl false))) (sNx)) (sSeq (sSet 2 (eBin dIx (eArgs m_created_before (eCons (eVar 0) (eNil))) (eBin dIx (eVar 1) (eC (.int 1))))) (sSeq (sIf (eNot (eT dTru (eArgs dAll (eCons (eLc [3] (eItems (eBin dIx (eVar 1) (eC (.int 2)))) (gN 3) (eYes) (eArgs m_is_integer (eCons (eVar 3) (eCons (eC (.int 0)) (eCons (eBin dSub (eVar 2) (eC (.int 1))) (eNil)))))) (eNil))))) (sRet (eC (.bl false))) (sNx)) (sRet (eArgs dAll (eCons (eLc [4, 5] (eItA dZip (eCons (eBin dIx (eVar 1) (eC (.int 2))) (eCons (eSl (eBin dIx (eVar 1) (eC (.int 2))) (oSome (eC (.int 1))) (oNone)) (eNil)))) (gT 2 (gCons' (gN 4) (gCons' (gN 5) (gNil')))) (eYes) (eBin dLt (eVar 4) (eVar 5))) (eNil))))))
def m_is_stack_fact : List D → R D := runF 2 6 b_is_stack_fact
abbrev b_all_for : DN.Env → R Fl := sSeq (sIf (eT dB (eBin dGt (eArgs dLen (eCons (eVar 0) (eNil))) (eC (.int 9)))) (sRaise "CapacityError") (sNx)) (sSeq (sSet 2 (eArgs m_all_completions (eCons (eVar 0) (eNil)))) (sRet (eLc [3] (eItems (eVar 2)) (gN 3) (eT dTru (eArgs dAll (eCons (eLc [4] (eItems (eVar 1)) (gN 4) (eYes) (eArgs m_holds_for (eCons (eVar 0) (eCons (eBin dIx (eVar 3) (eC (.int 1))) (eCons (eVar 4) (eNil)))))) (eNil)))) (eVar 3))))
def m_all_for : List D → R D := runF 2 5 b_all_for
def l_rows_active_1 : DN.Env → R Fl := sApp 7 (eArgs dTup (eCons (eVar 1) (eCons (eVar 8) (eCons (eArgs dLst (eCons (eArgs dTup (eCons (eVar 5) (eCons (eBin dSub (eBin dIx (eVar 4) (eVar 8)) (eVar 6)) (eNil)))) (eNil))) (eNil)))))
def l_rows_active_2 : DN.Env → R Fl := sApp 7 (eArgs dTup (eCons (eVar 1) (eCons (eVar 8) (eCons (eArgs dLst (eCons (eArgs dTup (eCons (eVar 5) (eCons (eBin dSub (eBin dSub (eBin dIx (eVar 4) (eVar 8)) (eVar 6)) (eC (.int 1))) (eNil)))) (eNil))) (eNil)))))
abbrev b_rows_active : DN.Env → R Fl := sSeq (sPar2 4 5 (eArgs m_created_before (eCons (eVar 0) (eNil))) (eBin dIx (eArgs m_created_at (eCons (eVar 0) (eNil))) (eVar 2))) (sSeq (sSet 6 (eBin dSub (eBin dAdd (eBin dIx (eVar 4) (eVar 5)) (eC (.int 1))) (eArgs dInt (eCons (eArgs m_is_tail (eCons (eVar 0) (eCons (eVar 5) (eNil)))) (eNil))))) (sSeq (sSet 7 (eArgs dLst (eNil))) (sSeq (sFor (eItA dRange2 (eCons (eBin dAdd (eVar 5) (eC (.int 1))) (eCons (eBin dAdd (eVar 3) (eC (.int 1))) (eNil)))) (gN 8) l_rows_active_1) (sSeq (sFor (eItems (eArgs m_tails_between (eCons (eVar 0) (eCons (eVar 5) (eCons (eVar 3) (eNil)))))) (gN 8) l_rows_active_2) (sRet (eVar 7))))))
def m_rows_active : List D → R D := runF 4 9 b_rows_active
abbrev b_rows_returned : DN.Env → R Fl := sSeq (sPar2 4 5 (eArgs m_created_before (eCons (eVar 0) (eNil))) (eBin dIx (eArgs m_created_at (eCons (eVar 0) (eNil))) (eVar 2))) (sSeq (sSet 6 (eBin dSub (eBin dIx (eVar 4) (eVar 5)) (eArgs dInt (eCons (eArgs m_is_tail (eCons (eVar 0) (eCons (eVar 5) (eNil)))) (eNil))))) (sSeq (sSet 7 (eLc [8] (eItA dRange2 (eCons (eBin dAdd (eVar 5) (eC (.int 1))) (eCons (eBin dAdd (eVar 3) (eC (.int 1))) (eNil)))) (gN 8) (eYes) (eArgs dTup (eCons (eVar 8) (eCons (eBin dSub (eVar 6) (eBin dIx (eVar 4) (eVar 8))) (eNil)))))) (sSeq (sExt 7 (eLc [8] (eItems (eArgs m_tails_between (eCons (eVar 0) (eCons (eVar 5) (eCons (eVar 3) (eNil)))))) (gN 8) (eYes) (eArgs dTup (eCons (eVar 8) (eCons (eBin dSub (eBin dAdd (eVar 6) (eC (.int 1))) (eBin dIx (eVar 4) (eVar 8))) (eNil)))))) (sRet (eArgs dLst (eCons (eArgs dTup (eCons (eVar 1) (eCons (eVar 5) (eCons (eVar 7) (eNil))))) (eNil)))))))
def m_rows_returned : List D → R D := runF 4 9 b_rows_returned
abbrev b__law_event : DN.Env → R Fl := sSeq (sSetX 4 (xBag 0 m__law_of (xCons (xOf (eArgs dLst (eCons (eC (.str "f")) (eCons (eC (.str "g")) (eCons (eC (.str "main")) (eCons (eC (.str "abcdefgh")) (eNil))))))) (xNil)))) (sSeq (sSet 5 (eArgs dLst (eCons (eArgs dTup (eCons (eC (.str "mark")) (eNil))) (eNil)))) (sSeq (sIf (eT dB (eBin dLt (eVar 2) (eVar 3))) (sSet 5 (eOwnCat 5 (eBin dMul (eArgs dLst (eCons (eArgs dTup (eCons (eC (.str "enter")) (eCons (eVar 4) (eNil)))) (eNil))) (eC (.int 5))))) (sNx)) (sSeq (sIf (eAnd (eT dB (eBin dNe (eVar 1) (eArgs dTup (eNil)))) (eT dB (eBin dLt (eVar 2) (eVar 3)))) (sApp 5 (eArgs dTup (eCons (eC (.str "tail")) (eCons (eVar 4) (eNil))))) (sNx)) (sSeq (sIf (eT dB (eBin dNe (eVar 1) (eArgs dTup (eNil)))) (sSetX 5 (xBin dAdd (xOf (eBin dAdd (eVar 5) (eBin dMul (eArgs dLst (eCons (eArgs dTup (eCons (eC (.str "exit")) (eCons (eBin dIx (eVar 1) (eUn dNeg (eC (.int 1)))) (eNil)))) (eNil))) (eC (.int 2))))) (xArgs dLst (xCons (xArgs dTup (xCons (xOf (eC (.str "catch"))) (xCons (xBag 0 m__law_of (xCons (xOf (eArgs dListOf (eCons (eVar 1) (eNil)))) (xNil))) (xNil)))) (xNil))))) (sNx)) (sRetX (xBag 0 m__law_of (xCons (xOf (eVar 5)) (xNil))))))))
def m__law_event : D → List D → R (D × D) := runB 4 6 b__law_event
abbrev b__law_is_completion : DN.Env → R Fl := sSeq (sIf (eOr (eNot (eT dTru (eUn (dIsi "tuple") (eVar 1)))) (eT dB (eBin dNe (eArgs dLen (eCons (eVar 1) (eNil))) (eBin dAdd (eArgs dLen (eCons (eVar 0) (eNil))) (eC (.int 1)))))) (sRet (eC (.bl false))) (sNx)) (sSeq (sIf (eT dB (eBin dNe (eLc [2] (eItems (eVar 1)) (gN 2) (eNot (eT dTru (eArgs m__law_is_number (eCons (eVar 2) (eCons (eC (.int 0)) (eCons (eC (.int 10)) (eNil))))))) (eVar 2)) (eArgs dLst (eNil)))) (sRet (eC (.bl false))) (sNx)) (sRet (eBin dIsNot (eArgs m__law_rows (eCons (eVar 0) (eCons (eVar 1) (eNil)))) (eC .non))))
def m__law_is_completion : List D → R D := runF 2 3 b__law_is_completion
def l__law_from_1 : DN.Env → R Fl := sSeq (sSet 6 (eArgs m__law_rows (eCons (eSl (eVar 0) (oNone) (oSome (eVar 4))) (eCons (eArgs dTupleOf (eCons (eOwnCat 2 (eArgs dLst (eCons (eVar 5) (eNil)))) (eNil))) (eNil))))) (sIf (eAnd (eT dB (eBin dIsNot (eVar 6) (eC .non))) (eT dB (eBin dEq (eBin dSub (eBin dIx (eVar 3) (eVar 4)) (eArgs dLen (eCons (eBin dIx (eVar 6) (eUn dNeg (eC (.int 1)))) (eNil)))) (eBin dIx (eVar 1) (eVar 4))))) (sSeq (sSet 7 (eArgs dTupleOf (eCons (eOwnCat 2 (eArgs dLst (eCons (eVar 5) (eCons (eC (.int 0)) (eNil))))) (eNil)))) (sIf (eOr (eT dB (eBin dEq (eVar 4) (eArgs dLen (eCons (eVar 0) (eNil))))) (eT dB (eBin dIsNot (eArgs m__law_rows (eCons (eSl (eVar 0) (oNone) (oSome (eBin dAdd (eVar 4) (eC (.int 1))))) (eCons (eVar 7) (eNil)))) (eC .non)))) (sSeq (sApp 2 (eVar 5)) (sBrk)) (sNx))) (sNx))
def l__law_from_2 : DN.Env → R Fl := sFor (eItA dRange1 (eCons (eC (.int 11)) (eNil))) (gN 5) l__law_from_1
abbrev b__law_from : DN.Env → R Fl := sSeq (sPar2 2 3 (eArgs dLst (eNil)) (eArgs m__law_created (eCons (eVar 0) (eNil)))) (sSeq (sFor (eItA dRange1 (eCons (eBin dAdd (eArgs dLen (eCons (eVar 0) (eNil))) (eC (.int 1))) (eNil))) (gN 4) l__law_from_2) (sRet (eIf (eT dB (eBin dEq (eArgs dLen (eCons (eVar 2) (eNil))) (eBin dAdd (eArgs dLen (eCons (eVar 0) (eNil))) (eC (.int 1))))) (eArgs dTupleOf (eCons (eVar 2) (eNil))) (eC .non))))
def m__law_from : List D → R D := runF 2 8 b__law_from
abbrev b_is_feasible : DN.Env → R Fl := sRet (eBin dIsNot (eBin dIx (eArgs m_lowered (eCons (eVar 0) (eCons (eVar 1) (eNil)))) (eC (.int 0))) (eC .non))
def m_is_feasible : List D → R D := runF 2 2 b_is_feasible
abbrev b__law_holds : DN.Env → R Fl := sSeq (sIf (eT dB (eBin dEq (eBin dIx (eVar 2) (eC (.int 0))) (eC (.str "depth")))) (sRet (eChain dLe dLe (eBin dIx (eVar 2) (eC (.int 2))) (eArgs dLen (eCons (eBin dIx (eVar 1) (eBin dIx (eVar 2) (eC (.int 1)))) (eNil))) (eBin dIx (eVar 2) (eC (.int 3))))) (sNx)) (sSeq (sIf (eT dB (eBin dEq (eBin dIx (eVar 2) (eC (.int 0))) (eC (.str "active")))) (sRet (eBin dIn (eBin dIx (eVar 2) (eC (.int 1))) (eBin dIx (eVar 1) (eBin dIx (eVar 2) (eC (.int 2)))))) (sNx)) (sSeq (sIf (eT dB (eBin dEq (eBin dIx (eVar 2) (eC (.int 0))) (eC (.str "returned")))) (sRet (eBin dNotIn (eBin dIx (eVar 2) (eC (.int 1))) (eBin dIx (eVar 1) (eBin dIx (eVar 2) (eC (.int 2)))))) (sNx)) (sSeq (sIf (eT dB (eBin dEq (eBin dIx (eVar 2) (eC (.int 0))) (eC (.str "innermost")))) (sRet (eAndV (eBin dNe (eBin dIx (eVar 1) (eBin dIx (eVar 2) (eC (.int 2)))) (eArgs dTup (eNil))) (eBin dEq (eBin dIx (eBin dIx (eVar 1) (eBin dIx (eVar 2) (eC (.int 2)))) (eUn dNeg (eC (.int 1)))) (eBin dIx (eVar 2) (eC (.int 1)))))) (sNx)) (sSeq (sIf (eT dB (eBin dEq (eBin dIx (eVar 2) (eC (.int 0))) (eC (.str "stack")))) (sRet (eBin dEq (eBin dIx (eVar 1) (eBin dIx (eVar 2) (eC (.int 1)))) (eBin dIx (eVar 2) (eC (.int 2))))) (sNx)) (sSeq (sIf (eT dB (eBin dEq (eBin dIx (eVar 2) (eC (.int 0))) (eC (.str "deeper")))) (sRet (eBin dGe (eArgs dLen (eCons (eBin dIx (eVar 1) (eBin dIx (eVar 2) (eC (.int 1)))) (eNil))) (eBin dAdd (eArgs dLen (eCons (eBin dIx (eVar 1) (eBin dIx (eVar 2) (eC (.int 2)))) (eNil))) (eBin dIx (eVar 2) (eC (.int 3)))))) (sNx)) (sSeq (sSet 3 (eArgs m__law_totals (eCons (eVar 0) (eCons (eVar 1) (eNil))))) (sSeq (sSet 4 (eBin dSub (eBin dIx (eVar 3) (eBin dIx (eVar 2) (eC (.int 2)))) (eBin dIx (eVar 3) (eBin dIx (eVar 2) (eC (.int 1)))))) (sRet (eChain dLe dLe (eBin dIx (eVar 2) (eC (.int 3))) (eVar 4) (eBin dIx (eVar 2) (eC (.int 4))))))))))))
def m__law_holds : List D → R D := runF 3 5 b__law_holds
abbrev b_require_moment : DN.Env → R Fl := sIf (eNot (eT dTru (eArgs m_is_moment (eCons (eVar 0) (eCons (eVar 1) (eNil)))))) (sRaise "InvalidMoment") (sNx)
def m_require_moment : List D → R D := runF 2 2 b_require_moment
def l__law_best_1 : DN.Env → R Fl := sSeq (sSet 6 (eLc [9] (eItems (eVar 3)) (gN 9) (eYes) (eBin dIx (eVar 9) (eVar 5)))) (sApp 4 (eIf (eT dB (eBin dEq (eVar 2) (eC (.str "most")))) (eArgs dMaxL (eCons (eVar 6) (eNil))) (eArgs dMinL (eCons (eVar 6) (eNil)))))
abbrev b__law_best : DN.Env → R Fl := sSeq (sPar2 3 4 (eLc [7, 8] (eItems (eVar 1)) (gT 2 (gCons' (gN 7) (gCons' (gN 8) (gNil')))) (eYes) (eArgs m__law_totals (eCons (eVar 0) (eCons (eVar 8) (eNil))))) (eArgs dLst (eNil))) (sSeq (sFor (eItA dRange1 (eCons (eBin dAdd (eArgs dLen (eCons (eVar 0) (eNil))) (eC (.int 1))) (eNil))) (gN 5) l__law_best_1) (sRet (eVar 4)))
def m__law_best : List D → R D := runF 3 10 b__law_best
def l__law_least_1 : DN.Env → R Fl := sApp 3 (eArgs dMinL (eCons (eLc [8, 6] (eItems (eVar 2)) (gT 2 (gCons' (gN 8) (gCons' (gN 6) (gNil')))) (eYes) (eBin dIx (eVar 8) (eVar 4))) (eNil)))
abbrev b__law_least : DN.Env → R Fl := sSeq (sSet 2 (eLc [6, 7] (eItems (eVar 1)) (gT 2 (gCons' (gN 6) (gCons' (gN 7) (gNil')))) (eYes) (eArgs dTup (eCons (eArgs m__law_totals (eCons (eVar 0) (eCons (eVar 7) (eNil)))) (eCons (eVar 6) (eNil)))))) (sSeq (sIf (eT dB (eBin dEq (eVar 2) (eArgs dLst (eNil)))) (sRet (eC .non)) (sNx)) (sSeq (sSet 3 (eArgs dLst (eNil))) (sSeq (sFor (eItA dRange1 (eCons (eBin dAdd (eArgs dLen (eCons (eVar 0) (eNil))) (eC (.int 1))) (eNil))) (gN 4) l__law_least_1) (sSeq (sSet 5 (eLc [8, 6] (eItems (eVar 2)) (gT 2 (gCons' (gN 8) (gCons' (gN 6) (gNil')))) (eT dB (eBin dEq (eVar 8) (eVar 3))) (eVar 6))) (sRet (eIf (eT dB (eBin dNe (eVar 5) (eArgs dLst (eNil)))) (eBin dIx (eVar 5) (eC (.int 0))) (eC .non)))))))
def m__law_least : List D → R D := runF 2 9 b__law_least
abbrev b__law_pairs : DN.Env → R Fl := sRetX (xLc [2] (xOf (eItA dRange1 (eCons (eC (.int 12)) (eNil)))) (gN 2) (eYes) (xArgs dTup (xCons (xBag 0 m__law_of (xCons (xOf (eVar 1)) (xNil))) (xCons (xBag 0 m__law_of (xCons (xOf (eVar 1)) (xNil))) (xNil)))))
def m__law_pairs : D → List D → R (D × D) := runB 2 3 b__law_pairs
def l__law_active_1 : DN.Env → R Fl := sApp 4 (eArgs dTup (eCons (eVar 7) (eCons (eArgs dLst (eCons (eArgs dTup (eCons (eVar 5) (eCons (eBin dSub (eBin dIx (eVar 3) (eVar 7)) (eVar 6)) (eNil)))) (eNil))) (eNil))))
def l__law_active_2 : DN.Env → R Fl := sApp 4 (eArgs dTup (eCons (eVar 7) (eCons (eArgs dLst (eCons (eArgs dTup (eCons (eVar 5) (eCons (eBin dSub (eBin dSub (eBin dIx (eVar 3) (eVar 7)) (eVar 6)) (eC (.int 1))) (eNil)))) (eNil))) (eNil))))
abbrev b__law_active : DN.Env → R Fl := sSeq (sPar2 3 4 (eArgs m__law_created (eCons (eVar 0) (eNil))) (eArgs dLst (eNil))) (sSeq (sAsg (eArgs m__law_level (eCons (eVar 0) (eCons (eVar 1) (eNil)))) (gT 2 (gCons' (gN 5) (gCons' (gN 6) (gNil'))))) (sSeq (sFor (eItA dRange2 (eCons (eBin dAdd (eVar 5) (eC (.int 1))) (eCons (eBin dAdd (eVar 2) (eC (.int 1))) (eNil)))) (gN 7) l__law_active_1) (sSeq (sFor (eItems (eArgs m__law_tails (eCons (eVar 0) (eCons (eVar 5) (eCons (eVar 2) (eNil)))))) (gN 7) l__law_active_2) (sRet (eVar 4)))))
def m__law_active : List D → R D := runF 3 8 b__law_active
abbrev b__law_returned : DN.Env → R Fl := sSeq (sSet 3 (eArgs m__law_created (eCons (eVar 0) (eNil)))) (sSeq (sAsg (eArgs m__law_level (eCons (eVar 0) (eCons (eVar 1) (eNil)))) (gT 2 (gCons' (gN 4) (gCons' (gN 5) (gNil'))))) (sSeq (sSet 6 (eLc [7] (eItA dRange2 (eCons (eBin dAdd (eVar 4) (eC (.int 1))) (eCons (eBin dAdd (eVar 2) (eC (.int 1))) (eNil)))) (gN 7) (eYes) (eArgs dTup (eCons (eVar 7) (eCons (eBin dSub (eBin dSub (eVar 5) (eC (.int 1))) (eBin dIx (eVar 3) (eVar 7))) (eNil)))))) (sRet (eArgs dLst (eCons (eArgs dTup (eCons (eVar 4) (eCons (eBin dAdd (eVar 6) (eLc [7] (eItems (eArgs m__law_tails (eCons (eVar 0) (eCons (eVar 4) (eCons (eVar 2) (eNil)))))) (gN 7) (eYes) (eArgs dTup (eCons (eVar 7) (eCons (eBin dSub (eVar 5) (eBin dIx (eVar 3) (eVar 7))) (eNil)))))) (eNil)))) (eNil))))))
def m__law_returned : List D → R D := runF 3 8 b__law_returned
def l__law_bounds_right_1 : DN.Env → R Fl := sSeq (sIf (eT dB (eBin dEq (eBin dIx (eVar 6) (eC (.int 0))) (eC (.str "fact")))) (sRet (eC (.bl true))) (sNx)) (sIf (eT dB (eBin dNe (eLc [9] (eItems (eVar 3)) (gN 9) (eT dB (eBin dGt (eBin dIx (eVar 9) (eVar 4)) (eVar 5))) (eC (.int 1))) (eArgs dLst (eNil)))) (sRet (eC (.bl false))) (sNx))
abbrev b__law_bounds_right : DN.Env → R Fl := sSeq (sSet 3 (eLc [7, 8] (eItems (eVar 1)) (gT 2 (gCons' (gN 7) (gCons' (gN 8) (gNil')))) (eYes) (eArgs m__law_totals (eCons (eVar 0) (eCons (eVar 8) (eNil)))))) (sSeq (sFor (eItems (eVar 2)) (gT 3 (gCons' (gN 4) (gCons' (gN 5) (gCons' (gN 6) (gNil'))))) l__law_bounds_right_1) (sRet (eC (.bl true))))
def m__law_bounds_right : List D → R D := runF 3 10 b__law_bounds_right
abbrev b__law_clash : DN.Env → R Fl := sSeq (sSet 4 (eArgs dLen (eCons (eVar 1) (eNil)))) (sSeq (sSet 5 (eLc [6] (eItems (eVar 3)) (gN 6) (eT dB (eBin dIn (eBin dIx (eVar 6) (eC (.int 0))) (eArgs dTup (eCons (eC (.str "active")) (eCons (eC (.str "returned")) (eCons (eC (.str "innermost")) (eNil))))))) (eVar 6))) (sSeq (sIfX (xAnd (xOf (eT dB (eBin dNe (eVar 5) (eArgs dLst (eNil))))) (xT dB (xBin dEq (xBag 0 m__law_take (xCons (xOf (eC (.int 2))) (xNil))) (xOf (eC (.int 0)))))) (sSeq (sSetX 6 (xBag 0 m__law_of (xCons (xOf (eVar 5)) (xNil)))) (sSeq (sSet 7 (eIf (eT dB (eBin dEq (eBin dIx (eVar 6) (eC (.int 0))) (eC (.str "returned")))) (eC (.str "active")) (eC (.str "returned")))) (sRet (eBin dAdd (eVar 3) (eArgs dTup (eCons (eArgs dTup (eCons (eVar 7) (eCons (eBin dIx (eVar 6) (eC (.int 1))) (eCons (eBin dIx (eVar 6) (eC (.int 2))) (eNil))))) (eNil))))))) (sNx)) (sSeq (sPar2X 8 9 (xBag 0 m__law_take (xCons (xOf (eBin dAdd (eVar 4) (eC (.int 1)))) (xNil))) (xOf (eC (.int 10)))) (sSeq (sIf (eT dB (eBin dLt (eBin dIx (eArgs m__law_created (eCons (eVar 1) (eNil))) (eVar 8)) (eC (.int 10)))) (sRet (eBin dAdd (eVar 3) (eArgs dTup (eCons (eArgs dTup (eCons (eC (.str "depth")) (eCons (eVar 8) (eCons (eBin dAdd (eBin dIx (eArgs m__law_created (eCons (eVar 1) (eNil))) (eVar 8)) (eC (.int 1))) (eCons (eVar 9) (eNil)))))) (eNil))))) (sNx)) (sRet (eBin dAdd (eVar 3) (eArgs dTup (eCons (eArgs dTup (eCons (eC (.str "depth")) (eCons (eVar 8) (eCons (eC (.int 0)) (eCons (eC (.int 0)) (eNil)))))) (eCons (eArgs dTup (eCons (eC (.str "depth")) (eCons (eVar 8) (eCons (eC (.int 1)) (eCons (eC (.int 10)) (eNil)))))) (eNil))))))))))
def m__law_clash : D → List D → R (D × D) := runB 4 10 b__law_clash
abbrev b__law_recorded : DN.Env → R Fl := sSeq (sSet 3 (eBin dIx (eVar 1) (eVar 2))) (sSeq (sSet 4 (eBin dIx (eBin dIx (eArgs m__law_rows (eCons (eSl (eVar 0) (oNone) (oSome (eVar 2))) (eCons (eBin dAdd (eSl (eVar 1) (oNone) (oSome (eVar 2))) (eArgs dTup (eCons (eBin dSub (eVar 3) (eC (.int 1))) (eNil)))) (eNil)))) (eVar 2)) (eUn dNeg (eC (.int 1))))) (sSeq (sSet 5 (eBin dAdd (eBin dAdd (eSl (eVar 0) (oNone) (oSome (eVar 2))) (eArgs dTup (eCons (eArgs dTup (eCons (eC (.str "exit")) (eCons (eVar 4) (eNil)))) (eNil)))) (eSl (eVar 0) (oSome (eVar 2)) (oNone)))) (sRet (eArgs dTup (eCons (eVar 5) (eCons (eBin dAdd (eBin dAdd (eSl (eVar 1) (oNone) (oSome (eVar 2))) (eArgs dTup (eCons (eBin dSub (eVar 3) (eC (.int 1))) (eCons (eC (.int 0)) (eNil))))) (eSl (eVar 1) (oSome (eBin dAdd (eVar 2) (eC (.int 1)))) (oNone))) (eCons (eVar 4) (eNil))))))))
def m__law_recorded : List D → R D := runF 3 6 b__law_recorded
abbrev b_is_trace : DN.Env → R Fl := sRet (eAndV (eUn (dIsi "tuple") (eVar 0)) (eAndV (eArgs m_are_events (eCons (eVar 0) (eNil))) (eArgs m_fits (eCons (eVar 0) (eNil)))))
def m_is_trace : List D → R D := runF 1 1 b_is_trace
abbrev b_require_completion : DN.Env → R Fl := sIf (eNot (eT dTru (eArgs m_is_valid (eCons (eVar 0) (eCons (eVar 1) (eNil)))))) (sRaise "InvalidCompletion") (sNx)
def m_require_completion : List D → R D := runF 2 2 b_require_completion
abbrev b_good_fact : DN.Env → R Fl := sSeq (sIf (eOr (eNot (eT dTru (eUn (dIsi "tuple") (eVar 1)))) (eOr (eNot (eT dTru (eVar 1))) (eNot (eT dTru (eUn (dIsi "str") (eBin dIx (eVar 1) (eC (.int 0)))))))) (sRet (eC (.bl false))) (sNx)) (sSeq (sIf (eT dB (eBin dIn (eBin dIx (eVar 1) (eC (.int 0))) (eArgs dTup (eCons (eC (.str "active")) (eCons (eC (.str "returned")) (eCons (eC (.str "innermost")) (eNil))))))) (sRet (eArgs m_is_frame_fact (eCons (eVar 0) (eCons (eVar 1) (eNil))))) (sNx)) (sSeq (sIf (eT dB (eBin dEq (eBin dIx (eVar 1) (eC (.int 0))) (eC (.str "stack")))) (sRet (eArgs m_is_stack_fact (eCons (eVar 0) (eCons (eVar 1) (eNil))))) (sNx)) (sSeq (sIf (eT dB (eBin dEq (eBin dIx (eVar 1) (eC (.int 0))) (eC (.str "depth")))) (sRet (eAndV (eBin dEq (eArgs dLen (eCons (eVar 1) (eNil))) (eC (.int 4))) (eAndV (eArgs m_is_moment (eCons (eVar 0) (eCons (eBin dIx (eVar 1) (eC (.int 1))) (eNil)))) (eArgs m_is_range (eCons (eBin dIx (eVar 1) (eC (.int 2))) (eCons (eBin dIx (eVar 1) (eC (.int 3))) (eNil))))))) (sNx)) (sSeq (sIf (eT dB (eBin dEq (eBin dIx (eVar 1) (eC (.int 0))) (eC (.str "returns")))) (sSeq (sIf (eOr (eT dB (eBin dNe (eArgs dLen (eCons (eVar 1) (eNil))) (eC (.int 5)))) (eOr (eNot (eT dTru (eArgs m_is_moment (eCons (eVar 0) (eCons (eBin dIx (eVar 1) (eC (.int 1))) (eNil)))))) (eNot (eT dTru (eArgs m_is_moment (eCons (eVar 0) (eCons (eBin dIx (eVar 1) (eC (.int 2))) (eNil)))))))) (sRet (eC (.bl false))) (sNx)) (sRet (eAndV (eBin dLt (eBin dIx (eVar 1) (eC (.int 1))) (eBin dIx (eVar 1) (eC (.int 2)))) (eArgs m_is_range (eCons (eBin dIx (eVar 1) (eC (.int 3))) (eCons (eBin dIx (eVar 1) (eC (.int 4))) (eNil))))))) (sNx)) (sSeq (sIf (eOr (eT dB (eBin dNe (eBin dIx (eVar 1) (eC (.int 0))) (eC (.str "deeper")))) (eOr (eT dB (eBin dNe (eArgs dLen (eCons (eVar 1) (eNil))) (eC (.int 4)))) (eOr (eNot (eT dTru (eArgs m_is_moment (eCons (eVar 0) (eCons (eBin dIx (eVar 1) (eC (.int 1))) (eNil)))))) (eNot (eT dTru (eArgs m_is_moment (eCons (eVar 0) (eCons (eBin dIx (eVar 1) (eC (.int 2))) (eNil))))))))) (sRet (eC (.bl false))) (sNx)) (sRet (eAndV (eBin dNe (eBin dIx (eVar 1) (eC (.int 1))) (eBin dIx (eVar 1) (eC (.int 2)))) (eArgs m_is_integer (eCons (eBin dIx (eVar 1) (eC (.int 3))) (eCons (eUn dNeg (eC (.int 10))) (eCons (eC (.int 10)) (eNil))))))))))))
def m_good_fact : List D → R D := runF 2 2 b_good_fact
abbrev b_rows_innermost : DN.Env → R Fl := sRet (eBin dAdd (eArgs m_rows_active (eCons (eVar 0) (eCons (eVar 1) (eCons (eVar 2) (eCons (eVar 3) (eNil)))))) (eArgs m_rows_not_deeper (eCons (eVar 0) (eCons (eVar 1) (eCons (eVar 2) (eCons (eVar 3) (eCons (eVar 3) (eNil))))))))
def m_rows_innermost : List D → R D := runF 4 4 b_rows_innermost
def l_rows_of_stack_1 : DN.Env → R Fl := sIf (eT dB (eBin dIn (eVar 5) (eVar 3))) (sExt 4 (eArgs m_rows_active (eCons (eVar 0) (eCons (eVar 1) (eCons (eVar 5) (eCons (eVar 2) (eNil))))))) (sExt 4 (eArgs m_rows_returned (eCons (eVar 0) (eCons (eVar 1) (eCons (eVar 5) (eCons (eVar 2) (eNil)))))))
abbrev b_rows_of_stack : DN.Env → R Fl := sSeq (sSet 4 (eArgs dLst (eNil))) (sSeq (sFor (eItA dRange1 (eCons (eBin dIx (eArgs m_created_before (eCons (eVar 0) (eNil))) (eVar 2)) (eNil))) (gN 5) l_rows_of_stack_1) (sRet (eVar 4)))
def m_rows_of_stack : List D → R D := runF 4 6 b_rows_of_stack
def l__law_run_1 : DN.Env → R Fl := sSeq (sSetX 8 (xArgs dMin2 (xCons (xOf (eArgs dLen (eCons (eVar 5) (eNil)))) (xCons (xBag 0 m__law_of (xCons (xOf (eArgs dLst (eCons (eC (.int 0)) (eCons (eC (.int 0)) (eCons (eC (.int 0)) (eCons (eC (.int 1)) (eCons (eC (.int 1)) (eCons (eC (.int 2)) (eCons (eC (.int 3)) (eNil)))))))))) (xNil))) (xNil))))) (sSeq (sSet 5 (eSl (eVar 5) (oNone) (oSome (eBin dSub (eArgs dLen (eCons (eVar 5) (eNil))) (eVar 8))))) (sSeq (sSetX 9 (xBag 0 m__law_event (xCons (xOf (eVar 5)) (xCons (xOf (eVar 6)) (xCons (xOf (eVar 2)) (xNil)))))) (sSeq (sSet 5 (eArgs m__law_after (eCons (eVar 5) (eCons (eVar 9) (eCons (eVar 6) (eNil)))))) (sSeq (sSet 6 (eBin dAdd (eVar 6) (eArgs dInt (eCons (eBin dIn (eBin dIx (eVar 9) (eC (.int 0))) (eArgs dTup (eCons (eC (.str "enter")) (eCons (eC (.str "tail")) (eNil))))) (eNil))))) (sPar2 3 4 (eBin dAdd (eVar 3) (eArgs dTup (eCons (eVar 9) (eNil)))) (eBin dAdd (eVar 4) (eArgs dTup (eCons (eVar 8) (eNil)))))))))
abbrev b__law_run : DN.Env → R Fl := sSeq (sPar4 3 4 5 6 (eArgs dTup (eNil)) (eArgs dTup (eNil)) (eArgs dTup (eNil)) (eC (.int 0))) (sSeq (sForX (xIt dRange1 (xCons (xBag 0 m__law_take (xCons (xOf (eBin dAdd (eVar 1) (eC (.int 1)))) (xNil))) (xNil))) (gN 7) l__law_run_1) (sRetX (xArgs dTup (xCons (xOf (eVar 3)) (xCons (xBin dAdd (xOf (eVar 4)) (xArgs dTup (xCons (xBag 0 m__law_take (xCons (xOf (eBin dAdd (eArgs dLen (eCons (eVar 5) (eNil))) (eC (.int 1)))) (xNil))) (xNil)))) (xNil))))))
def m__law_run : D → List D → R (D × D) := runB 3 10 b__law_run
def l_rows_not_stack_1 : DN.Env → R Fl := sIf (eT dB (eBin dIn (eVar 4) (eVar 2))) (sApp 3 (eArgs m_rows_returned (eCons (eVar 0) (eCons (eC .non) (eCons (eVar 4) (eCons (eVar 1) (eNil))))))) (sApp 3 (eArgs m_rows_active (eCons (eVar 0) (eCons (eC .non) (eCons (eVar 4) (eCons (eVar 1) (eNil)))))))
abbrev b_rows_not_stack : DN.Env → R Fl := sSeq (sSet 3 (eArgs dLst (eNil))) (sSeq (sFor (eItA dRange1 (eCons (eBin dIx (eArgs m_created_before (eCons (eVar 0) (eNil))) (eVar 1)) (eNil))) (gN 4) l_rows_not_stack_1) (sRet (eVar 3)))
def m_rows_not_stack : List D → R D := runF 3 5 b_rows_not_stack
abbrev b_rows_deeper_than : DN.Env → R Fl := sSeq (sPar2 3 4 (eArgs m_created_before (eCons (eVar 0) (eNil))) (eBin dIx (eArgs m_created_at (eCons (eVar 0) (eNil))) (eVar 1))) (sSeq (sSet 5 (eBin dAdd (eBin dSub (eBin dSub (eBin dIx (eVar 3) (eVar 2)) (eBin dIx (eVar 3) (eVar 4))) (eC (.int 2))) (eArgs dInt (eCons (eArgs m_is_tail (eCons (eVar 0) (eCons (eVar 4) (eNil)))) (eNil))))) (sRet (eBin dAdd (eArgs m_rows_active (eCons (eVar 0) (eCons (eC .non) (eCons (eVar 1) (eCons (eVar 2) (eNil)))))) (eArgs dLst (eCons (eArgs dTup (eCons (eC .non) (eCons (eVar 2) (eCons (eArgs dLst (eCons (eArgs dTup (eCons (eVar 4) (eCons (eVar 5) (eNil)))) (eNil))) (eNil))))) (eNil))))))
def m_rows_deeper_than : List D → R D := runF 3 6 b_rows_deeper_than
abbrev b__law_fact : DN.Env → R Fl := sSeq (sSet 3 (eArgs dLen (eCons (eVar 1) (eNil)))) (sSeq (sPar2X 4 5 (xBag 0 m__law_take (xCons (xOf (eBin dAdd (eVar 3) (eC (.int 1)))) (xNil))) (xBag 0 m__law_take (xCons (xOf (eBin dAdd (eVar 3) (eC (.int 1)))) (xNil)))) (sSeq (sSetX 6 (xBag 0 m__law_take (xCons (xOf (eC (.int 10))) (xNil)))) (sSeq (sIf (eT dB (eBin dLt (eVar 6) (eC (.int 6)))) (sSeq (sSetX 7 (xBag 0 m__law_frame_fact (xCons (xOf (eVar 1)) (xCons (xOf (eBin dIx (eArgs dLst (eCons (eC (.str "active")) (eCons (eC (.str "returned")) (eCons (eC (.str "returned")) (eCons (eC (.str "innermost")) (eCons (eC (.str "active")) (eCons (eC (.str "innermost")) (eNil)))))))) (eVar 6))) (xNil))))) (sSeq (sIfX (xAnd (xOf (eT dB (eBin dIsNot (eVar 7) (eC .non)))) (xAnd (xT dB (xBin dGt (xBag 0 m__law_take (xCons (xOf (eC (.int 4))) (xNil))) (xOf (eC (.int 0))))) (xOf (eNot (eT dTru (eArgs m__law_holds (eCons (eVar 1) (eCons (eVar 2) (eCons (eVar 7) (eNil)))))))))) (sRetX (xArgs dTup (xCons (xBag 0 m__law_of (xCons (xOf (eArgs dLst (eCons (eC (.str "active")) (eCons (eC (.str "returned")) (eNil))))) (xNil))) (xCons (xOf (eBin dIx (eVar 7) (eC (.int 1)))) (xCons (xOf (eBin dIx (eVar 7) (eC (.int 2)))) (xNil)))))) (sNx)) (sIf (eT dB (eBin dIsNot (eVar 7) (eC .non))) (sRet (eVar 7)) (sNx)))) (sNx)) (sSeq (sIf (eT dB (eBin dEq (eVar 6) (eC (.int 6)))) (sRet (eArgs dTup (eCons (eC (.str "stack")) (eCons (eVar 4) (eCons (eBin dIx (eVar 2) (eVar 4)) (eNil)))))) (sNx)) (sSeq (sIf (eOr (eT dB (eBin dLt (eVar 6) (eC (.int 8)))) (eT dB (eBin dEq (eVar 4) (eVar 5)))) (sSeq (sSetX 8 (xArgs dMax2 (xCons (xOf (eC (.int 0))) (xCons (xBin dSub (xOf (eArgs dLen (eCons (eBin dIx (eVar 2) (eVar 4)) (eNil)))) (xBag 0 m__law_take (xCons (xOf (eC (.int 3))) (xNil)))) (xNil))))) (sRetX (xArgs dTup (xCons (xOf (eC (.str "depth"))) (xCons (xOf (eVar 4)) (xCons (xOf (eVar 8)) (xCons (xArgs dMin2 (xCons (xOf (eC (.int 10))) (xCons (xBin dAdd (xOf (eVar 8)) (xBag 0 m__law_take (xCons (xOf (eC (.int 3))) (xNil)))) (xNil)))) (xNil)))))))) (sNx)) (sSeq (sIf (eT dB (eBin dEq (eVar 6) (eC (.int 8)))) (sSeq (sSetX 8 (xBag 0 m__law_take (xCons (xOf (eC (.int 4))) (xNil)))) (sRetX (xArgs dTup (xCons (xOf (eC (.str "returns"))) (xCons (xOf (eArgs dMin2 (eCons (eVar 4) (eCons (eVar 5) (eNil))))) (xCons (xOf (eArgs dMax2 (eCons (eVar 4) (eCons (eVar 5) (eNil))))) (xCons (xOf (eVar 8)) (xCons (xArgs dMin2 (xCons (xOf (eC (.int 10))) (xCons (xBin dAdd (xOf (eVar 8)) (xBag 0 m__law_take (xCons (xOf (eC (.int 4))) (xNil)))) (xNil)))) (xNil))))))))) (sNx)) (sRetX (xArgs dTup (xCons (xOf (eC (.str "deeper"))) (xCons (xOf (eVar 4)) (xCons (xOf (eVar 5)) (xCons (xBin dSub (xOf (eBin dSub (eArgs dLen (eCons (eBin dIx (eVar 2) (eVar 4)) (eNil))) (eArgs dLen (eCons (eBin dIx (eVar 2) (eVar 5)) (eNil))))) (xBag 0 m__law_of (xCons (xOf (eArgs dLst (eCons (eC (.int 0)) (eCons (eC (.int 0)) (eCons (eC (.int 1)) (eCons (eUn dNeg (eC (.int 1))) (eNil))))))) (xNil)))) (xNil)))))))))))))
def m__law_fact : D → List D → R (D × D) := runB 3 9 b__law_fact
abbrev b_smallest_total : DN.Env → R Fl := sSeq (sPar2 4 5 (eC (.int 0)) (eVar 3)) (sSeq (wloop (eT dB (eBin dLt (eVar 4) (eVar 5))) (sSeq (sSet 6 (eBin dFdiv (eBin dAdd (eVar 4) (eVar 5)) (eC (.int 2)))) (sIf (eT dTru (eArgs m_is_feasible (eCons (eVar 0) (eCons (eBin dAdd (eVar 1) (eArgs dLst (eCons (eArgs dTup (eCons (eC .non) (eCons (eVar 2) (eCons (eArgs dLst (eCons (eArgs dTup (eCons (eC .non) (eCons (eVar 6) (eNil)))) (eNil))) (eNil))))) (eNil)))) (eNil))))) (sSet 5 (eVar 6)) (sSet 4 (eBin dAdd (eVar 6) (eC (.int 1)))))) 40) (sRet (eVar 4)))
def m_smallest_total : List D → R D := runF 4 7 b_smallest_total
def l__law_good_1 : DN.Env → R Fl := sIf (eT dB (eBin dEq (eLc [6] (eItems (eVar 2)) (gN 6) (eNot (eT dTru (eArgs m__law_holds (eCons (eVar 0) (eCons (eVar 5) (eCons (eVar 6) (eNil))))))) (eVar 6)) (eArgs dLst (eNil)))) (sApp 3 (eArgs dTup (eCons (eVar 4) (eCons (eVar 5) (eNil))))) (sNx)
abbrev b__law_good : DN.Env → R Fl := sSeq (sSet 3 (eArgs dLst (eNil))) (sSeq (sFor (eItems (eVar 1)) (gT 2 (gCons' (gN 4) (gCons' (gN 5) (gNil')))) l__law_good_1) (sRet (eVar 3)))
def m__law_good : List D → R D := runF 3 7 b__law_good
abbrev b__law_innermost : DN.Env → R Fl := sSeq (sAsg (eArgs m__law_level (eCons (eVar 0) (eCons (eVar 1) (eNil)))) (gT 2 (gCons' (gN 3) (gCons' (gN 4) (gNil'))))) (sRet (eBin dAdd (eArgs m__law_active (eCons (eVar 0) (eCons (eVar 1) (eCons (eVar 2) (eNil))))) (eArgs dLst (eCons (eArgs dTup (eCons (eVar 3) (eCons (eArgs dLst (eCons (eArgs dTup (eCons (eVar 2) (eCons (eBin dSub (eVar 4) (eBin dIx (eArgs m__law_created (eCons (eVar 0) (eNil))) (eVar 2))) (eNil)))) (eNil))) (eNil)))) (eNil)))))
def m__law_innermost : List D → R D := runF 3 5 b__law_innermost
abbrev b__law_status : DN.Env → R Fl := sSeq (sIf (eT dB (eBin dEq (eVar 1) (eArgs dLst (eNil)))) (sRet (eC (.str "inconsistent"))) (sNx)) (sSeq (sSet 3 (eLc [4, 5] (eItems (eVar 1)) (gT 2 (gCons' (gN 4) (gCons' (gN 5) (gNil')))) (eYes) (eArgs m__law_holds (eCons (eVar 0) (eCons (eVar 5) (eCons (eVar 2) (eNil))))))) (sSeq (sIf (eT dB (eBin dNotIn (eC (.bl false)) (eVar 3))) (sRet (eC (.str "entailed"))) (sNx)) (sRet (eIf (eT dB (eBin dIn (eC (.bl true)) (eVar 3))) (eC (.str "open")) (eC (.str "excluded"))))))
def m__law_status : List D → R D := runF 3 6 b__law_status
abbrev b__law_all_hold : DN.Env → R Fl := sRet (eBin dEq (eLc [3] (eItems (eVar 2)) (gN 3) (eNot (eT dTru (eArgs m__law_holds (eCons (eVar 0) (eCons (eVar 1) (eCons (eVar 3) (eNil))))))) (eVar 3)) (eArgs dLst (eNil)))
def m__law_all_hold : List D → R D := runF 3 4 b__law_all_hold
abbrev b_require_trace : DN.Env → R Fl := sIf (eNot (eT dTru (eArgs m_is_trace (eCons (eVar 0) (eNil))))) (sRaise "InvalidTrace") (sNx)
def m_require_trace : List D → R D := runF 1 1 b_require_trace
abbrev b_require_facts : DN.Env → R Fl := sIf (eOr (eNot (eT dTru (eUn (dIsi "tuple") (eVar 1)))) (eOr (eT dB (eBin dGt (eArgs dLen (eCons (eVar 1) (eNil))) (eC (.int 8)))) (eNot (eT dTru (eArgs dAll (eCons (eLc [2] (eItems (eVar 1)) (gN 2) (eYes) (eArgs m_good_fact (eCons (eVar 0) (eCons (eVar 2) (eNil))))) (eNil))))))) (sRaise "InvalidFacts") (sNx)
def m_require_facts : List D → R D := runF 2 3 b_require_facts
abbrev b_require_fact : DN.Env → R Fl := sIf (eNot (eT dTru (eArgs m_good_fact (eCons (eVar 0) (eCons (eVar 1) (eNil)))))) (sRaise "InvalidFact") (sNx)
def m_require_fact : List D → R D := runF 2 2 b_require_fact
abbrev b_rows_of_event : DN.Env → R Fl := sSeq (sPar3 2 3 4 (eArgs dTup (eCons (eC (.str "event")) (eCons (eVar 1) (eNil)))) (eBin dIx (eVar 0) (eVar 1)) (eArgs m_created_before (eCons (eVar 0) (eNil)))) (sSeq (sSet 5 (eArgs dLst (eCons (eArgs dTup (eCons (eVar 2) (eCons (eVar 1) (eCons (eArgs dLst (eCons (eArgs dTup (eCons (eBin dAdd (eVar 1) (eC (.int 1))) (eCons (eBin dSub (eC (.int 0)) (eArgs dInt (eCons (eBin dIn (eBin dIx (eVar 3) (eC (.int 0))) (eArgs dTup (eCons (eC (.str "tail")) (eCons (eC (.str "exit")) (eNil))))) (eNil)))) (eNil)))) (eNil))) (eNil))))) (eNil)))) (sSeq (sIf (eT dB (eBin dEq (eBin dIx (eVar 3) (eC (.int 0))) (eC (.str "tail")))) (sApp 5 (eArgs dTup (eCons (eVar 2) (eCons (eVar 1) (eCons (eArgs dLst (eCons (eArgs dTup (eCons (eC .non) (eCons (eBin dSub (eBin dIx (eVar 4) (eVar 1)) (eC (.int 1))) (eNil)))) (eNil))) (eNil)))))) (sNx)) (sSeq (sIf (eT dB (eBin dEq (eBin dIx (eVar 3) (eC (.int 0))) (eC (.str "exit")))) (sExt 5 (eArgs m_rows_innermost (eCons (eVar 0) (eCons (eVar 2) (eCons (eBin dIx (eVar 3) (eC (.int 1))) (eCons (eVar 1) (eNil))))))) (sNx)) (sSeq (sIf (eT dB (eBin dEq (eBin dIx (eVar 3) (eC (.int 0))) (eC (.str "catch")))) (sSeq (sExt 5 (eArgs m_rows_active (eCons (eVar 0) (eCons (eVar 2) (eCons (eBin dIx (eVar 3) (eC (.int 1))) (eCons (eVar 1) (eNil))))))) (sExt 5 (eArgs m_rows_not_deeper (eCons (eVar 0) (eCons (eVar 2) (eCons (eBin dIx (eVar 3) (eC (.int 1))) (eCons (eVar 1) (eCons (eBin dAdd (eVar 1) (eC (.int 1))) (eNil))))))))) (sNx)) (sRet (eVar 5))))))
def m_rows_of_event : List D → R D := runF 2 6 b_rows_of_event
abbrev b_rows_of_fact : DN.Env → R Fl := sSeq (sIf (eT dB (eBin dEq (eBin dIx (eVar 2) (eC (.int 0))) (eC (.str "active")))) (sRet (eArgs m_rows_active (eCons (eVar 0) (eCons (eVar 1) (eCons (eBin dIx (eVar 2) (eC (.int 1))) (eCons (eBin dIx (eVar 2) (eC (.int 2))) (eNil))))))) (sNx)) (sSeq (sIf (eT dB (eBin dEq (eBin dIx (eVar 2) (eC (.int 0))) (eC (.str "returned")))) (sRet (eArgs m_rows_returned (eCons (eVar 0) (eCons (eVar 1) (eCons (eBin dIx (eVar 2) (eC (.int 1))) (eCons (eBin dIx (eVar 2) (eC (.int 2))) (eNil))))))) (sNx)) (sSeq (sIf (eT dB (eBin dEq (eBin dIx (eVar 2) (eC (.int 0))) (eC (.str "innermost")))) (sRet (eArgs m_rows_innermost (eCons (eVar 0) (eCons (eVar 1) (eCons (eBin dIx (eVar 2) (eC (.int 1))) (eCons (eBin dIx (eVar 2) (eC (.int 2))) (eNil))))))) (sNx)) (sSeq (sIf (eT dB (eBin dEq (eBin dIx (eVar 2) (eC (.int 0))) (eC (.str "stack")))) (sRet (eArgs m_rows_of_stack (eCons (eVar 0) (eCons (eVar 1) (eCons (eBin dIx (eVar 2) (eC (.int 1))) (eCons (eBin dIx (eVar 2) (eC (.int 2))) (eNil))))))) (sNx)) (sSeq (sPar3 3 4 5 (eArgs m_created_before (eCons (eVar 0) (eNil))) (eBin dIx (eVar 2) (eC (.int 1))) (eBin dIx (eVar 2) (eC (.int 2)))) (sSeq (sIf (eT dB (eBin dEq (eBin dIx (eVar 2) (eC (.int 0))) (eC (.str "depth")))) (sSeq (sSet 6 (eBin dIx (eVar 3) (eVar 4))) (sRet (eArgs dLst (eCons (eArgs dTup (eCons (eVar 1) (eCons (eVar 4) (eCons (eArgs dLst (eCons (eArgs dTup (eCons (eC .non) (eCons (eBin dSub (eVar 6) (eBin dIx (eVar 2) (eC (.int 2)))) (eNil)))) (eNil))) (eNil))))) (eCons (eArgs dTup (eCons (eVar 1) (eCons (eC (.int 0)) (eCons (eArgs dLst (eCons (eArgs dTup (eCons (eVar 4) (eCons (eBin dSub (eBin dIx (eVar 2) (eC (.int 3))) (eVar 6)) (eNil)))) (eNil))) (eNil))))) (eNil)))))) (sNx)) (sSeq (sIf (eT dB (eBin dEq (eBin dIx (eVar 2) (eC (.int 0))) (eC (.str "deeper")))) (sRet (eArgs dLst (eCons (eArgs dTup (eCons (eVar 1) (eCons (eVar 4) (eCons (eArgs dLst (eCons (eArgs dTup (eCons (eVar 5) (eCons (eBin dSub (eBin dSub (eBin dIx (eVar 3) (eVar 4)) (eBin dIx (eVar 3) (eVar 5))) (eBin dIx (eVar 2) (eC (.int 3)))) (eNil)))) (eNil))) (eNil))))) (eNil)))) (sNx)) (sRet (eArgs dLst (eCons (eArgs dTup (eCons (eVar 1) (eCons (eVar 5) (eCons (eArgs dLst (eCons (eArgs dTup (eCons (eVar 4) (eCons (eBin dIx (eVar 2) (eC (.int 4))) (eNil)))) (eNil))) (eNil))))) (eCons (eArgs dTup (eCons (eVar 1) (eCons (eVar 4) (eCons (eArgs dLst (eCons (eArgs dTup (eCons (eVar 5) (eCons (eBin dSub (eC (.int 0)) (eBin dIx (eVar 2) (eC (.int 3)))) (eNil)))) (eNil))) (eNil))))) (eNil)))))))))))
def m_rows_of_fact : List D → R D := runF 3 7 b_rows_of_fact
abbrev b__law_some_facts : DN.Env → R Fl := sSeq (sSetX 4 (xLc [5] (xIt dRange1 (xCons (xBag 0 m__law_take (xCons (xOf (eBin dAdd (eVar 3) (eC (.int 1)))) (xNil))) (xNil))) (gN 5) (eYes) (xArgs m__law_clipped (xCons (xBag 0 m__law_fact (xCons (xOf (eVar 1)) (xCons (xOf (eVar 2)) (xNil)))) (xNil))))) (sRet (eArgs dTupleOf (eCons (eVar 4) (eNil))))
def m__law_some_facts : D → List D → R (D × D) := runB 4 6 b__law_some_facts
abbrev b__law_of_event : DN.Env → R Fl := sSeq (sPar2 2 3 (eBin dIx (eVar 0) (eVar 1)) (eArgs m__law_created (eCons (eVar 0) (eNil)))) (sSeq (sSet 4 (eArgs dLst (eCons (eArgs dTup (eCons (eVar 1) (eCons (eArgs dLst (eCons (eArgs dTup (eCons (eBin dAdd (eVar 1) (eC (.int 1))) (eCons (eIf (eT dB (eBin dIn (eBin dIx (eVar 2) (eC (.int 0))) (eArgs dTup (eCons (eC (.str "tail")) (eCons (eC (.str "exit")) (eNil)))))) (eUn dNeg (eC (.int 1))) (eC (.int 0))) (eNil)))) (eNil))) (eNil)))) (eNil)))) (sSeq (sIf (eT dB (eBin dEq (eBin dIx (eVar 2) (eC (.int 0))) (eC (.str "tail")))) (sApp 4 (eArgs dTup (eCons (eVar 1) (eCons (eArgs dLst (eCons (eArgs dTup (eCons (eC .non) (eCons (eBin dSub (eBin dIx (eVar 3) (eVar 1)) (eC (.int 1))) (eNil)))) (eNil))) (eNil))))) (sNx)) (sSeq (sIf (eT dB (eBin dEq (eBin dIx (eVar 2) (eC (.int 0))) (eC (.str "exit")))) (sSet 4 (eBin dAdd (eVar 4) (eArgs m__law_innermost (eCons (eVar 0) (eCons (eBin dIx (eVar 2) (eC (.int 1))) (eCons (eVar 1) (eNil))))))) (sNx)) (sSeq (sIf (eT dB (eBin dEq (eBin dIx (eVar 2) (eC (.int 0))) (eC (.str "catch")))) (sSeq (sAsg (eArgs m__law_level (eCons (eVar 0) (eCons (eBin dIx (eVar 2) (eC (.int 1))) (eNil)))) (gT 2 (gCons' (gN 5) (gCons' (gN 6) (gNil'))))) (sSet 4 (eBin dAdd (eBin dAdd (eVar 4) (eArgs m__law_active (eCons (eVar 0) (eCons (eBin dIx (eVar 2) (eC (.int 1))) (eCons (eVar 1) (eNil)))))) (eArgs dLst (eCons (eArgs dTup (eCons (eVar 5) (eCons (eArgs dLst (eCons (eArgs dTup (eCons (eBin dAdd (eVar 1) (eC (.int 1))) (eCons (eBin dSub (eVar 6) (eBin dIx (eVar 3) (eVar 1))) (eNil)))) (eNil))) (eNil)))) (eNil)))))) (sNx)) (sRet (eVar 4))))))
def m__law_of_event : List D → R D := runF 2 7 b__law_of_event
def l__law_of_fact_1 : DN.Env → R Fl := sSeq (sSet 5 (eIf (eT dB (eBin dIn (eVar 4) (eBin dIx (eVar 1) (eC (.int 2))))) (eArgs m__law_active (eCons (eVar 0) (eCons (eVar 4) (eCons (eBin dIx (eVar 1) (eC (.int 1))) (eNil))))) (eArgs m__law_returned (eCons (eVar 0) (eCons (eVar 4) (eCons (eBin dIx (eVar 1) (eC (.int 1))) (eNil))))))) (sSet 3 (eBin dAdd (eVar 3) (eVar 5)))
abbrev b__law_of_fact : DN.Env → R Fl := sSeq (sSet 2 (eArgs m__law_created (eCons (eVar 0) (eNil)))) (sSeq (sIf (eT dB (eBin dEq (eBin dIx (eVar 1) (eC (.int 0))) (eC (.str "depth")))) (sRet (eArgs dLst (eCons (eArgs dTup (eCons (eBin dIx (eVar 1) (eC (.int 1))) (eCons (eArgs dLst (eCons (eArgs dTup (eCons (eC .non) (eCons (eBin dSub (eBin dIx (eVar 2) (eBin dIx (eVar 1) (eC (.int 1)))) (eBin dIx (eVar 1) (eC (.int 2)))) (eNil)))) (eNil))) (eNil)))) (eCons (eArgs dTup (eCons (eC (.int 0)) (eCons (eArgs dLst (eCons (eArgs dTup (eCons (eBin dIx (eVar 1) (eC (.int 1))) (eCons (eBin dSub (eBin dIx (eVar 1) (eC (.int 3))) (eBin dIx (eVar 2) (eBin dIx (eVar 1) (eC (.int 1))))) (eNil)))) (eNil))) (eNil)))) (eNil))))) (sNx)) (sSeq (sIf (eT dB (eBin dEq (eBin dIx (eVar 1) (eC (.int 0))) (eC (.str "returns")))) (sRet (eArgs dLst (eCons (eArgs dTup (eCons (eBin dIx (eVar 1) (eC (.int 2))) (eCons (eArgs dLst (eCons (eArgs dTup (eCons (eBin dIx (eVar 1) (eC (.int 1))) (eCons (eBin dIx (eVar 1) (eC (.int 4))) (eNil)))) (eNil))) (eNil)))) (eCons (eArgs dTup (eCons (eBin dIx (eVar 1) (eC (.int 1))) (eCons (eArgs dLst (eCons (eArgs dTup (eCons (eBin dIx (eVar 1) (eC (.int 2))) (eCons (eUn dNeg (eBin dIx (eVar 1) (eC (.int 3)))) (eNil)))) (eNil))) (eNil)))) (eNil))))) (sNx)) (sSeq (sIf (eT dB (eBin dEq (eBin dIx (eVar 1) (eC (.int 0))) (eC (.str "deeper")))) (sRet (eArgs dLst (eCons (eArgs dTup (eCons (eBin dIx (eVar 1) (eC (.int 1))) (eCons (eArgs dLst (eCons (eArgs dTup (eCons (eBin dIx (eVar 1) (eC (.int 2))) (eCons (eBin dSub (eBin dSub (eBin dIx (eVar 2) (eBin dIx (eVar 1) (eC (.int 1)))) (eBin dIx (eVar 2) (eBin dIx (eVar 1) (eC (.int 2))))) (eBin dIx (eVar 1) (eC (.int 3)))) (eNil)))) (eNil))) (eNil)))) (eNil)))) (sNx)) (sSeq (sIf (eT dB (eBin dEq (eBin dIx (eVar 1) (eC (.int 0))) (eC (.str "stack")))) (sSeq (sSet 3 (eArgs dLst (eNil))) (sSeq (sFor (eItA dRange1 (eCons (eBin dIx (eVar 2) (eBin dIx (eVar 1) (eC (.int 1)))) (eNil))) (gN 4) l__law_of_fact_1) (sRet (eVar 3)))) (sNx)) (sSeq (sIf (eT dB (eBin dEq (eBin dIx (eVar 1) (eC (.int 0))) (eC (.str "active")))) (sRet (eArgs m__law_active (eCons (eVar 0) (eCons (eBin dIx (eVar 1) (eC (.int 1))) (eCons (eBin dIx (eVar 1) (eC (.int 2))) (eNil)))))) (sNx)) (sRet (eIf (eT dB (eBin dEq (eBin dIx (eVar 1) (eC (.int 0))) (eC (.str "returned")))) (eArgs m__law_returned (eCons (eVar 0) (eCons (eBin dIx (eVar 1) (eC (.int 1))) (eCons (eBin dIx (eVar 1) (eC (.int 2))) (eNil))))) (eArgs m__law_innermost (eCons (eVar 0) (eCons (eBin dIx (eVar 1) (eC (.int 1))) (eCons (eBin dIx (eVar 1) (eC (.int 2))) (eNil))))))))))))
def m__law_of_fact : List D → R D := runF 2 6 b__law_of_fact
def l__law_queries_1 : DN.Env → R Fl := sAppX 3 (xArgs m__law_clipped (xCons (xBag 0 m__law_fact (xCons (xOf (eVar 1)) (xCons (xOf (eVar 2)) (xNil)))) (xNil)))
abbrev b__law_queries : DN.Env → R Fl := sSeq (sSet 3 (eArgs dLst (eCons (eArgs dTup (eCons (eC (.str "depth")) (eCons (eArgs dLen (eCons (eVar 1) (eNil))) (eCons (eC (.int 0)) (eCons (eC (.int 0)) (eNil)))))) (eCons (eArgs dTup (eCons (eC (.str "stack")) (eCons (eArgs dLen (eCons (eVar 1) (eNil))) (eCons (eArgs dTup (eNil)) (eNil))))) (eNil))))) (sSeq (sFor (eItA dRange1 (eCons (eC (.int 10)) (eNil))) (gN 4) l__law_queries_1) (sRet (eVar 3)))
def m__law_queries : D → List D → R (D × D) := runB 3 5 b__law_queries
def l__law_true_facts_1 : DN.Env → R Fl := sSeq (sSetX 6 (xArgs m__law_clipped (xCons (xBag 0 m__law_fact (xCons (xOf (eVar 1)) (xCons (xOf (eVar 2)) (xNil)))) (xNil)))) (sIf (eBorT (eAnd (eT dB (eBin dLt (eArgs dLen (eCons (eVar 4) (eNil))) (eVar 3))) (eT dTru (eArgs m__law_holds (eCons (eVar 1) (eCons (eVar 2) (eCons (eVar 6) (eNil)))))))) (sApp 4 (eVar 6)) (sNx))
abbrev b__law_true_facts : DN.Env → R Fl := sSeq (sSet 4 (eArgs dLst (eNil))) (sSeq (sFor (eItA dRange1 (eCons (eBin dMul (eC (.int 3)) (eVar 3)) (eNil))) (gN 5) l__law_true_facts_1) (sRet (eArgs dTupleOf (eCons (eVar 4) (eNil)))))
def m__law_true_facts : D → List D → R (D × D) := runB 4 7 b__law_true_facts
abbrev b__law_possible : DN.Env → R Fl := sRet (eBin dNe (eArgs m__law_good (eCons (eVar 0) (eCons (eVar 1) (eCons (eLc [4] (eItems (eVar 3)) (gN 4) (eYes) (eBin dIx (eVar 2) (eVar 4))) (eNil))))) (eArgs dLst (eNil)))
def m__law_possible : List D → R D := runF 4 5 b__law_possible
abbrev b__law_action : DN.Env → R Fl := sSeq (sSetX 3 (xBag 0 m__law_take (xCons (xOf (eC (.int 14))) (xNil)))) (sSeq (sSet 4 (eBin dIx (eArgs m__law_created (eCons (eVar 1) (eNil))) (eUn dNeg (eC (.int 1))))) (sSeq (sIf (eT dB (eBin dLt (eVar 3) (eC (.int 6)))) (sRetX (xArgs dTup (xCons (xOf (eC (.str "append"))) (xCons (xBag 0 m__law_event (xCons (xOf (eBin dIx (eVar 2) (eUn dNeg (eC (.int 1))))) (xCons (xOf (eVar 4)) (xCons (xBag 0 m__law_of (xCons (xOf (eArgs dLst (eCons (eC (.int 10)) (eCons (eC (.int 10)) (eCons (eC (.int 12)) (eNil)))))) (xNil))) (xNil))))) (xNil))))) (sNx)) (sSeq (sIf (eT dB (eBin dLt (eVar 3) (eC (.int 8)))) (sSeq (sSet 5 (eArgs dLst (eCons (eArgs dTup (eCons (eC (.str "exit")) (eCons (eC (.int 0)) (eNil)))) (eCons (eArgs dTup (eCons (eC (.str "exit")) (eCons (eVar 4) (eNil)))) (eCons (eArgs dTup (eCons (eC (.str "catch")) (eCons (eC (.int 1)) (eNil)))) (eCons (eArgs dTup (eCons (eC (.str "tail")) (eCons (eC (.str "f")) (eNil)))) (eCons (eArgs dTup (eCons (eC (.str "enter")) (eCons (eC (.str "F")) (eNil)))) (eNil)))))))) (sSeq (sSet 5 (eBin dAdd (eVar 5) (eArgs dLst (eCons (eArgs dLst (eCons (eC (.str "mark")) (eNil))) (eCons (eC .non) (eCons (eArgs dTup (eCons (eC (.str "exit")) (eCons (eC (.bl true)) (eNil)))) (eCons (eArgs dTup (eCons (eC (.str "mark")) (eCons (eC (.int 0)) (eNil)))) (eNil)))))))) (sRetX (xArgs dTup (xCons (xOf (eC (.str "append"))) (xCons (xBag 0 m__law_of (xCons (xOf (eVar 5)) (xNil))) (xNil))))))) (sNx)) (sSeq (sIf (eT dB (eBin dLt (eVar 3) (eC (.int 12)))) (sSeq (sSetX 6 (xArgs m__law_clipped (xCons (xBag 0 m__law_fact (xCons (xOf (eVar 1)) (xCons (xOf (eVar 2)) (xNil)))) (xNil)))) (sSeq (sSetX 6 (xBag 0 m__law_of (xCons (xOf (eArgs dLst (eCons (eVar 6) (eCons (eVar 6) (eCons (eVar 6) (eCons (eC .non) (eCons (eSl (eVar 6) (oNone) (oSome (eUn dNeg (eC (.int 1))))) (eCons (eArgs dListOf (eCons (eVar 6) (eNil))) (eCons (eArgs dTup (eCons (eC (.str "active")) (eCons (eC (.int 0)) (eCons (eC (.int 0)) (eNil))))) (eNil)))))))))) (xNil)))) (sRetX (xArgs dTup (xCons (xBag 0 m__law_of (xCons (xOf (eArgs dLst (eCons (eC (.str "observe")) (eCons (eC (.str "observe")) (eCons (eC (.str "status")) (eNil)))))) (xNil))) (xCons (xOf (eVar 6)) (xNil))))))) (sNx)) (sRet (eArgs dTup (eCons (eC (.str "undo")) (eCons (eC .non) (eNil)))))))))
def m__law_action : D → List D → R (D × D) := runB 3 7 b__law_action
abbrev b_frames : DN.Env → R Fl := sSeq (sExpr (eArgs m_require_trace (eCons (eVar 0) (eNil)))) (sRet (eLc [1] (eItems (eArgs m_created_at (eCons (eVar 0) (eNil)))) (gN 1) (eYes) (eArgs dTup (eCons (eBin dIx (eBin dIx (eVar 0) (eVar 1)) (eC (.int 1))) (eCons (eVar 1) (eNil))))))
def m_frames : List D → R D := runF 1 2 b_frames
abbrev b_is_completion : DN.Env → R Fl := sSeq (sExpr (eArgs m_require_trace (eCons (eVar 0) (eNil)))) (sRet (eArgs m_is_valid (eCons (eVar 0) (eCons (eVar 1) (eNil)))))
def m_is_completion : List D → R D := runF 2 2 b_is_completion
abbrev b_stacks : DN.Env → R Fl := sSeq (sExpr (eArgs m_require_trace (eCons (eVar 0) (eNil)))) (sSeq (sExpr (eArgs m_require_completion (eCons (eVar 0) (eCons (eVar 1) (eNil))))) (sRet (eArgs m_stacks_of (eCons (eVar 0) (eCons (eVar 1) (eNil))))))
def m_stacks : List D → R D := runL 2 2 b_stacks
abbrev b_totals : DN.Env → R Fl := sSeq (sExpr (eArgs m_require_trace (eCons (eVar 0) (eNil)))) (sSeq (sExpr (eArgs m_require_completion (eCons (eVar 0) (eCons (eVar 1) (eNil))))) (sRet (eArgs m_totals_of (eCons (eVar 0) (eCons (eVar 1) (eNil))))))
def m_totals : List D → R D := runL 2 2 b_totals
abbrev b_from_totals : DN.Env → R Fl := sSeq (sExpr (eArgs m_require_trace (eCons (eVar 0) (eNil)))) (sSeq (sIf (eOr (eNot (eT dTru (eUn (dIsi "list") (eVar 1)))) (eT dB (eBin dNe (eArgs dLen (eCons (eVar 1) (eNil))) (eBin dAdd (eArgs dLen (eCons (eVar 0) (eNil))) (eC (.int 1)))))) (sRet (eC .non)) (sNx)) (sSeq (sIf (eNot (eT dTru (eArgs dAll (eCons (eLc [2] (eItems (eVar 1)) (gN 2) (eYes) (eArgs m_is_integer (eCons (eVar 2) (eCons (eC (.int 0)) (eCons (eC (.int 10)) (eNil)))))) (eNil))))) (sRet (eC .non)) (sNx)) (sRet (eArgs m_with_totals (eCons (eVar 0) (eCons (eVar 1) (eNil)))))))
def m_from_totals : List D → R D := runF 2 3 b_from_totals
def l_callers_1 : DN.Env → R Fl := sSeq (sSet 6 (eArgs m_stack_after (eCons (eBin dIx (eVar 2) (eVar 5)) (eCons (eBin dIx (eVar 0) (eVar 5)) (eCons (eVar 4) (eNil)))))) (sApp 3 (eIf (eT dB (eBin dGt (eArgs dLen (eCons (eVar 6) (eNil))) (eC (.int 1)))) (eBin dIx (eVar 6) (eUn dNeg (eC (.int 2)))) (eC .non)))
abbrev b_callers : DN.Env → R Fl := sSeq (sExpr (eArgs m_require_trace (eCons (eVar 0) (eNil)))) (sSeq (sExpr (eArgs m_require_completion (eCons (eVar 0) (eCons (eVar 1) (eNil))))) (sSeq (sPar2 2 3 (eArgs m_stacks_of (eCons (eVar 0) (eCons (eVar 1) (eNil)))) (eArgs dLst (eNil))) (sSeq (sFor (eItA dEnum (eCons (eArgs m_created_at (eCons (eVar 0) (eNil))) (eNil))) (gT 2 (gCons' (gN 4) (gCons' (gN 5) (gNil')))) l_callers_1) (sRet (eVar 3)))))
def m_callers : List D → R D := runL 2 7 b_callers
def l_ends_1 : DN.Env → R Fl := sSeq (sSet 6 (eLc [7] (eItA dRange2 (eCons (eBin dAdd (eVar 5) (eC (.int 1))) (eCons (eArgs dLen (eCons (eVar 2) (eNil))) (eNil)))) (gN 7) (eT dB (eBin dNotIn (eVar 4) (eBin dIx (eVar 2) (eVar 7)))) (eVar 7))) (sApp 3 (eIf (eT dTru (eVar 6)) (eBin dIx (eVar 6) (eC (.int 0))) (eC .non)))
abbrev b_ends : DN.Env → R Fl := sSeq (sExpr (eArgs m_require_trace (eCons (eVar 0) (eNil)))) (sSeq (sExpr (eArgs m_require_completion (eCons (eVar 0) (eCons (eVar 1) (eNil))))) (sSeq (sPar2 2 3 (eArgs m_stacks_of (eCons (eVar 0) (eCons (eVar 1) (eNil)))) (eArgs dLst (eNil))) (sSeq (sFor (eItA dEnum (eCons (eArgs m_created_at (eCons (eVar 0) (eNil))) (eNil))) (gT 2 (gCons' (gN 4) (gCons' (gN 5) (gNil')))) l_ends_1) (sRet (eVar 3)))))
def m_ends : List D → R D := runL 2 8 b_ends
abbrev b_is_fact : DN.Env → R Fl := sSeq (sExpr (eArgs m_require_trace (eCons (eVar 0) (eNil)))) (sRet (eArgs m_good_fact (eCons (eVar 0) (eCons (eVar 1) (eNil)))))
def m_is_fact : List D → R D := runF 2 2 b_is_fact
abbrev b_holds : DN.Env → R Fl := sSeq (sExpr (eArgs m_require_trace (eCons (eVar 0) (eNil)))) (sSeq (sExpr (eArgs m_require_completion (eCons (eVar 0) (eCons (eVar 1) (eNil))))) (sSeq (sExpr (eArgs m_require_fact (eCons (eVar 0) (eCons (eVar 2) (eNil))))) (sRet (eArgs m_holds_for (eCons (eVar 0) (eCons (eArgs m_stacks_of (eCons (eVar 0) (eCons (eVar 1) (eNil)))) (eCons (eVar 2) (eNil))))))))
def m_holds : List D → R D := runF 3 3 b_holds
abbrev b_count : DN.Env → R Fl := sSeq (sExpr (eArgs m_require_trace (eCons (eVar 0) (eNil)))) (sSeq (sExpr (eArgs m_require_facts (eCons (eVar 0) (eCons (eVar 1) (eNil))))) (sRet (eArgs dLen (eCons (eArgs m_all_for (eCons (eVar 0) (eCons (eVar 1) (eNil)))) (eNil)))))
def m_count : List D → R D := runF 2 2 b_count
def l_of_trace_1 : DN.Env → R Fl := sExt 1 (eArgs m_rows_of_event (eCons (eVar 0) (eCons (eVar 2) (eNil))))
abbrev b_of_trace : DN.Env → R Fl := sSeq (sSet 1 (eArgs dLst (eNil))) (sSeq (sFor (eItA dRange1 (eCons (eArgs dLen (eCons (eVar 0) (eNil))) (eNil))) (gN 2) l_of_trace_1) (sRet (eVar 1)))
def m_of_trace : List D → R D := runF 1 3 b_of_trace
def l_of_facts_1 : DN.Env → R Fl := sExt 2 (eArgs m_rows_of_fact (eCons (eVar 0) (eCons (eArgs dTup (eCons (eC (.str "fact")) (eCons (eVar 3) (eNil)))) (eCons (eVar 4) (eNil)))))
abbrev b_of_facts : DN.Env → R Fl := sSeq (sSet 2 (eArgs dLst (eNil))) (sSeq (sFor (eItA dEnum (eCons (eVar 1) (eNil))) (gT 2 (gCons' (gN 3) (gCons' (gN 4) (gNil')))) l_of_facts_1) (sRet (eVar 2)))
def m_of_facts : List D → R D := runF 2 5 b_of_facts
abbrev b_negations : DN.Env → R Fl := sSeq (sIf (eT dB (eBin dEq (eBin dIx (eVar 1) (eC (.int 0))) (eC (.str "active")))) (sRet (eArgs dLst (eCons (eArgs m_rows_returned (eCons (eVar 0) (eCons (eC .non) (eCons (eBin dIx (eVar 1) (eC (.int 1))) (eCons (eBin dIx (eVar 1) (eC (.int 2))) (eNil)))))) (eNil)))) (sNx)) (sSeq (sIf (eT dB (eBin dEq (eBin dIx (eVar 1) (eC (.int 0))) (eC (.str "returned")))) (sRet (eArgs dLst (eCons (eArgs m_rows_active (eCons (eVar 0) (eCons (eC .non) (eCons (eBin dIx (eVar 1) (eC (.int 1))) (eCons (eBin dIx (eVar 1) (eC (.int 2))) (eNil)))))) (eNil)))) (sNx)) (sSeq (sIf (eT dB (eBin dEq (eBin dIx (eVar 1) (eC (.int 0))) (eC (.str "innermost")))) (sRet (eArgs dLst (eCons (eArgs m_rows_returned (eCons (eVar 0) (eCons (eC .non) (eCons (eBin dIx (eVar 1) (eC (.int 1))) (eCons (eBin dIx (eVar 1) (eC (.int 2))) (eNil)))))) (eCons (eArgs m_rows_deeper_than (eCons (eVar 0) (eCons (eBin dIx (eVar 1) (eC (.int 1))) (eCons (eBin dIx (eVar 1) (eC (.int 2))) (eNil))))) (eNil))))) (sNx)) (sSeq (sIf (eT dB (eBin dEq (eBin dIx (eVar 1) (eC (.int 0))) (eC (.str "stack")))) (sRet (eArgs m_rows_not_stack (eCons (eVar 0) (eCons (eBin dIx (eVar 1) (eC (.int 1))) (eCons (eBin dIx (eVar 1) (eC (.int 2))) (eNil)))))) (sNx)) (sSeq (sIf (eT dB (eBin dEq (eBin dIx (eVar 1) (eC (.int 0))) (eC (.str "deeper")))) (sRet (eArgs dLst (eCons (eArgs m_rows_of_fact (eCons (eVar 0) (eCons (eC .non) (eCons (eArgs dTup (eCons (eC (.str "deeper")) (eCons (eBin dIx (eVar 1) (eC (.int 2))) (eCons (eBin dIx (eVar 1) (eC (.int 1))) (eCons (eBin dSub (eC (.int 1)) (eBin dIx (eVar 1) (eC (.int 3)))) (eNil)))))) (eNil))))) (eNil)))) (sNx)) (sSeq (sIf (eT dB (eBin dEq (eBin dIx (eVar 1) (eC (.int 0))) (eC (.str "depth")))) (sSeq (sSet 2 (eBin dIx (eArgs m_created_before (eCons (eVar 0) (eNil))) (eBin dIx (eVar 1) (eC (.int 1))))) (sRet (eArgs dLst (eCons (eArgs dLst (eCons (eArgs dTup (eCons (eC .non) (eCons (eC (.int 0)) (eCons (eArgs dLst (eCons (eArgs dTup (eCons (eBin dIx (eVar 1) (eC (.int 1))) (eCons (eBin dSub (eBin dSub (eBin dIx (eVar 1) (eC (.int 2))) (eC (.int 1))) (eVar 2)) (eNil)))) (eNil))) (eNil))))) (eNil))) (eCons (eArgs dLst (eCons (eArgs dTup (eCons (eC .non) (eCons (eBin dIx (eVar 1) (eC (.int 1))) (eCons (eArgs dLst (eCons (eArgs dTup (eCons (eC .non) (eCons (eBin dSub (eBin dSub (eVar 2) (eBin dIx (eVar 1) (eC (.int 3)))) (eC (.int 1))) (eNil)))) (eNil))) (eNil))))) (eNil))) (eNil)))))) (sNx)) (sRet (eArgs dLst (eCons (eArgs dLst (eCons (eArgs dTup (eCons (eC .non) (eCons (eBin dIx (eVar 1) (eC (.int 2))) (eCons (eArgs dLst (eCons (eArgs dTup (eCons (eBin dIx (eVar 1) (eC (.int 1))) (eCons (eBin dSub (eBin dIx (eVar 1) (eC (.int 3))) (eC (.int 1))) (eNil)))) (eNil))) (eNil))))) (eNil))) (eCons (eArgs dLst (eCons (eArgs dTup (eCons (eC .non) (eCons (eBin dIx (eVar 1) (eC (.int 1))) (eCons (eArgs dLst (eCons (eArgs dTup (eCons (eBin dIx (eVar 1) (eC (.int 2))) (eCons (eBin dSub (eBin dSub (eC (.int 0)) (eBin dIx (eVar 1) (eC (.int 4)))) (eC (.int 1))) (eNil)))) (eNil))) (eNil))))) (eNil))) (eNil))))))))))
def m_negations : List D → R D := runF 2 3 b_negations
abbrev b_rows_of_caller : DN.Env → R Fl := sSeq (sPar2 3 4 (eArgs m_created_before (eCons (eVar 0) (eNil))) (eBin dIx (eArgs m_created_at (eCons (eVar 0) (eNil))) (eVar 1))) (sSeq (sIf (eT dB (eBin dEq (eBin dIx (eBin dIx (eVar 0) (eVar 4)) (eC (.int 0))) (eC (.str "enter")))) (sSeq (sSet 5 (eIf (eT dB (eBin dIs (eVar 2) (eC .non))) (eArgs dTup (eCons (eC (.str "depth")) (eCons (eVar 4) (eCons (eC (.int 0)) (eCons (eC (.int 0)) (eNil)))))) (eArgs dTup (eCons (eC (.str "innermost")) (eCons (eVar 2) (eCons (eVar 4) (eNil))))))) (sRet (eArgs m_rows_of_fact (eCons (eVar 0) (eCons (eC .non) (eCons (eVar 5) (eNil))))))) (sNx)) (sSeq (sIf (eT dB (eBin dIs (eVar 2) (eC .non))) (sRet (eArgs m_rows_of_fact (eCons (eVar 0) (eCons (eC .non) (eCons (eArgs dTup (eCons (eC (.str "depth")) (eCons (eVar 4) (eCons (eC (.int 1)) (eCons (eC (.int 1)) (eNil)))))) (eNil)))))) (sNx)) (sSeq (sSet 6 (eBin dIx (eArgs m_created_at (eCons (eVar 0) (eNil))) (eVar 2))) (sSeq (sSet 7 (eBin dSub (eBin dSub (eBin dAdd (eBin dIx (eVar 3) (eVar 6)) (eC (.int 2))) (eArgs dInt (eCons (eArgs m_is_tail (eCons (eVar 0) (eCons (eVar 6) (eNil)))) (eNil)))) (eBin dIx (eVar 3) (eVar 4)))) (sRet (eBin dAdd (eArgs m_rows_deeper_than (eCons (eVar 0) (eCons (eVar 2) (eCons (eVar 4) (eNil))))) (eArgs dLst (eCons (eArgs dTup (eCons (eC .non) (eCons (eVar 6) (eCons (eArgs dLst (eCons (eArgs dTup (eCons (eVar 4) (eCons (eVar 7) (eNil)))) (eNil))) (eNil))))) (eNil)))))))))
def m_rows_of_caller : List D → R D := runF 3 8 b_rows_of_caller
abbrev b__law_source : DN.Env → R Fl := sSeq (sIf (eOr (eNot (eT dTru (eUn (dIsi "tuple") (eVar 2)))) (eOr (eT dB (eBin dNe (eArgs dLen (eCons (eVar 2) (eNil))) (eC (.int 2)))) (eNot (eT dTru (eUn (dIsi "str") (eBin dIx (eVar 2) (eC (.int 0)))))))) (sRet (eArgs dLst (eNil))) (sNx)) (sSeq (sIf (eOr (eNot (eT dTru (eUn (dIsi "int") (eBin dIx (eVar 2) (eC (.int 1)))))) (eOr (eT dTru (eUn (dIsi "bool") (eBin dIx (eVar 2) (eC (.int 1))))) (eT dB (eBin dLt (eBin dIx (eVar 2) (eC (.int 1))) (eC (.int 0)))))) (sRet (eArgs dLst (eNil))) (sNx)) (sSeq (sIf (eAnd (eT dB (eBin dEq (eBin dIx (eVar 2) (eC (.int 0))) (eC (.str "event")))) (eT dB (eBin dLt (eBin dIx (eVar 2) (eC (.int 1))) (eArgs dLen (eCons (eVar 0) (eNil)))))) (sRet (eArgs m__law_of_event (eCons (eVar 0) (eCons (eBin dIx (eVar 2) (eC (.int 1))) (eNil))))) (sNx)) (sRet (eIf (eAnd (eT dB (eBin dEq (eBin dIx (eVar 2) (eC (.int 0))) (eC (.str "fact")))) (eT dB (eBin dLt (eBin dIx (eVar 2) (eC (.int 1))) (eArgs dLen (eCons (eVar 1) (eNil)))))) (eArgs m__law_of_fact (eCons (eVar 0) (eCons (eBin dIx (eVar 1) (eBin dIx (eVar 2) (eC (.int 1)))) (eNil)))) (eArgs dLst (eNil))))))
def m__law_source : List D → R D := runF 3 3 b__law_source
abbrev b_completion_at : DN.Env → R Fl := sSeq (sExpr (eArgs m_require_trace (eCons (eVar 0) (eNil)))) (sSeq (sExpr (eArgs m_require_facts (eCons (eVar 0) (eCons (eVar 1) (eNil))))) (sSeq (sIf (eOr (eNot (eT dTru (eUn (dIsi "int") (eVar 2)))) (eOr (eT dTru (eUn (dIsi "bool") (eVar 2))) (eT dB (eBin dLt (eVar 2) (eC (.int 0)))))) (sRaise "InvalidNumber") (sNx)) (sSeq (sSet 3 (eArgs m_all_for (eCons (eVar 0) (eCons (eVar 1) (eNil))))) (sSeq (sIf (eT dB (eBin dGe (eVar 2) (eArgs dLen (eCons (eVar 3) (eNil))))) (sRaise "InvalidNumber") (sNx)) (sRet (eBin dIx (eBin dIx (eVar 3) (eVar 2)) (eC (.int 0))))))))
def m_completion_at : List D → R D := runF 3 4 b_completion_at
abbrev b_number_of : DN.Env → R Fl := sSeq (sExpr (eArgs m_require_trace (eCons (eVar 0) (eNil)))) (sSeq (sExpr (eArgs m_require_facts (eCons (eVar 0) (eCons (eVar 1) (eNil))))) (sSeq (sIf (eNot (eT dTru (eArgs m_is_valid (eCons (eVar 0) (eCons (eVar 2) (eNil)))))) (sRaise "InvalidCompletion") (sNx)) (sSeq (sIf (eNot (eT dTru (eArgs dAll (eCons (eLc [3] (eItems (eVar 1)) (gN 3) (eYes) (eArgs m_holds_for (eCons (eVar 0) (eCons (eArgs m_stacks_of (eCons (eVar 0) (eCons (eVar 2) (eNil)))) (eCons (eVar 3) (eNil)))))) (eNil))))) (sRaise "InvalidCompletion") (sNx)) (sRet (eIdx (eLc [4] (eItems (eArgs m_all_for (eCons (eVar 0) (eCons (eVar 1) (eNil))))) (gN 4) (eYes) (eBin dIx (eVar 4) (eC (.int 0)))) (eVar 2))))))
def m_number_of : List D → R D := runF 3 5 b_number_of
abbrev b_derive : DN.Env → R Fl := sSeq (sAsg (eArgs m_lowered (eCons (eVar 0) (eCons (eBin dAdd (eArgs m_of_trace (eCons (eVar 0) (eNil))) (eArgs m_of_facts (eCons (eVar 0) (eCons (eVar 1) (eNil))))) (eNil)))) (gT 2 (gCons' (gN 2) (gCons' (gN 3) (gNil'))))) (sRet (eIf (eT dB (eBin dIs (eVar 2) (eC .non))) (eVar 3) (eC .non)))
def m_derive : List D → R D := runF 2 4 b_derive
abbrev b_most_of : DN.Env → R Fl := sSeq (sSet 2 (eBin dIx (eArgs m_lowered (eCons (eVar 0) (eCons (eBin dAdd (eArgs m_of_trace (eCons (eVar 0) (eNil))) (eArgs m_of_facts (eCons (eVar 0) (eCons (eVar 1) (eNil))))) (eNil)))) (eC (.int 0)))) (sRet (eIf (eT dB (eBin dIs (eVar 2) (eC .non))) (eC .non) (eArgs m_with_totals (eCons (eVar 0) (eCons (eVar 2) (eNil))))))
def m_most_of : List D → R D := runF 2 3 b_most_of
abbrev b_rows_of : DN.Env → R Fl := sRet (eBin dAdd (eArgs m_of_trace (eCons (eVar 0) (eNil))) (eArgs m_of_facts (eCons (eVar 0) (eCons (eVar 1) (eNil)))))
def m_rows_of : List D → R D := runF 2 2 b_rows_of
abbrev b_can_fail : DN.Env → R Fl := sRet (eArgs dAny (eCons (eLc [3] (eItems (eArgs m_negations (eCons (eVar 0) (eCons (eVar 2) (eNil))))) (gN 3) (eYes) (eArgs m_is_feasible (eCons (eVar 0) (eCons (eBin dAdd (eVar 1) (eVar 3)) (eNil))))) (eNil)))
def m_can_fail : List D → R D := runF 3 4 b_can_fail
def l_is_derivation_1 : DN.Env → R Fl := sSeq (sSet 8 (eLc [10, 11, 12] (eItems (eVar 4)) (gT 3 (gCons' (gN 10) (gCons' (gN 11) (gCons' (gN 12) (gNil'))))) (eAnd (eT dB (eBin dEq (eVar 10) (eVar 7))) (eT dB (eBin dEq (eVar 11) (eVar 5)))) (eVar 12))) (sSeq (sIf (eBorT (eNot (eT dTru (eArgs dAny (eCons (eLc [12] (eItems (eVar 8)) (gN 12) (eYes) (eBin dLe (eArgs m_right_side (eCons (eVar 12) (eCons (eVar 3) (eNil)))) (eVar 6))) (eNil)))))) (sRet (eC (.bl false))) (sNx)) (sPut 3 (eArgs dMin2 (eCons (eIxO 3 (eVar 5)) (eCons (eVar 6) (eNil)))) (eVar 5)))
abbrev b_is_derivation : DN.Env → R Fl := sSeq (sExpr (eArgs m_require_trace (eCons (eVar 0) (eNil)))) (sSeq (sExpr (eArgs m_require_facts (eCons (eVar 0) (eCons (eVar 1) (eNil))))) (sSeq (sIf (eOr (eNot (eT dTru (eUn (dIsi "list") (eVar 2)))) (eOr (eNot (eT dB (eChain dLe dLe (eC (.int 1)) (eArgs dLen (eCons (eVar 2) (eNil))) (eC (.int 1500))))) (eNot (eT dTru (eArgs dAll (eCons (eLc [9] (eItems (eVar 2)) (gN 9) (eYes) (eArgs m_is_line (eCons (eVar 0) (eCons (eVar 9) (eNil))))) (eNil))))))) (sRet (eC (.bl false))) (sNx)) (sSeq (sPar2 3 4 (eUn dLs (eArgs m_created_before (eCons (eVar 0) (eNil)))) (eBin dAdd (eArgs m_of_trace (eCons (eVar 0) (eNil))) (eArgs m_of_facts (eCons (eVar 0) (eCons (eVar 1) (eNil)))))) (sSeq (sFor (eItems (eVar 2)) (gT 3 (gCons' (gN 5) (gCons' (gN 6) (gCons' (gN 7) (gNil'))))) l_is_derivation_1) (sRet (eAndV (eBin dEq (eBin dIx (eBin dIx (eVar 2) (eUn dNeg (eC (.int 1)))) (eC (.int 0))) (eC (.int 0))) (eBin dLt (eBin dIx (eBin dIx (eVar 2) (eUn dNeg (eC (.int 1)))) (eC (.int 1))) (eC (.int 0)))))))))
def m_is_derivation : List D → R D := runF 3 13 b_is_derivation
abbrev b_fewest_returned : DN.Env → R Fl := sSeq (sExpr (eArgs m_require_trace (eCons (eVar 0) (eNil)))) (sSeq (sExpr (eArgs m_require_facts (eCons (eVar 0) (eCons (eVar 1) (eNil))))) (sSeq (sSet 2 (eBin dAdd (eArgs m_of_trace (eCons (eVar 0) (eNil))) (eArgs m_of_facts (eCons (eVar 0) (eCons (eVar 1) (eNil)))))) (sSeq (sSet 3 (eBin dIx (eArgs m_lowered (eCons (eVar 0) (eCons (eVar 2) (eNil)))) (eC (.int 0)))) (sSeq (sIf (eT dB (eBin dIs (eVar 3) (eC .non))) (sRet (eC .non)) (sNx)) (sSeq (sSet 4 (eLc [7, 8] (eItA dEnum (eCons (eVar 3) (eNil))) (gT 2 (gCons' (gN 7) (gCons' (gN 8) (gNil')))) (eYes) (eArgs m_smallest_total (eCons (eVar 0) (eCons (eVar 2) (eCons (eVar 7) (eCons (eVar 8) (eNil)))))))) (sSeq (sSet 5 (eArgs m_with_totals (eCons (eVar 0) (eCons (eVar 4) (eNil))))) (sSeq (sIf (eT dB (eBin dIs (eVar 5) (eC .non))) (sRet (eC .non)) (sNx)) (sSeq (sSet 6 (eArgs m_stacks_of (eCons (eVar 0) (eCons (eVar 5) (eNil))))) (sRet (eIf (eT dTru (eArgs dAll (eCons (eLc [9] (eItems (eVar 1)) (gN 9) (eYes) (eArgs m_holds_for (eCons (eVar 0) (eCons (eVar 6) (eCons (eVar 9) (eNil)))))) (eNil)))) (eVar 5) (eC .non)))))))))))
def m_fewest_returned : List D → R D := runF 2 10 b_fewest_returned
def l__law_is_derivation_1 : DN.Env → R Fl := sIf (eOr (eNot (eT dTru (eUn (dIsi "int") (eVar 5)))) (eT dTru (eUn (dIsi "bool") (eVar 5)))) (sRet (eC (.bl false))) (sNx)
def l__law_is_derivation_2 : DN.Env → R Fl := sSeq (sSet 9 (eArgs dMaxL (eCons (eLc [10, 11] (eItems (eVar 8)) (gT 2 (gCons' (gN 10) (gCons' (gN 11) (gNil')))) (eYes) (eIf (eT dB (eBin dIs (eVar 10) (eC .non))) (eVar 11) (eBin dAdd (eIxO 3 (eVar 10)) (eVar 11)))) (eNil)))) (sSet 6 (eOrV (eVar 6) (eAndV (eBin dEq (eVar 7) (eBin dIx (eVar 4) (eC (.int 0)))) (eBin dLe (eVar 9) (eBin dIx (eVar 4) (eC (.int 1)))))))
def l__law_is_derivation_3 : DN.Env → R Fl := sSeq (sIf (eOr (eNot (eT dTru (eUn (dIsi "tuple") (eVar 4)))) (eT dB (eBin dNe (eArgs dLen (eCons (eVar 4) (eNil))) (eC (.int 3))))) (sRet (eC (.bl false))) (sNx)) (sSeq (sFor (eItems (eSl (eVar 4) (oNone) (oSome (eC (.int 2))))) (gN 5) l__law_is_derivation_1) (sSeq (sSet 6 (eC (.bl false))) (sSeq (sFor (eItems (eArgs m__law_source (eCons (eVar 0) (eCons (eVar 1) (eCons (eBin dIx (eVar 4) (eC (.int 2))) (eNil)))))) (gT 2 (gCons' (gN 7) (gCons' (gN 8) (gNil')))) l__law_is_derivation_2) (sSeq (sIf (eNot (eT dTru (eVar 6))) (sRet (eC (.bl false))) (sNx)) (sPut 3 (eArgs dMin2 (eCons (eIxO 3 (eBin dIx (eVar 4) (eC (.int 0)))) (eCons (eBin dIx (eVar 4) (eC (.int 1))) (eNil)))) (eBin dIx (eVar 4) (eC (.int 0))))))))
abbrev b__law_is_derivation : DN.Env → R Fl := sSeq (sIf (eOr (eNot (eT dTru (eUn (dIsi "list") (eVar 2)))) (eNot (eT dB (eChain dLe dLe (eC (.int 1)) (eArgs dLen (eCons (eVar 2) (eNil))) (eC (.int 1500)))))) (sRet (eC (.bl false))) (sNx)) (sSeq (sSet 3 (eUn dLs (eArgs m__law_created (eCons (eVar 0) (eNil))))) (sSeq (sFor (eItems (eVar 2)) (gN 4) l__law_is_derivation_3) (sRet (eAndV (eBin dEq (eBin dIx (eBin dIx (eVar 2) (eUn dNeg (eC (.int 1)))) (eC (.int 0))) (eC (.int 0))) (eBin dLt (eBin dIx (eBin dIx (eVar 2) (eUn dNeg (eC (.int 1)))) (eC (.int 1))) (eC (.int 0)))))))
def m__law_is_derivation : List D → R D := runF 3 12 b__law_is_derivation
def l__law_split_right_1 : DN.Env → R Fl := sSeq (sSet 5 (eLc [8] (eItems (eArgs dTup (eCons (eC (.str "active")) (eCons (eC (.str "returned")) (eNil))))) (gN 8) (eYes) (eArgs m_count (eCons (eVar 0) (eCons (eBin dAdd (eVar 1) (eArgs dTup (eCons (eArgs dTup (eCons (eVar 8) (eCons (eVar 4) (eCons (eVar 2) (eNil))))) (eNil)))) (eNil)))))) (sIf (eT dB (eBin dNe (eArgs dSum (eCons (eVar 5) (eNil))) (eVar 3))) (sRet (eC (.bl false))) (sNx))
abbrev b__law_split_right : DN.Env → R Fl := sSeq (sSet 3 (eArgs m_count (eCons (eVar 0) (eCons (eVar 1) (eNil))))) (sSeq (sIf (eT dB (eBin dNe (eArgs dSum (eCons (eLc [7] (eItA dRange1 (eCons (eC (.int 11)) (eNil))) (gN 7) (eYes) (eArgs m_count (eCons (eVar 0) (eCons (eBin dAdd (eVar 1) (eArgs dTup (eCons (eArgs dTup (eCons (eC (.str "depth")) (eCons (eVar 2) (eCons (eVar 7) (eCons (eVar 7) (eNil)))))) (eNil)))) (eNil))))) (eNil))) (eVar 3))) (sRet (eC (.bl false))) (sNx)) (sSeq (sFor (eItA dRange1 (eCons (eBin dIx (eArgs m__law_created (eCons (eVar 0) (eNil))) (eVar 2)) (eNil))) (gN 4) l__law_split_right_1) (sSeq (sSet 6 (eLc [4] (eItA dRange1 (eCons (eBin dIx (eArgs m__law_created (eCons (eVar 0) (eNil))) (eVar 2)) (eNil))) (gN 4) (eYes) (eArgs m_count (eCons (eVar 0) (eCons (eBin dAdd (eVar 1) (eArgs dTup (eCons (eArgs dTup (eCons (eC (.str "innermost")) (eCons (eVar 4) (eCons (eVar 2) (eNil))))) (eNil)))) (eNil)))))) (sRet (eBin dEq (eBin dAdd (eArgs dSum (eCons (eVar 6) (eNil))) (eArgs m_count (eCons (eVar 0) (eCons (eBin dAdd (eVar 1) (eArgs dTup (eCons (eArgs dTup (eCons (eC (.str "depth")) (eCons (eVar 2) (eCons (eC (.int 0)) (eCons (eC (.int 0)) (eNil)))))) (eNil)))) (eNil))))) (eVar 3))))))
def m__law_split_right : List D → R D := runF 3 9 b__law_split_right
abbrev b_derivation : DN.Env → R Fl := sSeq (sExpr (eArgs m_require_trace (eCons (eVar 0) (eNil)))) (sSeq (sExpr (eArgs m_require_facts (eCons (eVar 0) (eCons (eVar 1) (eNil))))) (sRet (eArgs m_derive (eCons (eVar 0) (eCons (eVar 1) (eNil))))))
def m_derivation : List D → R D := runF 2 2 b_derivation
abbrev b_most_returned : DN.Env → R Fl := sSeq (sExpr (eArgs m_require_trace (eCons (eVar 0) (eNil)))) (sSeq (sExpr (eArgs m_require_facts (eCons (eVar 0) (eCons (eVar 1) (eNil))))) (sRet (eArgs m_most_of (eCons (eVar 0) (eCons (eVar 1) (eNil))))))
def m_most_returned : List D → R D := runF 2 2 b_most_returned
abbrev b_status_of : DN.Env → R Fl := sSeq (sSet 3 (eArgs m_rows_of (eCons (eVar 0) (eCons (eVar 1) (eNil))))) (sSeq (sIf (eNot (eT dTru (eArgs m_is_feasible (eCons (eVar 0) (eCons (eVar 3) (eNil)))))) (sRet (eC (.str "inconsistent"))) (sNx)) (sSeq (sIf (eNot (eT dTru (eArgs m_can_fail (eCons (eVar 0) (eCons (eVar 3) (eCons (eVar 2) (eNil))))))) (sRet (eC (.str "entailed"))) (sNx)) (sRet (eIf (eT dTru (eArgs m_is_feasible (eCons (eVar 0) (eCons (eBin dAdd (eVar 3) (eArgs m_of_facts (eCons (eVar 0) (eCons (eArgs dTup (eCons (eVar 2) (eNil))) (eNil))))) (eNil))))) (eC (.str "open")) (eC (.str "excluded"))))))
def m_status_of : List D → R D := runF 3 4 b_status_of
abbrev b_is_possible : DN.Env → R Fl := sRet (eArgs m_is_feasible (eCons (eVar 0) (eCons (eArgs m_rows_of (eCons (eVar 0) (eCons (eVar 1) (eNil)))) (eNil))))
def m_is_possible : List D → R D := runF 2 2 b_is_possible
abbrev b_status : DN.Env → R Fl := sSeq (sExpr (eArgs m_require_trace (eCons (eVar 0) (eNil)))) (sSeq (sExpr (eArgs m_require_facts (eCons (eVar 0) (eCons (eVar 1) (eNil))))) (sSeq (sExpr (eArgs m_require_fact (eCons (eVar 0) (eCons (eVar 2) (eNil))))) (sRet (eArgs m_status_of (eCons (eVar 0) (eCons (eVar 1) (eCons (eVar 2) (eNil))))))))
def m_status : List D → R D := runF 3 3 b_status
abbrev b_possible_depths : DN.Env → R Fl := sSeq (sExpr (eArgs m_require_trace (eCons (eVar 0) (eNil)))) (sSeq (sExpr (eArgs m_require_facts (eCons (eVar 0) (eCons (eVar 1) (eNil))))) (sSeq (sExpr (eArgs m_require_moment (eCons (eVar 0) (eCons (eVar 2) (eNil))))) (sRet (eLc [3] (eItA dRange1 (eCons (eBin dAdd (eC (.int 10)) (eC (.int 1))) (eNil))) (gN 3) (eT dTru (eArgs m_is_possible (eCons (eVar 0) (eCons (eBin dAdd (eVar 1) (eArgs dTup (eCons (eArgs dTup (eCons (eC (.str "depth")) (eCons (eVar 2) (eCons (eVar 3) (eCons (eVar 3) (eNil)))))) (eNil)))) (eNil))))) (eVar 3)))))
def m_possible_depths : List D → R D := runF 3 4 b_possible_depths
def l_possible_ends_1 : DN.Env → R Fl := sSeq (sSet 6 (eArgs dTup (eCons (eArgs dTup (eCons (eC (.str "returned")) (eCons (eVar 2) (eCons (eVar 5) (eNil))))) (eNil)))) (sSeq (sIf (eT dB (eBin dGt (eVar 5) (eBin dAdd (eVar 3) (eC (.int 1))))) (sSet 6 (eBin dAdd (eVar 6) (eArgs dTup (eCons (eArgs dTup (eCons (eC (.str "active")) (eCons (eVar 2) (eCons (eBin dSub (eVar 5) (eC (.int 1))) (eNil))))) (eNil))))) (sNx)) (sIf (eT dTru (eArgs m_is_possible (eCons (eVar 0) (eCons (eBin dAdd (eVar 1) (eVar 6)) (eNil))))) (sApp 4 (eVar 5)) (sNx)))
abbrev b_possible_ends : DN.Env → R Fl := sSeq (sExpr (eArgs m_require_trace (eCons (eVar 0) (eNil)))) (sSeq (sExpr (eArgs m_require_facts (eCons (eVar 0) (eCons (eVar 1) (eNil))))) (sSeq (sExpr (eArgs m_require_frame (eCons (eVar 0) (eCons (eVar 2) (eNil))))) (sSeq (sPar2 3 4 (eBin dIx (eArgs m_created_at (eCons (eVar 0) (eNil))) (eVar 2)) (eArgs dLst (eNil))) (sSeq (sFor (eItA dRange2 (eCons (eBin dAdd (eVar 3) (eC (.int 1))) (eCons (eBin dAdd (eArgs dLen (eCons (eVar 0) (eNil))) (eC (.int 1))) (eNil)))) (gN 5) l_possible_ends_1) (sRet (eBin dAdd (eVar 4) (eBin dMul (eArgs dLst (eCons (eC .non) (eNil))) (eArgs dInt (eCons (eArgs m_is_possible (eCons (eVar 0) (eCons (eBin dAdd (eVar 1) (eArgs dTup (eCons (eArgs dTup (eCons (eC (.str "active")) (eCons (eVar 2) (eCons (eArgs dLen (eCons (eVar 0) (eNil))) (eNil))))) (eNil)))) (eNil)))) (eNil))))))))))
def m_possible_ends : List D → R D := runF 3 7 b_possible_ends
abbrev b__law_same_right : DN.Env → R Fl := sSeq (sPar2 4 5 (eBin dIx (eVar 2) (eVar 3)) (eArgs dLen (eCons (eVar 0) (eNil)))) (sSeq (sPar2 6 7 (eBin dAdd (eVar 1) (eArgs dTup (eCons (eArgs dTup (eCons (eC (.str "stack")) (eCons (eVar 3) (eCons (eVar 4) (eNil))))) (eNil)))) (eBin dAdd (eVar 1) (eArgs m__law_stack_parts (eCons (eVar 0) (eCons (eVar 3) (eCons (eVar 4) (eNil))))))) (sSeq (sIf (eOr (eT dB (eBin dNe (eArgs m_count (eCons (eVar 0) (eCons (eVar 6) (eNil)))) (eArgs m_count (eCons (eVar 0) (eCons (eVar 7) (eNil)))))) (eT dB (eBin dNe (eArgs m_most_returned (eCons (eVar 0) (eCons (eVar 6) (eNil)))) (eArgs m_most_returned (eCons (eVar 0) (eCons (eVar 7) (eNil))))))) (sRet (eC (.bl false))) (sNx)) (sSeq (sIf (eT dB (eBin dNe (eVar 4) (eArgs dTup (eNil)))) (sSeq (sSet 6 (eBin dAdd (eVar 1) (eArgs dTup (eCons (eArgs dTup (eCons (eC (.str "innermost")) (eCons (eBin dIx (eVar 4) (eUn dNeg (eC (.int 1)))) (eCons (eVar 3) (eNil))))) (eNil))))) (sSeq (sSet 8 (eLc [13] (eItems (eArgs dTup (eCons (eC (.str "active")) (eCons (eC (.str "returned")) (eNil))))) (gN 13) (eYes) (eArgs m_status (eCons (eVar 0) (eCons (eVar 6) (eCons (eArgs dTup (eCons (eVar 13) (eCons (eBin dIx (eVar 4) (eUn dNeg (eC (.int 1)))) (eCons (eVar 3) (eNil))))) (eNil))))))) (sSeq (sIf (eT dB (eBin dNe (eVar 8) (eArgs dLst (eCons (eC (.str "entailed")) (eCons (eC (.str "excluded")) (eNil)))))) (sRet (eC (.bl false))) (sNx)) (sIf (eT dB (eBin dNe (eArgs m_status (eCons (eVar 0) (eCons (eVar 6) (eCons (eArgs dTup (eCons (eC (.str "depth")) (eCons (eVar 3) (eCons (eC (.int 0)) (eCons (eC (.int 0)) (eNil)))))) (eNil))))) (eC (.str "excluded")))) (sRet (eC (.bl false))) (sNx))))) (sNx)) (sSeq (sIf (eT dB (eBin dGt (eVar 3) (eC (.int 0)))) (sSeq (sSet 9 (eBin dIx (eArgs m__law_totals (eCons (eVar 0) (eCons (eVar 2) (eNil)))) (eVar 3))) (sSeq (sSet 6 (eBin dAdd (eVar 1) (eArgs dTup (eCons (eArgs dTup (eCons (eC (.str "returns")) (eCons (eC (.int 0)) (eCons (eVar 3) (eCons (eVar 9) (eCons (eVar 9) (eNil))))))) (eNil))))) (sIf (eT dB (eBin dNe (eArgs m_count (eCons (eVar 0) (eCons (eVar 6) (eNil)))) (eArgs m_count (eCons (eVar 0) (eCons (eBin dAdd (eVar 1) (eArgs dTup (eCons (eArgs dTup (eCons (eC (.str "depth")) (eCons (eVar 3) (eCons (eArgs dLen (eCons (eVar 4) (eNil))) (eCons (eArgs dLen (eCons (eVar 4) (eNil))) (eNil)))))) (eNil)))) (eNil)))))) (sRet (eC (.bl false))) (sNx)))) (sNx)) (sSeq (sIf (eT dB (eBin dLt (eVar 3) (eVar 5))) (sSeq (sSet 10 (eBin dSub (eArgs dLen (eCons (eBin dIx (eVar 2) (eVar 5)) (eNil))) (eArgs dLen (eCons (eVar 4) (eNil))))) (sSeq (sSet 11 (eArgs dTup (eCons (eArgs dTup (eCons (eC (.str "deeper")) (eCons (eVar 5) (eCons (eVar 3) (eCons (eVar 10) (eNil)))))) (eCons (eArgs dTup (eCons (eC (.str "deeper")) (eCons (eVar 3) (eCons (eVar 5) (eCons (eUn dNeg (eVar 10)) (eNil)))))) (eNil))))) (sSeq (sSet 12 (eBin dSub (eBin dIx (eArgs m__law_totals (eCons (eVar 0) (eCons (eVar 2) (eNil)))) (eVar 5)) (eBin dIx (eArgs m__law_totals (eCons (eVar 0) (eCons (eVar 2) (eNil)))) (eVar 3)))) (sRet (eBin dEq (eArgs m_count (eCons (eVar 0) (eCons (eBin dAdd (eVar 1) (eVar 11)) (eNil)))) (eArgs m_count (eCons (eVar 0) (eCons (eBin dAdd (eVar 1) (eArgs dTup (eCons (eArgs dTup (eCons (eC (.str "returns")) (eCons (eVar 3) (eCons (eVar 5) (eCons (eVar 12) (eCons (eVar 12) (eNil))))))) (eNil)))) (eNil))))))))) (sNx)) (sRet (eC (.bl true))))))))
def m__law_same_right : List D → R D := runF 4 14 b__law_same_right
end Pf
end

section
set_option Elab.async false
set_option linter.all false
set_option maxRecDepth 100000
namespace Th
open PySem
inductive Ev where
  | ent (n : Str) | tai (n : Str) | exi (f : Int) | cat (f : Int) | mar
  deriving DecidableEq
def Ev.cr : Ev → Bool
  | .ent _ => true
  | .tai _ => true
  | _ => false
def b2i (b : Bool) : Int := if b = true then 1 else 0
def after (s : List Int) (c : Int) : Ev → Option (List Int)
  | .ent _ => some (s ++ [c])
  | .tai _ => if s = [] then none else some (s.dropLast ++ [c])
  | .exi f => if s.getLast? = some f then some s.dropLast else none
  | .cat f => if f ∈ s then some (s.take (s.idxOf f + 1)) else none
  | .mar => some s
theorem after_len {s s' : List Int} {c : Int} {e : Ev} (h : after s c e = some s') : s'.length ≤ s.length + 1 := by
  cases e with
  | ent n => simp [after] at h; subst h; simp
  | tai n => simp [after] at h; obtain ⟨h1, h⟩ := h; subst h; simp <;> omega
  | exi f => simp [after] at h; obtain ⟨h1, h⟩ := h; subst h; simp <;> omega
  | cat f => simp [after] at h; obtain ⟨h1, h⟩ := h; subst h; simp <;> omega
  | mar => simp [after] at h; subst h; omega
def rowsGo : List Ev → List Int → List Int → Int → Option (List (List Int))
  | _, [], _, _ => some []
  | tr, l :: co, s, c => if (s.length : Int) < l then none else match tr with
    | [] => (rowsGo [] co (s.take (s.length - l).toNat) c).map (s.take (s.length - l).toNat :: ·)
    | e :: tr => match after (s.take (s.length - l).toNat) c e with
      | none => none
      | some s2 => (rowsGo tr co s2 (c + b2i e.cr)).map (s.take (s.length - l).toNat :: ·)
def created (tr : List Ev) : Nat := (tr.filter Ev.cr).length
def cbs : Int → List Ev → List Int
  | c, [] => [c]
  | c, e :: tr => c :: cbs (c + b2i e.cr) tr
theorem cbs_len : ∀ (tr : List Ev) (c : Int), (cbs c tr).length = tr.length + 1
  | [], _ => rfl
  | e :: tr, c => by simp [cbs, cbs_len tr]
/-- the indices of the events that create -/
def crIdx (tr : List Ev) : List Nat := (tr.zipIdx.filter fun p => p.1.cr).map (·.2)
def tots (cs : List Int) (rs : List (List Int)) : List Int := (cs.zip rs).map fun p => p.1 - p.2.length
structure Inc (s : List Int) (c : Int) : Prop where
  p : s.Pairwise (· < ·)
  b : ∀ x ∈ s, 0 ≤ x ∧ x < c
theorem Inc.nil {c : Int} : Inc [] c := ⟨.nil, fun x h => by cases h⟩
theorem Inc.take {s : List Int} {c : Int} (h : Inc s c) (n : Nat) : Inc (s.take n) c := ⟨h.p.sublist (List.take_sublist n s), fun x hx => h.b x (List.mem_of_mem_take hx)⟩
theorem Inc.more {s : List Int} {c d : Int} (h : Inc s c) (hd : c ≤ d) : Inc s d := ⟨h.p, fun x hx => ⟨(h.b x hx).1, by have := (h.b x hx).2; omega⟩⟩
theorem Inc.snoc {s : List Int} {c : Int} (h : Inc s c) (hc : 0 ≤ c) : Inc (s ++ [c]) (c + 1) := by
  refine ⟨List.pairwise_append.mpr ⟨h.p, List.pairwise_singleton _ _, fun a ha b hb => ?_⟩, fun x hx => ?_⟩
  · rw [List.mem_singleton.mp hb]; exact (h.b a ha).2
  · rcases List.mem_append.mp hx with hx | hx
    · have := h.b x hx; omega
    · rw [List.mem_singleton.mp hx]; omega
theorem dropLast_take (s : List Int) : s.dropLast = s.take (s.length - 1) := List.dropLast_eq_take
theorem after_inc {s s2 : List Int} {c : Int} {e : Ev} (h : Inc s c) (hc : 0 ≤ c) (ha : after s c e = some s2) : Inc s2 (c + b2i e.cr) ∧ 0 ≤ c + b2i e.cr := by
  cases e with
  | ent n => simp [after] at ha; subst ha; simp only [b2i, Ev.cr, if_pos]; exact ⟨h.snoc hc, by omega⟩
  | tai n => simp [after] at ha; obtain ⟨_, ha⟩ := ha; subst ha; simp only [b2i, Ev.cr, if_pos]; rw [dropLast_take]; exact ⟨(h.take _).snoc hc, by omega⟩
  | exi f => simp [after] at ha; obtain ⟨_, ha⟩ := ha; subst ha; simp [b2i, Ev.cr]; rw [dropLast_take]; exact ⟨h.take _, hc⟩
  | cat f => simp [after] at ha; obtain ⟨_, ha⟩ := ha; subst ha; simp [b2i, Ev.cr]; exact ⟨h.take _, hc⟩
  | mar => simp [after] at ha; subst ha; simp [b2i, Ev.cr]; exact ⟨h, hc⟩
theorem filter_le : ∀ {s : List Int} {f : Int}, s.Pairwise (· < ·) → f ∈ s → s.filter (fun x => decide (x ≤ f)) = s.take (s.idxOf f + 1)
  | [], f, _, h => by cases h
  | x :: s, f, hp, h => by
    rw [List.pairwise_cons] at hp
    obtain ⟨h1, h2⟩ := hp
    by_cases e : x = f
    · subst e
      have : s.filter (fun y => decide (y ≤ x)) = [] := by
        rw [List.filter_eq_nil_iff]
        intro y hy
        have := h1 y hy
        simp; omega
      simp [this]
    · have hm : f ∈ s := by
        rcases List.mem_cons.mp h with h | h
        · exact absurd h.symm e
        · exact h
      have := h1 f hm
      have ih := filter_le h2 hm
      have hle : x ≤ f := by omega
      have eb : (x == f) = false := by simp [e]
      simp [List.idxOf_cons, eb, hle, ih]
theorem after_c {s : List Int} {c : Int} {e : Ev} (c' : Int) (h : (after s c e).isSome) : (after s c' e).isSome := by
  cases e with
  | ent n => rfl
  | tai n => simp only [after] at h ⊢; split at h <;> simp_all
  | exi f => exact h
  | cat f => exact h
  | mar => rfl
theorem rows_len : ∀ {co : List Int} {tr : List Ev} {s : List Int} {c : Int} {rs : List (List Int)}, rowsGo tr co s c = some rs → rs.length = co.length
  | [], tr, s, c, rs, h => by simp [rowsGo] at h; subst h; rfl
  | l :: co, tr, s, c, rs, h => by
    simp only [rowsGo] at h
    split at h
    · cases h
    · split at h
      · obtain ⟨rs', h1, rfl⟩ := Option.map_eq_some_iff.mp h
        simp [rows_len h1]
      · split at h
        · cases h
        · obtain ⟨rs', h1, rfl⟩ := Option.map_eq_some_iff.mp h
          simp [rows_len h1]
/-- each row: its stack, its event -/
theorem rows_at : ∀ {co : List Int} {tr : List Ev} {s : List Int} {c : Int} {rs : List (List Int)}, Inc s c → 0 ≤ c → rowsGo tr co s c = some rs → ∀ (k : Nat) (r : List Int), rs[k]? = some r →
    r.length ≤ s.length + k ∧ r.Pairwise (· < ·) ∧ ∀ e, tr[k]? = some e → ∀ c', (after r c' e).isSome
  | [], tr, s, c, rs, hi, hc, h, k, r, hk => by simp [rowsGo] at h; subst h; simp at hk
  | l :: co, tr, s, c, rs, hi, hc, h, k, r, hk => by
    simp only [rowsGo] at h
    split at h
    · cases h
    · split at h
      · obtain ⟨rs', h1, rfl⟩ := Option.map_eq_some_iff.mp h
        cases k with
        | zero => simp at hk; subst hk; exact ⟨by simp; omega, (hi.take _).p, fun e he => by simp at he⟩
        | succ k =>
          simp at hk
          obtain ⟨a, b, d⟩ := rows_at (hi.take _) hc h1 k r hk
          simp at a
          exact ⟨by omega, b, fun e he => by simp at he⟩
      · rename_i e0 tr0
        split at h
        · cases h
        · rename_i s2 hA
          obtain ⟨rs', h1, rfl⟩ := Option.map_eq_some_iff.mp h
          cases k with
          | zero => simp at hk; subst hk; exact ⟨by simp; omega, (hi.take _).p, fun e he c' => by simp at he; subst he; exact after_c c' (by rw [hA]; rfl)⟩
          | succ k =>
            simp at hk
            have hi2 := after_inc (hi.take _) hc hA
            have hl2 := after_len hA
            simp at hl2
            obtain ⟨a, b, d⟩ := rows_at hi2.1 hi2.2 h1 k r hk
            exact ⟨by omega, b, fun e he => d e (by simpa using he)⟩
theorem crIdx_lt {tr : List Ev} {n : Nat} (h : n ∈ crIdx tr) : n < tr.length := by
  simp only [crIdx, List.mem_map, List.mem_filter] at h
  obtain ⟨⟨e, m⟩, ⟨h1, _⟩, rfl⟩ := h
  have := List.mem_zipIdx h1
  simp at this; omega
theorem crIdx_len (tr : List Ev) : (crIdx tr).length ≤ tr.length := by
  simp only [crIdx, List.length_map]
  exact Nat.le_trans (List.length_filter_le _ _) (by simp)
theorem inc_len : ∀ {s : List Int} {lo c : Int}, s.Pairwise (· < ·) → (∀ x ∈ s, lo ≤ x ∧ x < c) → lo ≤ c → (s.length : Int) ≤ c - lo
  | [], lo, c, _, _, h => by simp; omega
  | x :: s, lo, c, hp, hb, h => by
    rw [List.pairwise_cons] at hp
    have hx := hb x (List.mem_cons_self ..)
    have ih := inc_len (lo := x + 1) (c := c) hp.2 (fun y hy => ⟨by have := hp.1 y hy; omega, (hb y (List.mem_cons_of_mem _ hy)).2⟩) (by omega)
    simp; omega
theorem Inc.len {s : List Int} {c : Int} (h : Inc s c) (hc : 0 ≤ c) : (s.length : Int) ≤ c := by
  have := inc_len (lo := 0) h.p h.b hc; omega
theorem created_snoc (tr : List Ev) (e : Ev) : (created (tr ++ [e]) : Int) = created tr + b2i e.cr := by
  cases hx : e.cr <;> simp [created, hx, b2i]
def wtGo : List Ev → List Int → List Int → Int → Option (List Int)
  | _, [], _, _ => some []
  | tr, n :: ns, s, c => if 0 ≤ n - (c - s.length) ∧ n - (c - s.length) ≤ s.length then (match tr with
    | [] => (wtGo [] ns (s.take (s.length - (n - (c - s.length))).toNat) c).map ((n - (c - (s.length : Int))) :: ·)
    | e :: tr => match after (s.take (s.length - (n - (c - s.length))).toNat) c e with
      | none => none
      | some s2 => (wtGo tr ns s2 (c + b2i e.cr)).map ((n - (c - (s.length : Int))) :: ·)) else none
/-- the totals of a completion lead back to it -/
theorem wt_tots : ∀ {co : List Int} {tr : List Ev} {s : List Int} {c : Int} {rs : List (List Int)}, rowsGo tr co s c = some rs → (∀ l ∈ co, 0 ≤ l) → co.length ≤ tr.length + 1 → wtGo tr (tots (cbs c tr) rs) s c = some co
  | [], tr, s, c, rs, h, _, _ => by simp [rowsGo] at h; subst h; simp [tots, wtGo]
  | l :: co, tr, s, c, rs, h, h0, hn => by
    have l0 := h0 l (List.mem_cons_self ..)
    simp only [rowsGo] at h
    split at h
    · cases h
    · rename_i hl
      have ht : (s.take ((s.length : Int) - l).toNat).length = s.length - l := by simp; omega
      cases tr with
      | nil =>
        simp only at h
        obtain ⟨rs', h1, rfl⟩ := Option.map_eq_some_iff.mp h
        cases co with
        | nil =>
          simp [rowsGo] at h1; subst h1
          have e : c - ((s.take ((s.length : Int) - l).toNat).length : Int) - (c - (s.length : Int)) = l := by rw [ht]; omega
          simp only [tots, cbs, List.zip_cons_cons, List.zip_nil_right, List.map_cons, List.map_nil, wtGo, e]
          rw [if_pos ⟨l0, by omega⟩]; rfl
        | cons a b => simp at hn
      | cons ev tr =>
        simp only at h
        split at h
        · cases h
        · rename_i s2 hA
          obtain ⟨rs', h1, rfl⟩ := Option.map_eq_some_iff.mp h
          have ih := wt_tots h1 (fun x hx => h0 x (List.mem_cons_of_mem _ hx)) (by simp at hn; omega)
          have e : c - ((s.take ((s.length : Int) - l).toNat).length : Int) - (c - (s.length : Int)) = l := by rw [ht]; omega
          simp only [tots, cbs, List.zip_cons_cons, List.map_cons, wtGo, e]
          rw [if_pos ⟨l0, by omega⟩]
          simp only [hA]
          have ih2 : wtGo tr (List.map (fun p => p.1 - (p.2.length : Int)) ((cbs (c + b2i ev.cr) tr).zip rs')) s2 (c + b2i ev.cr) = some co := ih
          rw [ih2]; rfl
/-- numbers with a completion are no more than the frames -/
theorem wt_rng : ∀ {ns : List Int} {tr : List Ev} {s : List Int} {c : Int} {ls : List Int}, Inc s c → 0 ≤ c → c + created tr ≤ 10 → wtGo tr ns s c = some ls → ∀ n ∈ ns, 0 ≤ n ∧ n ≤ 10
  | [], tr, s, c, ls, _, _, _, _ => fun n hn => by cases hn
  | n :: ns, tr, s, c, ls, hi, hc, hm, h => by
    have hs := hi.len hc
    simp only [wtGo] at h
    split at h
    · rename_i hl
      have hn : 0 ≤ n ∧ n ≤ 10 := by omega
      cases tr with
      | nil =>
        simp only at h
        obtain ⟨ls', h1, _⟩ := Option.map_eq_some_iff.mp h
        have ih := wt_rng (hi.take _) hc hm h1
        intro m hm
        rcases List.mem_cons.mp hm with rfl | hm
        · exact hn
        · exact ih m hm
      | cons ev tr =>
        simp only at h
        split at h
        · cases h
        · rename_i s2 hA
          obtain ⟨ls', h1, _⟩ := Option.map_eq_some_iff.mp h
          have hi2 := after_inc (hi.take _) hc hA
          have hcr : (created (ev :: tr) : Int) = b2i ev.cr + created tr := by
            cases hx : ev.cr <;> simp [created, hx, b2i]; omega
          have ih := wt_rng hi2.1 hi2.2 (by omega) h1
          intro m hm
          rcases List.mem_cons.mp hm with rfl | hm
          · exact hn
          · exact ih m hm
    · cases h
theorem cbs_get : ∀ (tr : List Ev) (c : Int) (m : Nat), m ≤ tr.length → (cbs c tr)[m]? = some (c + created (tr.take m))
  | tr, c, 0, _ => by cases tr <;> simp [cbs, created]
  | [], c, m + 1, h => by simp at h
  | e :: tr, c, m + 1, h => by
    have ih := cbs_get tr (c + b2i e.cr) m (by simpa using h)
    simp only [cbs, List.getElem?_cons_succ, ih, List.take_succ_cons]
    congr 1
    cases hx : e.cr <;> simp [created, hx, b2i] <;> omega
theorem created_take (tr : List Ev) (m : Nat) : created (tr.take m) ≤ created tr := by
  unfold created
  exact ((List.take_sublist m tr).filter _).length_le
end Th
end

section
set_option Elab.async false
set_option linter.all false
set_option maxRecDepth 100000
namespace Th
open PySem
/-! a run of stacks, and what the depths tell of the frames -/
/-- frames created before a moment -/
def cb (tr : List Ev) (k : Nat) : Int := created (tr.take k)
def Ev.isT : Ev → Bool
  | .tai _ => true
  | _ => false
structure Steps (tr : List Ev) (S : Nat → List Int) (n : Nat) : Prop where
  z : S 0 = []
  st : ∀ k, k < n → ∃ e s', tr[k]? = some e ∧ after (S k) (cb tr k) e = some s' ∧ S (k + 1) <+: s'
theorem cb_zero (tr : List Ev) : cb tr 0 = 0 := rfl
theorem cb_succ {tr : List Ev} {k : Nat} {e : Ev} (h : tr[k]? = some e) : cb tr (k + 1) = cb tr k + b2i e.cr := by
  obtain ⟨hlt, he⟩ := List.getElem?_eq_some_iff.mp h
  unfold cb
  rw [← List.take_append_getElem hlt, created_snoc, he]
theorem cb_nn (tr : List Ev) (k : Nat) : 0 ≤ cb tr k := by unfold cb; omega
theorem b2i_nn (b : Bool) : 0 ≤ b2i b := by cases b <;> decide
theorem b2i_le (b : Bool) : b2i b ≤ 1 := by cases b <;> decide
theorem created_app (xs ys : List Ev) : created (xs ++ ys) = created xs + created ys := by simp [created]
theorem cb_mono (tr : List Ev) {j k : Nat} (h : j ≤ k) : cb tr j ≤ cb tr k := by
  unfold cb
  have e : tr.take k = tr.take j ++ (tr.take k).drop j := by
    have := (List.take_append_drop j (tr.take k)).symm
    rw [List.take_take, Nat.min_eq_left h] at this; exact this
  rw [e, created_app]; omega
theorem Inc.pre {s t : List Int} {c : Int} (h : Inc t c) (p : s <+: t) : Inc s c := by
  rw [List.prefix_iff_eq_take.mp p]; exact h.take _
theorem Steps.mono {tr : List Ev} {S : Nat → List Int} {n m : Nat} (h : Steps tr S n) (hm : m ≤ n) : Steps tr S m := ⟨h.z, fun k hk => h.st k (by omega)⟩
theorem Steps.inc {tr : List Ev} {S : Nat → List Int} {n : Nat} (h : Steps tr S n) : ∀ k, k ≤ n → Inc (S k) (cb tr k)
  | 0, _ => by rw [h.z]; exact Inc.nil
  | k + 1, hk => by
    obtain ⟨e, s', he, ha, hp⟩ := h.st k (by omega)
    rw [cb_succ he]
    exact ((after_inc (h.inc k (by omega)) (cb_nn tr k) ha).1).pre hp
/-- the lengths of what an event leaves -/
theorem after_form {s s' : List Int} {c : Int} {e : Ev} (h : after s c e = some s') :
    (e.cr = true ∧ (e.isT = true → s ≠ []) ∧ s' = s.take (s.length - (if e.isT = true then 1 else 0)) ++ [c]) ∨ (e.cr = false ∧ s' <+: s) := by
  cases e with
  | ent n => simp [after] at h; subst h; left; simp [Ev.cr, Ev.isT]
  | tai n => simp [after] at h; obtain ⟨h1, h⟩ := h; subst h; left; simp [Ev.cr, Ev.isT, h1, List.dropLast_eq_take]
  | exi f => simp [after] at h; obtain ⟨h1, h⟩ := h; subst h; right; exact ⟨rfl, List.dropLast_prefix s⟩
  | cat f => simp [after] at h; obtain ⟨h1, h⟩ := h; subst h; right; exact ⟨rfl, List.take_prefix _ s⟩
  | mar => simp [after] at h; subst h; right; exact ⟨rfl, List.prefix_refl _⟩
/-- the place of the frame that event a creates -/
def fpos (S : Nat → List Int) (e : Ev) (a : Nat) : Nat := (S a).length - (if e.isT = true then 1 else 0)
/-- active from its event to a moment, told by the depths -/
def Act (tr : List Ev) (d : Nat → Nat) (a k pos : Nat) : Prop := (∀ l, a < l → l ≤ k → pos + 1 ≤ d l) ∧ (∀ l e, a < l → l < k → tr[l]? = some e → e.isT = true → pos + 2 ≤ d l)
theorem pre_get {s t : List Int} (h : s <+: t) {i : Nat} (hi : i < s.length) : s[i]? = t[i]? := by
  obtain ⟨u, rfl⟩ := h
  rw [List.getElem?_append_left hi]
theorem not_mem_pre {s t : List Int} {x : Int} {i : Nat} (hp : s <+: t) (ht : t.Pairwise (· < ·)) (hx : t[i]? = some x) (hi : s.length ≤ i) : x ∉ s := by
  intro hm
  obtain ⟨j, hj, e⟩ := List.getElem_of_mem hm
  have e2 : t[j]? = some x := by rw [← pre_get hp hj, List.getElem?_eq_getElem hj, e]
  obtain ⟨h1, h2⟩ := List.getElem?_eq_some_iff.mp hx
  obtain ⟨h3, h4⟩ := List.getElem?_eq_some_iff.mp e2
  have := List.pairwise_iff_getElem.mp ht j i h3 h1 (by omega)
  omega
theorem Steps.frame {tr : List Ev} {S : Nat → List Int} {n : Nat} (h : Steps tr S n) {a : Nat} {e : Ev} (he : tr[a]? = some e) (hc : e.cr = true) : ∀ k, a < k → k ≤ n →
    (Act tr (fun l => (S l).length) a k (fpos S e a) ∧ (S k)[fpos S e a]? = some (cb tr a)) ∨ (¬ Act tr (fun l => (S l).length) a k (fpos S e a) ∧ cb tr a ∉ S k)
  | 0, ha, _ => by omega
  | k + 1, ha, hn => by
    obtain ⟨e', s', he', hA, hp⟩ := h.st k (by omega)
    have hI := h.inc k (by omega)
    have hI' := (after_inc hI (cb_nn tr k) hA).1
    by_cases hak : a = k
    · subst hak
      rw [he] at he'; cases he'
      rcases after_form hA with ⟨_, hne, hs⟩ | ⟨hx, _⟩
      · have hl : s'.length = fpos S e a + 1 := by
          rw [hs]; simp only [fpos, List.length_append, List.length_take, List.length_cons, List.length_nil]; omega
        have hg : s'[fpos S e a]? = some (cb tr a) := by
          rw [hs]
          have : (List.take ((S a).length - if e.isT = true then 1 else 0) (S a)).length = fpos S e a := by simp only [fpos, List.length_take]; omega
          rw [List.getElem?_append_right (by omega), this]; simp
        by_cases hd : fpos S e a + 1 ≤ (S (a + 1)).length
        · left
          refine ⟨⟨fun l h1 h2 => ?_, fun l x h1 h2 => by omega⟩, ?_⟩
          · have : l = a + 1 := by omega
            subst this; exact hd
          · rw [pre_get hp (by omega)]; exact hg
        · right
          refine ⟨fun hact => hd (hact.1 (a + 1) (by omega) (by omega)), ?_⟩
          exact not_mem_pre hp hI'.p hg (by omega)
      · rw [hc] at hx; cases hx
    · have ih := h.frame he hc k (by omega) (by omega)
      have hca : cb tr a < cb tr k := by
        have h1 := cb_succ he
        have h2 := cb_mono tr (show a + 1 ≤ k by omega)
        rw [hc] at h1
        have : b2i true = 1 := rfl
        omega
      rcases ih with ⟨hact, hg⟩ | ⟨hact, hm⟩
      · obtain ⟨hg1, hg2⟩ := List.getElem?_eq_some_iff.mp hg
        -- is it gone by the event itself?
        by_cases ht : e'.isT = true ∧ (S k).length < fpos S e a + 2
        · right
          refine ⟨fun hact2 => ?_, ?_⟩
          · have : fpos S e a + 2 ≤ (S k).length := hact2.2 k e' (by omega) (by omega) he' ht.1
            omega
          · rcases after_form hA with ⟨_, hne, hs⟩ | ⟨hx, hpre⟩
            · intro hm
              have hm' := hp.subset hm
              rw [hs] at hm'
              rcases List.mem_append.mp hm' with hm' | hm'
              · refine absurd hm' (not_mem_pre (i := fpos S e a) (List.take_prefix _ _) hI.p hg ?_)
                rw [if_pos ht.1]; simp only [List.length_take]; omega
              · have := List.mem_singleton.mp hm'; omega
            · cases e' <;> simp [Ev.isT, Ev.cr] at ht hx
        · -- it stands in s' still, if s' is long enough
          have key : ∀ i, i < s'.length → i ≤ fpos S e a → s'[i]? = (S k)[i]? := by
            intro i hi hi2
            rcases after_form hA with ⟨_, hne, hs⟩ | ⟨hx, hpre⟩
            · rw [hs]
              have hlen : i < ((S k).take ((S k).length - if e'.isT = true then 1 else 0)).length := by
                simp only [List.length_take]
                by_cases hT : e'.isT = true
                · have : ¬ (S k).length < fpos S e a + 2 := fun z => ht ⟨hT, z⟩
                  rw [if_pos hT]; omega
                · rw [if_neg hT]; omega
              rw [List.getElem?_append_left hlen]
              exact pre_get (List.take_prefix _ _) hlen
            · exact pre_get hpre hi
          by_cases hd : fpos S e a + 1 ≤ (S (k + 1)).length
          · left
            have hsl := hp.length_le
            refine ⟨⟨fun l h1 h2 => ?_, fun l x h1 h2 hx hT => ?_⟩, ?_⟩
            · by_cases hl : l = k + 1
              · subst hl; exact hd
              · exact hact.1 l h1 (by omega)
            · by_cases hl : l = k
              · subst hl
                rw [he'] at hx; cases hx
                exact Nat.not_lt.mp fun z => ht ⟨hT, z⟩
              · exact hact.2 l x h1 (by omega) hx hT
            · rw [pre_get hp (by omega), key _ (by omega) (Nat.le_refl _)]; exact hg
          · right
            refine ⟨fun hact2 => hd (hact2.1 (k + 1) (by omega) (by omega)), ?_⟩
            intro hm
            obtain ⟨j, hj, ej⟩ := List.getElem_of_mem hm
            have hj2 : j < s'.length := by have := hp.length_le; omega
            have e2 : (S k)[j]? = some (cb tr a) := by
              rw [← key j hj2 (by omega), ← pre_get hp hj, List.getElem?_eq_getElem hj, ej]
            obtain ⟨h3, h4⟩ := List.getElem?_eq_some_iff.mp e2
            have := List.pairwise_iff_getElem.mp hI.p j (fpos S e a) h3 hg1 (by omega)
            omega
      · right
        refine ⟨fun hact2 => hact ⟨fun l h1 h2 => hact2.1 l h1 (by omega), fun l x h1 h2 hx hT => hact2.2 l x h1 (by omega) hx hT⟩, ?_⟩
        intro hm'
        have hm2 := hp.subset hm'
        rcases after_form hA with ⟨_, hne, hs⟩ | ⟨hx, hpre⟩
        · rw [hs] at hm2
          rcases List.mem_append.mp hm2 with hm2 | hm2
          · exact hm (List.mem_of_mem_take hm2)
          · have := List.mem_singleton.mp hm2; omega
        · exact hm (hpre.subset hm2)
end Th
end

section
set_option Elab.async false
set_option linter.all false
set_option maxRecDepth 100000
namespace Th
open PySem
/-! which event creates a frame -/
def crGo (k : Nat) (tr : List Ev) : List Nat := ((tr.zipIdx k).filter fun p => p.1.cr).map (·.2)
theorem crGo_cons (k : Nat) (e : Ev) (tr : List Ev) : crGo k (e :: tr) = if e.cr = true then k :: crGo (k + 1) tr else crGo (k + 1) tr := by
  unfold crGo
  rw [List.zipIdx_cons, List.filter_cons]
  by_cases h : e.cr = true
  · rw [if_pos h, if_pos h]; rfl
  · rw [if_neg h, if_neg h]
theorem created_cons (e : Ev) (tr : List Ev) : created (e :: tr) = (if e.cr = true then 1 else 0) + created tr := by
  unfold created
  rw [List.filter_cons]
  by_cases h : e.cr = true
  · rw [if_pos h, if_pos h, List.length_cons]; omega
  · rw [if_neg h, if_neg h]; omega
theorem crGo_get : ∀ (tr : List Ev) (k i a : Nat), (crGo k tr)[i]? = some a ↔ ∃ e j, a = k + j ∧ tr[j]? = some e ∧ e.cr = true ∧ created (tr.take j) = i
  | [], k, i, a => by simp [crGo]
  | e :: tr, k, i, a => by
    rw [crGo_cons]
    by_cases h : e.cr = true
    · rw [if_pos h]
      cases i with
      | zero =>
        rw [List.getElem?_cons_zero]
        constructor
        · intro z; cases z; exact ⟨e, 0, rfl, rfl, h, rfl⟩
        · rintro ⟨x, j, rfl, hx, hc, hj⟩
          cases j with
          | zero => rfl
          | succ j => rw [List.take_succ_cons, created_cons, if_pos h] at hj; omega
      | succ i =>
        rw [List.getElem?_cons_succ, crGo_get tr (k + 1) i a]
        constructor
        · rintro ⟨x, j, rfl, hx, hc, hj⟩
          exact ⟨x, j + 1, by omega, by simpa using hx, hc, by rw [List.take_succ_cons, created_cons, if_pos h]; omega⟩
        · rintro ⟨x, j, rfl, hx, hc, hj⟩
          cases j with
          | zero => simp [created] at hj
          | succ j => rw [List.take_succ_cons, created_cons, if_pos h] at hj; exact ⟨x, j, by omega, by simpa using hx, hc, by omega⟩
    · rw [if_neg h, crGo_get tr (k + 1) i a]
      constructor
      · rintro ⟨x, j, rfl, hx, hc, hj⟩
        exact ⟨x, j + 1, by omega, by simpa using hx, hc, by rw [List.take_succ_cons, created_cons, if_neg h]; omega⟩
      · rintro ⟨x, j, rfl, hx, hc, hj⟩
        cases j with
        | zero => simp at hx; subst hx; exact absurd hc h
        | succ j => rw [List.take_succ_cons, created_cons, if_neg h] at hj; exact ⟨x, j, by omega, by simpa using hx, hc, by omega⟩
theorem crIdx_get (tr : List Ev) (i a : Nat) : (crIdx tr)[i]? = some a ↔ ∃ e, tr[a]? = some e ∧ e.cr = true ∧ cb tr a = i := by
  have h := crGo_get tr 0 i a
  unfold cb
  constructor
  · intro z
    obtain ⟨e, j, hj, h1, h2, h3⟩ := h.mp z
    have : j = a := by omega
    subst this
    exact ⟨e, h1, h2, by omega⟩
  · rintro ⟨e, h1, h2, h3⟩
    exact h.mpr ⟨e, a, by omega, h1, h2, by omega⟩
/-- the event that creates a frame -/
def evOf (tr : List Ev) (i : Nat) : Nat := (crIdx tr)[i]?.getD 0
theorem crIdx_len_cr (tr : List Ev) : (crIdx tr).length = created tr := by
  have : ∀ (tr : List Ev) (k : Nat), (crGo k tr).length = created tr := by
    intro tr
    induction tr with
    | nil => intro k; rfl
    | cons e tr ih =>
      intro k
      rw [crGo_cons, created_cons]
      by_cases h : e.cr = true
      · rw [if_pos h, if_pos h, List.length_cons, ih]; omega
      · rw [if_neg h, if_neg h, ih]; omega
  exact this tr 0
theorem cb_full (tr : List Ev) {k : Nat} (h : tr.length ≤ k) : cb tr k = created tr := by unfold cb; rw [List.take_of_length_le h]
theorem cb_le (tr : List Ev) (k : Nat) : cb tr k ≤ created tr := by
  have h := cb_mono tr (show k ≤ max k tr.length by omega)
  rw [cb_full tr (show tr.length ≤ max k tr.length by omega)] at h; exact h
/-- a frame that is there at a moment has its event before it -/
theorem evOf_lt {tr : List Ev} {i k : Nat} (h : (i : Int) < cb tr k) : ∃ e, tr[evOf tr i]? = some e ∧ e.cr = true ∧ cb tr (evOf tr i) = i ∧ evOf tr i < k ∧ (crIdx tr)[i]? = some (evOf tr i) := by
  have h2 := cb_le tr k
  have hl : i < (crIdx tr).length := by rw [crIdx_len_cr]; omega
  have hg : (crIdx tr)[i]? = some (evOf tr i) := by unfold evOf; rw [List.getElem?_eq_getElem hl]; rfl
  obtain ⟨e, h3, h4, h5⟩ := (crIdx_get tr i _).mp hg
  refine ⟨e, h3, h4, h5, ?_, hg⟩
  refine Nat.lt_of_not_le fun z => ?_
  have := cb_mono tr z
  omega
theorem evOf_before {tr : List Ev} {i k : Nat} (hi : i < (crIdx tr).length) (h : evOf tr i < k) : (i : Int) < cb tr k := by
  have hg : (crIdx tr)[i]? = some (evOf tr i) := by unfold evOf; rw [List.getElem?_eq_getElem hi]; rfl
  obtain ⟨e, h3, h4, h5⟩ := (crIdx_get tr i _).mp hg
  have h6 := cb_succ h3
  rw [h4] at h6
  have h7 := cb_mono tr (show evOf tr i + 1 ≤ k by omega)
  have : b2i true = 1 := rfl
  omega
/-! inequalities -/
inductive Src where
  | ev (k : Nat) | fa (n : Nat) | no
  deriving DecidableEq
structure Iq where
  src : Src
  m : Nat
  ts : List (Option Nat × Int)
def tval (p : Nat → Int) (t : Option Nat × Int) : Int := match t.1 with
  | none => t.2
  | some l => p l + t.2
def Iq.Sat (p : Nat → Int) (q : Iq) : Prop := ∃ t ∈ q.ts, p q.m ≤ tval p t
def SatAll (p : Nat → Int) (qs : List Iq) : Prop := ∀ q ∈ qs, q.Sat p
theorem SatAll.app {p : Nat → Int} {xs ys : List Iq} : SatAll p (xs ++ ys) ↔ SatAll p xs ∧ SatAll p ys := by
  unfold SatAll
  constructor
  · intro h; exact ⟨fun q hq => h q (List.mem_append_left _ hq), fun q hq => h q (List.mem_append_right _ hq)⟩
  · rintro ⟨h1, h2⟩ q hq
    exact (List.mem_append.mp hq).elim (h1 q) (h2 q)
theorem SatAll.nil {p : Nat → Int} : SatAll p [] := fun q hq => by cases hq
theorem SatAll.cons {p : Nat → Int} {q : Iq} {qs : List Iq} : SatAll p (q :: qs) ↔ q.Sat p ∧ SatAll p qs := by
  unfold SatAll; simp
@[simp] theorem sat1 {p : Nat → Int} {s : Src} {m l : Nat} {v : Int} : Iq.Sat p ⟨s, m, [(some l, v)]⟩ ↔ p m ≤ p l + v := by simp [Iq.Sat, tval]
@[simp] theorem sat0 {p : Nat → Int} {s : Src} {m : Nat} {v : Int} : Iq.Sat p ⟨s, m, [(none, v)]⟩ ↔ p m ≤ v := by simp [Iq.Sat, tval]
def isTl (tr : List Ev) (k : Nat) : Bool := (tr[k]?.map Ev.isT).getD false
/-- the tail calls after an event and before a moment -/
def tails (tr : List Ev) (a k : Nat) : List Nat := ((List.range (k - (a + 1))).map (a + 1 + ·)).filter (isTl tr)
theorem mem_tails {tr : List Ev} {a k l : Nat} : l ∈ tails tr a k ↔ a < l ∧ l < k ∧ isTl tr l = true := by
  unfold tails
  rw [List.mem_filter, List.mem_map]
  constructor
  · rintro ⟨⟨j, hj, rfl⟩, h⟩; have := List.mem_range.mp hj; exact ⟨by omega, by omega, h⟩
  · rintro ⟨h1, h2, h3⟩; exact ⟨⟨l - (a + 1), List.mem_range.mpr (by omega), by omega⟩, h3⟩
def upTo (a k : Nat) : List Nat := (List.range (k - a)).map (a + 1 + ·)
theorem mem_upTo {a k l : Nat} : l ∈ upTo a k ↔ a < l ∧ l ≤ k := by
  unfold upTo
  rw [List.mem_map]
  constructor
  · rintro ⟨j, hj, rfl⟩; have := List.mem_range.mp hj; omega
  · rintro ⟨h1, h2⟩; exact ⟨l - (a + 1), List.mem_range.mpr (by omega), by omega⟩
def qAct (tr : List Ev) (s : Src) (i k : Nat) : List Iq :=
  (upTo (evOf tr i) k).map (fun l => ⟨s, l, [(some (evOf tr i), cb tr l - (cb tr (evOf tr i) + 1 - b2i (isTl tr (evOf tr i))))]⟩) ++
  (tails tr (evOf tr i) k).map (fun l => ⟨s, l, [(some (evOf tr i), cb tr l - (cb tr (evOf tr i) + 1 - b2i (isTl tr (evOf tr i))) - 1)]⟩)
def qRet (tr : List Ev) (s : Src) (i k : Nat) : List Iq :=
  [⟨s, evOf tr i, (upTo (evOf tr i) k).map (fun l => (some l, cb tr (evOf tr i) - b2i (isTl tr (evOf tr i)) - cb tr l)) ++ (tails tr (evOf tr i) k).map (fun l => (some l, cb tr (evOf tr i) - b2i (isTl tr (evOf tr i)) + 1 - cb tr l))⟩]
def qNotDeep (tr : List Ev) (s : Src) (i k left : Nat) : List Iq :=
  [⟨s, evOf tr i, [(some left, cb tr (evOf tr i) + 1 - b2i (isTl tr (evOf tr i)) - cb tr k)]⟩]
def qInn (tr : List Ev) (s : Src) (i k : Nat) : List Iq := qAct tr s i k ++ qNotDeep tr s i k k
/-- the totals of a run of stacks -/
def tot (tr : List Ev) (S : Nat → List Int) (k : Nat) : Int := cb tr k - (S k).length
theorem Steps.tail_ne {tr : List Ev} {S : Nat → List Int} {n a : Nat} (h : Steps tr S n) (ha : a < n) (ht : isTl tr a = true) : 1 ≤ (S a).length := by
  obtain ⟨e, s', he, hA, _⟩ := h.st a ha
  unfold isTl at ht
  rw [he] at ht
  rcases after_form hA with ⟨_, h1, _⟩ | ⟨h1, _⟩
  · exact List.length_pos_iff.mpr (h1 ht)
  · cases e <;> simp [Ev.isT, Ev.cr] at ht h1
theorem isTl_of {tr : List Ev} {k : Nat} {e : Ev} (h : tr[k]? = some e) : isTl tr k = e.isT := by unfold isTl; rw [h]; rfl
theorem fpos_eq {tr : List Ev} {S : Nat → List Int} {n a : Nat} {e : Ev} (h : Steps tr S n) (ha : a < n) (he : tr[a]? = some e) : ((fpos S e a : Nat) : Int) = (S a).length - b2i (isTl tr a) := by
  unfold fpos
  rw [isTl_of he]
  by_cases hT : e.isT = true
  · have := h.tail_ne ha (by rw [isTl_of he]; exact hT)
    rw [if_pos hT, hT]; simp only [b2i, if_pos]; omega
  · rw [if_neg hT]; simp only [b2i, if_neg hT]; omega
/-- active, told by inequalities -/
theorem Steps.act_iff {tr : List Ev} {S : Nat → List Int} {n : Nat} (h : Steps tr S n) {i k : Nat} {s : Src} (hi : (i : Int) < cb tr k) (hk : k ≤ n) : SatAll (tot tr S) (qAct tr s i k) ↔ (i : Int) ∈ S k := by
  obtain ⟨e, he, hc, hcb, hlt, _⟩ := evOf_lt hi
  have hpos := fpos_eq h (show evOf tr i < n by omega) he
  have key : SatAll (tot tr S) (qAct tr s i k) ↔ Act tr (fun l => (S l).length) (evOf tr i) k (fpos S e (evOf tr i)) := by
    unfold qAct Act
    rw [SatAll.app]
    constructor
    · rintro ⟨h1, h2⟩
      refine ⟨fun l hl1 hl2 => ?_, fun l x hl1 hl2 hx hT => ?_⟩
      · have := h1 _ (List.mem_map.mpr ⟨l, mem_upTo.mpr ⟨hl1, hl2⟩, rfl⟩)
        simp only [sat1, tot] at this ⊢; omega
      · have := h2 _ (List.mem_map.mpr ⟨l, mem_tails.mpr ⟨hl1, hl2, by rw [isTl_of hx]; exact hT⟩, rfl⟩)
        simp only [sat1, tot] at this ⊢; omega
    · rintro ⟨h1, h2⟩
      refine ⟨fun q hq => ?_, fun q hq => ?_⟩
      · obtain ⟨l, hl, rfl⟩ := List.mem_map.mp hq
        obtain ⟨hl1, hl2⟩ := mem_upTo.mp hl
        have := h1 l hl1 hl2
        simp only [sat1, tot] at this ⊢; omega
      · obtain ⟨l, hl, rfl⟩ := List.mem_map.mp hq
        obtain ⟨hl1, hl2, hT⟩ := mem_tails.mp hl
        obtain ⟨x, _, hx, _⟩ := h.st l (by omega)
        have := h2 l x hl1 hl2 hx (by rw [isTl_of hx] at hT; exact hT)
        simp only [sat1, tot] at this ⊢; omega
  rw [key]
  rcases h.frame he hc k hlt hk with ⟨h1, h2⟩ | ⟨h1, h2⟩
  · rw [hcb] at h2
    exact ⟨fun _ => List.mem_of_getElem? h2, fun _ => h1⟩
  · rw [hcb] at h2
    exact ⟨fun z => absurd z h1, fun z => absurd z h2⟩
theorem Steps.at_pos {tr : List Ev} {S : Nat → List Int} {n : Nat} (h : Steps tr S n) {i k : Nat} (hi : (i : Int) < cb tr k) (hk : k ≤ n) (hm : (i : Int) ∈ S k) :
    ∃ q : Nat, (S k)[q]? = some (i : Int) ∧ (q : Int) = (S (evOf tr i)).length - b2i (isTl tr (evOf tr i)) := by
  obtain ⟨e, he, hc, hcb, hlt, _⟩ := evOf_lt hi
  have hpos := fpos_eq h (show evOf tr i < n by omega) he
  rcases h.frame he hc k hlt hk with ⟨h1, h2⟩ | ⟨h1, h2⟩
  · rw [hcb] at h2; exact ⟨_, h2, hpos⟩
  · rw [hcb] at h2; exact absurd hm h2
/-- returned -/
theorem Steps.ret_iff {tr : List Ev} {S : Nat → List Int} {n : Nat} (h : Steps tr S n) {i k : Nat} {s : Src} (hi : (i : Int) < cb tr k) (hk : k ≤ n) : SatAll (tot tr S) (qRet tr s i k) ↔ (i : Int) ∉ S k := by
  rw [← h.act_iff (s := s) hi hk]
  unfold qRet qAct
  rw [SatAll.app]
  simp only [SatAll.cons, SatAll.nil, and_true, Iq.Sat, List.mem_append, List.mem_map]
  constructor
  · rintro ⟨t, ht, hle⟩ ⟨h1, h2⟩
    rcases ht with ⟨l, hl, rfl⟩ | ⟨l, hl, rfl⟩
    · have := h1 _ (List.mem_map.mpr ⟨l, hl, rfl⟩)
      simp only [sat1, tval] at this hle; omega
    · have := h2 _ (List.mem_map.mpr ⟨l, hl, rfl⟩)
      simp only [sat1, tval] at this hle; omega
  · intro hn
    refine Classical.byContradiction fun hno => hn ⟨fun q hq => ?_, fun q hq => ?_⟩
    · obtain ⟨l, hl, rfl⟩ := List.mem_map.mp hq
      rw [sat1]
      refine Classical.byContradiction fun hc => hno ⟨_, .inl ⟨l, hl, rfl⟩, ?_⟩
      simp only [tval]; omega
    · obtain ⟨l, hl, rfl⟩ := List.mem_map.mp hq
      rw [sat1]
      refine Classical.byContradiction fun hc => hno ⟨_, .inr ⟨l, hl, rfl⟩, ?_⟩
      simp only [tval]; omega
/-- innermost -/
theorem Steps.inn_iff {tr : List Ev} {S : Nat → List Int} {n : Nat} (h : Steps tr S n) {i k : Nat} {s : Src} (hi : (i : Int) < cb tr k) (hk : k ≤ n) : SatAll (tot tr S) (qInn tr s i k) ↔ (S k).getLast? = some (i : Int) := by
  unfold qInn qNotDeep
  rw [SatAll.app, h.act_iff (s := s) hi hk]
  simp only [SatAll.cons, SatAll.nil, and_true, sat1, tot]
  constructor
  · rintro ⟨h1, h2⟩
    obtain ⟨q, hq, hq2⟩ := h.at_pos hi hk h1
    obtain ⟨h3, h4⟩ := List.getElem?_eq_some_iff.mp hq
    rw [List.getLast?_eq_getElem?]
    have : (S k).length - 1 = q := by omega
    rw [this]; exact hq
  · intro hL
    have hm : (i : Int) ∈ S k := List.mem_of_getLast? hL
    refine ⟨hm, ?_⟩
    obtain ⟨q, hq, hq2⟩ := h.at_pos hi hk hm
    obtain ⟨h3, h4⟩ := List.getElem?_eq_some_iff.mp hq
    rw [List.getLast?_eq_getElem?] at hL
    obtain ⟨h5, h6⟩ := List.getElem?_eq_some_iff.mp hL
    have hp := (h.inc k hk).p
    have : ¬ q < (S k).length - 1 := fun z => by
      have := List.pairwise_iff_getElem.mp hp q ((S k).length - 1) h3 h5 z
      omega
    omega
end Th
end

section
set_option Elab.async false
set_option linter.all false
set_option maxRecDepth 100000
namespace Th
open PySem
/-! the inequalities of a trace -/
def isTE : Ev → Bool
  | .tai _ => true
  | .exi _ => true
  | _ => false
def qEvR (tr : List Ev) (k : Nat) : Ev → List Iq
  | .tai _ => [⟨.ev k, k, [(none, cb tr k - 1)]⟩]
  | .exi f => qInn tr (.ev k) f.toNat k
  | .cat f => qAct tr (.ev k) f.toNat k ++ qNotDeep tr (.ev k) f.toNat k (k + 1)
  | _ => []
def qEv (tr : List Ev) (k : Nat) (e : Ev) : List Iq := ⟨.ev k, k, [(some (k + 1), 0 - b2i (isTE e))]⟩ :: qEvR tr k e
def qTrace (tr : List Ev) : List Iq := tr.zipIdx.flatMap fun p => qEv tr p.2 p.1
theorem mem_zipIdx0 {α : Type} {xs : List α} {x : α} {k : Nat} : (x, k) ∈ xs.zipIdx ↔ xs[k]? = some x := by
  rw [List.mem_zipIdx_iff_getElem?]
theorem satTrace {tr : List Ev} {p : Nat → Int} : SatAll p (qTrace tr) ↔ ∀ k e, tr[k]? = some e → SatAll p (qEv tr k e) := by
  unfold qTrace
  constructor
  · intro h k e he q hq
    exact h q (List.mem_flatMap.mpr ⟨(e, k), mem_zipIdx0.mpr he, hq⟩)
  · intro h q hq
    obtain ⟨⟨e, k⟩, h1, h2⟩ := List.mem_flatMap.mp hq
    exact h k e (mem_zipIdx0.mp h1) q h2
/-- exits and catches name frames that are there -/
def FrOk (tr : List Ev) : Prop := ∀ k f, (tr[k]? = some (.exi f) ∨ tr[k]? = some (.cat f)) → 0 ≤ f ∧ f < cb tr k
theorem idx_pos {s : List Int} {x : Int} {q : Nat} (hp : s.Pairwise (· < ·)) (h : s[q]? = some x) : s.idxOf x = q := by
  obtain ⟨h1, h2⟩ := List.getElem?_eq_some_iff.mp h
  have hm : x ∈ s := List.mem_of_getElem? h
  have h3 : s.idxOf x < s.length := List.idxOf_lt_length_of_mem hm
  have h4 : s[s.idxOf x] = x := List.getElem_idxOf h3
  rcases Nat.lt_trichotomy (s.idxOf x) q with z | z | z
  · have := List.pairwise_iff_getElem.mp hp _ _ h3 h1 z; omega
  · exact z
  · have := List.pairwise_iff_getElem.mp hp _ _ h1 h3 z; omega
theorem toNat_lt {f c : Int} (h : 0 ≤ f ∧ f < c) : ((f.toNat : Nat) : Int) < c := by omega
theorem toNat_eq {f : Int} (h : 0 ≤ f) : ((f.toNat : Nat) : Int) = f := by omega
/-- what a run of stacks keeps -/
theorem Steps.trace {tr : List Ev} {S : Nat → List Int} (h : Steps tr S tr.length) (hf : FrOk tr) : SatAll (tot tr S) (qTrace tr) := by
  rw [satTrace]
  intro k e he
  have hk : k < tr.length := (List.getElem?_eq_some_iff.mp he).1
  obtain ⟨e', s', he', hA, hp⟩ := h.st k hk
  rw [he] at he'; cases he'
  have hcb := cb_succ he
  have hl := hp.length_le
  have hI := h.inc k (by omega)
  cases e with
  | ent n =>
    simp only [after, Option.some.injEq] at hA; subst hA
    simp only [qEv, qEvR, SatAll.cons, SatAll.nil, and_true, sat1, tot, isTE, b2i, Ev.cr] at hcb ⊢
    simp at hl hcb ⊢; omega
  | tai n =>
    simp only [after] at hA
    split at hA
    · cases hA
    · rename_i hne
      simp only [Option.some.injEq] at hA; subst hA
      have hpos : 0 < (S k).length := List.length_pos_iff.mpr hne
      simp only [qEv, qEvR, SatAll.cons, SatAll.nil, and_true, sat1, sat0, tot, isTE, b2i, Ev.cr] at hcb ⊢
      simp at hl hcb ⊢; omega
  | exi f =>
    simp only [after] at hA
    split at hA
    · rename_i hL
      simp only [Option.some.injEq] at hA; subst hA
      have hfo := hf k f (.inl he)
      have hne : S k ≠ [] := fun z => by rw [z] at hL; cases hL
      have hpos : 0 < (S k).length := List.length_pos_iff.mpr hne
      refine SatAll.cons.mpr ⟨?_, ?_⟩
      · simp only [sat1, tot, isTE, b2i, Ev.cr] at hcb ⊢
        simp at hl hcb ⊢; omega
      · exact (h.inn_iff (toNat_lt hfo) (by omega)).mpr (by rw [toNat_eq hfo.1]; exact hL)
    · cases hA
  | cat f =>
    simp only [after] at hA
    split at hA
    · rename_i hm
      simp only [Option.some.injEq] at hA; subst hA
      have hfo := hf k f (.inr he)
      have hm2 : ((f.toNat : Nat) : Int) ∈ S k := by rw [toNat_eq hfo.1]; exact hm
      obtain ⟨q, hq, hq2⟩ := h.at_pos (toNat_lt hfo) (by omega) hm2
      rw [toNat_eq hfo.1] at hq
      rw [idx_pos hI.p hq] at hl
      refine SatAll.cons.mpr ⟨?_, SatAll.app.mpr ⟨(h.act_iff (toNat_lt hfo) (by omega)).mpr hm2, ?_⟩⟩
      · simp only [sat1, tot, isTE, b2i, Ev.cr] at hcb ⊢
        simp at hl hcb ⊢; omega
      · simp only [qNotDeep, SatAll.cons, SatAll.nil, and_true, sat1, tot]
        simp [b2i, Ev.cr] at hcb
        simp at hl; omega
    · cases hA
  | mar =>
    simp only [after, Option.some.injEq] at hA; subst hA
    simp only [qEv, qEvR, SatAll.cons, SatAll.nil, and_true, sat1, tot, isTE, b2i, Ev.cr] at hcb ⊢
    simp at hl hcb ⊢; omega
theorem Iq.Sat.congr {p p' : Nat → Int} {q : Iq} (hm : p q.m = p' q.m) (ht : ∀ t ∈ q.ts, ∀ l, t.1 = some l → p l = p' l) (h : q.Sat p) : q.Sat p' := by
  obtain ⟨t, h1, h2⟩ := h
  refine ⟨t, h1, ?_⟩
  have : tval p t = tval p' t := by
    unfold tval
    cases e : t.1 with
    | none => rfl
    | some l => simp only []; rw [ht t h1 l e]
  omega
theorem qAct_congr {tr : List Ev} {s : Src} {i k : Nat} {p p' : Nat → Int} (ha : evOf tr i ≤ k) (h : ∀ l, l ≤ k → p l = p' l) (hs : SatAll p (qAct tr s i k)) : SatAll p' (qAct tr s i k) := by
  intro q hq
  refine (hs q hq).congr ?_ ?_
  · rcases List.mem_append.mp hq with hq | hq
    · obtain ⟨l, hl, rfl⟩ := List.mem_map.mp hq; exact h l (mem_upTo.mp hl).2
    · obtain ⟨l, hl, rfl⟩ := List.mem_map.mp hq; exact h l (by have := (mem_tails.mp hl).2.1; omega)
  · rcases List.mem_append.mp hq with hq | hq
    · obtain ⟨l, hl, rfl⟩ := List.mem_map.mp hq
      intro t ht j hj
      simp only [List.mem_singleton] at ht; subst ht; cases hj
      exact h _ ha
    · obtain ⟨l, hl, rfl⟩ := List.mem_map.mp hq
      intro t ht j hj
      simp only [List.mem_singleton] at ht; subst ht; cases hj
      exact h _ ha
/-! a run of stacks out of totals -/
def mkS (tr : List Ev) (p : Nat → Int) : Nat → List Int
  | 0 => []
  | k + 1 => (((tr[k]?).bind fun e => after (mkS tr p k) (cb tr k) e).getD []).take (cb tr (k + 1) - p (k + 1)).toNat
theorem mkS_ok {tr : List Ev} {p : Nat → Int} (hf : FrOk tr) (hb : ∀ k, k ≤ tr.length → 0 ≤ p k ∧ p k ≤ cb tr k) (hs : SatAll p (qTrace tr)) :
    ∀ m, m ≤ tr.length → Steps tr (mkS tr p) m ∧ ∀ k, k ≤ m → tot tr (mkS tr p) k = p k
  | 0, _ => by
    refine ⟨⟨rfl, fun k hk => by omega⟩, fun k hk => ?_⟩
    have : k = 0 := by omega
    subst this
    have := hb 0 (by omega)
    simp only [tot, mkS, cb_zero, List.length_nil] at this ⊢; omega
  | m + 1, hm => by
    obtain ⟨hS, hT⟩ := mkS_ok hf hb hs m (by omega)
    have hlt : m < tr.length := by omega
    have he : tr[m]? = some tr[m] := List.getElem?_eq_getElem hlt
    generalize tr[m] = e at he
    have hse := satTrace.mp hs m e he
    obtain ⟨h1, h2⟩ := SatAll.cons.mp hse
    have hcb := cb_succ he
    have hp1 := hb (m + 1) hm
    have hTm := hT m (Nat.le_refl _)
    have hI := hS.inc m (Nat.le_refl _)
    have key : ∃ s', after (mkS tr p m) (cb tr m) e = some s' ∧ cb tr (m + 1) - p (m + 1) ≤ s'.length := by
      simp only [sat1, tot] at h1 hTm
      cases e with
      | ent n =>
        refine ⟨_, rfl, ?_⟩
        simp [isTE, b2i, Ev.cr] at h1 hcb ⊢; omega
      | tai n =>
        simp only [qEvR, SatAll.cons, SatAll.nil, and_true, sat0] at h2
        have hne : mkS tr p m ≠ [] := fun z => by rw [z] at hTm; simp at hTm; omega
        refine ⟨_, by simp only [after, if_neg hne]; rfl, ?_⟩
        have hpos : 0 < (mkS tr p m).length := List.length_pos_iff.mpr hne
        simp [isTE, b2i, Ev.cr] at h1 hcb ⊢; omega
      | exi f =>
        have hfo := hf m f (.inl he)
        obtain ⟨e0, _, _, _, hlt0, _⟩ := evOf_lt (toNat_lt hfo)
        have h3 : SatAll (tot tr (mkS tr p)) (qInn tr (.ev m) f.toNat m) := by
          obtain ⟨a1, a2⟩ := SatAll.app.mp h2
          refine SatAll.app.mpr ⟨qAct_congr (by omega) (fun l hl => (hT l hl).symm) a1, ?_⟩
          simp only [qNotDeep, SatAll.cons, SatAll.nil, and_true, sat1] at a2 ⊢
          rw [hT _ (by omega), hT m (by omega)]; exact a2
        have hL := (hS.inn_iff (toNat_lt hfo) (Nat.le_refl _)).mp h3
        rw [toNat_eq hfo.1] at hL
        refine ⟨_, by simp only [after, if_pos hL]; rfl, ?_⟩
        have hne : mkS tr p m ≠ [] := fun z => by rw [z] at hL; cases hL
        have hpos : 0 < (mkS tr p m).length := List.length_pos_iff.mpr hne
        simp [isTE, b2i, Ev.cr] at h1 hcb ⊢; omega
      | cat f =>
        have hfo := hf m f (.inr he)
        obtain ⟨e0, _, _, _, hlt0, _⟩ := evOf_lt (toNat_lt hfo)
        obtain ⟨a1, a2⟩ := SatAll.app.mp h2
        have hm3 := (hS.act_iff (toNat_lt hfo) (Nat.le_refl _)).mp (qAct_congr (by omega) (fun l hl => (hT l hl).symm) a1)
        obtain ⟨q, hq, hq2⟩ := hS.at_pos (toNat_lt hfo) (Nat.le_refl _) hm3
        rw [toNat_eq hfo.1] at hq hm3
        have hqx := idx_pos hI.p hq
        refine ⟨_, by simp only [after, if_pos hm3]; rfl, ?_⟩
        simp only [qNotDeep, SatAll.cons, SatAll.nil, and_true, sat1] at a2
        have hTa := hT (evOf tr f.toNat) (by omega)
        simp only [tot] at hTa
        obtain ⟨hq3, _⟩ := List.getElem?_eq_some_iff.mp hq
        simp only [List.length_take, hqx]
        simp [b2i, Ev.cr] at hcb
        omega
      | mar =>
        refine ⟨_, rfl, ?_⟩
        simp [isTE, b2i, Ev.cr] at h1 hcb ⊢; omega
    obtain ⟨s', hA, hlen⟩ := key
    have hmk : mkS tr p (m + 1) = s'.take (cb tr (m + 1) - p (m + 1)).toNat := by
      simp only [mkS, he, Option.bind_some, hA, Option.getD_some]
    refine ⟨⟨rfl, fun k hk => ?_⟩, fun k hk => ?_⟩
    · by_cases hkm : k = m
      · subst hkm
        exact ⟨e, s', he, hA, by rw [hmk]; exact List.take_prefix _ _⟩
      · exact hS.st k (by omega)
    · by_cases hkm : k = m + 1
      · subst hkm
        simp only [tot, hmk, List.length_take]; omega
      · exact hT k (by omega)
end Th
end

section
set_option Elab.async false
set_option linter.all false
set_option maxRecDepth 100000
namespace Th
open PySem
/-! completions and runs of stacks -/
/-- a completion that is valid, with its stacks -/
structure CoOk (tr : List Ev) (co : List Int) (rs : List (List Int)) : Prop where
  len : co.length = tr.length + 1
  rng : ∀ l ∈ co, 0 ≤ l ∧ l ≤ 10
  rows : rowsGo tr co [] 0 = some rs
structure Chain (tr : List Ev) (c : Int) (s : List Int) (S : Nat → List Int) : Prop where
  z : S 0 <+: s
  st : ∀ k, k < tr.length → ∃ e s', tr[k]? = some e ∧ after (S k) (c + cb tr k) e = some s' ∧ S (k + 1) <+: s'
theorem cb_cons (e : Ev) (tr : List Ev) (k : Nat) : cb (e :: tr) (k + 1) = b2i e.cr + cb tr k := by
  unfold cb
  rw [List.take_succ_cons, created_cons]
  cases e.cr <;> simp [b2i]
theorem rows_chain : ∀ {tr : List Ev} {co s : List Int} {c : Int} {rs : List (List Int)}, rowsGo tr co s c = some rs → co.length = tr.length + 1 → Chain tr c s (fun k => rs[k]?.getD [])
  | [], [], s, c, rs, h, hn => by simp at hn
  | [], l :: co, s, c, rs, h, hn => by
    simp only [rowsGo] at h
    split at h
    · cases h
    · obtain ⟨rs', h1, rfl⟩ := Option.map_eq_some_iff.mp h
      exact ⟨by simpa using List.take_prefix _ s, fun k hk => by simp at hk⟩
  | e :: tr, [], s, c, rs, h, hn => by simp at hn
  | e :: tr, l :: co, s, c, rs, h, hn => by
    simp only [rowsGo] at h
    split at h
    · cases h
    · split at h
      · cases h
      · rename_i s2 hA
        obtain ⟨rs', h1, rfl⟩ := Option.map_eq_some_iff.mp h
        have ih := rows_chain h1 (by simpa using hn)
        refine ⟨by simpa using List.take_prefix _ s, fun k hk => ?_⟩
        cases k with
        | zero =>
          refine ⟨e, s2, rfl, ?_, ?_⟩
          · simp only [cb_zero, Int.add_zero]; simpa using hA
          · simpa using ih.z
        | succ k =>
          obtain ⟨x, s', h2, h3, h4⟩ := ih.st k (by simpa using hk)
          refine ⟨x, s', by simpa using h2, ?_, ?_⟩
          · rw [cb_cons, ← Int.add_assoc]; simpa using h3
          · simpa using h4
theorem CoOk.steps {tr : List Ev} {co : List Int} {rs : List (List Int)} (h : CoOk tr co rs) : Steps tr (fun k => rs[k]?.getD []) tr.length := by
  have hc := rows_chain h.rows h.len
  refine ⟨?_, fun k hk => ?_⟩
  · exact List.prefix_nil.mp hc.z
  · obtain ⟨e, s', h1, h2, h3⟩ := hc.st k hk
    exact ⟨e, s', h1, by simpa using h2, h3⟩
theorem chain_rows : ∀ {tr : List Ev} {s : List Int} {c : Int} {S : Nat → List Int}, Inc s c → 0 ≤ c → c + created tr ≤ 10 → Chain tr c s S →
    ∃ co, co.length = tr.length + 1 ∧ (∀ l ∈ co, 0 ≤ l ∧ l ≤ 10) ∧ rowsGo tr co s c = some ((List.range (tr.length + 1)).map S)
  | tr, s, c, S, hi, hc, hm, h => by
    have hz := h.z.length_le
    have hs := hi.len hc
    have hlt : ¬ (s.length : Int) < (s.length : Int) - (S 0).length := by omega
    have htk : s.take ((s.length : Int) - ((s.length : Int) - (S 0).length)).toNat = S 0 := by
      rw [List.prefix_iff_eq_take.mp h.z]
      have : ((s.length : Int) - ((s.length : Int) - ((s.take (S 0).length).length))).toNat = (S 0).length := by rw [List.length_take]; omega
      rw [this]
    cases tr with
    | nil =>
      refine ⟨[(s.length : Int) - (S 0).length], rfl, fun l hl => ?_, ?_⟩
      · rw [List.mem_singleton.mp hl]; omega
      · simp only [rowsGo, if_neg hlt, htk]; rfl
    | cons e tr =>
      obtain ⟨x, s', h1, h2, h3⟩ := h.st 0 (by simp)
      simp only [List.getElem?_cons_zero, Option.some.injEq] at h1; subst h1
      simp only [cb_zero, Int.add_zero] at h2
      have hi0 : Inc (S 0) c := hi.pre h.z
      have hi2 := after_inc hi0 hc h2
      have hcr : (created (e :: tr) : Int) = b2i e.cr + created tr := by
        rw [created_cons]; cases e.cr <;> simp [b2i]
      have hch : Chain tr (c + b2i e.cr) s' (fun k => S (k + 1)) := by
        refine ⟨h3, fun k hk => ?_⟩
        obtain ⟨y, s2, g1, g2, g3⟩ := h.st (k + 1) (by simpa using hk)
        refine ⟨y, s2, by simpa using g1, ?_, g3⟩
        rw [cb_cons, ← Int.add_assoc] at g2; exact g2
      obtain ⟨co, c1, c2, c3⟩ := chain_rows hi2.1 hi2.2 (by omega) hch
      refine ⟨((s.length : Int) - (S 0).length) :: co, by simp [c1], fun l hl => ?_, ?_⟩
      · rcases List.mem_cons.mp hl with rfl | hl
        · omega
        · exact c2 l hl
      · simp only [rowsGo, if_neg hlt, htk, h2, c3]
        have er : ∀ m : Nat, (List.range (m + 1)).map S = S 0 :: (List.range m).map (fun k => S (k + 1)) := fun m => by
          rw [List.range_succ_eq_map, List.map_cons, List.map_map]; rfl
        rw [List.length_cons, er (tr.length + 1), Option.map_some]
theorem Steps.co {tr : List Ev} {S : Nat → List Int} (h : Steps tr S tr.length) (hm : created tr ≤ 10) : ∃ co, CoOk tr co ((List.range (tr.length + 1)).map S) := by
  have hch : Chain tr 0 [] S := ⟨by rw [h.z]; exact List.prefix_refl _, fun k hk => by
    obtain ⟨e, s', h1, h2, h3⟩ := h.st k hk
    exact ⟨e, s', h1, by simpa using h2, h3⟩⟩
  obtain ⟨co, h1, h2, h3⟩ := chain_rows Inc.nil (by omega) (by omega) hch
  exact ⟨co, h1, h2, h3⟩
/-- the totals, by moment -/
def totF (tr : List Ev) (rs : List (List Int)) (k : Nat) : Int := cb tr k - ((rs[k]?.getD []).length : Int)
theorem cbs_cb (tr : List Ev) {k : Nat} (h : k ≤ tr.length) : (cbs 0 tr)[k]? = some (cb tr k) := by
  rw [cbs_get tr 0 k h]; simp [cb]
theorem tots_get {tr : List Ev} {rs : List (List Int)} (h : rs.length = tr.length + 1) {k : Nat} (hk : k ≤ tr.length) : (tots (cbs 0 tr) rs)[k]? = some (totF tr rs k) := by
  have hk2 : k < rs.length := by omega
  unfold tots
  rw [List.getElem?_map, List.getElem?_zip_eq_some (z := (cb tr k, rs[k])).mpr ⟨cbs_cb tr hk, List.getElem?_eq_getElem hk2⟩]
  simp [totF, List.getElem?_eq_getElem hk2]
theorem tots_len {tr : List Ev} {rs : List (List Int)} (h : rs.length = tr.length + 1) : (tots (cbs 0 tr) rs).length = tr.length + 1 := by
  unfold tots; simp [cbs_len, h]
theorem CoOk.rlen {tr : List Ev} {co : List Int} {rs : List (List Int)} (h : CoOk tr co rs) : rs.length = tr.length + 1 := by rw [rows_len h.rows, h.len]
theorem CoOk.bounds {tr : List Ev} {co : List Int} {rs : List (List Int)} (h : CoOk tr co rs) {k : Nat} (hk : k ≤ tr.length) : 0 ≤ totF tr rs k ∧ totF tr rs k ≤ cb tr k := by
  have h1 := (h.steps.inc k hk).len (cb_nn tr k)
  unfold totF
  omega
theorem CoOk.sat {tr : List Ev} {co : List Int} {rs : List (List Int)} (h : CoOk tr co rs) (hf : FrOk tr) : SatAll (totF tr rs) (qTrace tr) := h.steps.trace hf
/-- totals that keep the inequalities are those of a completion -/
theorem co_of_sat {tr : List Ev} {p : Nat → Int} (hf : FrOk tr) (hm : created tr ≤ 10) (hb : ∀ k, k ≤ tr.length → 0 ≤ p k ∧ p k ≤ cb tr k) (hs : SatAll p (qTrace tr)) : ∃ co rs, CoOk tr co rs ∧ ∀ k, k ≤ tr.length → totF tr rs k = p k := by
  obtain ⟨h1, h2⟩ := mkS_ok hf hb hs tr.length (Nat.le_refl _)
  obtain ⟨co, h3⟩ := h1.co hm
  refine ⟨co, _, h3, fun k hk => ?_⟩
  rw [← h2 k hk]
  unfold totF tot
  rw [List.getElem?_map, List.getElem?_range (by omega)]; rfl
/-- a list of totals that keep the inequalities: with_totals finds the completion -/
theorem wt_of_sat {tr : List Ev} {ns : List Int} (hf : FrOk tr) (hm : created tr ≤ 10) (hn : ns.length = tr.length + 1) (hb : ∀ k, k ≤ tr.length → 0 ≤ ns[k]?.getD 0 ∧ ns[k]?.getD 0 ≤ cb tr k) (hs : SatAll (fun k => ns[k]?.getD 0) (qTrace tr)) :
    ∃ co rs, CoOk tr co rs ∧ wtGo tr ns [] 0 = some co ∧ tots (cbs 0 tr) rs = ns := by
  obtain ⟨co, rs, h1, h2⟩ := co_of_sat hf hm hb hs
  have e : tots (cbs 0 tr) rs = ns := by
    apply List.ext_getElem?
    intro k
    by_cases hk : k ≤ tr.length
    · rw [tots_get h1.rlen hk, h2 k hk, List.getElem?_eq_getElem (by omega)]; rfl
    · rw [List.getElem?_eq_none (by rw [tots_len h1.rlen]; omega), List.getElem?_eq_none (by omega)]
  refine ⟨co, rs, h1, ?_, e⟩
  rw [← e]
  exact wt_tots h1.rows (fun l hl => (h1.rng l hl).1) (by have := h1.len; omega)
/-- a completion is told by its totals -/
theorem CoOk.inj {tr : List Ev} {co co' : List Int} {rs rs' : List (List Int)} (h : CoOk tr co rs) (h' : CoOk tr co' rs') (e : ∀ k, k ≤ tr.length → totF tr rs k = totF tr rs' k) : co = co' ∧ rs = rs' := by
  have e1 : tots (cbs 0 tr) rs = tots (cbs 0 tr) rs' := by
    apply List.ext_getElem?
    intro k
    by_cases hk : k ≤ tr.length
    · rw [tots_get h.rlen hk, tots_get h'.rlen hk, e k hk]
    · rw [List.getElem?_eq_none (by rw [tots_len h.rlen]; omega), List.getElem?_eq_none (by rw [tots_len h'.rlen]; omega)]
  have w1 := wt_tots h.rows (fun l hl => (h.rng l hl).1) (by have := h.len; omega)
  have w2 := wt_tots h'.rows (fun l hl => (h'.rng l hl).1) (by have := h'.len; omega)
  rw [e1, w2] at w1
  cases w1
  refine ⟨rfl, ?_⟩
  have := h.rows.symm.trans h'.rows
  cases this; rfl
end Th
end

section
set_option Elab.async false
set_option linter.all false
set_option maxRecDepth 100000
namespace Th
open PySem
/-! facts -/
inductive Fact where
  | depth (k : Nat) (lo hi : Int)
  | act (i k : Nat) | ret (i k : Nat) | inn (i k : Nat)
  | rets (j k : Nat) (lo hi : Int)
  | deep (j k : Nat) (b : Int)
  | stk (k : Nat) (fs : List Int)
  deriving DecidableEq
def FrameAt (tr : List Ev) (i k : Nat) : Prop := i < (crIdx tr).length ∧ k ≤ tr.length ∧ evOf tr i < k
def FactOk (tr : List Ev) : Fact → Prop
  | .depth k lo hi => k ≤ tr.length ∧ 0 ≤ lo ∧ lo ≤ hi ∧ hi ≤ 10
  | .act i k => FrameAt tr i k
  | .ret i k => FrameAt tr i k
  | .inn i k => FrameAt tr i k
  | .rets j k lo hi => j < k ∧ k ≤ tr.length ∧ 0 ≤ lo ∧ lo ≤ hi ∧ hi ≤ 10
  | .deep j k b => j ≤ tr.length ∧ k ≤ tr.length ∧ j ≠ k ∧ -10 ≤ b ∧ b ≤ 10
  | .stk k fs => k ≤ tr.length ∧ Inc fs (cb tr k)
/-- the stack at a moment -/
def rw (rs : List (List Int)) (k : Nat) : List Int := rs[k]?.getD []
def Holds (tr : List Ev) (rs : List (List Int)) : Fact → Prop
  | .depth k lo hi => lo ≤ (rw rs k).length ∧ ((rw rs k).length : Int) ≤ hi
  | .act i k => (i : Int) ∈ rw rs k
  | .ret i k => (i : Int) ∉ rw rs k
  | .inn i k => (rw rs k).getLast? = some (i : Int)
  | .rets j k lo hi => lo ≤ totF tr rs k - totF tr rs j ∧ totF tr rs k - totF tr rs j ≤ hi
  | .deep j k b => ((rw rs j).length : Int) ≥ (rw rs k).length + b
  | .stk k fs => rw rs k = fs
instance (tr : List Ev) (rs : List (List Int)) : (f : Fact) → Decidable (Holds tr rs f)
  | .depth k lo hi => by unfold Holds; infer_instance
  | .act i k => by unfold Holds; infer_instance
  | .ret i k => by unfold Holds; infer_instance
  | .inn i k => by unfold Holds; infer_instance
  | .rets j k lo hi => by unfold Holds; infer_instance
  | .deep j k b => by unfold Holds; infer_instance
  | .stk k fs => by unfold Holds; infer_instance
def qStk (tr : List Ev) (s : Src) (k : Nat) (fs : List Int) : List Iq := (List.range (cb tr k).toNat).flatMap fun (i : Nat) => if (i : Int) ∈ fs then qAct tr s i k else qRet tr s i k
def qFact (tr : List Ev) (s : Src) : Fact → List Iq
  | .act i k => qAct tr s i k
  | .ret i k => qRet tr s i k
  | .inn i k => qInn tr s i k
  | .stk k fs => qStk tr s k fs
  | .depth k lo hi => [⟨s, k, [(none, cb tr k - lo)]⟩, ⟨s, 0, [(some k, hi - cb tr k)]⟩]
  | .deep j k b => [⟨s, j, [(some k, cb tr j - cb tr k - b)]⟩]
  | .rets j k lo hi => [⟨s, k, [(some j, hi)]⟩, ⟨s, j, [(some k, 0 - lo)]⟩]
def qFacts (tr : List Ev) (fs : List Fact) : List Iq := fs.zipIdx.flatMap fun p => qFact tr (.fa p.2) p.1
/-- the frame is there -/
theorem FrameAt.lt {tr : List Ev} {i k : Nat} (h : FrameAt tr i k) : (i : Int) < cb tr k := evOf_before h.1 h.2.2
theorem rw_inc {tr : List Ev} {co : List Int} {rs : List (List Int)} (h : CoOk tr co rs) {k : Nat} (hk : k ≤ tr.length) : Inc (rw rs k) (cb tr k) := h.steps.inc k hk
theorem totF_rw (tr : List Ev) (rs : List (List Int)) (k : Nat) : totF tr rs k = cb tr k - ((rw rs k).length : Int) := rfl
theorem totF_zero {tr : List Ev} {co : List Int} {rs : List (List Int)} (h : CoOk tr co rs) : totF tr rs 0 = 0 := by
  have := h.bounds (Nat.zero_le _)
  rw [cb_zero] at this; omega
/-- ascending lists with the same members are the same -/
theorem inc_ext : ∀ {s t : List Int}, s.Pairwise (· < ·) → t.Pairwise (· < ·) → (∀ x, x ∈ s ↔ x ∈ t) → s = t
  | [], [], _, _, _ => rfl
  | [], y :: t, _, _, h => absurd ((h y).mpr (List.mem_cons_self ..)) (by simp)
  | x :: s, [], _, _, h => absurd ((h x).mp (List.mem_cons_self ..)) (by simp)
  | x :: s, y :: t, hs, ht, h => by
    rw [List.pairwise_cons] at hs ht
    have e : x = y := by
      rcases List.mem_cons.mp ((h x).mp (List.mem_cons_self ..)) with e | e
      · exact e
      · rcases List.mem_cons.mp ((h y).mpr (List.mem_cons_self ..)) with e2 | e2
        · exact e2.symm
        · have := ht.1 x e; have := hs.1 y e2; omega
    subst e
    congr 1
    refine inc_ext hs.2 ht.2 fun z => ⟨fun hz => ?_, fun hz => ?_⟩
    · rcases List.mem_cons.mp ((h z).mp (List.mem_cons_of_mem _ hz)) with e | e
      · have := hs.1 z hz; omega
      · exact e
    · rcases List.mem_cons.mp ((h z).mpr (List.mem_cons_of_mem _ hz)) with e | e
      · have := ht.1 z hz; omega
      · exact e
theorem satStk {p : Nat → Int} {tr : List Ev} {s : Src} {k : Nat} {fs : List Int} : SatAll p (qStk tr s k fs) ↔ ∀ i : Nat, (i : Int) < cb tr k → SatAll p (if (i : Int) ∈ fs then qAct tr s i k else qRet tr s i k) := by
  unfold qStk
  constructor
  · intro h i hi q hq
    exact h q (List.mem_flatMap.mpr ⟨i, List.mem_range.mpr (by omega), hq⟩)
  · intro h q hq
    obtain ⟨i, hi, hq⟩ := List.mem_flatMap.mp hq
    exact h i (by have := List.mem_range.mp hi; omega) q hq
theorem fact_iff {tr : List Ev} {co : List Int} {rs : List (List Int)} (h : CoOk tr co rs) {s : Src} : ∀ {f : Fact}, FactOk tr f → (SatAll (totF tr rs) (qFact tr s f) ↔ Holds tr rs f)
  | .act i k, hf => h.steps.act_iff hf.lt hf.2.1
  | .ret i k, hf => h.steps.ret_iff hf.lt hf.2.1
  | .inn i k, hf => h.steps.inn_iff hf.lt hf.2.1
  | .depth k lo hi, hf => by
    have h0 := totF_zero h
    simp only [qFact, SatAll.cons, SatAll.nil, and_true, sat0, sat1, h0, Holds, totF_rw tr rs k]
    omega
  | .deep j k b, hf => by
    simp only [qFact, SatAll.cons, SatAll.nil, and_true, sat1, Holds, totF_rw]
    omega
  | .rets j k lo hi, hf => by
    simp only [qFact, SatAll.cons, SatAll.nil, and_true, sat1, Holds]
    omega
  | .stk k fs, hf => by
    have hi := rw_inc h hf.1
    simp only [qFact, satStk, Holds]
    have key : ∀ i : Nat, (i : Int) < cb tr k → (SatAll (totF tr rs) (if (i : Int) ∈ fs then qAct tr s i k else qRet tr s i k) ↔ ((i : Int) ∈ fs ↔ (i : Int) ∈ rw rs k)) := fun i hlt => by
      by_cases hm : (i : Int) ∈ fs
      · rw [if_pos hm]
        have : SatAll (totF tr rs) (qAct tr s i k) ↔ (i : Int) ∈ rw rs k := h.steps.act_iff hlt hf.1
        rw [this]; simp [hm]
      · rw [if_neg hm]
        have : SatAll (totF tr rs) (qRet tr s i k) ↔ (i : Int) ∉ rw rs k := h.steps.ret_iff hlt hf.1
        rw [this]; simp [hm]
    constructor
    · intro hs
      refine inc_ext hi.p hf.2.p fun x => ⟨fun hx => ?_, fun hx => ?_⟩
      · have hb := hi.b x hx
        have := ((key x.toNat (by omega)).mp (hs x.toNat (by omega)))
        rw [toNat_eq hb.1] at this
        exact this.mpr hx
      · have hb := hf.2.b x hx
        have := ((key x.toNat (by omega)).mp (hs x.toNat (by omega)))
        rw [toNat_eq hb.1] at this
        exact this.mp hx
    · intro e i hlt
      rw [key i hlt, e]
theorem facts_iff {tr : List Ev} {co : List Int} {rs : List (List Int)} (h : CoOk tr co rs) {fs : List Fact} (hf : ∀ f ∈ fs, FactOk tr f) : SatAll (totF tr rs) (qFacts tr fs) ↔ ∀ f ∈ fs, Holds tr rs f := by
  unfold qFacts
  constructor
  · intro hs f hm
    obtain ⟨k, hk, e⟩ := List.getElem_of_mem hm
    refine (fact_iff h (s := .fa k) (hf f hm)).mp fun q hq => hs q (List.mem_flatMap.mpr ⟨(f, k), mem_zipIdx0.mpr ?_, hq⟩)
    rw [List.getElem?_eq_getElem hk, e]
  · intro hs q hq
    obtain ⟨⟨f, k⟩, h1, h2⟩ := List.mem_flatMap.mp hq
    have hm : f ∈ fs := List.mem_of_getElem? (mem_zipIdx0.mp h1)
    exact (fact_iff h (hf f hm)).mpr (hs f hm) q h2
/-! what it takes that a fact fails -/
def qDeeper (tr : List Ev) (i k : Nat) : List Iq := qAct tr .no i k ++ [⟨.no, k, [(some (evOf tr i), cb tr k - cb tr (evOf tr i) - 2 + b2i (isTl tr (evOf tr i)))]⟩]
def negs (tr : List Ev) : Fact → List (List Iq)
  | .act i k => [qRet tr .no i k]
  | .ret i k => [qAct tr .no i k]
  | .inn i k => [qRet tr .no i k, qDeeper tr i k]
  | .stk k fs => (List.range (cb tr k).toNat).map fun (i : Nat) => if (i : Int) ∈ fs then qRet tr .no i k else qAct tr .no i k
  | .deep j k b => [qFact tr .no (.deep k j (1 - b))]
  | .depth k lo hi => [[⟨.no, 0, [(some k, lo - 1 - cb tr k)]⟩], [⟨.no, k, [(none, cb tr k - hi - 1)]⟩]]
  | .rets j k lo hi => [[⟨.no, k, [(some j, lo - 1)]⟩], [⟨.no, j, [(some k, 0 - hi - 1)]⟩]]
theorem deeper_iff {tr : List Ev} {co : List Int} {rs : List (List Int)} (h : CoOk tr co rs) {i k : Nat} (hi : (i : Int) < cb tr k) (hk : k ≤ tr.length) : SatAll (totF tr rs) (qDeeper tr i k) ↔ (i : Int) ∈ rw rs k ∧ (rw rs k).getLast? ≠ some (i : Int) := by
  unfold qDeeper
  have e1 : SatAll (totF tr rs) (qAct tr .no i k) ↔ (i : Int) ∈ rw rs k := h.steps.act_iff hi hk
  have e2 : SatAll (totF tr rs) (qInn tr .no i k) ↔ (rw rs k).getLast? = some (i : Int) := h.steps.inn_iff hi hk
  rw [SatAll.app, e1]
  simp only [qInn, SatAll.app, e1, qNotDeep, SatAll.cons, SatAll.nil, and_true, sat1] at e2
  simp only [SatAll.cons, SatAll.nil, and_true, sat1]
  constructor
  · rintro ⟨h1, h2⟩
    refine ⟨h1, fun h3 => ?_⟩
    have := (e2.mpr h3).2
    omega
  · rintro ⟨h1, h2⟩
    refine ⟨h1, ?_⟩
    refine Classical.byContradiction fun h3 => h2 (e2.mp ⟨h1, by omega⟩)
theorem neg_iff {tr : List Ev} {co : List Int} {rs : List (List Int)} (h : CoOk tr co rs) : ∀ {f : Fact}, FactOk tr f → ((∃ qs ∈ negs tr f, SatAll (totF tr rs) qs) ↔ ¬ Holds tr rs f)
  | .act i k, hf => by
    have : SatAll (totF tr rs) (qRet tr .no i k) ↔ (i : Int) ∉ rw rs k := h.steps.ret_iff hf.lt hf.2.1
    simp [negs, this, Holds]
  | .ret i k, hf => by
    have : SatAll (totF tr rs) (qAct tr .no i k) ↔ (i : Int) ∈ rw rs k := h.steps.act_iff hf.lt hf.2.1
    simp [negs, this, Holds]
  | .inn i k, hf => by
    have e1 : SatAll (totF tr rs) (qRet tr .no i k) ↔ (i : Int) ∉ rw rs k := h.steps.ret_iff hf.lt hf.2.1
    have e2 := deeper_iff h hf.lt hf.2.1
    simp only [negs, List.mem_cons, List.not_mem_nil, or_false, exists_eq_or_imp, exists_eq_left, e1, e2, Holds]
    constructor
    · rintro (h1 | ⟨h1, h2⟩) h3
      · exact h1 (List.mem_of_getLast? h3)
      · exact h2 h3
    · intro h1
      by_cases h2 : (i : Int) ∈ rw rs k
      · exact .inr ⟨h2, h1⟩
      · exact .inl h2
  | .depth k lo hi, hf => by
    have h0 := totF_zero h
    simp only [negs, List.mem_cons, List.not_mem_nil, or_false, exists_eq_or_imp, exists_eq_left, SatAll.cons, SatAll.nil, and_true, sat0, sat1, h0, Holds, totF_rw tr rs k]
    omega
  | .deep j k b, hf => by
    simp only [negs, qFact, List.mem_cons, List.not_mem_nil, or_false, exists_eq_left, SatAll.cons, SatAll.nil, and_true, sat1, Holds, totF_rw]
    omega
  | .rets j k lo hi, hf => by
    simp only [negs, List.mem_cons, List.not_mem_nil, or_false, exists_eq_or_imp, exists_eq_left, SatAll.cons, SatAll.nil, and_true, sat1, Holds]
    omega
  | .stk k fs, hf => by
    have hi := rw_inc h hf.1
    simp only [negs, List.mem_map, List.mem_range, Holds]
    have key : ∀ i : Nat, (i : Int) < cb tr k → (SatAll (totF tr rs) (if (i : Int) ∈ fs then qRet tr .no i k else qAct tr .no i k) ↔ ¬ ((i : Int) ∈ fs ↔ (i : Int) ∈ rw rs k)) := fun i hlt => by
      by_cases hm : (i : Int) ∈ fs
      · rw [if_pos hm]
        have : SatAll (totF tr rs) (qRet tr .no i k) ↔ (i : Int) ∉ rw rs k := h.steps.ret_iff hlt hf.1
        rw [this]; simp [hm]
      · rw [if_neg hm]
        have : SatAll (totF tr rs) (qAct tr .no i k) ↔ (i : Int) ∈ rw rs k := h.steps.act_iff hlt hf.1
        rw [this]; simp [hm]
    constructor
    · rintro ⟨qs, ⟨i, hi, rfl⟩, hs⟩ e
      refine (key i (by omega)).mp hs ?_
      rw [e]
    · intro hne
      refine Classical.byContradiction fun hno => hne ?_
      have all : ∀ i : Nat, (i : Int) < cb tr k → ((i : Int) ∈ fs ↔ (i : Int) ∈ rw rs k) := fun i hlt =>
        Classical.byContradiction fun z => hno ⟨_, ⟨i, by omega, rfl⟩, (key i hlt).mpr z⟩
      refine inc_ext hi.p hf.2.p fun x => ⟨fun hx => ?_, fun hx => ?_⟩
      · have hb := hi.b x hx
        have := all x.toNat (by omega)
        rw [toNat_eq hb.1] at this; exact this.mpr hx
      · have hb := hf.2.b x hx
        have := all x.toNat (by omega)
        rw [toNat_eq hb.1] at this; exact this.mp hx
end Th
end

section
set_option Elab.async false
set_option linter.all false
set_option maxRecDepth 100000
namespace Th
open PySem
/-! lowering bounds -/
def gmax : Int → List Int → Int
  | m, [] => m
  | m, x :: r => gmax (if m < x then x else m) r
theorem gmax_le : ∀ (l : List Int) (m : Int), m ≤ gmax m l ∧ (∀ y ∈ l, y ≤ gmax m l) ∧ (gmax m l = m ∨ gmax m l ∈ l)
  | [], m => ⟨Int.le_refl _, fun _ h => (by cases h), .inl rfl⟩
  | x :: r, m => by
    obtain ⟨h1, h2, h3⟩ := gmax_le r (if m < x then x else m)
    simp only [gmax]
    refine ⟨?_, fun y hy => ?_, ?_⟩
    · split at h1 <;> (split; all_goals omega)
    · rcases List.mem_cons.mp hy with rfl | hy
      · split at h1 <;> (split; all_goals omega)
      · exact h2 y hy
    · rcases h3 with h | h
      · rw [h]
        split
        · exact .inr (List.mem_cons_self ..)
        · exact .inl rfl
      · exact .inr (List.mem_cons_of_mem _ h)
/-- a list as a function -/
def fn (b : List Int) (k : Nat) : Int := b[k]?.getD 0
/-- the right side -/
def rside (b : List Int) (ts : List (Option Nat × Int)) : Int := match ts.map (tval (fn b)) with
  | [] => 0
  | m :: r => gmax m r
theorem rside_iff {b : List Int} {ts : List (Option Nat × Int)} (h : ts ≠ []) (x : Int) : x ≤ rside b ts ↔ ∃ t ∈ ts, x ≤ tval (fn b) t := by
  unfold rside
  cases ts with
  | nil => exact absurd rfl h
  | cons t ts =>
    simp only [List.map_cons]
    obtain ⟨h1, h2, h3⟩ := gmax_le (ts.map (tval (fn b))) (tval (fn b) t)
    constructor
    · intro hx
      rcases h3 with e | e
      · exact ⟨t, List.mem_cons_self .., by omega⟩
      · obtain ⟨u, hu, e2⟩ := List.mem_map.mp e
        exact ⟨u, List.mem_cons_of_mem _ hu, by omega⟩
    · rintro ⟨u, hu, hx⟩
      rcases List.mem_cons.mp hu with rfl | hu
      · omega
      · have := h2 _ (List.mem_map.mpr ⟨u, hu, rfl⟩); omega
/-- an inequality within n + 1 moments -/
structure Iq.Wf (n : Nat) (q : Iq) : Prop where
  m : q.m ≤ n
  ne : q.ts ≠ []
  ts : ∀ t ∈ q.ts, ∀ l, t.1 = some l → l ≤ n
  tl : q.ts.length ≤ 2 * n + 1
abbrev Ln := Nat × Int × Src
/-- one turn over the inequalities: a negative bound, or the bounds, the lines, and whether one was lowered -/
def pass : List Iq → List Int → List Ln → Bool → (List Ln × Nat × Int) ⊕ (List Int × List Ln × Bool)
  | [], b, ls, g => .inr (b, ls, g)
  | q :: qs, b, ls, g => if rside b q.ts < fn b q.m then
      (if rside b q.ts < 0 then .inl (ls ++ [(q.m, rside b q.ts, q.src)], q.m, rside b q.ts)
      else pass qs (b.set q.m (rside b q.ts)) (ls ++ [(q.m, rside b q.ts, q.src)]) true)
    else pass qs b ls g
def downs (m : Nat) (v : Int) : List Ln := ((List.range m).map fun j => m - 1 - j).map fun j => (j, v, .ev j)
def low : Nat → List Iq → List Int → List Ln → Option (Option (List Int) × List Ln)
  | 0, _, _, _ => none
  | n + 1, qs, b, ls => match pass qs b ls false with
    | .inl (ls', m, v) => some (none, ls' ++ downs m v)
    | .inr (b', ls', g) => if g = true then low n qs b' ls' else some (some b', ls')
theorem fn_set {b : List Int} {m k : Nat} {v : Int} (hm : m < b.length) : fn (b.set m v) k = if k = m then v else fn b k := by
  unfold fn
  by_cases e : k = m
  · subst e; rw [if_pos rfl, List.getElem?_set_self hm]; rfl
  · rw [if_neg e, List.getElem?_set_ne (Ne.symm e)]
theorem tval_mono {p p' : Nat → Int} {t : Option Nat × Int} (h : ∀ l, t.1 = some l → p l ≤ p' l) : tval p t ≤ tval p' t := by
  unfold tval
  cases e : t.1 with
  | none => exact Int.le_refl _
  | some l => have := h l e; simp only []; omega
/-- below n + 1 moments -/
def Below (n : Nat) (p : Nat → Int) (b : List Int) : Prop := ∀ k, k ≤ n → p k ≤ fn b k
theorem rside_ge {n : Nat} {p : Nat → Int} {b : List Int} {q : Iq} (hw : q.Wf n) (hb : Below n p b) (hs : q.Sat p) : p q.m ≤ rside b q.ts := by
  rw [rside_iff hw.ne]
  obtain ⟨t, ht, hle⟩ := hs
  exact ⟨t, ht, Int.le_trans hle (tval_mono fun l hl => hb l (hw.ts t ht l hl))⟩
/-- a solution stays below -/
theorem pass_below {n : Nat} {p : Nat → Int} : ∀ {qs : List Iq} {b : List Int} {ls : List Ln} {g : Bool}, (∀ q ∈ qs, q.Wf n) → b.length = n + 1 → SatAll p qs → Below n p b → (∀ k, k ≤ n → 0 ≤ p k) →
    ∃ b' ls' g', pass qs b ls g = .inr (b', ls', g') ∧ Below n p b'
  | [], b, ls, g, _, _, _, hb, _ => ⟨b, ls, g, rfl, hb⟩
  | q :: qs, b, ls, g, hw, hl, hs, hb, h0 => by
    have hwq := hw q (List.mem_cons_self ..)
    have hws := fun x hx => hw x (List.mem_cons_of_mem _ hx)
    obtain ⟨hsq, hss⟩ := SatAll.cons.mp hs
    have hge := rside_ge hwq hb hsq
    have hpos := h0 q.m hwq.m
    simp only [pass]
    by_cases hlt : rside b q.ts < fn b q.m
    · rw [if_pos hlt, if_neg (by omega)]
      refine pass_below hws (by rw [List.length_set]; exact hl) hss (fun k hk => ?_) h0
      rw [fn_set (by have := hwq.m; omega)]
      by_cases e : k = q.m
      · rw [if_pos e, e]; exact hge
      · rw [if_neg e]; exact hb k hk
    · rw [if_neg hlt]
      exact pass_below hws hl hss hb h0
def total : List Int → Int := List.sum
theorem sum_set : ∀ {b : List Int} {m : Nat} {v : Int}, m < b.length → total (b.set m v) = total b - fn b m + v
  | [], m, v, h => by simp at h
  | x :: b, 0, v, _ => by simp [total, fn]; omega
  | x :: b, m + 1, v, h => by
    have ih := sum_set (b := b) (m := m) (v := v) (by simpa using h)
    simp only [total, fn] at ih ⊢
    simp only [List.set_cons_succ, List.sum_cons, List.getElem?_cons_succ, ih]; omega
structure Nn (b : List Int) : Prop where
  nn : ∀ k, k < b.length → 0 ≤ fn b k
theorem Nn.total {b : List Int} (h : Nn b) : 0 ≤ total b := by
  have : ∀ x ∈ b, 0 ≤ x := fun x hx => by
    obtain ⟨k, hk, e⟩ := List.getElem_of_mem hx
    have := h.nn k hk
    unfold fn at this; rw [List.getElem?_eq_getElem hk, e] at this; exact this
  unfold Th.total
  clear h
  induction b with
  | nil => simp
  | cons x b ih =>
    rw [List.sum_cons]
    have := this x (List.mem_cons_self ..)
    have := ih fun y hy => by exact ‹∀ x_1 ∈ x :: b, 0 ≤ x_1› y (List.mem_cons_of_mem _ hy)
    omega
/-- what a turn leaves -/
theorem pass_inv {n : Nat} : ∀ {qs : List Iq} {b : List Int} {ls : List Ln} {g : Bool} {b' : List Int} {ls' : List Ln} {g' : Bool}, (∀ q ∈ qs, q.Wf n) → b.length = n + 1 → Nn b → pass qs b ls g = .inr (b', ls', g') →
    b'.length = n + 1 ∧ Nn b' ∧ (∀ k, k ≤ n → fn b' k ≤ fn b k) ∧ (g' = g ∧ b' = b ∧ ls' = ls ∧ (∀ q ∈ qs, fn b q.m ≤ rside b q.ts) ∨ g' = true ∧ total b' < total b)
  | [], b, ls, g, b', ls', g', _, hl, hn, h => by
    simp only [pass, Sum.inr.injEq, Prod.mk.injEq] at h
    obtain ⟨rfl, rfl, rfl⟩ := h
    exact ⟨hl, hn, fun k _ => Int.le_refl _, .inl ⟨rfl, rfl, rfl, fun q hq => by cases hq⟩⟩
  | q :: qs, b, ls, g, b', ls', g', hw, hl, hn, h => by
    have hwq := hw q (List.mem_cons_self ..)
    have hws := fun x hx => hw x (List.mem_cons_of_mem _ hx)
    have hm : q.m < b.length := by have := hwq.m; omega
    simp only [pass] at h
    by_cases hlt : rside b q.ts < fn b q.m
    · rw [if_pos hlt] at h
      by_cases hneg : rside b q.ts < 0
      · rw [if_pos hneg] at h; cases h
      · rw [if_neg hneg] at h
        have hn1 : Nn (b.set q.m (rside b q.ts)) := ⟨fun k hk => by
          rw [fn_set hm]
          split
          · omega
          · exact hn.nn k (by rw [List.length_set] at hk; exact hk)⟩
        obtain ⟨h1, h2, h3, h4⟩ := pass_inv hws (by rw [List.length_set]; exact hl) hn1 h
        refine ⟨h1, h2, fun k hk => ?_, .inr ?_⟩
        · have := h3 k hk
          rw [fn_set hm] at this
          split at this
          · rename_i e; rw [e] at this ⊢; omega
          · exact this
        · have hs := sum_set (v := rside b q.ts) hm
          rcases h4 with ⟨h5, h6, _⟩ | ⟨h5, h6⟩
          · exact ⟨h5, by rw [h6]; omega⟩
          · exact ⟨h5, by omega⟩
    · rw [if_neg hlt] at h
      obtain ⟨h1, h2, h3, h4⟩ := pass_inv hws hl hn h
      refine ⟨h1, h2, h3, ?_⟩
      rcases h4 with ⟨h5, h6, h7, h8⟩ | h5
      · refine .inl ⟨h5, h6, h7, fun x hx => ?_⟩
        rcases List.mem_cons.mp hx with rfl | hx
        · omega
        · exact h8 x hx
      · exact .inr h5
/-- the end of the lowering -/
theorem low_ok {n : Nat} {qs : List Iq} (hw : ∀ q ∈ qs, q.Wf n) : ∀ (m : Nat) {b : List Int} {ls : List Ln}, b.length = n + 1 → Nn b → total b < m →
    (∃ b' ls', low m qs b ls = some (some b', ls') ∧ b'.length = n + 1 ∧ Nn b' ∧ (∀ k, k ≤ n → fn b' k ≤ fn b k) ∧ SatAll (fn b') qs ∧ ∀ p, SatAll p qs → Below n p b → (∀ k, k ≤ n → 0 ≤ p k) → Below n p b') ∨
    (∃ ls', low m qs b ls = some (none, ls') ∧ ∀ p, SatAll p qs → Below n p b → (∀ k, k ≤ n → 0 ≤ p k) → False)
  | 0, b, ls, hl, hn, ht => by have := hn.total; omega
  | m + 1, b, ls, hl, hn, ht => by
    simp only [low]
    cases hp : pass qs b ls false with
    | inl x =>
      obtain ⟨ls', k, v⟩ := x
      refine .inr ⟨_, rfl, fun p hs hb h0 => ?_⟩
      obtain ⟨b', ls', g', e, _⟩ := pass_below (ls := ls) (g := false) hw hl hs hb h0
      rw [hp] at e; cases e
    | inr x =>
      obtain ⟨b', ls', g⟩ := x
      obtain ⟨h1, h2, h3, h4⟩ := pass_inv hw hl hn hp
      have hbel : ∀ p, SatAll p qs → Below n p b → (∀ k, k ≤ n → 0 ≤ p k) → Below n p b' := fun p hs hb h0 => by
        obtain ⟨b2, ls2, g2, e, hb2⟩ := pass_below (ls := ls) (g := false) hw hl hs hb h0
        rw [hp] at e; cases e; exact hb2
      simp only
      cases g with
      | true =>
        rw [if_pos rfl]
        have hlt : total b' < total b := by
          rcases h4 with ⟨h5, _⟩ | ⟨_, h5⟩
          · cases h5
          · exact h5
        rcases low_ok hw m h1 h2 (ls := ls') (by omega) with ⟨b2, ls2, e, g1, g2, g3, g4, g5⟩ | ⟨ls2, e, g1⟩
        · exact .inl ⟨b2, ls2, e, g1, g2, fun k hk => Int.le_trans (g3 k hk) (h3 k hk), g4, fun p hs hb h0 => g5 p hs (hbel p hs hb h0) h0⟩
        · exact .inr ⟨ls2, e, fun p hs hb h0 => g1 p hs (hbel p hs hb h0) h0⟩
      | false =>
        rw [if_neg (by simp)]
        rcases h4 with ⟨_, h6, h7, h8⟩ | ⟨h5, _⟩
        · subst h6
          exact .inl ⟨b', ls', rfl, h1, h2, fun k _ => Int.le_refl _, fun q hq => (rside_iff (hw q hq).ne _).mp (h8 q hq), fun p hs hb h0 => hb⟩
        · cases h5
end Th
end

section
set_option Elab.async false
set_option linter.all false
set_option maxRecDepth 100000
namespace Th
open PySem
/-! the inequalities stay within the moments -/
theorem wf1 {n : Nat} {s : Src} {m l : Nat} {v : Int} (hm : m ≤ n) (hl : l ≤ n) : Iq.Wf n ⟨s, m, [(some l, v)]⟩ :=
  ⟨hm, by simp, fun t ht j hj => by simp only [List.mem_singleton] at ht; subst ht; cases hj; exact hl, by simp⟩
theorem wf0 {n : Nat} {s : Src} {m : Nat} {v : Int} (hm : m ≤ n) : Iq.Wf n ⟨s, m, [(none, v)]⟩ :=
  ⟨hm, by simp, fun t ht j hj => by simp only [List.mem_singleton] at ht; subst ht; (cases hj), by simp⟩
theorem upTo_len (a k : Nat) : (upTo a k).length = k - a := by simp [upTo]
theorem tails_len (tr : List Ev) (a k : Nat) : (tails tr a k).length ≤ k - (a + 1) := by
  unfold tails
  exact Nat.le_trans (List.length_filter_le _ _) (by simp)
def WfAll (n : Nat) (qs : List Iq) : Prop := ∀ q ∈ qs, q.Wf n
theorem WfAll.app {n : Nat} {xs ys : List Iq} (h1 : WfAll n xs) (h2 : WfAll n ys) : WfAll n (xs ++ ys) := fun q hq => (List.mem_append.mp hq).elim (h1 q) (h2 q)
theorem WfAll.nil {n : Nat} : WfAll n [] := fun q hq => by cases hq
theorem WfAll.cons {n : Nat} {q : Iq} {qs : List Iq} (h1 : q.Wf n) (h2 : WfAll n qs) : WfAll n (q :: qs) := fun x hx => by
  rcases List.mem_cons.mp hx with rfl | hx
  · exact h1
  · exact h2 x hx
theorem wf_act {tr : List Ev} {s : Src} {i k n : Nat} (hi : evOf tr i < k) (hk : k ≤ n) : WfAll n (qAct tr s i k) := by
  refine WfAll.app (fun q hq => ?_) (fun q hq => ?_)
  · obtain ⟨l, hl, rfl⟩ := List.mem_map.mp hq
    have := mem_upTo.mp hl
    exact wf1 (by omega) (by omega)
  · obtain ⟨l, hl, rfl⟩ := List.mem_map.mp hq
    have := mem_tails.mp hl
    exact wf1 (by omega) (by omega)
theorem wf_ret {tr : List Ev} {s : Src} {i k n : Nat} (hi : evOf tr i < k) (hk : k ≤ n) : WfAll n (qRet tr s i k) := by
  refine WfAll.cons ⟨?_, ?_, fun t ht j hj => ?_, ?_⟩ WfAll.nil
  · show evOf tr i ≤ n; omega
  · have hk0 : k ∈ upTo (evOf tr i) k := mem_upTo.mpr ⟨hi, Nat.le_refl _⟩
    intro z
    have h2 := List.map_eq_nil_iff.mp (List.append_eq_nil_iff.mp z).1
    rw [h2] at hk0; cases hk0
  · rcases List.mem_append.mp ht with ht | ht
    · obtain ⟨l, hl, rfl⟩ := List.mem_map.mp ht
      have := mem_upTo.mp hl
      cases hj; omega
    · obtain ⟨l, hl, rfl⟩ := List.mem_map.mp ht
      have := mem_tails.mp hl
      cases hj; omega
  · have := tails_len tr (evOf tr i) k
    simp only [List.length_append, List.length_map, upTo_len]; omega
theorem wf_nd {tr : List Ev} {s : Src} {i k l n : Nat} (hi : evOf tr i ≤ n) (hl : l ≤ n) : WfAll n (qNotDeep tr s i k l) := WfAll.cons (wf1 hi hl) WfAll.nil
theorem wf_inn {tr : List Ev} {s : Src} {i k n : Nat} (hi : evOf tr i < k) (hk : k ≤ n) : WfAll n (qInn tr s i k) := (wf_act hi hk).app (wf_nd (by omega) hk)
theorem wf_trace {tr : List Ev} (hf : FrOk tr) : WfAll tr.length (qTrace tr) := fun q hq => by
  obtain ⟨⟨e, k⟩, h1, h2⟩ := List.mem_flatMap.mp hq
  have he := mem_zipIdx0.mp h1
  have hk : k < tr.length := (List.getElem?_eq_some_iff.mp he).1
  rcases List.mem_cons.mp h2 with rfl | h2
  · exact wf1 (by omega) (by show k + 1 ≤ _; omega)
  · cases e with
    | ent n => cases h2
    | mar => cases h2
    | tai n =>
      simp only [qEvR, List.mem_singleton] at h2
      subst h2; exact wf0 (by show k ≤ _; omega)
    | exi f =>
      obtain ⟨_, _, _, _, hlt, _⟩ := evOf_lt (toNat_lt (hf k f (.inl he)))
      exact wf_inn hlt (by show k ≤ _; omega) q h2
    | cat f =>
      obtain ⟨_, _, _, _, hlt, _⟩ := evOf_lt (toNat_lt (hf k f (.inr he)))
      exact ((wf_act hlt (by show k ≤ _; omega)).app (wf_nd (by have : evOf tr f.toNat < k := hlt; omega) (by show k + 1 ≤ _; omega))) q h2
theorem wf_fact {tr : List Ev} {s : Src} : ∀ {f : Fact}, FactOk tr f → WfAll tr.length (qFact tr s f)
  | .act i k, h => wf_act h.2.2 h.2.1
  | .ret i k, h => wf_ret h.2.2 h.2.1
  | .inn i k, h => wf_inn h.2.2 h.2.1
  | .depth k lo hi, h => WfAll.cons (wf0 h.1) (WfAll.cons (wf1 (Nat.zero_le _) h.1) WfAll.nil)
  | .deep j k b, h => WfAll.cons (wf1 h.1 h.2.1) WfAll.nil
  | .rets j k lo hi, h => WfAll.cons (wf1 h.2.1 (by have := h.1; have := h.2.1; omega)) (WfAll.cons (wf1 (by have := h.1; have := h.2.1; omega) h.2.1) WfAll.nil)
  | .stk k fs, h => fun q hq => by
    obtain ⟨i, hi, hq⟩ := List.mem_flatMap.mp hq
    have := List.mem_range.mp hi
    obtain ⟨_, _, _, _, hlt, _⟩ := evOf_lt (show (i : Int) < cb tr k by omega)
    split at hq
    · exact wf_act hlt h.1 q hq
    · exact wf_ret hlt h.1 q hq
theorem wf_facts {tr : List Ev} {fs : List Fact} (hf : ∀ f ∈ fs, FactOk tr f) : WfAll tr.length (qFacts tr fs) := fun q hq => by
  obtain ⟨⟨f, k⟩, h1, h2⟩ := List.mem_flatMap.mp hq
  exact wf_fact (hf f (List.mem_of_getElem? (mem_zipIdx0.mp h1))) q h2
theorem wf_deeper {tr : List Ev} {i k n : Nat} (hi : evOf tr i < k) (hk : k ≤ n) : WfAll n (qDeeper tr i k) := (wf_act hi hk).app (WfAll.cons (wf1 hk (by omega)) WfAll.nil)
theorem wf_negs {tr : List Ev} : ∀ {f : Fact}, FactOk tr f → ∀ qs ∈ negs tr f, WfAll tr.length qs
  | .act i k, h => fun qs hq => by simp only [negs, List.mem_singleton] at hq; subst hq; exact wf_ret h.2.2 h.2.1
  | .ret i k, h => fun qs hq => by simp only [negs, List.mem_singleton] at hq; subst hq; exact wf_act h.2.2 h.2.1
  | .inn i k, h => fun qs hq => by
    simp only [negs, List.mem_cons, List.not_mem_nil, or_false] at hq
    rcases hq with rfl | rfl
    · exact wf_ret h.2.2 h.2.1
    · exact wf_deeper h.2.2 h.2.1
  | .depth k lo hi, h => fun qs hq => by
    simp only [negs, List.mem_cons, List.not_mem_nil, or_false] at hq
    rcases hq with rfl | rfl
    · exact WfAll.cons (wf1 (Nat.zero_le _) h.1) WfAll.nil
    · exact WfAll.cons (wf0 h.1) WfAll.nil
  | .deep j k b, h => fun qs hq => by simp only [negs, List.mem_singleton] at hq; subst hq; exact WfAll.cons (wf1 h.2.1 h.1) WfAll.nil
  | .rets j k lo hi, h => fun qs hq => by
    have h1 := h.1
    have h2 := h.2.1
    simp only [negs, List.mem_cons, List.not_mem_nil, or_false] at hq
    rcases hq with rfl | rfl
    · exact WfAll.cons (wf1 h.2.1 (by omega)) WfAll.nil
    · exact WfAll.cons (wf1 (by omega) h.2.1) WfAll.nil
  | .stk k fs, h => fun qs hq => by
    simp only [negs, List.mem_map] at hq
    obtain ⟨i, hi, rfl⟩ := hq
    have := List.mem_range.mp hi
    obtain ⟨_, _, _, _, hlt, _⟩ := evOf_lt (show (i : Int) < cb tr k by omega)
    split
    · exact wf_ret hlt h.1
    · exact wf_act hlt h.1
/-! what the lowering finds -/
theorem fn_cbs (tr : List Ev) {k : Nat} (h : k ≤ tr.length) : fn (cbs 0 tr) k = cb tr k := by unfold fn; rw [cbs_cb tr h]; rfl
theorem nn_cbs (tr : List Ev) : Nn (cbs 0 tr) := ⟨fun k hk => by rw [cbs_len] at hk; rw [fn_cbs tr (by omega)]; exact cb_nn tr k⟩
theorem sum_le {c : Int} : ∀ {b : List Int}, (∀ x ∈ b, x ≤ c) → total b ≤ c * b.length
  | [], _ => by simp [total]
  | x :: b, h => by
    have h1 := h x (List.mem_cons_self ..)
    have h2 := sum_le fun y hy => h y (List.mem_cons_of_mem _ hy)
    unfold total at h2 ⊢
    rw [List.sum_cons, List.length_cons]
    have : c * ((b.length + 1 : Nat) : Int) = c * b.length + c := by
      rw [Int.natCast_add, Int.mul_add]; simp
    omega
theorem total_cbs {tr : List Ev} (hl : tr.length ≤ 24) (hm : created tr ≤ 10) : total (cbs 0 tr) < 999 := by
  have h : ∀ x ∈ cbs 0 tr, x ≤ 10 := fun x hx => by
    obtain ⟨k, hk, e⟩ := List.getElem_of_mem hx
    rw [cbs_len] at hk
    have h1 := cbs_cb tr (show k ≤ tr.length by omega)
    rw [List.getElem?_eq_getElem (by rw [cbs_len]; exact hk), e] at h1
    have := cb_le tr k
    cases h1; omega
  have := sum_le h
  rw [cbs_len] at this
  omega
/-- a trace as it is asked for -/
structure TrT (tr : List Ev) : Prop where
  fr : FrOk tr
  len : tr.length ≤ 24
  cr : created tr ≤ 10
def lows (tr : List Ev) (E : List Iq) : Option (Option (List Int) × List Ln) := low 999 (qTrace tr ++ E) (cbs 0 tr) []
theorem fn_tots {tr : List Ev} {rs : List (List Int)} (h : rs.length = tr.length + 1) {k : Nat} (hk : k ≤ tr.length) : fn (tots (cbs 0 tr) rs) k = totF tr rs k := by
  unfold fn; rw [tots_get h hk]; rfl
theorem satAll_congr {n : Nat} {p p' : Nat → Int} {qs : List Iq} (hw : WfAll n qs) (h : ∀ k, k ≤ n → p k = p' k) (hs : SatAll p qs) : SatAll p' qs := fun q hq =>
  (hs q hq).congr (h _ (hw q hq).m) fun t ht l hl => h l ((hw q hq).ts t ht l hl)
/-- the completion with the most returns among those that keep E -/
structure Most (tr : List Ev) (E : List Iq) (co : List Int) (rs : List (List Int)) : Prop where
  ok : CoOk tr co rs
  sat : SatAll (totF tr rs) E
  most : ∀ co' rs', CoOk tr co' rs' → SatAll (totF tr rs') E → ∀ k, k ≤ tr.length → totF tr rs' k ≤ totF tr rs k
theorem lows_ok {tr : List Ev} (ht : TrT tr) {E : List Iq} (hE : WfAll tr.length E) :
    (∃ b ls co rs, lows tr E = some (some b, ls) ∧ Most tr E co rs ∧ tots (cbs 0 tr) rs = b ∧ wtGo tr b [] 0 = some co) ∨
    (∃ ls, lows tr E = some (none, ls) ∧ ∀ co rs, CoOk tr co rs → ¬ SatAll (totF tr rs) E) := by
  have hw : WfAll tr.length (qTrace tr ++ E) := (wf_trace ht.fr).app hE
  have hbel : ∀ co rs, CoOk tr co rs → Below tr.length (totF tr rs) (cbs 0 tr) := fun co rs h k hk => by rw [fn_cbs tr hk]; exact (h.bounds hk).2
  rcases low_ok hw 999 (cbs_len tr 0) (nn_cbs tr) (ls := []) (total_cbs ht.len ht.cr) with ⟨b, ls, e, h1, h2, h3, h4, h5⟩ | ⟨ls, e, h1⟩
  · left
    obtain ⟨s1, s2⟩ := SatAll.app.mp h4
    obtain ⟨co, rs, c1, c2, c3⟩ := wt_of_sat ht.fr ht.cr h1 (fun k hk => ⟨h2.nn k (by omega), by have := h3 k hk; rw [fn_cbs tr hk] at this; exact this⟩) s1
    refine ⟨b, ls, co, rs, e, ⟨c1, ?_, fun co' rs' hc hs k hk => ?_⟩, c3, c2⟩
    · exact satAll_congr hE (fun k hk => by rw [← c3, fn_tots c1.rlen hk]) s2
    · have := h5 (totF tr rs') (SatAll.app.mpr ⟨hc.sat ht.fr, hs⟩) (hbel co' rs' hc) (fun k hk => (hc.bounds hk).1) k hk
      rw [← c3, fn_tots c1.rlen hk] at this
      exact this
  · right
    refine ⟨ls, e, fun co rs hc hs => ?_⟩
    exact h1 (totF tr rs) (SatAll.app.mpr ⟨hc.sat ht.fr, hs⟩) (hbel co rs hc) (fun k hk => (hc.bounds hk).1)
end Th
end

section
set_option Elab.async false
set_option linter.all false
set_option maxRecDepth 100000
namespace Th
open PySem
/-! an unseen return that is recorded as an exit -/
theorem rows_split : ∀ {tr : List Ev} {co : List Int} {s0 : List Int} {c0 : Int} {rs : List (List Int)} (m : Nat), rowsGo tr co s0 c0 = some rs → Inc s0 c0 → 0 ≤ c0 → m ≤ tr.length → m ≤ co.length →
    ∃ s c rs1, Inc s c ∧ 0 ≤ c ∧ c = c0 + created (tr.take m) ∧ rs1.length = m ∧ ∀ rest co2, rowsGo (tr.take m ++ rest) (co.take m ++ co2) s0 c0 = (rowsGo rest co2 s c).map (rs1 ++ ·)
  | tr, co, s0, c0, rs, 0, h, hi, hc, _, _ => ⟨s0, c0, [], hi, hc, by simp [created], rfl, fun rest co2 => by simp⟩
  | [], co, s0, c0, rs, m + 1, h, hi, hc, h1, _ => by simp at h1
  | e :: tr, [], s0, c0, rs, m + 1, h, hi, hc, _, h2 => by simp at h2
  | e :: tr, l :: co, s0, c0, rs, m + 1, h, hi, hc, h1, h2 => by
    simp only [rowsGo] at h
    split at h
    · cases h
    · rename_i hl
      split at h
      · cases h
      · rename_i s2 hA
        obtain ⟨rs', h3, rfl⟩ := Option.map_eq_some_iff.mp h
        have hi2 := after_inc (hi.take _) hc hA
        obtain ⟨s, c, rs1, a1, a2, a3, a4, a5⟩ := rows_split m h3 hi2.1 hi2.2 (by simpa using h1) (by simpa using h2)
        refine ⟨s, c, s0.take ((s0.length : Int) - l).toNat :: rs1, a1, a2, ?_, by simp [a4], fun rest co2 => ?_⟩
        · rw [List.take_succ_cons, created_cons, a3]
          cases e.cr <;> simp [b2i] <;> omega
        · rw [List.take_succ_cons, List.take_succ_cons, List.cons_append, List.cons_append]
          simp only [rowsGo, if_neg hl, hA, a5, Option.map_map]
          congr 1
def recTr (tr : List Ev) (m : Nat) (f : Int) : List Ev := tr.take m ++ (.exi f :: tr.drop m)
def recCo (co : List Int) (m : Nat) (l : Int) : List Int := co.take m ++ ((l - 1) :: 0 :: co.drop (m + 1))
def recRs (rs : List (List Int)) (m : Nat) (f : Int) : List (List Int) := rs.take m ++ (rw' rs m ++ [f]) :: rs.drop m
where rw' (rs : List (List Int)) (k : Nat) : List Int := rs[k]?.getD []
theorem recTr_len {tr : List Ev} {m : Nat} (f : Int) (h : m ≤ tr.length) : (recTr tr m f).length = tr.length + 1 := by
  simp [recTr]; omega
theorem recTr_lo {tr : List Ev} {m : Nat} (f : Int) (h : m ≤ tr.length) {k : Nat} (hk : k < m) : (recTr tr m f)[k]? = tr[k]? := by
  unfold recTr
  rw [List.getElem?_append_left (by simp; omega), List.getElem?_take_of_lt hk]
theorem recTr_at {tr : List Ev} {m : Nat} (f : Int) (h : m ≤ tr.length) : (recTr tr m f)[m]? = some (.exi f) := by
  unfold recTr
  rw [List.getElem?_append_right (by simp; omega)]
  have : m - (tr.take m).length = 0 := by simp; omega
  rw [this]; rfl
theorem recTr_hi {tr : List Ev} {m : Nat} (f : Int) (h : m ≤ tr.length) {k : Nat} (hk : m ≤ k) : (recTr tr m f)[k + 1]? = tr[k]? := by
  unfold recTr
  rw [List.getElem?_append_right (by simp; omega)]
  have : k + 1 - (tr.take m).length = (k - m) + 1 := by simp; omega
  rw [this, List.getElem?_cons_succ, List.getElem?_drop]
  congr 1; omega
theorem rec_cb_lo {tr : List Ev} {m : Nat} (f : Int) (h : m ≤ tr.length) {k : Nat} (hk : k ≤ m) : cb (recTr tr m f) k = cb tr k := by
  unfold cb recTr
  rw [List.take_append_of_le_length (by simp; omega), List.take_take, Nat.min_eq_left hk]
theorem rec_cb_hi {tr : List Ev} {m : Nat} (f : Int) (h : m ≤ tr.length) : ∀ {k : Nat}, m ≤ k → cb (recTr tr m f) (k + 1) = cb tr k
  | k, hk => by
    by_cases hkm : k = m
    · subst hkm
      rw [cb_succ (recTr_at f h), rec_cb_lo f h (Nat.le_refl _)]; simp [Ev.cr, b2i]
    · obtain ⟨j, rfl⟩ : ∃ j, k = j + 1 := ⟨k - 1, by omega⟩
      by_cases hlt : j < tr.length
      · have he : tr[j]? = some tr[j] := List.getElem?_eq_getElem hlt
        rw [cb_succ (e := tr[j]) (by rw [recTr_hi f h (by omega)]; exact he), rec_cb_hi f h (show m ≤ j by omega), cb_succ he]
      · have e1 : cb (recTr tr m f) (j + 1 + 1) = created (recTr tr m f) := cb_full _ (by rw [recTr_len f h]; omega)
        have e2 : cb tr (j + 1) = created tr := cb_full _ (by omega)
        rw [e1, e2]
        unfold recTr
        rw [created_app, created_cons]
        have := created_app (tr.take m) (tr.drop m)
        rw [List.take_append_drop] at this
        simp [Ev.cr] at this ⊢; omega
/-- the longer trace has the completion with the exit -/
theorem rec_ok {tr : List Ev} {co : List Int} {rs : List (List Int)} (h : CoOk tr co rs) {m : Nat} {l : Int} (hl : co[m]? = some l) (l0 : 0 < l) :
    ∃ f : Int, 0 ≤ f ∧ f < cb tr m ∧ rowsGo (tr.take m) (co.take m ++ [l - 1]) [] 0 = some (rs.take m ++ [rs[m]?.getD [] ++ [f]]) ∧ CoOk (recTr tr m f) (recCo co m l) (recRs rs m f) := by
  have hm : m < co.length := (List.getElem?_eq_some_iff.mp hl).1
  have hle : m ≤ tr.length := by have := h.len; omega
  obtain ⟨s, c, rs1, hi, hc0, hc, hr1, hr⟩ := rows_split m h.rows Inc.nil (by omega) hle (by omega)
  have hdr : co.drop m = l :: co.drop (m + 1) := by
    rw [List.drop_eq_getElem_cons hm]
    have := (List.getElem?_eq_some_iff.mp hl).2
    rw [this]
  have h0 := hr (tr.drop m) (co.drop m)
  rw [List.take_append_drop, List.take_append_drop, h.rows, hdr] at h0
  obtain ⟨rs2, h2, h3⟩ := Option.map_eq_some_iff.mp h0.symm
  have hnl : ¬ (s.length : Int) < l := fun z => by
    cases htr : tr.drop m <;> simp only [htr, rowsGo, if_pos z] at h2 <;> cases h2
  have hnl1 : ¬ (s.length : Int) < l - 1 := by omega
  -- the stack before the last return
  have hlt : (s.length - l.toNat) < s.length := by omega
  have e1 : ((s.length : Int) - l).toNat = s.length - l.toNat := by omega
  have e2 : ((s.length : Int) - (l - 1)).toNat = s.length - l.toNat + 1 := by omega
  have ef : s.take (s.length - l.toNat + 1) = s.take (s.length - l.toNat) ++ [s[s.length - l.toNat]] := (List.take_append_getElem hlt).symm
  have hrs2 : rs2[0]? = some (s.take (s.length - l.toNat)) := by
    cases htr : tr.drop m with
    | nil =>
      rw [htr] at h2
      simp only [rowsGo, if_neg hnl, e1] at h2
      obtain ⟨z, _, rfl⟩ := Option.map_eq_some_iff.mp h2; rfl
    | cons e t =>
      rw [htr] at h2
      simp only [rowsGo, if_neg hnl, e1] at h2
      split at h2
      · cases h2
      · obtain ⟨z, _, rfl⟩ := Option.map_eq_some_iff.mp h2; rfl
  have hrm : rs[m]?.getD [] = s.take (s.length - l.toNat) := by
    rw [← h3, List.getElem?_append_right (by omega), hr1, Nat.sub_self, hrs2]; rfl
  have htk : rs.take m = rs1 := by rw [← h3, List.take_append_of_le_length (by omega), List.take_of_length_le (by omega)]
  have hdk : rs.drop m = rs2 := by rw [← h3, List.drop_append_of_le_length (by omega), List.drop_of_length_le (by omega)]; rfl
  have hb := hi.b s[s.length - l.toNat] (List.getElem_mem hlt)
  have hcc : c = cb tr m := by rw [hc]; unfold cb; omega
  refine ⟨s[s.length - l.toNat], hb.1, by omega, ?_, ?_, ?_, ?_⟩
  · have := hr [] [l - 1]
    rw [List.append_nil] at this
    rw [this]
    simp only [rowsGo, if_neg hnl1, e2, ef, Option.map_some, htk, hrm]
  · have := h.len
    rw [recTr_len _ hle]; simp [recCo]; omega
  · intro x hx
    rcases List.mem_append.mp hx with hx | hx
    · exact h.rng x (List.mem_of_mem_take hx)
    · rcases List.mem_cons.mp hx with rfl | hx
      · have := h.rng l (List.mem_of_getElem? hl); omega
      · rcases List.mem_cons.mp hx with rfl | hx
        · omega
        · exact h.rng x (List.mem_of_mem_drop hx)
  · unfold recTr recCo
    rw [hr]
    have hlast : (s.take (s.length - l.toNat) ++ [s[s.length - l.toNat]]).getLast? = some s[s.length - l.toNat] := List.getLast?_concat
    have hdl : (s.take (s.length - l.toNat) ++ [s[s.length - l.toNat]]).dropLast = s.take (s.length - l.toNat) := List.dropLast_concat
    have key : rowsGo (.exi s[s.length - l.toNat] :: tr.drop m) ((l - 1) :: 0 :: co.drop (m + 1)) s c = (rowsGo (tr.drop m) (l :: co.drop (m + 1)) s c).map ((s.take (s.length - l.toNat) ++ [s[s.length - l.toNat]]) :: ·) := by
      rw [rowsGo]
      rw [if_neg hnl1, e2, ef]
      simp only [after, if_pos hlast, hdl]
      have z0 : ¬ (((s.take (s.length - l.toNat)).length : Nat) : Int) < 0 := by omega
      have z1 : (s.take (s.length - l.toNat)).take ((((s.take (s.length - l.toNat)).length : Nat) : Int) - 0).toNat = s.take (s.length - l.toNat) := by
        rw [List.take_of_length_le (by omega)]
      have zc : c + b2i (Ev.cr (.exi s[s.length - l.toNat])) = c := by simp [Ev.cr, b2i]
      rw [zc]
      congr 1
      cases htr : tr.drop m with
      | nil => simp only [rowsGo, if_neg hnl, if_neg z0, z1, e1]
      | cons e t => simp only [rowsGo, if_neg hnl, if_neg z0, z1, e1]
    rw [key, h2]
    simp only [Option.map_some, recRs, recRs.rw', htk, hdk, hrm]
/-- the totals of the longer trace -/
theorem rec_tot {tr : List Ev} {co : List Int} {rs : List (List Int)} (h : CoOk tr co rs) {m : Nat} (hm : m ≤ tr.length) (f : Int) (k : Nat) : totF (recTr tr m f) (recRs rs m f) k = if k < m then totF tr rs k else if k = m then totF tr rs m - 1 else totF tr rs (k - 1) := by
  have hr := h.rlen
  unfold totF recRs recRs.rw'
  by_cases h1 : k < m
  · rw [if_pos h1, rec_cb_lo f hm (by omega), List.getElem?_append_left (by simp; omega), List.getElem?_take_of_lt h1]
  · rw [if_neg h1]
    by_cases h2 : k = m
    · subst h2
      rw [if_pos rfl, rec_cb_lo f hm (by omega), List.getElem?_append_right (by simp; omega)]
      have : k - (rs.take k).length = 0 := by simp; omega
      rw [this, List.getElem?_cons_zero, Option.getD_some, List.length_append]; simp; omega
    · rw [if_neg h2]
      obtain ⟨j, rfl⟩ : ∃ j, k = j + 1 := ⟨k - 1, by omega⟩
      rw [rec_cb_hi f hm (show m ≤ j by omega), List.getElem?_append_right (by simp; omega)]
      have : j + 1 - (rs.take m).length = (j - m) + 1 := by simp; omega
      rw [this, List.getElem?_cons_succ, List.getElem?_drop]
      have : m + (j - m) = j := by omega
      rw [this]; simp
/-- every completion of the longer trace is one of the shorter -/
theorem rec_back {tr : List Ev} {m : Nat} {f : Int} (hm : m ≤ tr.length) (hf : 0 ≤ f ∧ f < cb tr m) (h10 : created tr ≤ 10) {co2 : List Int} {rs2 : List (List Int)} (h : CoOk (recTr tr m f) co2 rs2) :
    (rs2[m]?.getD []).getLast? = some f ∧ f ∉ rs2[m + 1]?.getD [] ∧ ∃ co3 rs3, CoOk tr co3 rs3 ∧ (∀ k, k ≤ tr.length → rs3[k]?.getD [] = rs2[if k < m then k else k + 1]?.getD []) ∧ ∀ k, k ≤ tr.length → totF tr rs3 k = totF (recTr tr m f) rs2 (if k < m then k else k + 1) := by
  have hS := h.steps
  rw [recTr_len f hm] at hS
  have hmid : ∃ s', (rs2[m]?.getD []).getLast? = some f ∧ s' = (rs2[m]?.getD []).dropLast ∧ rs2[m + 1]?.getD [] <+: s' := by
    obtain ⟨e, s', he, hA, hp⟩ := hS.st m (by omega)
    rw [recTr_at f hm] at he
    cases he
    simp only [after] at hA
    split at hA
    · rename_i hL
      cases hA
      exact ⟨_, hL, rfl, hp⟩
    · cases hA
  obtain ⟨s', hL, rfl, hp⟩ := hmid
  have hI := hS.inc m (by omega)
  refine ⟨hL, ?_, ?_⟩
  · intro hx
    have hx2 := hp.subset hx
    have hne : rs2[m]?.getD [] ≠ [] := fun z => by rw [z] at hL; cases hL
    rw [List.getLast?_eq_getElem?] at hL
    refine absurd hx2 (not_mem_pre (t := rs2[m]?.getD []) (i := (rs2[m]?.getD []).length - 1) (List.dropLast_prefix _) hI.p hL (by simp))
  · have hm0 : 0 < m := by
      rcases Nat.eq_zero_or_pos m with z | z
      · subst z; rw [cb_zero] at hf; omega
      · exact z
    have hst : Steps tr (fun k => rs2[if k < m then k else k + 1]?.getD []) tr.length := by
      refine ⟨?_, fun k hk => ?_⟩
      · simp only [if_pos hm0]; exact hS.z
      · by_cases h1 : k + 1 < m
        · obtain ⟨e, s', he, hA, hpp⟩ := hS.st k (by omega)
          rw [recTr_lo f hm (by omega)] at he
          rw [rec_cb_lo f hm (by omega)] at hA
          exact ⟨e, s', he, by simp only [if_pos (show k < m by omega)]; exact hA, by simp only [if_pos h1]; exact hpp⟩
        · by_cases h2 : k + 1 = m
          · obtain ⟨e, s', he, hA, hpp⟩ := hS.st k (by omega)
            rw [recTr_lo f hm (by omega)] at he
            rw [rec_cb_lo f hm (by omega)] at hA
            refine ⟨e, s', he, by simp only [if_pos (show k < m by omega)]; exact hA, ?_⟩
            simp only [if_neg (show ¬ k + 1 < m by omega)]
            rw [h2] at hpp ⊢
            exact (hp.trans (List.dropLast_prefix _)).trans hpp
          · obtain ⟨e, s', he, hA, hpp⟩ := hS.st (k + 1) (by omega)
            rw [recTr_hi f hm (by omega)] at he
            rw [rec_cb_hi f hm (by omega)] at hA
            exact ⟨e, s', he, by simp only [if_neg (show ¬ k < m by omega)]; exact hA, by simp only [if_neg (show ¬ k + 1 < m by omega)]; exact hpp⟩
    obtain ⟨co3, h3⟩ := hst.co h10
    refine ⟨co3, _, h3, fun k hk => ?_, fun k hk => ?_⟩
    · rw [List.getElem?_map, List.getElem?_range (by omega)]; rfl
    · unfold totF
      rw [List.getElem?_map, List.getElem?_range (by omega)]
      simp only [Option.map_some, Option.getD_some]
      by_cases h1 : k < m
      · rw [if_pos h1, rec_cb_lo f hm (by omega)]
      · rw [if_neg h1, rec_cb_hi f hm (by omega)]
end Th
end

section
set_option Elab.async false
set_option linter.all false
set_option maxRecDepth 100000
namespace Th
open PySem
/-! all completions -/
def left (s : List Int) (l : Nat) : List Int := s.take (s.length - l)
abbrev Pt := List Int × List Int × List (List Int)
/-- one more moment, with its event -/
def oneE (e : Ev) (c : Int) (x : Pt) : List Pt := (List.range (x.2.1.length + 1)).filterMap fun (l : Nat) => (after (left x.2.1 l) c e).map fun a => (x.1 ++ [(l : Int)], a, x.2.2 ++ [left x.2.1 l])
/-- the last moment -/
def oneL (x : Pt) : List Pt := (List.range (x.2.1.length + 1)).map fun (l : Nat) => (x.1 ++ [(l : Int)], left x.2.1 l, x.2.2 ++ [left x.2.1 l])
def allGo : List Ev → List Int → Int → List (List Int × List (List Int))
  | [], s, c => (List.range (s.length + 1)).map fun (l : Nat) => ([(l : Int)], [left s l])
  | e :: tr, s, c => (List.range (s.length + 1)).flatMap fun (l : Nat) => match after (left s l) c e with
    | none => []
    | some s2 => (allGo tr s2 (c + b2i e.cr)).map fun y => ((l : Int) :: y.1, left s l :: y.2)
def bfs : List Ev → Int → List Pt → List Pt
  | [], c, P => P.flatMap oneL
  | e :: tr, c, P => bfs tr (c + b2i e.cr) (P.flatMap (oneE e c))
theorem flatMap_filterMap {α β γ : Type} (f : α → Option β) (g : β → List γ) : ∀ xs : List α, (xs.filterMap f).flatMap g = xs.flatMap fun x => match f x with | none => [] | some y => g y
  | [] => rfl
  | x :: xs => by
    rw [List.flatMap_cons, List.filterMap_cons, ← flatMap_filterMap f g xs]
    cases f x with
    | none => rfl
    | some y => rfl
theorem bfs_eq : ∀ (tr : List Ev) (c : Int) (P : List Pt), (bfs tr c P).map (fun x => (x.1, x.2.2)) = P.flatMap fun x => (allGo tr x.2.1 c).map fun y => (x.1 ++ y.1, x.2.2 ++ y.2)
  | [], c, P => by
    simp only [bfs, List.map_flatMap, allGo, oneL, List.map_map]
    rfl
  | e :: tr, c, P => by
    rw [bfs, bfs_eq tr, List.flatMap_assoc]
    congr 1
    funext x
    simp only [allGo, oneE]
    rw [flatMap_filterMap, List.map_flatMap]
    congr 1
    funext l
    cases after (left x.2.1 l) c e with
    | none => rfl
    | some a =>
      simp only [Option.map_some, List.map_map]
      congr 1
      funext y
      simp
theorem left_eq (s : List Int) (l : Int) (h0 : 0 ≤ l) : s.take ((s.length : Int) - l).toNat = left s l.toNat := by
  unfold left; congr 1; omega
/-- what is found is what is right -/
theorem mem_allGo : ∀ (tr : List Ev) (s : List Int) (c : Int) (co : List Int) (rs : List (List Int)), (co, rs) ∈ allGo tr s c ↔ co.length = tr.length + 1 ∧ (∀ l ∈ co, 0 ≤ l) ∧ rowsGo tr co s c = some rs
  | [], s, c, co, rs => by
    simp only [allGo, List.mem_map, List.mem_range]
    constructor
    · rintro ⟨l, hl, e⟩
      cases e
      have h1 : ¬ (s.length : Int) < (l : Int) := by omega
      refine ⟨rfl, fun x hx => by rw [List.mem_singleton.mp hx]; omega, ?_⟩
      simp only [rowsGo, if_neg h1, left_eq s l (by omega), Int.toNat_natCast]; rfl
    · rintro ⟨h1, h2, h3⟩
      match co, h1 with
      | [l], _ =>
        have l0 := h2 l (List.mem_singleton.mpr rfl)
        simp only [rowsGo] at h3
        split at h3
        · cases h3
        · rename_i hl
          rw [left_eq s l l0] at h3
          simp only [Option.map_some, Option.some.injEq] at h3
          exact ⟨l.toNat, by omega, by rw [toNat_eq l0, h3]⟩
  | e :: tr, s, c, co, rs => by
    simp only [allGo, List.mem_flatMap, List.mem_range]
    constructor
    · rintro ⟨l, hl, hm⟩
      cases hA : after (left s l) c e with
      | none => rw [hA] at hm; cases hm
      | some s2 =>
        rw [hA] at hm
        obtain ⟨⟨co', rs'⟩, hy, e2⟩ := List.mem_map.mp hm
        cases e2
        obtain ⟨h1, h2, h3⟩ := (mem_allGo tr s2 _ co' rs').mp hy
        have hn : ¬ (s.length : Int) < (l : Int) := by omega
        refine ⟨by simp [h1], fun x hx => ?_, ?_⟩
        · rcases List.mem_cons.mp hx with rfl | hx
          · omega
          · exact h2 x hx
        · simp only [rowsGo, if_neg hn, left_eq s l (by omega), Int.toNat_natCast, hA, h3, Option.map_some]
    · rintro ⟨h1, h2, h3⟩
      match co, h1 with
      | l :: co', h1 =>
        have l0 := h2 l (List.mem_cons_self ..)
        simp only [rowsGo] at h3
        split at h3
        · cases h3
        · rename_i hl
          rw [left_eq s l l0] at h3
          cases hA : after (left s l.toNat) c e with
          | none => rw [hA] at h3; cases h3
          | some s2 =>
            rw [hA] at h3
            simp only at h3
            obtain ⟨rs', h4, rfl⟩ := Option.map_eq_some_iff.mp h3
            refine ⟨l.toNat, by omega, ?_⟩
            rw [hA]
            refine List.mem_map.mpr ⟨(co', rs'), (mem_allGo tr s2 _ co' rs').mpr ⟨by simpa using h1, fun x hx => h2 x (List.mem_cons_of_mem _ hx), h4⟩, ?_⟩
            rw [toNat_eq l0]
def allC (tr : List Ev) : List (List Int × List (List Int)) := allGo tr [] 0
theorem mem_allC {tr : List Ev} (h10 : created tr ≤ 10) {co : List Int} {rs : List (List Int)} : (co, rs) ∈ allC tr ↔ CoOk tr co rs := by
  unfold allC
  rw [mem_allGo]
  constructor
  · rintro ⟨h1, h2, h3⟩
    have hch := rows_chain h3 h1
    obtain ⟨co2, c1, c2, c3⟩ := chain_rows Inc.nil (by omega) (by omega) hch
    have hl := rows_len h3
    have e : (List.range (tr.length + 1)).map (fun k => rs[k]?.getD []) = rs := by
      apply List.ext_getElem?
      intro k
      by_cases hk : k < tr.length + 1
      · rw [List.getElem?_map, List.getElem?_range hk, List.getElem?_eq_getElem (show k < rs.length by omega)]
        simp [List.getElem?_eq_getElem (show k < rs.length by omega)]
      · rw [List.getElem?_eq_none (by simp; omega), List.getElem?_eq_none (by omega)]
    rw [e] at c3
    have w1 := wt_tots h3 h2 (by omega)
    have w2 := wt_tots c3 (fun l hl => (c2 l hl).1) (by omega)
    rw [w1] at w2
    cases w2
    exact ⟨h1, c2, h3⟩
  · intro h
    exact ⟨h.len, fun l hl => (h.rng l hl).1, h.rows⟩
theorem bfs_all (tr : List Ev) : (bfs tr 0 [([], [], [])]).map (fun x => (x.1, x.2.2)) = allC tr := by
  rw [bfs_eq]; simp [allC]
/-! how many -/
def fac : Nat → Nat
  | 0 => 1
  | n + 1 => (n + 1) * fac n
structure Lev (c : Int) (m : Nat) (P : List Pt) : Prop where
  n : P.length ≤ fac m
  d : ∀ x ∈ P, x.2.1.length ≤ m ∧ x.1.length = m ∧ x.2.2.length = m ∧ Inc x.2.1 c
theorem flatMap_le {α β : Type} {f : α → List β} {b : Nat} : ∀ (xs : List α), (∀ x ∈ xs, (f x).length ≤ b) → (xs.flatMap f).length ≤ b * xs.length
  | [], _ => by simp
  | x :: xs, h => by
    have h1 := flatMap_le xs fun y hy => h y (List.mem_cons_of_mem _ hy)
    have h2 := h x (List.mem_cons_self ..)
    rw [List.flatMap_cons, List.length_append, List.length_cons, Nat.mul_succ]; omega
theorem left_len (s : List Int) (l : Nat) : (left s l).length ≤ s.length := by unfold left; simp
theorem Lev.step {c : Int} {m : Nat} {P : List Pt} (h : Lev c m P) (hc : 0 ≤ c) (e : Ev) : Lev (c + b2i e.cr) (m + 1) (P.flatMap (oneE e c)) := by
  constructor
  · have h1 := flatMap_le (f := oneE e c) (b := m + 1) P fun x hx => by
      have := (h.d x hx).1
      unfold oneE
      refine Nat.le_trans (List.length_filterMap_le _ _) ?_
      rw [List.length_range]; omega
    have h2 := h.n
    have h3 : (m + 1) * P.length ≤ (m + 1) * fac m := Nat.mul_le_mul_left _ h2
    show _ ≤ (m + 1) * fac m
    omega
  · intro y hy
    obtain ⟨x, hx, hy⟩ := List.mem_flatMap.mp hy
    obtain ⟨d1, d2, d3, d4⟩ := h.d x hx
    obtain ⟨l, hl, e2⟩ := List.mem_filterMap.mp hy
    obtain ⟨a, ha, rfl⟩ := Option.map_eq_some_iff.mp e2
    have h1 := after_len ha
    have h2 := left_len x.2.1 l
    have h3 := after_inc (s := left x.2.1 l) (d4.take _) hc ha
    exact ⟨by simp only; omega, by simp [d2], by simp [d3], h3.1⟩
theorem Lev.last {c : Int} {m : Nat} {P : List Pt} (h : Lev c m P) : (P.flatMap oneL).length ≤ fac (m + 1) := by
  have h1 := flatMap_le (f := oneL) (b := m + 1) P fun x hx => by
    have := (h.d x hx).1
    unfold oneL
    rw [List.length_map, List.length_range]; omega
  have h3 : (m + 1) * P.length ≤ (m + 1) * fac m := Nat.mul_le_mul_left _ h.n
  show _ ≤ (m + 1) * fac m
  omega
theorem Lev.zero : Lev 0 0 [([], [], [])] := ⟨by simp [fac], fun x hx => by rw [List.mem_singleton.mp hx]; exact ⟨by simp, rfl, rfl, Inc.nil⟩⟩
theorem fac_le {m : Nat} (h : m ≤ 10) : fac m ≤ 3628800 := by
  have : ∀ n, fac n ≤ fac (n + 1) := fun n => by
    show fac n ≤ (n + 1) * fac n
    exact Nat.le_mul_of_pos_left _ (Nat.succ_pos n)
  have mono : ∀ k n, fac n ≤ fac (n + k) := fun k => by
    induction k with
    | zero => intro n; exact Nat.le_refl _
    | succ k ih => intro n; exact Nat.le_trans (ih n) (this (n + k))
  have := mono (10 - m) m
  rw [show m + (10 - m) = 10 by omega] at this
  have e : fac 10 = 3628800 := rfl
  omega
theorem allC_len {tr : List Ev} (h : tr.length ≤ 9) : (allC tr).length ≤ 3628800 := by
  rw [← bfs_all, List.length_map]
  have key : ∀ (xs : List Ev) (c : Int) (m : Nat) (P : List Pt), 0 ≤ c → Lev c m P → (bfs xs c P).length ≤ fac (m + xs.length + 1) := by
    intro xs
    induction xs with
    | nil => intro c m P _ hP; exact hP.last
    | cons e xs ih =>
      intro c m P hc hP
      have := ih (c + b2i e.cr) (m + 1) _ (by have := b2i_nn e.cr; omega) (hP.step hc e)
      rw [List.length_cons]
      rw [show m + (xs.length + 1) + 1 = m + 1 + xs.length + 1 by omega]; exact this
  have := key tr 0 0 _ (by omega) Lev.zero
  exact Nat.le_trans this (fac_le (by omega))
end Th
end

section
set_option Elab.async false
set_option linter.all false
set_option maxRecDepth 100000
namespace Th
open PySem
/-- a completion that keeps the facts -/
structure Sol (tr : List Ev) (fs : List Fact) (co : List Int) (rs : List (List Int)) : Prop where
  ok : CoOk tr co rs
  holds : ∀ f ∈ fs, Holds tr rs f
/-- what with_totals finds is right -/
theorem wt_sound : ∀ {ns : List Int} {tr : List Ev} {s : List Int} {c : Int} {co : List Int}, wtGo tr ns s c = some co → ns.length = tr.length + 1 →
    ∃ rs, rowsGo tr co s c = some rs ∧ (∀ l ∈ co, 0 ≤ l) ∧ co.length = tr.length + 1 ∧ tots (cbs c tr) rs = ns
  | [], tr, s, c, co, h, hn => by simp at hn
  | n :: ns, tr, s, c, co, h, hn => by
    simp only [wtGo] at h
    generalize hl : n - (c - (s.length : Int)) = l at h
    split at h
    · rename_i hb
      have hnl : ¬ (s.length : Int) < l := by omega
      have ht : ((s.take ((s.length : Int) - l).toNat).length : Int) = s.length - l := by simp; omega
      cases tr with
      | nil =>
        simp only at h
        obtain ⟨co', h1, rfl⟩ := Option.map_eq_some_iff.mp h
        have : ns = [] := List.eq_nil_of_length_eq_zero (by simpa using hn)
        subst this
        simp only [wtGo, Option.some.injEq] at h1
        subst h1
        refine ⟨[s.take ((s.length : Int) - l).toNat], by simp only [rowsGo, if_neg hnl, Option.map_some], fun x hx => by rw [List.mem_singleton.mp hx]; exact hb.1, rfl, ?_⟩
        simp only [tots, cbs, List.zip_cons_cons, List.zip_nil_right, List.map_cons, List.map_nil, ht]
        congr 1; omega
      | cons e tr =>
        simp only at h
        cases hA : after (s.take ((s.length : Int) - l).toNat) c e with
        | none => rw [hA] at h; cases h
        | some s2 =>
          rw [hA] at h
          simp only at h
          obtain ⟨co', h1, rfl⟩ := Option.map_eq_some_iff.mp h
          obtain ⟨rs, a1, a2, a3, a4⟩ := wt_sound h1 (by simpa using hn)
          refine ⟨s.take ((s.length : Int) - l).toNat :: rs, by simp only [rowsGo, if_neg hnl, hA, a1, Option.map_some], fun x hx => ?_, by simp [a3], ?_⟩
          · rcases List.mem_cons.mp hx with rfl | hx
            · exact hb.1
            · exact a2 x hx
          · have a5 : List.map (fun p : Int × List Int => p.1 - (p.2.length : Int)) ((cbs (c + b2i e.cr) tr).zip rs) = ns := a4
            simp only [tots, cbs, List.zip_cons_cons, List.map_cons, ht, a5]
            congr 1; omega
    · cases h
theorem wt_co {tr : List Ev} (h10 : created tr ≤ 10) {ns co : List Int} (h : wtGo tr ns [] 0 = some co) (hn : ns.length = tr.length + 1) : ∃ rs, CoOk tr co rs ∧ tots (cbs 0 tr) rs = ns := by
  obtain ⟨rs, h1, h2, h3, h4⟩ := wt_sound h hn
  exact ⟨rs, (mem_allC h10).mp ((mem_allGo _ _ _ _ _).mpr ⟨h3, h2, h1⟩), h4⟩
/-- the smallest total at a moment -/
structure IsMin (tr : List Ev) (fs : List Fact) (k : Nat) (v : Int) : Prop where
  at_ : ∃ co rs, Sol tr fs co rs ∧ totF tr rs k = v
  le : ∀ co rs, Sol tr fs co rs → v ≤ totF tr rs k
theorem IsMin.uniq {tr : List Ev} {fs : List Fact} {k : Nat} {v w : Int} (h : IsMin tr fs k v) (h' : IsMin tr fs k w) : v = w := by
  obtain ⟨co, rs, a, b⟩ := h.at_
  obtain ⟨co', rs', a', b'⟩ := h'.at_
  have := h.le _ _ a'
  have := h'.le _ _ a
  omega
/-- the completion with the fewest returns, if there is one -/
structure Least (tr : List Ev) (fs : List Fact) (co : List Int) (rs : List (List Int)) : Prop where
  sol : Sol tr fs co rs
  min : ∀ k, k ≤ tr.length → IsMin tr fs k (totF tr rs k)
theorem Least.uniq {tr : List Ev} {fs : List Fact} {co co' : List Int} {rs rs' : List (List Int)} (h : Least tr fs co rs) (h' : Least tr fs co' rs') : co = co' ∧ rs = rs' :=
  h.sol.ok.inj h'.sol.ok fun k hk => (h.min k hk).uniq (h'.min k hk)
def Iq.One (q : Iq) : Prop := ∃ o v, q.ts = [(o, v)]
def OneAll (qs : List Iq) : Prop := ∀ q ∈ qs, q.One
theorem OneAll.app {xs ys : List Iq} (h1 : OneAll xs) (h2 : OneAll ys) : OneAll (xs ++ ys) := fun q hq => (List.mem_append.mp hq).elim (h1 q) (h2 q)
theorem one_act {tr : List Ev} {s : Src} {i k : Nat} : OneAll (qAct tr s i k) := fun q hq => by
  rcases List.mem_append.mp hq with hq | hq
  · obtain ⟨l, _, rfl⟩ := List.mem_map.mp hq; exact ⟨_, _, rfl⟩
  · obtain ⟨l, _, rfl⟩ := List.mem_map.mp hq; exact ⟨_, _, rfl⟩
theorem one_nd {tr : List Ev} {s : Src} {i k l : Nat} : OneAll (qNotDeep tr s i k l) := fun q hq => by
  rw [List.mem_singleton.mp hq]; exact ⟨_, _, rfl⟩
theorem one_inn {tr : List Ev} {s : Src} {i k : Nat} : OneAll (qInn tr s i k) := one_act.app one_nd
theorem one_trace {tr : List Ev} : OneAll (qTrace tr) := fun q hq => by
  obtain ⟨⟨e, k⟩, _, h2⟩ := List.mem_flatMap.mp hq
  rcases List.mem_cons.mp h2 with rfl | h2
  · exact ⟨_, _, rfl⟩
  · cases e with
    | ent n => cases h2
    | mar => cases h2
    | tai n => simp only [qEvR, List.mem_singleton] at h2; subst h2; exact ⟨_, _, rfl⟩
    | exi f => exact one_inn q h2
    | cat f => exact (one_act.app one_nd) q h2
/-- neither "returned" nor "stack" -/
def Fact.plain : Fact → Bool
  | .ret _ _ => false
  | .stk _ _ => false
  | _ => true
theorem one_fact {tr : List Ev} {s : Src} : ∀ {f : Fact}, f.plain = true → OneAll (qFact tr s f)
  | .act i k, _ => one_act
  | .inn i k, _ => one_inn
  | .ret i k, h => by cases h
  | .stk k fs, h => by cases h
  | .depth k lo hi, _ => fun q hq => by
    simp only [qFact, List.mem_cons, List.not_mem_nil, or_false] at hq
    rcases hq with rfl | rfl <;> exact ⟨_, _, rfl⟩
  | .deep j k b, _ => fun q hq => by rw [List.mem_singleton.mp hq]; exact ⟨_, _, rfl⟩
  | .rets j k lo hi, _ => fun q hq => by
    simp only [qFact, List.mem_cons, List.not_mem_nil, or_false] at hq
    rcases hq with rfl | rfl <;> exact ⟨_, _, rfl⟩
theorem one_facts {tr : List Ev} {fs : List Fact} (h : ∀ f ∈ fs, f.plain = true) : OneAll (qFacts tr fs) := fun q hq => by
  obtain ⟨⟨f, k⟩, h1, h2⟩ := List.mem_flatMap.mp hq
  exact one_fact (h f (List.mem_of_getElem? (mem_zipIdx0.mp h1))) q h2
/-- without those two kinds there is a completion with the fewest returns -/
theorem least_of {tr : List Ev} (ht : TrT tr) {fs : List Fact} (hf : ∀ f ∈ fs, FactOk tr f) (hp : ∀ f ∈ fs, f.plain = true) {p : Nat → Int} (hm : ∀ k, k ≤ tr.length → IsMin tr fs k (p k)) : ∃ co rs, Least tr fs co rs ∧ ∀ k, k ≤ tr.length → totF tr rs k = p k := by
  have key : ∀ qs, OneAll qs → WfAll tr.length qs → (∀ co rs, Sol tr fs co rs → SatAll (totF tr rs) qs) → SatAll p qs := fun qs h1 hw h2 q hq => by
    obtain ⟨o, v, e⟩ := h1 q hq
    have hwq := hw q hq
    have hmq := hm q.m hwq.m
    refine ⟨(o, v), by rw [e]; exact List.mem_singleton.mpr rfl, ?_⟩
    cases o with
    | none =>
      obtain ⟨co, rs, hs, _⟩ := hmq.at_
      obtain ⟨t, ht, hle⟩ := h2 co rs hs q hq
      rw [e, List.mem_singleton] at ht
      subst ht
      have := hmq.le co rs hs
      simp only [tval] at hle ⊢; omega
    | some l =>
      have hl : l ≤ tr.length := hwq.ts (some l, v) (by rw [e]; exact List.mem_singleton.mpr rfl) l rfl
      obtain ⟨co, rs, hs, hv⟩ := (hm l hl).at_
      obtain ⟨t, ht, hle⟩ := h2 co rs hs q hq
      rw [e, List.mem_singleton] at ht
      subst ht
      have := hmq.le co rs hs
      simp only [tval] at hle ⊢; omega
  have s1 := key (qTrace tr) one_trace (wf_trace ht.fr) fun co rs h => h.ok.sat ht.fr
  have s2 := key (qFacts tr fs) (one_facts hp) (wf_facts hf) fun co rs h => (facts_iff h.ok hf).mpr h.holds
  have hb : ∀ k, k ≤ tr.length → 0 ≤ p k ∧ p k ≤ cb tr k := fun k hk => by
    obtain ⟨co, rs, hs, hv⟩ := (hm k hk).at_
    have := hs.ok.bounds hk
    omega
  obtain ⟨co, rs, h1, h2⟩ := co_of_sat ht.fr ht.cr hb s1
  refine ⟨co, rs, ⟨⟨h1, (facts_iff h1 hf).mp (satAll_congr (wf_facts hf) (fun k hk => (h2 k hk).symm) s2)⟩, fun k hk => by rw [h2 k hk]; exact hm k hk⟩, h2⟩
end Th
end

section
set_option Elab.async false
set_option linter.all false
set_option maxRecDepth 100000
namespace Th
open PySem DN
@[simp] theorem sq_enter_enter : (("enter" : Str) == ("enter" : Str)) = true := by decide
@[simp] theorem sq_enter_tail : (("enter" : Str) == ("tail" : Str)) = false := by decide
@[simp] theorem sq_enter_exit : (("enter" : Str) == ("exit" : Str)) = false := by decide
@[simp] theorem sq_enter_catch : (("enter" : Str) == ("catch" : Str)) = false := by decide
@[simp] theorem sq_enter_mark : (("enter" : Str) == ("mark" : Str)) = false := by decide
@[simp] theorem sq_tail_enter : (("tail" : Str) == ("enter" : Str)) = false := by decide
@[simp] theorem sq_tail_tail : (("tail" : Str) == ("tail" : Str)) = true := by decide
@[simp] theorem sq_tail_exit : (("tail" : Str) == ("exit" : Str)) = false := by decide
@[simp] theorem sq_tail_catch : (("tail" : Str) == ("catch" : Str)) = false := by decide
@[simp] theorem sq_tail_mark : (("tail" : Str) == ("mark" : Str)) = false := by decide
@[simp] theorem sq_exit_enter : (("exit" : Str) == ("enter" : Str)) = false := by decide
@[simp] theorem sq_exit_tail : (("exit" : Str) == ("tail" : Str)) = false := by decide
@[simp] theorem sq_exit_exit : (("exit" : Str) == ("exit" : Str)) = true := by decide
@[simp] theorem sq_exit_catch : (("exit" : Str) == ("catch" : Str)) = false := by decide
@[simp] theorem sq_exit_mark : (("exit" : Str) == ("mark" : Str)) = false := by decide
@[simp] theorem sq_catch_enter : (("catch" : Str) == ("enter" : Str)) = false := by decide
@[simp] theorem sq_catch_tail : (("catch" : Str) == ("tail" : Str)) = false := by decide
@[simp] theorem sq_catch_exit : (("catch" : Str) == ("exit" : Str)) = false := by decide
@[simp] theorem sq_catch_catch : (("catch" : Str) == ("catch" : Str)) = true := by decide
@[simp] theorem sq_catch_mark : (("catch" : Str) == ("mark" : Str)) = false := by decide
@[simp] theorem sq_mark_enter : (("mark" : Str) == ("enter" : Str)) = false := by decide
@[simp] theorem sq_mark_tail : (("mark" : Str) == ("tail" : Str)) = false := by decide
@[simp] theorem sq_mark_exit : (("mark" : Str) == ("exit" : Str)) = false := by decide
@[simp] theorem sq_mark_catch : (("mark" : Str) == ("catch" : Str)) = false := by decide
@[simp] theorem sq_mark_mark : (("mark" : Str) == ("mark" : Str)) = true := by decide
def Ev.tag : Ev → Str
  | .ent _ => "enter"
  | .tai _ => "tail"
  | .exi _ => "exit"
  | .cat _ => "catch"
  | .mar => "mark"
def Ev.rest : Ev → List D
  | .ent n => [.str n]
  | .tai n => [.str n]
  | .exi f => [.int f]
  | .cat f => [.int f]
  | .mar => []
def Ev.d (e : Ev) : D := .tup (.str e.tag :: e.rest)
/-- a stack, a trace as data -/
def sd (s : List Int) : D := .tup (s.map D.int)
def td (tr : List Ev) : D := .tup (tr.map Ev.d)
def od : Option (List Int) → D
  | some s => sd s
  | none => .non
/-! lists -/
@[simp] theorem atI0 {α : Type} (x : α) (xs : List α) : L2.atI (x :: xs) 0 = some x := by
  simp [L2.atI, L2.ixN]
@[simp] theorem atI1 {α : Type} (x y : α) (xs : List α) : L2.atI (x :: y :: xs) 1 = some y := by
  have h : (1 : Int) < ((x :: y :: xs).length : Nat) := by simp only [List.length_cons]; omega
  simp only [L2.atI, L2.ixN, if_pos (show (0 : Int) ≤ 1 by omega), if_pos h]; rfl
@[simp] theorem atI_nat {α : Type} (xs : List α) (k : Nat) : L2.atI xs (k : Int) = xs[k]? := by
  simp only [L2.atI, L2.ixN, if_pos (show (0 : Int) ≤ k by omega)]
  by_cases h : k < xs.length
  · rw [if_pos (by omega)]; rfl
  · rw [if_neg (by omega), List.getElem?_eq_none (by omega)]; rfl
theorem atI_last {α : Type} (xs : List α) : L2.atI xs (-1) = xs.getLast? := by
  cases xs with
  | nil => rfl
  | cons x xs =>
    have h1 : ¬ (0 : Int) ≤ -1 := by omega
    have h2 : -(((x :: xs).length : Nat) : Int) ≤ -1 := by simp only [List.length_cons]; omega
    simp only [L2.atI, L2.ixN, if_neg h1, if_pos h2, Option.bind]
    rw [List.getLast?_eq_getElem?]
    congr 1
    simp; omega
theorem cut_init {α : Type} (xs : List α) : cutD xs none (some (-1)) = xs.dropLast := by
  unfold cutD
  simp only [HT.sIx, if_pos (show (-1 : Int) < 0 by omega), List.drop_zero, Nat.sub_zero]
  rw [List.dropLast_eq_take]
  congr 1
  omega
theorem cut_to {α : Type} (xs : List α) (n : Nat) : cutD xs none (some (n : Int)) = xs.take n := by
  unfold cutD
  have h : ¬ ((n : Int) < 0) := by omega
  simp only [HT.sIx, if_neg h, List.drop_zero, Nat.sub_zero, Int.toNat_natCast]
  rw [List.take_eq_take_iff]
  omega
theorem cut_toI {α : Type} (xs : List α) (n : Int) (h : 0 ≤ n) : cutD xs none (some n) = xs.take n.toNat := by
  have := cut_to xs n.toNat
  rwa [Int.toNat_of_nonneg h] at this
@[simp] theorem dints_map (s : List Int) : dints (s.map D.int) = some s := by
  induction s with
  | nil => rfl
  | cons x xs ih => simp [dints, ih]
@[simp] theorem dbools_map (s : List Bool) : dbools (s.map D.bl) = some s := by
  induction s with
  | nil => rfl
  | cons x xs ih => simp [dbools, ih]
@[simp] theorem flat_ints (s : List Int) : (s.map D.int).all D.flat = true := by
  simp [List.all_eq_true, D.flat]
theorem any_ints (s : List Int) (f : Int) : ((s.map D.int).any fun y => D.eqv y (.int f)) = decide (f ∈ s) := by
  induction s with
  | nil => rfl
  | cons x xs ih =>
    simp only [List.map_cons, List.any_cons, D.eqv, ih, List.mem_cons, Bool.decide_or]
    congr 1
    by_cases h : x = f
    · simp [h]
    · have h2 : ¬ f = x := fun z => h z.symm
      simp [h, h2]
@[simp] theorem any_ints' (s : List Int) (f : Int) : (s.any ((fun y => D.eqv y (.int f)) ∘ D.int)) = decide (f ∈ s) := by rw [← any_ints, List.any_map]
/-! events -/
@[simp high] theorem dIn_tag (e : Ev) : dIn (.str e.tag) (.tup [.str "enter", .str "tail"]) = .ok (.bl e.cr) := by
  cases e <;> simp [Ev.tag, Ev.cr]
@[simp] theorem ev_tag (e : Ev) : dIx e.d (.int 0) = .ok (.str e.tag) := by simp [Ev.d]
@[simp] theorem td_get (tr : List Ev) (k : Nat) : dIx (td tr) (.int k) = ofO (tr[k]?.map Ev.d) := by simp [td]
@[simp] theorem td_len (tr : List Ev) : dLen [td tr] = .ok (.int tr.length) := by simp [td]
@[simp] theorem sd_len (s : List Int) : dLen [sd s] = .ok (.int s.length) := by simp [sd]
theorem sd_sl (s : List Int) (n : Int) (h : 0 ≤ n) : dSl (sd s) none (some n) = .ok (sd (s.take n.toNat)) := by simp [sd, cut_toI _ _ h, List.map_take]
@[simp] theorem sd_isNon (s : List Int) : (sd s).isNon = false := rfl
theorem m_after (s : List Int) (c : Int) (e : Ev) (hs : s.length < 1000) : Pf.m_stack_after [sd s, e.d, .int c] = .ok (od (after s c e)) := by
  cases e with
  | ent n =>
    have h : s.length ≤ 16777215 := by omega
    simp [Pf.m_stack_after, Ev.d, Ev.tag, Ev.rest, sd, after, od, h]
  | tai n =>
    cases s with
    | nil => simp [Pf.m_stack_after, Ev.d, Ev.tag, Ev.rest, sd, after, od]
    | cons x xs =>
      have h : xs.length ≤ 16777215 := by simp at hs ⊢; omega
      have e1 : cutD (D.int x :: List.map D.int xs) none (some (-1)) = ((x :: xs).dropLast).map D.int := by rw [cut_init]; simp [List.map_dropLast]
      simp [Pf.m_stack_after, Ev.d, Ev.tag, Ev.rest, sd, after, od, e1, h]
  | exi f =>
    rcases List.eq_nil_or_concat s with rfl | ⟨xs, x, rfl⟩
    · simp [Pf.m_stack_after, Ev.d, Ev.tag, Ev.rest, sd, after, od]
    · have h0 : ∀ y, (List.map D.int xs ++ [D.int y]).isEmpty = false := fun y => by simp
      by_cases h : x = f
      · simp [Pf.m_stack_after, Ev.d, Ev.tag, Ev.rest, sd, after, od, cut_init, atI_last, h, h0]
      · simp [Pf.m_stack_after, Ev.d, Ev.tag, Ev.rest, sd, after, od, cut_init, atI_last, h, h0]
  | cat f =>
    by_cases h : f ∈ s
    · have e1 := cut_to (s.map D.int) (s.idxOf f + 1)
      simp [Pf.m_stack_after, Ev.d, Ev.tag, Ev.rest, sd, after, od, any_ints, dIndex, h]
      simpa using e1
    · simp [Pf.m_stack_after, Ev.d, Ev.tag, Ev.rest, sd, after, od, any_ints, dIndex, h]
  | mar => simp [Pf.m_stack_after, Ev.d, Ev.tag, Ev.rest, sd, after, od]
/-! the stacks at all moments -/
def orows (found : List D) : Option (List (List Int)) → D
  | none => .non
  | some rs => .lst (found ++ rs.map sd)
theorem step_rows0 (tr : List Ev) (X : D) (s : List Int) (c : Int) (found : List D) (k : Nat) (l : Int) (hl : (s.length : Int) < l) :
    Pf.l_stacks_of_1 [some (td tr), some X, some (sd s), some (.int c), some (.lst found), some (.int k), some (.int l)] = .ok (.rt .non [some (td tr), some X, some (sd s), some (.int c), some (.lst found), some (.int k), some (.int l)]) := by
  simp [Pf.l_stacks_of_1, hl]
theorem step_rows1 (tr : List Ev) (X : D) (s : List Int) (c : Int) (found : List D) (k : Nat) (l : Int) (hl : ¬ (s.length : Int) < l) (hf : found.length < 16777216) (hk : ¬ k < tr.length) :
    Pf.l_stacks_of_1 [some (td tr), some X, some (sd s), some (.int c), some (.lst found), some (.int k), some (.int l)] = .ok (.nx [some (td tr), some X, some (sd (s.take (s.length - l).toNat)), some (.int c), some (.lst (found ++ [sd (s.take (s.length - l).toNat)])), some (.int k), some (.int l)]) := by
  have hsl := sd_sl s (s.length - l) (by omega)
  simp [Pf.l_stacks_of_1, hl, hsl, hf, hk]
theorem step_rows2 (tr : List Ev) (X : D) (s : List Int) (c : Int) (found : List D) (k : Nat) (l : Int) (e : Ev) (hl : ¬ (s.length : Int) < l) (hf : found.length < 16777216) (hk : tr[k]? = some e) (hs : s.length < 1000) :
    Pf.l_stacks_of_1 [some (td tr), some X, some (sd s), some (.int c), some (.lst found), some (.int k), some (.int l)] = match after (s.take (s.length - l).toNat) c e with
      | none => .ok (.rt .non [some (td tr), some X, some .non, some (.int (c + b2i e.cr)), some (.lst (found ++ [sd (s.take (s.length - l).toNat)])), some (.int k), some (.int l)])
      | some s2 => .ok (.nx [some (td tr), some X, some (sd s2), some (.int (c + b2i e.cr)), some (.lst (found ++ [sd (s.take (s.length - l).toNat)])), some (.int k), some (.int l)]) := by
  have hsl := sd_sl s (s.length - l) (by omega)
  have ha := m_after (s.take (s.length - l).toNat) c e (by simp; omega)
  obtain ⟨hk2, hk3⟩ := List.getElem?_eq_some_iff.mp hk
  cases hA : after (s.take (s.length - l).toNat) c e with
  | none => rw [hA] at ha; simp [Pf.l_stacks_of_1, hl, hsl, hf, hk2, hk3, ha, od, b2i]
  | some s2 => rw [hA] at ha; simp [Pf.l_stacks_of_1, hl, hsl, hf, hk2, hk3, ha, od, b2i]
theorem loop_rows (tr : List Ev) (X : D) : ∀ (co : List Int) (k : Nat) (s : List Int) (c : Int) (found : List D) (j5 j6 : Option D), s.length + co.length < 1000 → found.length + co.length < 1000 →
    finL (rseq (loop (gT 2 (gCons' (gN 5) (gCons' (gN 6) gNil'))) Pf.l_stacks_of_1 (((co.map D.int).zipIdx k).map fun p => .pr [.int (p.2 : Nat), p.1]) [some (td tr), some X, some (sd s), some (.int c), some (.lst found), j5, j6]) (sRet (eVar 4)))
      = .ok (orows found (rowsGo (tr.drop k) co s c))
  | [], k, s, c, found, j5, j6, h1, h2 => by simp [rowsGo, orows]
  | l :: co, k, s, c, found, j5, j6, h1, h2 => by
    simp only [List.length_cons] at h1 h2
    simp only [List.map_cons, List.zipIdx_cons, loop_cons]
    by_cases hl : (s.length : Int) < l
    · simp [step_rows0 tr X s c found k l hl, rowsGo, hl, orows]
    · by_cases hk : k < tr.length
      · have ed : tr.drop k = tr[k] :: tr.drop (k + 1) := List.drop_eq_getElem_cons hk
        have st := step_rows2 tr X s c found k l tr[k] hl (by omega) (List.getElem?_eq_getElem hk) (by omega)
        rw [ed]
        cases hA : after (s.take (s.length - l).toNat) c tr[k] with
        | none =>
          rw [hA] at st
          simp [st, rowsGo, hl, hA, orows]
        | some s2 =>
          rw [hA] at st
          have hs2 := after_len hA
          simp only [List.length_take] at hs2
          have ih := loop_rows tr X co (k + 1) s2 (c + b2i tr[k].cr) (found ++ [sd (s.take (s.length - l).toNat)]) (some (.int k)) (some (.int l)) (by omega) (by simp; omega)
          simp only [gT_p, gCons_eq, gN_eq, gNil_eq, bind_ok, List.set_cons_succ, List.set_cons_zero, List.length_cons, List.length_nil, chk_t, gk_ok, st, lk_nx, Nat.zero_add, Nat.reduceAdd, ih]
          cases hr : rowsGo (tr.drop (k + 1)) co s2 (c + b2i tr[k].cr) with
          | none => simp [rowsGo, hl, hA, hr, orows]
          | some rs => simp [rowsGo, hl, hA, hr, orows]
      · have ed : tr.drop k = [] := List.drop_eq_nil_of_le (by omega)
        have ed2 : tr.drop (k + 1) = [] := List.drop_eq_nil_of_le (by omega)
        have st := step_rows1 tr X s c found k l hl (by omega) hk
        have ih := loop_rows tr X co (k + 1) (s.take (s.length - l).toNat) c (found ++ [sd (s.take (s.length - l).toNat)]) (some (.int k)) (some (.int l)) (by simp; omega) (by simp; omega)
        rw [ed2] at ih
        rw [ed]
        simp only [gT_p, gCons_eq, gN_eq, gNil_eq, bind_ok, List.set_cons_succ, List.set_cons_zero, List.length_cons, List.length_nil, chk_t, gk_ok, st, lk_nx, Nat.zero_add, Nat.reduceAdd, ih]
        cases hr : rowsGo [] co (s.take (s.length - l).toNat) c with
        | none => simp [rowsGo, hl, hr, orows]
        | some rs => simp [rowsGo, hl, hr, orows]
end Th
end

section
set_option Elab.async false
set_option linter.all false
set_option maxRecDepth 100000
namespace Th
open PySem DN
@[simp] theorem sd_enum (s : List Int) : dEnum [sd s] = .ok ((s.map D.int).zipIdx.map fun p => .pr [.int (p.2 : Nat), p.1]) := rfl
@[simp] theorem sd_items (s : List Int) : dItems (sd s) = .ok (s.map D.int) := rfl
@[simp] theorem td_items (tr : List Ev) : dItems (td tr) = .ok (tr.map Ev.d) := rfl
@[simp] theorem sd_isT (s : List Int) : dIsi "tuple" (sd s) = .ok (.bl true) := rfl
@[simp] theorem td_isT (s : List Ev) : dIsi "tuple" (td s) = .ok (.bl true) := rfl
@[simp] theorem ev_isT (e : Ev) : dIsi "tuple" e.d = .ok (.bl true) := rfl
theorem m_stacks_of (tr : List Ev) (co : List Int) (h : co.length < 1000) : Pf.m_stacks_of [td tr, sd co] = .ok (orows [] (rowsGo tr co [] 0)) := by
  have h := loop_rows tr (sd co) co 0 [] 0 [] none none (by simp; omega) (by simp; omega)
  simp only [List.drop_zero] at h
  simp [Pf.m_stacks_of]
  exact h
theorem m_int (v lo hi : Int) : Pf.m_is_integer [.int v, .int lo, .int hi] = .ok (.bl (decide (lo ≤ v ∧ v ≤ hi))) := by
  by_cases h : lo ≤ v
  · simp [Pf.m_is_integer, h]
  · simp [Pf.m_is_integer, h]
theorem m_int_n (lo hi : Int) : Pf.m_is_integer [.non, .int lo, .int hi] = .ok (.bl false) := by simp [Pf.m_is_integer]
theorem m_int_b (b : Bool) (lo hi : Int) : Pf.m_is_integer [.bl b, .int lo, .int hi] = .ok (.bl false) := by simp [Pf.m_is_integer]
def nameOk (n : Str) : Prop := Pf.m_is_name [.str n] = .ok (.bl true)
def Ev.ok (c : Int) : Ev → Prop
  | .ent n => nameOk n
  | .tai n => nameOk n ∧ 0 < c
  | .exi f => 0 ≤ f ∧ f < c
  | .cat f => 0 ≤ f ∧ f < c
  | .mar => True
theorem m_event (e : Ev) (c : Int) (h : e.ok c) : Pf.m_is_event [e.d, .int c] = .ok (.bl true) := by
  cases e with
  | ent n => have h : nameOk n := h; unfold nameOk at h; simp [Pf.m_is_event, Ev.d, Ev.tag, Ev.rest, h]
  | tai n => obtain ⟨h, hc⟩ := h; unfold nameOk at h; simp [Pf.m_is_event, Ev.d, Ev.tag, Ev.rest, h, hc]
  | exi f => obtain ⟨h, hc⟩ := h; have h2 : f ≤ c - 1 := by omega
             simp [Pf.m_is_event, Ev.d, Ev.tag, Ev.rest, m_int, h, h2]
  | cat f => obtain ⟨h, hc⟩ := h; have h2 : f ≤ c - 1 := by omega
             simp [Pf.m_is_event, Ev.d, Ev.tag, Ev.rest, m_int, h, h2]
  | mar => simp [Pf.m_is_event, Ev.d, Ev.tag, Ev.rest]
/-- a trace whose events are well made -/
def evsOk : Int → List Ev → Prop
  | _, [] => True
  | c, e :: tr => e.ok c ∧ evsOk (c + b2i e.cr) tr
theorem loop_events (X : D) : ∀ (tr : List Ev) (c : Int) (j : Option D), evsOk c tr → finF (rseq (loop (gN 2) Pf.l_are_events_1 (tr.map Ev.d) [some X, some (.int c), j]) (sRet (eC (.bl true)))) = .ok (.bl true)
  | [], c, j, _ => by simp
  | e :: tr, c, j, h => by
    have st : Pf.l_are_events_1 [some X, some (.int c), some e.d] = .ok (.nx [some X, some (.int (c + b2i e.cr)), some e.d]) := by
      simp [Pf.l_are_events_1, m_event e c h.1, b2i]
    have ih := loop_events X tr (c + b2i e.cr) (some e.d) h.2
    simp only [List.map_cons, loop_cons, gN_eq, gk_ok, List.set_cons_succ, List.set_cons_zero, st, lk_nx, ih]
theorem m_events (tr : List Ev) (h : evsOk 0 tr) : Pf.m_are_events [td tr] = .ok (.bl true) := by
  have h := loop_events (td tr) tr 0 none h
  simp [Pf.m_are_events]
  exact h
theorem m_fits (tr : List Ev) (h1 : tr.length ≤ 24) (h2 : created tr ≤ 10) : Pf.m_fits [td tr] = .ok (.bl true) := by
  have h3 : (tr.length : Int) ≤ 24 := by omega
  have h4 : tr.length ≤ 16777216 := by omega
  have h5 : ((tr.filter Ev.cr).length : Int) ≤ 10 := by unfold created at h2; omega
  have hl := lc_all (g := gN 1) (c := eT dB (eBin dIn (eBin dIx (eVar 1) (eC (D.int 0))) (eC (D.tup [D.str "enter", D.str "tail"])))) (f := eVar 1) (env := [some (td tr), none]) (p := Ev.cr) (y := Ev.d) Ev.d (fun e => [some (td tr), some e.d]) tr (fun x hx => by simp)
  simp [Pf.m_fits, h3, h4, hl, h5]
end Th
end

section
set_option Elab.async false
set_option linter.all false
set_option maxRecDepth 100000
namespace Th
open PySem DN
theorem lc_map {α : Type} {g : D → DN.Env → R DN.Env} {f : DN.Env → R D} {env : DN.Env} {y : α → D} (en : α → D) (e : α → DN.Env) (xs : List α) (h : ∀ x ∈ xs, g (en x) env = .ok (e x) ∧ f (e x) = .ok (y x)) : lcGo g eYes f env (xs.map en) = .ok (xs.map y) := by
  have := lc_all (c := eYes) (p := fun _ => true) (y := y) en e xs (fun x hx => ⟨(h x hx).1, rfl, fun _ => (h x hx).2⟩)
  rw [this, List.filter_eq_self.mpr (fun _ _ => rfl)]
theorem dAll_map {α : Type} (p : α → Bool) (xs : List α) : dAll [.lst (xs.map fun x => .bl (p x))] = .ok (.bl (xs.all p)) := by
  have h : dbools (xs.map fun x => D.bl (p x)) = some (xs.map p) := by
    induction xs with
    | nil => rfl
    | cons x xs ih => simp [dbools, ih]
  simp [dAll, h]
/-- a trace as the program wants it -/
structure TrOk (tr : List Ev) : Prop where
  ev : evsOk 0 tr
  len : tr.length ≤ 24
  cr : created tr ≤ 10
theorem m_is_trace {tr : List Ev} (h : TrOk tr) : Pf.m_is_trace [td tr] = .ok (.bl true) := by
  simp [Pf.m_is_trace, m_events tr h.ev, m_fits tr h.len h.cr]
theorem m_req_trace {tr : List Ev} (h : TrOk tr) : Pf.m_require_trace [td tr] = .ok .non := by
  simp [Pf.m_require_trace, m_is_trace h]
@[simp] theorem orows_non (f : List D) (rs : List (List Int)) : (orows f (some rs)).isNon = false := rfl
theorem m_valid {tr : List Ev} {co : List Int} {rs : List (List Int)} (ht : TrOk tr) (h : CoOk tr co rs) : Pf.m_is_valid [td tr, sd co] = .ok (.bl true) := by
  have hl : co.length ≤ 16777216 := by have := h.len; have := ht.len; omega
  have hl2 : (co.length : Int) = (tr.length : Int) + 1 := by have := h.len; omega
  have e1 := lc_map (g := gN 2) (f := eArgs Pf.m_is_integer (eCons (eVar 2) (eCons (eC (.int 0)) (eCons (eC (.int 10)) eNil)))) (env := [some (td tr), some (sd co), none]) (y := fun l => D.bl (decide (0 ≤ l ∧ l ≤ 10))) D.int (fun l => [some (td tr), some (sd co), some (.int l)]) co
    (fun x hx => by simp [m_int])
  have e3 : (∀ x, x ∈ co → 0 ≤ x ∧ x ≤ 10) = True := eq_true h.rng
  have e2 := m_stacks_of tr co (by have := h.len; have := ht.len; omega)
  rw [h.rows] at e2
  simp [Pf.m_is_valid, hl, hl2, e1, e2, dAll_map, e3]
theorem m_req_co {tr : List Ev} {co : List Int} {rs : List (List Int)} (ht : TrOk tr) (h : CoOk tr co rs) : Pf.m_require_completion [td tr, sd co] = .ok .non := by
  simp [Pf.m_require_completion, m_valid ht h]
def rd (rs : List (List Int)) : D := .lst (rs.map sd)
theorem m_stacks {tr : List Ev} {co : List Int} {rs : List (List Int)} (ht : TrOk tr) (h : CoOk tr co rs) : Pf.m_stacks [td tr, sd co] = .ok (rd rs) := by
  have e2 := m_stacks_of tr co (by have := h.len; have := ht.len; omega)
  rw [h.rows] at e2
  simp [Pf.m_stacks, m_req_trace ht, m_req_co ht h, e2, orows, rd]
/-! frames created -/
def il (xs : List Int) : D := .lst (xs.map D.int)
theorem loop_cb (X : D) : ∀ (tr : List Ev) (c : Int) (pre : List D) (j : Option D), pre.length + tr.length < 1000 → finL (rseq (loop (gN 2) Pf.l_created_before_1 (tr.map Ev.d) [some X, some (.lst (pre ++ [.int c])), j]) (sRet (eVar 1))) = .ok (.lst (pre ++ (cbs c tr).map D.int))
  | [], c, pre, j, _ => by simp [cbs]
  | e :: tr, c, pre, j, h => by
    simp only [List.length_cons] at h
    have h1 : pre.length + 1 < 16777216 := by omega
    have st : Pf.l_created_before_1 [some X, some (.lst (pre ++ [.int c])), some e.d] = .ok (.nx [some X, some (.lst ((pre ++ [.int c]) ++ [.int (c + b2i e.cr)])), some e.d]) := by
      simp [Pf.l_created_before_1, atI_last, b2i, h1]
    have ih := loop_cb X tr (c + b2i e.cr) (pre ++ [.int c]) (some e.d) (by simp; omega)
    simp only [List.map_cons, loop_cons, gN_eq, gk_ok, List.set_cons_succ, List.set_cons_zero, st, lk_nx]
    rw [ih]; simp [cbs]
theorem m_cb (tr : List Ev) (h : tr.length < 900) : Pf.m_created_before [td tr] = .ok (il (cbs 0 tr)) := by
  have h := loop_cb (td tr) tr 0 [] none (by simp; omega)
  simp [Pf.m_created_before]
  exact h
theorem loop_lcb (X : D) : ∀ (tr : List Ev) (c : Int) (pre : List D) (j : Option D), pre.length + tr.length < 1000 → finL (rseq (loop (gN 2) Pf.l__law_created_1 (tr.map Ev.d) [some X, some (.lst (pre ++ [.int c])), j]) (sRet (eVar 1))) = .ok (.lst (pre ++ (cbs c tr).map D.int))
  | [], c, pre, j, _ => by simp [cbs]
  | e :: tr, c, pre, j, h => by
    simp only [List.length_cons] at h
    have h1 : pre.length + 1 < 16777216 := by omega
    have st : Pf.l__law_created_1 [some X, some (.lst (pre ++ [.int c])), some e.d] = .ok (.nx [some X, some (.lst ((pre ++ [.int c]) ++ [.int (c + b2i e.cr)])), some e.d]) := by
      simp [Pf.l__law_created_1, atI_last, b2i, h1]
    have ih := loop_lcb X tr (c + b2i e.cr) (pre ++ [.int c]) (some e.d) (by simp; omega)
    simp only [List.map_cons, loop_cons, gN_eq, gk_ok, List.set_cons_succ, List.set_cons_zero, st, lk_nx]
    rw [ih]; simp [cbs]
theorem m_lcb (tr : List Ev) (h : tr.length < 900) : Pf.m__law_created [td tr] = .ok (il (cbs 0 tr)) := by
  have h := loop_lcb (td tr) tr 0 [] none (by simp; omega)
  simp [Pf.m__law_created]
  exact h
def iln (xs : List Nat) : D := .lst (xs.map fun n => .int (n : Nat))
@[simp] theorem td_enum (tr : List Ev) : dEnum [td tr] = .ok (tr.zipIdx.map fun p => .pr [.int (p.2 : Nat), p.1.d]) := by
  simp only [td, dEnum_t, enumD, List.zipIdx_map, List.map_map]; rfl
theorem m_at (tr : List Ev) (h : tr.length < 900) : Pf.m_created_at [td tr] = .ok (iln (crIdx tr)) := by
  have h4 : tr.length ≤ 16777216 := by omega
  have e1 := lc_all (g := gT 2 (gCons' (gN 1) (gCons' (gN 2) gNil'))) (c := eT dB (eBin dIn (eBin dIx (eVar 2) (eC (D.int 0))) (eC (D.tup [D.str "enter", D.str "tail"])))) (f := eVar 1) (env := [some (td tr), none, none]) (p := fun p : Ev × Nat => p.1.cr) (y := fun p => D.int (p.2 : Nat))
    (fun p : Ev × Nat => .pr [.int (p.2 : Nat), p.1.d]) (fun p => [some (td tr), some (.int (p.2 : Nat)), some p.1.d]) tr.zipIdx (fun x hx => by simp)
  simp [Pf.m_created_at, h4, e1, iln, crIdx]
theorem m_lat (tr : List Ev) (h : tr.length < 900) : Pf.m__law_events [td tr] = .ok (iln (crIdx tr)) := by
  have h4 : tr.length ≤ 16777216 := by omega
  have e1 := lc_all (g := gT 2 (gCons' (gN 1) (gCons' (gN 2) gNil'))) (c := eT dB (eBin dIn (eBin dIx (eVar 2) (eC (D.int 0))) (eArgs dTup (eCons (eC (.str "enter")) (eCons (eC (.str "tail")) eNil))))) (f := eVar 1) (env := [some (td tr), none, none]) (p := fun p : Ev × Nat => p.1.cr) (y := fun p => D.int (p.2 : Nat))
    (fun p : Ev × Nat => .pr [.int (p.2 : Nat), p.1.d]) (fun p => [some (td tr), some (.int (p.2 : Nat)), some p.1.d]) tr.zipIdx (fun x hx => by simp)
  simp [Pf.m__law_events, h4, e1, iln, crIdx]
/-! totals -/
@[simp] theorem zip_d (cs : List Int) (rs : List (List Int)) : dZip [il cs, rd rs] = .ok ((cs.zip rs).map fun p => .pr [.int p.1, sd p.2]) := by
  simp only [il, rd, dZip_l, zipD, List.zip_map, List.map_map]; rfl
theorem m_tot {tr : List Ev} {co : List Int} {rs : List (List Int)} (ht : TrOk tr) (h : CoOk tr co rs) : Pf.m_totals [td tr, sd co] = .ok (il (tots (cbs 0 tr) rs)) := by
  have e2 := m_stacks_of tr co (by have := h.len; have := ht.len; omega)
  rw [h.rows] at e2
  have e3 : orows [] (some rs) = rd rs := by simp [orows, rd]
  rw [e3] at e2
  have hl : tr.length + 1 ≤ 16777216 := by have := ht.len; omega
  have e1 := lc_map (g := gT 2 (gCons' (gN 3) (gCons' (gN 4) gNil'))) (f := eBin dSub (eVar 3) (eArgs dLen (eCons (eVar 4) eNil))) (env := [some (td tr), some (sd co), some (il (cbs 0 tr)), none, none]) (y := fun p : Int × List Int => D.int (p.1 - p.2.length))
    (fun p : Int × List Int => .pr [.int p.1, sd p.2]) (fun p => [some (td tr), some (sd co), some (il (cbs 0 tr)), some (.int p.1), some (sd p.2)]) ((cbs 0 tr).zip rs) (fun x hx => by simp)
  have hm : min (tr.length + 1) rs.length ≤ 16777216 := by omega
  have e4 : Pf.m_totals_of [td tr, sd co] = .ok (il (tots (cbs 0 tr) rs)) := by
    simp [Pf.m_totals_of, m_cb tr (by have := ht.len; omega), e2, e1, cbs_len, hm]
    simp [il, tots]
  simp [Pf.m_totals, m_req_trace ht, m_req_co ht h, e4]
theorem m_ltot (tr : List Ev) (rs : List (List Int)) (h : tr.length < 900) : Pf.m__law_totals [td tr, rd rs] = .ok (il (tots (cbs 0 tr) rs)) := by
  have e1 := lc_map (g := gT 2 (gCons' (gN 2) (gCons' (gN 3) gNil'))) (f := eBin dSub (eVar 2) (eArgs dLen (eCons (eVar 3) eNil))) (env := [some (td tr), some (rd rs), none, none]) (y := fun p : Int × List Int => D.int (p.1 - p.2.length))
    (fun p : Int × List Int => .pr [.int p.1, sd p.2]) (fun p => [some (td tr), some (rd rs), some (.int p.1), some (sd p.2)]) ((cbs 0 tr).zip rs) (fun x hx => by simp)
  have hm : min (tr.length + 1) rs.length ≤ 16777216 := by omega
  simp [Pf.m__law_totals, m_lcb tr h, e1, cbs_len, hm]
  simp [il, tots]
end Th
end

section
set_option Elab.async false
set_option linter.all false
set_option maxRecDepth 100000
namespace Th
open PySem DN
/-! stacks grow upwards -/
@[simp] theorem dps_ints : ∀ s : List Int, D.dps (s.map D.int) = 0
  | [] => rfl
  | x :: s => by simp [dps_ints s]
@[simp] theorem dps_app (xs ys : List D) : D.dps (xs ++ ys) = max (D.dps xs) (D.dps ys) := by
  induction xs with
  | nil => simp
  | cons x xs ih => simp [ih, Nat.max_assoc]
@[simp] theorem eqvs_snoc_nil (xs : List D) (y : D) : D.eqvs (xs ++ [y]) [] = false := by
  cases xs <;> simp
@[simp] theorem sd_in (s : List Int) (f : Int) : dIn (.int f) (sd s) = .ok (.bl (decide (f ∈ s))) := by simp [sd]
@[simp] theorem sd_notin (s : List Int) (f : Int) : dNotIn (.int f) (sd s) = .ok (.bl (!decide (f ∈ s))) := by simp [sd]
@[simp] theorem sd_dp (s : List Int) : (sd s).dp = 1 := by simp [sd]
@[simp] theorem sd_eqv0 (s : List Int) : (sd s).eqv (.tup []) = s.isEmpty := by cases s <;> simp [sd]
theorem eqvs_ints : ∀ s t : List Int, D.eqvs (s.map D.int) (t.map D.int) = decide (s = t)
  | [], [] => by simp
  | [], _ :: _ => by simp
  | _ :: _, [] => by simp
  | x :: s, y :: t => by
    simp only [List.map_cons, D.eqvs, D.eqv, eqvs_ints s t, List.cons.injEq, Bool.decide_and]
    congr 1
@[simp] theorem sd_eqv (s t : List Int) : (sd s).eqv (sd t) = decide (s = t) := by simp [sd, eqvs_ints]
theorem m_lafter (s : List Int) (c : Int) (e : Ev) (hs : s.length < 1000) (hp : s.Pairwise (· < ·)) : Pf.m__law_after [sd s, e.d, .int c] = .ok (od (after s c e)) := by
  have h0 : s.length ≤ 16777215 := by omega
  have h1 : s.length ≤ 16777216 := by omega
  cases e with
  | ent n => simp [Pf.m__law_after, Ev.d, Ev.tag, Ev.rest, sd, after, od, h0]
  | tai n =>
    cases s with
    | nil => simp [Pf.m__law_after, Ev.d, Ev.tag, Ev.rest, sd, after, od]
    | cons x xs =>
      have h : xs.length ≤ 16777215 := by simp at hs ⊢; omega
      have e1 : cutD (D.int x :: List.map D.int xs) none (some (-1)) = ((x :: xs).dropLast).map D.int := by rw [cut_init]; simp [List.map_dropLast]
      simp [Pf.m__law_after, Ev.d, Ev.tag, Ev.rest, sd, after, od, e1, h]
  | exi f =>
    rcases List.eq_nil_or_concat s with rfl | ⟨xs, x, rfl⟩
    · simp [Pf.m__law_after, Ev.d, Ev.tag, Ev.rest, sd, after, od]
    · by_cases h : x = f
      · simp [Pf.m__law_after, Ev.d, Ev.tag, Ev.rest, sd, after, od, cut_init, atI_last, h]
      · simp [Pf.m__law_after, Ev.d, Ev.tag, Ev.rest, sd, after, od, cut_init, atI_last, h]
  | cat f =>
    have e1 := lc_all (g := gN 3) (c := eT dB (eBin dLe (eVar 3) (eBin dIx (eVar 1) (eC (D.int 1))))) (f := eVar 3) (env := [some (sd s), some (Ev.cat f).d, some (.int c), none]) (p := fun y => decide (y ≤ f)) (y := D.int) D.int (fun y => [some (sd s), some (Ev.cat f).d, some (.int c), some (.int y)]) s (fun y hy => by simp [Ev.d, Ev.rest])
    cases he : s.isEmpty with
    | true =>
      rw [List.isEmpty_iff] at he
      subst he
      simp [Pf.m__law_after, Ev.d, Ev.tag, Ev.rest, sd, after, od]
    | false =>
      simp only [Ev.d, Ev.tag, Ev.rest] at e1
      by_cases h : f ∈ s
      · rw [filter_le hp h] at e1
        simp [Pf.m__law_after, Ev.d, Ev.tag, Ev.rest, after, od, he, h, e1, h1]
        simp [sd]
      · simp [Pf.m__law_after, Ev.d, Ev.tag, Ev.rest, after, od, he, h]
  | mar => simp [Pf.m__law_after, Ev.d, Ev.tag, Ev.rest, sd, after, od]
end Th
end

section
set_option Elab.async false
set_option linter.all false
set_option maxRecDepth 100000
namespace Th
open PySem DN
theorem step_lrows0 (tr : List Ev) (X : D) (s : List Int) (c : Int) (found : List D) (k : Nat) (l : Int) (hl : (s.length : Int) < l) :
    Pf.l__law_rows_1 [some (td tr), some X, some (sd s), some (.int c), some (.lst found), some (.int k), some (.int l)] = .ok (.rt .non [some (td tr), some X, some (sd s), some (.int c), some (.lst found), some (.int k), some (.int l)]) := by
  simp [Pf.l__law_rows_1, hl]
theorem step_lrows1 (tr : List Ev) (X : D) (s : List Int) (c : Int) (found : List D) (k : Nat) (l : Int) (hl : ¬ (s.length : Int) < l) (hf : found.length < 16777216) (hk : ¬ k < tr.length) :
    Pf.l__law_rows_1 [some (td tr), some X, some (sd s), some (.int c), some (.lst found), some (.int k), some (.int l)] = .ok (.nx [some (td tr), some X, some (sd (s.take (s.length - l).toNat)), some (.int c), some (.lst (found ++ [sd (s.take (s.length - l).toNat)])), some (.int k), some (.int l)]) := by
  have hsl := sd_sl s (s.length - l) (by omega)
  simp [Pf.l__law_rows_1, hl, hsl, hf, hk]
theorem step_lrows2 (tr : List Ev) (X : D) (s : List Int) (c : Int) (found : List D) (k : Nat) (l : Int) (e : Ev) (hl : ¬ (s.length : Int) < l) (hf : found.length < 16777216) (hk : tr[k]? = some e) (hs : s.length < 1000) (hi : Inc s c) :
    Pf.l__law_rows_1 [some (td tr), some X, some (sd s), some (.int c), some (.lst found), some (.int k), some (.int l)] = match after (s.take (s.length - l).toNat) c e with
      | none => .ok (.rt .non [some (td tr), some X, some .non, some (.int (c + b2i e.cr)), some (.lst (found ++ [sd (s.take (s.length - l).toNat)])), some (.int k), some (.int l)])
      | some s2 => .ok (.nx [some (td tr), some X, some (sd s2), some (.int (c + b2i e.cr)), some (.lst (found ++ [sd (s.take (s.length - l).toNat)])), some (.int k), some (.int l)]) := by
  have hsl := sd_sl s (s.length - l) (by omega)
  have ha := m_lafter (s.take (s.length - l).toNat) c e (by simp; omega) (hi.take _).p
  obtain ⟨hk2, hk3⟩ := List.getElem?_eq_some_iff.mp hk
  cases hA : after (s.take (s.length - l).toNat) c e with
  | none => rw [hA] at ha; simp [Pf.l__law_rows_1, hl, hsl, hf, hk2, hk3, ha, od, b2i]
  | some s2 => rw [hA] at ha; simp [Pf.l__law_rows_1, hl, hsl, hf, hk2, hk3, ha, od, b2i]
theorem loop_lrows (tr : List Ev) (X : D) : ∀ (co : List Int) (k : Nat) (s : List Int) (c : Int) (found : List D) (j5 j6 : Option D), s.length + co.length < 1000 → found.length + co.length < 1000 → Inc s c → 0 ≤ c →
    finF (rseq (loop (gT 2 (gCons' (gN 5) (gCons' (gN 6) gNil'))) Pf.l__law_rows_1 (((co.map D.int).zipIdx k).map fun p => .pr [.int (p.2 : Nat), p.1]) [some (td tr), some X, some (sd s), some (.int c), some (.lst found), j5, j6]) (sRet (eVar 4)))
      = .ok (orows found (rowsGo (tr.drop k) co s c))
  | [], k, s, c, found, j5, j6, h1, h2, _, _ => by simp [rowsGo, orows]
  | l :: co, k, s, c, found, j5, j6, h1, h2, hi, hc => by
    simp only [List.length_cons] at h1 h2
    simp only [List.map_cons, List.zipIdx_cons, loop_cons]
    by_cases hl : (s.length : Int) < l
    · simp [step_lrows0 tr X s c found k l hl, rowsGo, hl, orows]
    · by_cases hk : k < tr.length
      · have ed : tr.drop k = tr[k] :: tr.drop (k + 1) := List.drop_eq_getElem_cons hk
        have st := step_lrows2 tr X s c found k l tr[k] hl (by omega) (List.getElem?_eq_getElem hk) (by omega) hi
        rw [ed]
        cases hA : after (s.take (s.length - l).toNat) c tr[k] with
        | none =>
          rw [hA] at st
          simp [st, rowsGo, hl, hA, orows]
        | some s2 =>
          rw [hA] at st
          have hs2 := after_len hA
          simp only [List.length_take] at hs2
          have hi2 := after_inc (hi.take _) hc hA
          have ih := loop_lrows tr X co (k + 1) s2 (c + b2i tr[k].cr) (found ++ [sd (s.take (s.length - l).toNat)]) (some (.int k)) (some (.int l)) (by omega) (by simp; omega) hi2.1 hi2.2
          simp only [gT_p, gCons_eq, gN_eq, gNil_eq, bind_ok, List.set_cons_succ, List.set_cons_zero, List.length_cons, List.length_nil, chk_t, gk_ok, st, lk_nx, Nat.zero_add, Nat.reduceAdd, ih]
          cases hr : rowsGo (tr.drop (k + 1)) co s2 (c + b2i tr[k].cr) with
          | none => simp [rowsGo, hl, hA, hr, orows]
          | some rs => simp [rowsGo, hl, hA, hr, orows]
      · have ed : tr.drop k = [] := List.drop_eq_nil_of_le (by omega)
        have ed2 : tr.drop (k + 1) = [] := List.drop_eq_nil_of_le (by omega)
        have st := step_lrows1 tr X s c found k l hl (by omega) hk
        have ih := loop_lrows tr X co (k + 1) (s.take (s.length - l).toNat) c (found ++ [sd (s.take (s.length - l).toNat)]) (some (.int k)) (some (.int l)) (by simp; omega) (by simp; omega) (hi.take _) hc
        rw [ed2] at ih
        rw [ed]
        simp only [gT_p, gCons_eq, gN_eq, gNil_eq, bind_ok, List.set_cons_succ, List.set_cons_zero, List.length_cons, List.length_nil, chk_t, gk_ok, st, lk_nx, Nat.zero_add, Nat.reduceAdd, ih]
        cases hr : rowsGo [] co (s.take (s.length - l).toNat) c with
        | none => simp [rowsGo, hl, hr, orows]
        | some rs => simp [rowsGo, hl, hr, orows]
theorem m_lrows (tr : List Ev) (co : List Int) (h : co.length < 1000) : Pf.m__law_rows [td tr, sd co] = .ok (orows [] (rowsGo tr co [] 0)) := by
  have h := loop_lrows tr (sd co) co 0 [] 0 [] none none (by simp; omega) (by simp; omega) Inc.nil (by omega)
  simp only [List.drop_zero] at h
  simp [Pf.m__law_rows]
  exact h
/-! what rows are -/
end Th
end

section
set_option Elab.async false
set_option linter.all false
set_option maxRecDepth 100000
namespace Th
open PySem DN
/-- the frame below the top one -/
def calD (st : List Int) : D := if 1 < st.length then (L2.atI (st.map D.int) (-2)).getD .non else .non
theorem atI2 {α : Type} (xs : List α) (h : 1 < xs.length) : ∃ x ∈ xs, L2.atI xs (-2) = some x := by
  have h1 : ¬ (0 : Int) ≤ -2 := by omega
  have h2 : -((xs.length : Nat) : Int) ≤ -2 := by omega
  have h3 : ((-2 : Int) + (xs.length : Int)).toNat < xs.length := by omega
  refine ⟨xs[((-2 : Int) + (xs.length : Int)).toNat], List.getElem_mem h3, ?_⟩
  simp only [L2.atI, L2.ixN, if_neg h1, if_pos h2, Option.bind, List.getElem?_eq_getElem h3]
theorem sd_ix2 (st : List Int) (h : 1 < st.length) : dIx (sd st) (.int (-2)) = .ok (calD st) := by
  obtain ⟨x, hx, e⟩ := atI2 (st.map D.int) (by simpa using h)
  simp [sd, calD, h, e]
theorem calD_plain (st : List Int) : calD st = .non ∨ ∃ i, calD st = .int i := by
  unfold calD
  by_cases h : 1 < st.length
  · obtain ⟨x, hx, e⟩ := atI2 (st.map D.int) (by simpa using h)
    rw [if_pos h, e]
    obtain ⟨i, _, rfl⟩ := List.mem_map.mp hx
    exact .inr ⟨i, rfl⟩
  · rw [if_neg h]; exact .inl rfl
def calP (tr : List Ev) (rs : List (List Int)) (p : Nat × Nat) : D := match tr[p.1]?, rs[p.1]? with
  | some e, some r => (match after r p.2 e with
    | some st => calD st
    | none => .non)
  | _, _ => .non
/-- rows that fit a trace -/
def Fit (tr : List Ev) (rs : List (List Int)) : Prop := ∀ (k : Nat) (e : Ev), tr[k]? = some e → ∃ r, rs[k]? = some r ∧ r.length < 900 ∧ r.Pairwise (· < ·) ∧ ∀ c, (after r c e).isSome
@[simp] theorem iln_enum (xs : List Nat) : dEnum [iln xs] = .ok (xs.zipIdx.map fun p => .pr [.int (p.2 : Nat), .int (p.1 : Nat)]) := by
  simp only [iln, dEnum_l, enumD, List.zipIdx_map, List.map_map]; rfl
@[simp] theorem rd_ix (rs : List (List Int)) (k : Nat) : dIx (rd rs) (.int k) = ofO (rs[k]?.map sd) := by simp [rd]
@[simp] theorem rd_len (rs : List (List Int)) : dLen [rd rs] = .ok (.int rs.length) := by simp [rd]
theorem step_cal {tr : List Ev} {rs : List (List Int)} (hF : Fit tr rs) (X : D) (found : List D) (at_ fr : Nat) (j : Option D) (h : at_ < tr.length) (hf : found.length < 16777216) :
    ∃ j', Pf.l_callers_1 [some (td tr), some X, some (rd rs), some (.lst found), some (.int fr), some (.int at_), j] = .ok (.nx [some (td tr), some X, some (rd rs), some (.lst (found ++ [calP tr rs (at_, fr)])), some (.int fr), some (.int at_), j']) := by
  obtain ⟨r, hr, hl, hp, ha⟩ := hF at_ tr[at_] (List.getElem?_eq_getElem h)
  obtain ⟨st, hst⟩ := Option.isSome_iff_exists.mp (ha fr)
  have m := m_after r fr tr[at_] (by omega)
  obtain ⟨hr2, hr3⟩ := List.getElem?_eq_some_iff.mp hr
  refine ⟨some (sd st), ?_⟩
  by_cases hs : 1 < st.length
  · have hs2 : 1 < (st.length : Int) := by omega
    simp [Pf.l_callers_1, h, hr2, hr3, m, hst, od, hs2, sd_ix2 st hs, hf, calP]
  · have hs2 : ¬ 1 < (st.length : Int) := by omega
    simp [Pf.l_callers_1, h, hr2, hr3, m, hst, od, hs2, hs, hf, calP, calD]
theorem loop_cal {tr : List Ev} {rs : List (List Int)} (hF : Fit tr rs) (X : D) : ∀ (xs : List Nat) (k : Nat) (found : List D) (j4 j5 j6 : Option D), (∀ n ∈ xs, n < tr.length) → found.length + xs.length < 1000 →
    finL (rseq (loop (gT 2 (gCons' (gN 4) (gCons' (gN 5) gNil'))) Pf.l_callers_1 ((xs.zipIdx k).map fun p => .pr [.int (p.2 : Nat), .int (p.1 : Nat)]) [some (td tr), some X, some (rd rs), some (.lst found), j4, j5, j6]) (sRet (eVar 3)))
      = .ok (.lst (found ++ (xs.zipIdx k).map (calP tr rs)))
  | [], k, found, j4, j5, j6, _, _ => by simp
  | n :: xs, k, found, j4, j5, j6, h, hl => by
    simp only [List.length_cons] at hl
    obtain ⟨j', st⟩ := step_cal hF X found n k j6 (h n (List.mem_cons_self ..)) (by omega)
    have ih := loop_cal hF X xs (k + 1) (found ++ [calP tr rs (n, k)]) (some (.int k)) (some (.int n)) j' (fun m hm => h m (List.mem_cons_of_mem _ hm)) (by simp; omega)
    simp only [List.zipIdx_cons, List.map_cons, loop_cons, gT_p, gCons_eq, gN_eq, gNil_eq, bind_ok, List.set_cons_succ, List.set_cons_zero, List.length_cons, List.length_nil, chk_t, gk_ok, st, lk_nx, Nat.zero_add, Nat.reduceAdd, ih]
    simp
theorem step_lcal {tr : List Ev} {rs : List (List Int)} (hF : Fit tr rs) (found : List D) (at_ fr : Nat) (j : Option D) (h : at_ < tr.length) (hf : found.length < 16777216) :
    ∃ j', Pf.l__law_callers_1 [some (td tr), some (rd rs), some (.lst found), some (.int fr), some (.int at_), j] = .ok (.nx [some (td tr), some (rd rs), some (.lst (found ++ [calP tr rs (at_, fr)])), some (.int fr), some (.int at_), j']) := by
  obtain ⟨r, hr, hl, hp, ha⟩ := hF at_ tr[at_] (List.getElem?_eq_getElem h)
  obtain ⟨st, hst⟩ := Option.isSome_iff_exists.mp (ha fr)
  have m := m_lafter r fr tr[at_] (by omega) hp
  obtain ⟨hr2, hr3⟩ := List.getElem?_eq_some_iff.mp hr
  refine ⟨some (sd st), ?_⟩
  by_cases hs : 1 < st.length
  · have hs2 : 1 < (st.length : Int) := by omega
    simp [Pf.l__law_callers_1, h, hr2, hr3, m, hst, od, hs2, sd_ix2 st hs, hf, calP]
  · have hs2 : ¬ 1 < (st.length : Int) := by omega
    simp [Pf.l__law_callers_1, h, hr2, hr3, m, hst, od, hs2, hs, hf, calP, calD]
theorem loop_lcal {tr : List Ev} {rs : List (List Int)} (hF : Fit tr rs) : ∀ (xs : List Nat) (k : Nat) (found : List D) (j4 j5 j6 : Option D), (∀ n ∈ xs, n < tr.length) → found.length + xs.length < 1000 →
    finF (rseq (loop (gT 2 (gCons' (gN 3) (gCons' (gN 4) gNil'))) Pf.l__law_callers_1 ((xs.zipIdx k).map fun p => .pr [.int (p.2 : Nat), .int (p.1 : Nat)]) [some (td tr), some (rd rs), some (.lst found), j4, j5, j6]) (sRet (eVar 2)))
      = .ok (.lst (found ++ (xs.zipIdx k).map (calP tr rs)))
  | [], k, found, j4, j5, j6, _, _ => by simp
  | n :: xs, k, found, j4, j5, j6, h, hl => by
    simp only [List.length_cons] at hl
    obtain ⟨j', st⟩ := step_lcal hF found n k j6 (h n (List.mem_cons_self ..)) (by omega)
    have ih := loop_lcal hF xs (k + 1) (found ++ [calP tr rs (n, k)]) (some (.int k)) (some (.int n)) j' (fun m hm => h m (List.mem_cons_of_mem _ hm)) (by simp; omega)
    simp only [List.zipIdx_cons, List.map_cons, loop_cons, gT_p, gCons_eq, gN_eq, gNil_eq, bind_ok, List.set_cons_succ, List.set_cons_zero, List.length_cons, List.length_nil, chk_t, gk_ok, st, lk_nx, Nat.zero_add, Nat.reduceAdd, ih]
    simp
def cals (tr : List Ev) (rs : List (List Int)) : D := .lst ((crIdx tr).zipIdx.map (calP tr rs))
theorem CoOk.fit {tr : List Ev} {co : List Int} {rs : List (List Int)} (ht : TrOk tr) (h : CoOk tr co rs) : Fit tr rs := fun k e he => by
  obtain ⟨hk, _⟩ := List.getElem?_eq_some_iff.mp he
  have hlen := rows_len h.rows
  have hk2 : k < rs.length := by have := h.len; omega
  obtain ⟨a, b, d⟩ := rows_at Inc.nil (by omega) h.rows k rs[k] (List.getElem?_eq_getElem hk2)
  have := ht.len
  exact ⟨rs[k], List.getElem?_eq_getElem hk2, by simp at a; omega, b, d e he⟩
theorem m_cal {tr : List Ev} {co : List Int} {rs : List (List Int)} (ht : TrOk tr) (h : CoOk tr co rs) : Pf.m_callers [td tr, sd co] = .ok (cals tr rs) := by
  have e2 := m_stacks_of tr co (by have := h.len; have := ht.len; omega)
  rw [h.rows] at e2
  have e3 : orows [] (some rs) = rd rs := by simp [orows, rd]
  rw [e3] at e2
  have hl := crIdx_len tr
  have hlt := ht.len
  have e1 := loop_cal (h.fit ht) (sd co) (crIdx tr) 0 [] none none none (fun n hn => crIdx_lt hn) (by simp; omega)
  simp [Pf.m_callers, m_req_trace ht, m_req_co ht h, e2, m_at tr (by omega)]
  exact e1
theorem m_lcal {tr : List Ev} {rs : List (List Int)} (ht : TrOk tr) (h : Fit tr rs) : Pf.m__law_callers [td tr, rd rs] = .ok (cals tr rs) := by
  have hl := crIdx_len tr
  have hlt := ht.len
  have e1 := loop_lcal h (crIdx tr) 0 [] none none none (fun n hn => crIdx_lt hn) (by simp; omega)
  simp [Pf.m__law_callers, m_lat tr (by omega)]
  exact e1
end Th
end

section
set_option Elab.async false
set_option linter.all false
set_option maxRecDepth 100000
namespace Th
open PySem DN
theorem small_nat (n : Nat) (h : n < 1000000) : small62 (n : Int) = true := by
  simp only [small62, decide_eq_true_eq]; omega
theorem dps_mapint {α : Type} (f : α → Int) (xs : List α) : D.dps (xs.map fun a => .int (f a)) = 0 := by
  induction xs with
  | nil => rfl
  | cons x xs ih => simp [ih]
def goneP (rs : List (List Int)) (fr a : Nat) (k : Nat) : Bool := !decide ((fr : Int) ∈ rs[a + 1 + k]?.getD [])
/-- the moments at which the frame is gone -/
def goneL (rs : List (List Int)) (fr a : Nat) : List Int := ((List.range (rs.length - (a + 1))).filter (goneP rs fr a)).map fun (k : Nat) => (a : Int) + 1 + (k : Int)
def endP (rs : List (List Int)) (p : Nat × Nat) : D := match goneL rs p.2 p.1 with
  | n :: _ => .int n
  | [] => .non
theorem endP_plain (rs : List (List Int)) (p : Nat × Nat) : endP rs p = .non ∨ ∃ i, endP rs p = .int i := by
  unfold endP
  split
  · exact .inr ⟨_, rfl⟩
  · exact .inl rfl
theorem gone_den (tr : List Ev) (X : D) (rs : List (List Int)) (f0 : Option D) (fr a : Nat) (j6 : Option D) (h : rs.length < 900) (ha : a < 900) :
    eLc [7] (eItA dRange2 (eCons (eBin dAdd (eVar 5) (eC (.int 1))) (eCons (eArgs dLen (eCons (eVar 2) eNil)) eNil))) (gN 7) (eT dB (eBin dNotIn (eVar 4) (eBin dIx (eVar 2) (eVar 7)))) (eVar 7)
      [some (td tr), some X, some (rd rs), f0, some (.int fr), some (.int a), j6, none] = .ok (il (goneL rs fr a)) := by
  have s1 : small62 ((a : Int) + 1) = true := by have := small_nat (a + 1) (by omega); simpa using this
  have s2 := small_nat rs.length (by omega)
  have e1 : ((rs.length : Int) - ((a : Int) + 1)).toNat = rs.length - (a + 1) := by omega
  have hl : rs.length - (a + 1) ≤ 16777216 := by omega
  have e2 := lc_all (g := gN 7) (c := eT dB (eBin dNotIn (eVar 4) (eBin dIx (eVar 2) (eVar 7)))) (f := eVar 7) (env := [some (td tr), some X, some (rd rs), f0, some (.int fr), some (.int a), j6, none]) (p := goneP rs fr a) (y := fun (k : Nat) => .int ((a : Int) + 1 + (k : Int)))
    (fun (k : Nat) => .int ((a : Int) + 1 + (k : Int))) (fun k => [some (td tr), some X, some (rd rs), f0, some (.int fr), some (.int a), j6, some (.int ((a : Int) + 1 + (k : Int)))]) (List.range (rs.length - (a + 1))) (fun k hk => by
      have hk2 : a + 1 + k < rs.length := by have := List.mem_range.mp hk; omega
      refine ⟨rfl, ?_, fun _ => rfl⟩
      have e0 : (a : Int) + 1 + (k : Int) = ((a + 1 + k : Nat) : Int) := by omega
      have e3 := rd_ix rs (a + 1 + k)
      rw [List.getElem?_eq_getElem hk2, ← e0] at e3
      simp only [eT_eq, eBin_eq, eVar_eq, List.getElem?_cons_succ, List.getElem?_cons_zero, ofSlot_s, bind_ok, e3, Option.map_some, ofO_s, sd_notin, dB_b, goneP, List.getElem?_eq_getElem hk2, Option.getD_some])
  have hi : eItA dRange2 (eCons (eBin dAdd (eVar 5) (eC (.int 1))) (eCons (eArgs dLen (eCons (eVar 2) eNil)) eNil)) [some (td tr), some X, some (rd rs), f0, some (.int fr), some (.int a), j6, none] = .ok ((List.range (rs.length - (a + 1))).map fun (k : Nat) => .int ((a : Int) + 1 + (k : Int))) := by
    simp only [eItA_eq, eCons_eq, eBin_eq, eVar_eq, eC_eq, eArgs_eq, eNil_eq, List.getElem?_cons_succ, List.getElem?_cons_zero, ofSlot_s, bind_ok, dAdd_i, rd_len, dRange2_ok _ _ s1 s2, e1, rangeD]
  rw [eLc_eq, hi, bind_ok, chk_pos (by rw [List.length_map, List.length_range]; exact hl)]
  have hw : wipeE [some (td tr), some X, some (rd rs), f0, some (.int fr), some (.int a), j6, none] [7] = [some (td tr), some X, some (rd rs), f0, some (.int fr), some (.int a), j6, none] := rfl
  rw [hw, e2, nox_ok, bind_ok, il, goneL, List.map_map]; rfl
theorem step_end (tr : List Ev) (X : D) (rs : List (List Int)) (found : List D) (a fr : Nat) (j6 j7 : Option D) (h : rs.length < 900) (ha : a < 900) (hf : found.length < 16777216) :
    ∃ j', Pf.l_ends_1 [some (td tr), some X, some (rd rs), some (.lst found), some (.int fr), some (.int a), j6, none] = .ok (.nx [some (td tr), some X, some (rd rs), some (.lst (found ++ [endP rs (a, fr)])), some (.int fr), some (.int a), j', none]) := by
  have g := gone_den tr X rs (some (.lst found)) fr a j6 h ha
  refine ⟨some (il (goneL rs fr a)), ?_⟩
  cases hg : goneL rs fr a with
  | nil => rw [hg] at g; simp only [Pf.l_ends_1, sSeq_eq, sSet_eq, g]; simp [il, hf, endP, hg]
  | cons n ns => rw [hg] at g; simp only [Pf.l_ends_1, sSeq_eq, sSet_eq, g]; simp [il, hf, endP, hg]
theorem loop_end (tr : List Ev) (X : D) (rs : List (List Int)) (h0 : rs.length < 900) : ∀ (xs : List Nat) (k : Nat) (found : List D) (j4 j5 j6 : Option D), (∀ n ∈ xs, n < 900) → found.length + xs.length < 1000 →
    finL (rseq (loop (gT 2 (gCons' (gN 4) (gCons' (gN 5) gNil'))) Pf.l_ends_1 ((xs.zipIdx k).map fun p => .pr [.int (p.2 : Nat), .int (p.1 : Nat)]) [some (td tr), some X, some (rd rs), some (.lst found), j4, j5, j6, none]) (sRet (eVar 3)))
      = .ok (.lst (found ++ (xs.zipIdx k).map (endP rs)))
  | [], k, found, j4, j5, j6, _, _ => by simp
  | n :: xs, k, found, j4, j5, j6, h, hl => by
    simp only [List.length_cons] at hl
    obtain ⟨j', st⟩ := step_end tr X rs found n k j6 none h0 (h n (List.mem_cons_self ..)) (by omega)
    have ih := loop_end tr X rs h0 xs (k + 1) (found ++ [endP rs (n, k)]) (some (.int k)) (some (.int n)) j' (fun m hm => h m (List.mem_cons_of_mem _ hm)) (by simp; omega)
    simp only [List.zipIdx_cons, List.map_cons, loop_cons, gT_p, gCons_eq, gN_eq, gNil_eq, bind_ok, List.set_cons_succ, List.set_cons_zero, List.length_cons, List.length_nil, chk_t, gk_ok, st, lk_nx, Nat.zero_add, Nat.reduceAdd, ih]
    simp
theorem lgone_den (tr : List Ev) (rs : List (List Int)) (f0 : Option D) (fr a : Nat) (j5 : Option D) (h : rs.length < 900) (ha : a < 900) :
    eLc [6] (eItA dRange2 (eCons (eBin dAdd (eVar 4) (eC (.int 1))) (eCons (eArgs dLen (eCons (eVar 1) eNil)) eNil))) (gN 6) (eT dB (eBin dNotIn (eVar 3) (eBin dIx (eVar 1) (eVar 6)))) (eVar 6)
      [some (td tr), some (rd rs), f0, some (.int fr), some (.int a), j5, none] = .ok (il (goneL rs fr a)) := by
  have s1 : small62 ((a : Int) + 1) = true := by have := small_nat (a + 1) (by omega); simpa using this
  have s2 := small_nat rs.length (by omega)
  have e1 : ((rs.length : Int) - ((a : Int) + 1)).toNat = rs.length - (a + 1) := by omega
  have hl : rs.length - (a + 1) ≤ 16777216 := by omega
  have e2 := lc_all (g := gN 6) (c := eT dB (eBin dNotIn (eVar 3) (eBin dIx (eVar 1) (eVar 6)))) (f := eVar 6) (env := [some (td tr), some (rd rs), f0, some (.int fr), some (.int a), j5, none]) (p := goneP rs fr a) (y := fun (k : Nat) => .int ((a : Int) + 1 + (k : Int)))
    (fun (k : Nat) => .int ((a : Int) + 1 + (k : Int))) (fun k => [some (td tr), some (rd rs), f0, some (.int fr), some (.int a), j5, some (.int ((a : Int) + 1 + (k : Int)))]) (List.range (rs.length - (a + 1))) (fun k hk => by
      have hk2 : a + 1 + k < rs.length := by have := List.mem_range.mp hk; omega
      refine ⟨rfl, ?_, fun _ => rfl⟩
      have e0 : (a : Int) + 1 + (k : Int) = ((a + 1 + k : Nat) : Int) := by omega
      have e3 := rd_ix rs (a + 1 + k)
      rw [List.getElem?_eq_getElem hk2, ← e0] at e3
      simp only [eT_eq, eBin_eq, eVar_eq, List.getElem?_cons_succ, List.getElem?_cons_zero, ofSlot_s, bind_ok, e3, Option.map_some, ofO_s, sd_notin, dB_b, goneP, List.getElem?_eq_getElem hk2, Option.getD_some])
  have hi : eItA dRange2 (eCons (eBin dAdd (eVar 4) (eC (.int 1))) (eCons (eArgs dLen (eCons (eVar 1) eNil)) eNil)) [some (td tr), some (rd rs), f0, some (.int fr), some (.int a), j5, none] = .ok ((List.range (rs.length - (a + 1))).map fun (k : Nat) => .int ((a : Int) + 1 + (k : Int))) := by
    simp only [eItA_eq, eCons_eq, eBin_eq, eVar_eq, eC_eq, eArgs_eq, eNil_eq, List.getElem?_cons_succ, List.getElem?_cons_zero, ofSlot_s, bind_ok, dAdd_i, rd_len, dRange2_ok _ _ s1 s2, e1, rangeD]
  rw [eLc_eq, hi, bind_ok, chk_pos (by rw [List.length_map, List.length_range]; exact hl)]
  have hw : wipeE [some (td tr), some (rd rs), f0, some (.int fr), some (.int a), j5, none] [6] = [some (td tr), some (rd rs), f0, some (.int fr), some (.int a), j5, none] := rfl
  rw [hw, e2, nox_ok, bind_ok, il, goneL, List.map_map]; rfl
theorem step_lend (tr : List Ev) (rs : List (List Int)) (found : List D) (a fr : Nat) (j5 : Option D) (h : rs.length < 900) (ha : a < 900) (hf : found.length < 16777216) :
    ∃ j', Pf.l__law_ends_1 [some (td tr), some (rd rs), some (.lst found), some (.int fr), some (.int a), j5, none] = .ok (.nx [some (td tr), some (rd rs), some (.lst (found ++ [endP rs (a, fr)])), some (.int fr), some (.int a), j', none]) := by
  have g := lgone_den tr rs (some (.lst found)) fr a j5 h ha
  refine ⟨some (il (goneL rs fr a)), ?_⟩
  cases hg : goneL rs fr a with
  | nil => rw [hg] at g; simp only [Pf.l__law_ends_1, sSeq_eq, sSet_eq, g]; simp [il, hf, endP, hg]
  | cons n ns => rw [hg] at g; simp only [Pf.l__law_ends_1, sSeq_eq, sSet_eq, g]; simp [il, hf, endP, hg]
theorem loop_lend (tr : List Ev) (rs : List (List Int)) (h0 : rs.length < 900) : ∀ (xs : List Nat) (k : Nat) (found : List D) (j4 j5 j6 : Option D), (∀ n ∈ xs, n < 900) → found.length + xs.length < 1000 →
    finF (rseq (loop (gT 2 (gCons' (gN 3) (gCons' (gN 4) gNil'))) Pf.l__law_ends_1 ((xs.zipIdx k).map fun p => .pr [.int (p.2 : Nat), .int (p.1 : Nat)]) [some (td tr), some (rd rs), some (.lst found), j4, j5, j6, none]) (sRet (eVar 2)))
      = .ok (.lst (found ++ (xs.zipIdx k).map (endP rs)))
  | [], k, found, j4, j5, j6, _, _ => by simp
  | n :: xs, k, found, j4, j5, j6, h, hl => by
    simp only [List.length_cons] at hl
    obtain ⟨j', st⟩ := step_lend tr rs found n k j6 h0 (h n (List.mem_cons_self ..)) (by omega)
    have ih := loop_lend tr rs h0 xs (k + 1) (found ++ [endP rs (n, k)]) (some (.int k)) (some (.int n)) j' (fun m hm => h m (List.mem_cons_of_mem _ hm)) (by simp; omega)
    simp only [List.zipIdx_cons, List.map_cons, loop_cons, gT_p, gCons_eq, gN_eq, gNil_eq, bind_ok, List.set_cons_succ, List.set_cons_zero, List.length_cons, List.length_nil, chk_t, gk_ok, st, lk_nx, Nat.zero_add, Nat.reduceAdd, ih]
    simp
def endsD (tr : List Ev) (rs : List (List Int)) : D := .lst ((crIdx tr).zipIdx.map (endP rs))
theorem m_ends {tr : List Ev} {co : List Int} {rs : List (List Int)} (ht : TrOk tr) (h : CoOk tr co rs) : Pf.m_ends [td tr, sd co] = .ok (endsD tr rs) := by
  have e2 := m_stacks_of tr co (by have := h.len; have := ht.len; omega)
  rw [h.rows] at e2
  have e3 : orows [] (some rs) = rd rs := by simp [orows, rd]
  rw [e3] at e2
  have hl := crIdx_len tr
  have hlt := ht.len
  have e1 := loop_end tr (sd co) rs (by have := rows_len h.rows; have := h.len; omega) (crIdx tr) 0 [] none none none (fun n hn => by have := crIdx_lt hn; omega) (by simp; omega)
  simp [Pf.m_ends, m_req_trace ht, m_req_co ht h, e2, m_at tr (by omega)]
  exact e1
theorem m_lends {tr : List Ev} {rs : List (List Int)} (ht : TrOk tr) (h : rs.length < 900) : Pf.m__law_ends [td tr, rd rs] = .ok (endsD tr rs) := by
  have hl := crIdx_len tr
  have hlt := ht.len
  have e1 := loop_lend tr rs h (crIdx tr) 0 [] none none none (fun n hn => by have := crIdx_lt hn; omega) (by simp; omega)
  simp [Pf.m__law_ends, m_lat tr (by omega)]
  exact e1
end Th
end

section
set_option Elab.async false
set_option linter.all false
set_option maxRecDepth 100000
namespace Th
open PySem DN
/-! the bag -/
def Bag (b : D) : Prop := ∃ a s : Int, b = .lst [.int a, .int s] ∧ 0 ≤ a ∧ 0 ≤ s ∧ s < 2147483647
@[simp] theorem putK0 (i : Nat) (env : DN.Env) (d x y : D) : putK i env d [x, y] (.int 0) = .ok (.nx (env.set i (some (.lst [d, y])))) := rfl
@[simp] theorem putK1 (i : Nat) (env : DN.Env) (d x y : D) : putK i env d [x, y] (.int 1) = .ok (.nx (env.set i (some (.lst [x, d])))) := rfl
theorem m_take {b : D} (hb : Bag b) (n : Nat) (h0 : 0 < n) (h1 : n < 1000000) : ∃ (r : Nat) (b' : D), Pf.m__law_take b [.int n] = .ok (.int r, b') ∧ r < n ∧ Bag b' := by
  obtain ⟨a, s, rfl, ha, hs, hs2⟩ := hb
  have n0 : (0 : Int) < n := by omega
  have n1 : n < 1073741824 := by omega
  by_cases h : 0 < a
  · have e1 : 0 ≤ a % (n : Int) := Int.emod_nonneg _ (by omega)
    have e2 : a % (n : Int) < n := Int.emod_lt_of_pos _ n0
    refine ⟨(a % n).toNat, .lst [.int (a / n), .int s], ?_, by omega, a / n, s, rfl, Int.ediv_nonneg ha (by omega), hs, hs2⟩
    rw [Int.toNat_of_nonneg e1]
    simp [Pf.m__law_take, h, h0, n1]
  · generalize hS : s * 48271 % 2147483647 = S
    have S0 : 0 ≤ S := by rw [← hS]; exact Int.emod_nonneg _ (by omega)
    have S1 : S < 2147483647 := by rw [← hS]; exact Int.emod_lt_of_pos _ (by omega)
    have q1 : s.natAbs < 2 ^ 64 := by omega
    have q2 : (S / 13).natAbs < 2 ^ 64 := by omega
    have e1 : 0 ≤ S / 13 * (S % 32749 + 17) % 2147483629 / 32 % (n : Int) := Int.emod_nonneg _ (by omega)
    have e2 : S / 13 * (S % 32749 + 17) % 2147483629 / 32 % (n : Int) < n := Int.emod_lt_of_pos _ n0
    refine ⟨(S / 13 * (S % 32749 + 17) % 2147483629 / 32 % (n : Int)).toNat, .lst [.int a, .int S], ?_, by omega, a, S, rfl, ha, S0, S1⟩
    rw [Int.toNat_of_nonneg e1]
    simp only [Nat.reducePow] at q1 q2
    simp [Pf.m__law_take, h, h0, n1, q1, q2, hS]
theorem m_of {b : D} (hb : Bag b) (xs : List D) (h0 : xs ≠ []) (h1 : xs.length < 1000000) : ∃ (x b' : D), Pf.m__law_of b [.lst xs] = .ok (x, b') ∧ x ∈ xs ∧ Bag b' := by
  obtain ⟨r, b', e, hr, hb'⟩ := m_take hb xs.length (List.length_pos_iff.mpr h0) h1
  refine ⟨xs[r], b', ?_, List.getElem_mem hr, hb'⟩
  simp [Pf.m__law_of, e, List.getElem?_eq_getElem hr]
@[simp] theorem pow60 : dPow (.int 10) (.int 60) = .ok (.int 1000000000000000000000000000000000000000000000000000000000000) := rfl
@[simp] theorem pow18 : dPow (.int 10) (.int 18) = .ok (.int 1000000000000000000) := rfl
theorem m_bag (ns : List Int) (k : Nat) (hk : k < 1000) : ∃ b, Pf.m__law_bag [.scr (ns.map D.int), .int k] = .ok b ∧ Bag b := by
  have q2 : 40009 * k < 18446744073709551616 := by omega
  by_cases h : k < ns.length
  · generalize hc : ns[k] % 1000000000000000000000000000000000000000000000000000000000000 = cell
    have c0 : 0 ≤ cell := by rw [← hc]; exact Int.emod_nonneg _ (by omega)
    have q1 : (cell % 2147483629).natAbs < 18446744073709551616 := by omega
    by_cases h2 : cell < 1000000000000000000
    · refine ⟨.lst [.int 0, .int (1 + (cell % 2147483629 * 16807 + 40009 * k * k + 7919 * k + 1009) % 2147483645)], ?_, 0, _, rfl, by omega, by omega, by omega⟩
      simp [Pf.m__law_bag, h, hc, q1, q2, h2, Int.natAbs_mul]
    · refine ⟨.lst [.int cell, .int (1 + (cell % 2147483629 * 16807 + 40009 * k * k + 7919 * k + 1009) % 2147483645)], ?_, cell, _, rfl, by omega, by omega, by omega⟩
      simp [Pf.m__law_bag, h, hc, q1, q2, h2, Int.natAbs_mul]
  · refine ⟨.lst [.int 0, .int (1 + (40009 * k * k + 7919 * k + 1009) % 2147483645)], ?_, 0, _, rfl, by omega, by omega, by omega⟩
    simp [Pf.m__law_bag, h, q2, Int.natAbs_mul]
end Th
end

section
set_option Elab.async false
set_option linter.all false
set_option maxRecDepth 100000
namespace Th
open PySem DN
def names : List Str := ["f", "g", "main", "abcdefgh"]
theorem names_ok : ∀ n ∈ names, nameOk n := by
  intro n hn
  simp only [names, List.mem_cons, List.not_mem_nil, or_false] at hn
  rcases hn with rfl | rfl | rfl | rfl <;> rfl
/-- an event that is possible with the stack -/
def Poss (s : List Int) (c most : Int) : Ev → Prop
  | .ent n => n ∈ names ∧ c < most
  | .tai n => n ∈ names ∧ s ≠ [] ∧ c < most
  | .exi f => s.getLast? = some f
  | .cat f => f ∈ s
  | .mar => True
theorem rep2 {α : Type} (x : α) : (List.replicate 2 [x]).flatten = [x, x] := rfl
theorem rep5 {α : Type} (x : α) : (List.replicate 5 [x]).flatten = [x, x, x, x, x] := rfl
theorem m_levent {b : D} (hb : Bag b) (s : List Int) (c most : Int) (hs : s.length < 900) : ∃ (e : Ev) (b' : D), Pf.m__law_event b [sd s, .int c, .int most] = .ok (e.d, b') ∧ Bag b' ∧ Poss s c most e := by
  obtain ⟨x1, b1, e1, hx1, hb1⟩ := m_of hb [.str "f", .str "g", .str "main", .str "abcdefgh"] (by simp) (by simp)
  obtain ⟨n, rfl, hn⟩ : ∃ n, x1 = .str n ∧ n ∈ names := by
    simp only [List.mem_cons, List.not_mem_nil, or_false] at hx1
    rcases hx1 with rfl | rfl | rfl | rfl <;> exact ⟨_, rfl, by simp [names]⟩
  have fin : ∀ (L : List Ev) (b2 : D), Bag b2 → L ≠ [] → L.length < 900 → (∀ e ∈ L, Poss s c most e) → ∃ (e : Ev) (b' : D), Pf.m__law_of b2 [.lst (L.map Ev.d)] = .ok (e.d, b') ∧ Bag b' ∧ Poss s c most e := fun L b2 h2 hL hl hp => by
    obtain ⟨x, b3, e3, hx, hb3⟩ := m_of h2 (L.map Ev.d) (by simpa using hL) (by simp; omega)
    obtain ⟨e, he, rfl⟩ := List.mem_map.mp hx
    exact ⟨e, b3, e3, hb3, hp e he⟩
  rcases List.eq_nil_or_concat s with rfl | ⟨xs, x, rfl⟩
  · by_cases hc : c < most
    · obtain ⟨e, b', e3, h3, h4⟩ := fin [.mar, .ent n, .ent n, .ent n, .ent n, .ent n] b1 hb1 (by simp) (by simp) (by simp [Poss, hn, hc])
      refine ⟨e, b', ?_, h3, h4⟩
      simp only [List.map_cons, List.map_nil, Ev.d, Ev.tag, Ev.rest] at e3
      simp [Pf.m__law_event, e1, hc, rep5, e3, Ev.d, Ev.tag, Ev.rest]
    · obtain ⟨e, b', e3, h3, h4⟩ := fin [.mar] b1 hb1 (by simp) (by simp) (by simp [Poss])
      refine ⟨e, b', ?_, h3, h4⟩
      simp only [List.map_cons, List.map_nil, Ev.d, Ev.tag, Ev.rest] at e3
      simp [Pf.m__law_event, e1, hc, e3, Ev.d, Ev.tag, Ev.rest]
  · have hl : (xs ++ [x]).length < 900 := by simpa using hs
    have hne : (xs ++ [x]).isEmpty = false := by simp
    obtain ⟨x2, b2, e2, hx2, hb2⟩ := m_of hb1 ((xs ++ [x]).map D.int) (by simp) (by simp; simp at hl; omega)
    obtain ⟨f, hf, rfl⟩ := List.mem_map.mp hx2
    have el : dListOf [sd (xs ++ [x])] = .ok (.lst ((xs ++ [x]).map D.int)) := rfl
    have ex : dIx (sd (xs ++ [x])) (.int (-1)) = .ok (.int x) := by simp [sd, atI_last]
    rw [List.concat_eq_append] at *
    simp only [List.map_append, List.map_cons, List.map_nil] at e2 el
    by_cases hc : c < most
    · obtain ⟨e, b', e3, h3, h4⟩ := fin [.mar, .ent n, .ent n, .ent n, .ent n, .ent n, .tai n, .exi x, .exi x, .cat f] b2 hb2 (by simp) (by simp) (by simp [Poss, hn, hc]; simpa using hf)
      refine ⟨e, b', ?_, h3, h4⟩
      simp only [List.map_cons, List.map_nil, Ev.d, Ev.tag, Ev.rest] at e3
      simp [Pf.m__law_event, e1, hc, rep5, rep2, hne, el, ex, e2, e3, Ev.d, Ev.tag, Ev.rest]
    · obtain ⟨e, b', e3, h3, h4⟩ := fin [.mar, .exi x, .exi x, .cat f] b2 hb2 (by simp) (by simp) (by simp [Poss]; simpa using hf)
      refine ⟨e, b', ?_, h3, h4⟩
      simp only [List.map_cons, List.map_nil, Ev.d, Ev.tag, Ev.rest] at e3
      simp [Pf.m__law_event, e1, hc, rep2, hne, el, ex, e2, e3, Ev.d, Ev.tag, Ev.rest]
end Th
end

section
set_option Elab.async false
set_option linter.all false
set_option maxRecDepth 100000
namespace Th
open PySem DN
/-- a run so far: its events, its losses, its stack, its frames -/
inductive Run (most : Int) : List Ev → List Int → List Int → Int → Prop
  | nil : Run most [] [] [] 0
  | snoc {tr : List Ev} {co : List Int} {s s2 : List Int} {c l : Int} {e : Ev} : Run most tr co s c → 0 ≤ l → l ≤ s.length → l ≤ 10 → after (s.take (s.length - l).toNat) c e = some s2 → Poss (s.take (s.length - l).toNat) c most e → Run most (tr ++ [e]) (co ++ [l]) s2 (c + b2i e.cr)
theorem poss_after {s : List Int} {c most : Int} {e : Ev} (h : Poss s c most e) : (after s c e).isSome := by
  cases e with
  | ent n => rfl
  | tai n => simp [after, h.2.1]
  | exi f => have h : s.getLast? = some f := h; simp [after, h]
  | cat f => have h : f ∈ s := h; simp [after, h]
  | mar => rfl
theorem poss_ok {s : List Int} {c most : Int} {e : Ev} (hi : Inc s c) (h : Poss s c most e) : e.ok c := by
  cases e with
  | ent n => exact names_ok n h.1
  | tai n =>
    refine ⟨names_ok n h.1, ?_⟩
    cases s with
    | nil => exact absurd rfl h.2.1
    | cons x s => have := hi.b x (List.mem_cons_self ..); omega
  | exi f => exact hi.b f (List.mem_of_getLast? h)
  | cat f => exact hi.b f h
  | mar => trivial
theorem evs_snoc : ∀ {tr : List Ev} {c : Int} {e : Ev}, evsOk c tr → e.ok (c + created tr) → evsOk c (tr ++ [e])
  | [], c, e, _, h => ⟨by simpa [created] using h, trivial⟩
  | x :: tr, c, e, h1, h => by
    refine ⟨h1.1, evs_snoc h1.2 ?_⟩
    have : c + b2i x.cr + (created tr : Int) = c + (created (x :: tr) : Int) := by
      cases hx : x.cr <;> simp [created, hx, b2i] <;> omega
    rw [this]; exact h
structure RunOk (most : Int) (tr : List Ev) (co : List Int) (s : List Int) (c : Int) : Prop where
  inc : Inc s c
  c0 : 0 ≤ c
  cm : c ≤ most
  cr : (created tr : Int) = c
  ev : evsOk 0 tr
  len : co.length = tr.length
  rng : ∀ l ∈ co, 0 ≤ l ∧ l ≤ 10
  rows : ∃ rs, ∀ rest co', rowsGo (tr ++ rest) (co ++ co') [] 0 = (rowsGo rest co' s c).map (rs ++ ·)
theorem Run.ok {most : Int} (hm : 0 ≤ most) {tr : List Ev} {co : List Int} {s : List Int} {c : Int} (h : Run most tr co s c) : RunOk most tr co s c := by
  induction h with
  | nil => exact ⟨Inc.nil, by omega, hm, rfl, trivial, rfl, (fun l h => nomatch h), ⟨[], fun rest co2 => by simp⟩⟩
  | snoc r h0 h1 h2 ha hp ih =>
    rename_i tr co s s2 c l e
    have hi := after_inc (ih.inc.take _) ih.c0 ha
    refine ⟨hi.1, hi.2, ?_, ?_, ?_, by simp [ih.len], ?_, ?_⟩
    · have := ih.cm
      cases e with
      | ent n => have := hp.2; simp [b2i, Ev.cr]; omega
      | tai n => have := hp.2.2; simp [b2i, Ev.cr]; omega
      | _ => simp [b2i, Ev.cr]; omega
    · rw [created_snoc, ih.cr]
    · refine evs_snoc ih.ev ?_
      rw [ih.cr, Int.zero_add]
      exact poss_ok (ih.inc.take _) hp
    · intro y hy
      rcases List.mem_append.mp hy with hy | hy
      · exact ih.rng y hy
      · rw [List.mem_singleton.mp hy]; exact ⟨h0, h2⟩
    · obtain ⟨rs, hr⟩ := ih.rows
      refine ⟨rs ++ [s.take (s.length - l).toNat], fun rest co' => ?_⟩
      have hl : ¬ (s.length : Int) < l := by omega
      rw [List.append_assoc, List.append_assoc, List.singleton_append, List.singleton_append, hr]
      simp only [rowsGo, if_neg hl, ha, Option.map_map]
      congr 1
      funext z
      simp
end Th
end

section
set_option Elab.async false
set_option linter.all false
set_option maxRecDepth 100000
namespace Th
open PySem DN
theorem td_add (tr : List Ev) (e : Ev) (h : tr.length < 900) : dAdd (td tr) (.tup [e.d]) = .ok (td (tr ++ [e])) := by
  have h2 : tr.length ≤ 16777215 := by omega
  simp [td, h2]
theorem sd_add (s : List Int) (l : Int) (h : s.length < 900) : dAdd (sd s) (.tup [.int l]) = .ok (sd (s ++ [l])) := by
  have h2 : s.length ≤ 16777215 := by omega
  simp [sd, h2]
theorem step_run {b : D} (hb : Bag b) (X : D) {most : Int} {tr : List Ev} {co s : List Int} {c : Int} (hm : 0 ≤ most) (hm2 : most ≤ 10) (r : Run most tr co s c) (hl : tr.length < 100) (t : D) (j8 j9 : Option D) :
    ∃ (b' : D) (e : Ev) (l : Int) (s2 : List Int) (j8' j9' : Option D), Pf.l__law_run_1 [some b, some X, some (.int most), some (td tr), some (sd co), some (sd s), some (.int c), some t, j8, j9] = .ok (.nx [some b', some X, some (.int most), some (td (tr ++ [e])), some (sd (co ++ [l])), some (sd s2), some (.int (c + b2i e.cr)), some t, j8', j9'])
      ∧ Bag b' ∧ Run most (tr ++ [e]) (co ++ [l]) s2 (c + b2i e.cr) := by
  have ok := r.ok hm
  have hs := ok.inc.len ok.c0
  have hcm := ok.cm
  obtain ⟨x1, b1, e1, hx1, hb1⟩ := m_of hb ([0, 0, 0, 1, 1, 2, 3].map D.int) (by simp) (by simp)
  obtain ⟨i, hi, rfl⟩ := List.mem_map.mp hx1
  have i0 : 0 ≤ i ∧ i ≤ 3 := by
    simp only [List.mem_cons, List.not_mem_nil, or_false] at hi
    rcases hi with rfl | rfl | rfl | rfl | rfl | rfl | rfl <;> omega
  simp only [List.map_cons, List.map_nil] at e1
  generalize hL : (if i < (s.length : Int) then i else (s.length : Int)) = l
  have l0 : 0 ≤ l := by rw [← hL]; split <;> omega
  have l1 : l ≤ s.length := by rw [← hL]; split <;> omega
  have l2 : l ≤ 10 := by omega
  have hsl := sd_sl s (s.length - l) (by omega)
  obtain ⟨e, b2, e2, hb2, hp⟩ := m_levent hb1 (s.take (s.length - l).toNat) c most (by simp; omega)
  obtain ⟨s2, ha⟩ := Option.isSome_iff_exists.mp (poss_after hp)
  have m := m_lafter (s.take (s.length - l).toNat) c e (by simp; omega) (ok.inc.take _).p
  rw [ha] at m
  have len := ok.len
  refine ⟨b2, e, l, s2, some (.int l), some e.d, ?_, hb2, r.snoc l0 l1 l2 ha hp⟩
  simp [Pf.l__law_run_1, e1, hL, hsl, e2, m, od, td_add tr e (by omega), sd_add co l (by omega), b2i]
theorem loop_run (X : D) {most : Int} (hm : 0 ≤ most) (hm2 : most ≤ 10) : ∀ (ds : List D) (b : D) (tr : List Ev) (co s : List Int) (c : Int) (j7 j8 j9 : Option D), Bag b → Run most tr co s c → tr.length + ds.length < 100 →
    ∃ (b' : D) (tr' : List Ev) (co' s' : List Int) (c' : Int) (j7' j8' j9' : Option D), loop (gN 7) Pf.l__law_run_1 ds [some b, some X, some (.int most), some (td tr), some (sd co), some (sd s), some (.int c), j7, j8, j9] = .ok (.nx [some b', some X, some (.int most), some (td tr'), some (sd co'), some (sd s'), some (.int c'), j7', j8', j9'])
      ∧ Bag b' ∧ Run most tr' co' s' c' ∧ tr'.length = tr.length + ds.length
  | [], b, tr, co, s, c, j7, j8, j9, hb, r, h => ⟨b, tr, co, s, c, j7, j8, j9, rfl, hb, r, rfl⟩
  | d :: ds, b, tr, co, s, c, j7, j8, j9, hb, r, h => by
    simp only [List.length_cons] at h
    obtain ⟨b1, e, l, s2, j8', j9', st, hb1, r1⟩ := step_run hb X hm hm2 r (by omega) d j8 j9
    obtain ⟨b', tr', co', s', c', a7, a8, a9, h1, h2, h3, h4⟩ := loop_run X hm hm2 ds b1 (tr ++ [e]) (co ++ [l]) s2 (c + b2i e.cr) (some d) j8' j9' hb1 r1 (by simp; omega)
    refine ⟨b', tr', co', s', c', a7, a8, a9, ?_, h2, h3, by simp at h4 ⊢; omega⟩
    simp only [loop_cons, gN_eq, gk_ok, List.set_cons_succ, List.set_cons_zero, st, lk_nx, h1]
theorem m_run {b : D} (hb : Bag b) : ∃ (b' : D) (tr : List Ev) (co : List Int) (rs : List (List Int)), Pf.m__law_run b [.int 24, .int 10] = .ok (.tup [td tr, sd co], b') ∧ Bag b' ∧ TrOk tr ∧ CoOk tr co rs := by
  obtain ⟨n, b1, e1, hn, hb1⟩ := m_take hb 25 (by omega) (by omega)
  obtain ⟨b2, tr, co, s, c, j7, j8, j9, h1, hb2, r, hl⟩ := loop_run (.int 24) (most := 10) (by omega) (by omega) ((List.range n).map fun (k : Nat) => D.int (0 + (k : Int))) b1 [] [] [] 0 none none none hb1 .nil (by simp; omega)
  have ok := r.ok (by omega)
  have hs := ok.inc.len ok.c0
  have hcm := ok.cm
  obtain ⟨q, b3, e2, hq, hb3⟩ := m_take hb2 (s.length + 1) (by omega) (by omega)
  obtain ⟨rs, hr⟩ := ok.rows
  simp only [List.length_nil, List.length_map, List.length_range, Nat.zero_add] at hl
  have hq2 : ¬ (s.length : Int) < (q : Int) := by omega
  have hrow : rowsGo tr (co ++ [(q : Int)]) [] 0 = some (rs ++ [s.take (s.length - (q : Int)).toNat]) := by
    have := hr [] [(q : Int)]
    rw [List.append_nil] at this
    rw [this]
    simp [rowsGo, hq2]
  refine ⟨b3, tr, co ++ [(q : Int)], _, ?_, hb3, ⟨ok.ev, by omega, by have := ok.cr; omega⟩, ⟨by simp [ok.len], fun l hl => ?_, hrow⟩⟩
  · have e3 := dRange1_ok (n : Int) (by simp only [small62, decide_eq_true_eq]; omega)
    simp only [rangeD, Int.toNat_natCast] at e3
    have e4 : sd [] = .tup [] := rfl
    have e5 : td [] = .tup [] := rfl
    simp only [e4, e5] at h1
    have hco := ok.len
    have e1' : Pf.m__law_take b [D.int 25] = .ok (.int n, b1) := e1
    have e2' : Pf.m__law_take b2 [D.int ((s.length : Int) + 1)] = .ok (.int q, b3) := by simpa using e2
    simp only [Int.zero_add] at h1 e3
    simp [Pf.m__law_run, e1', e3, h1, e2', sd_add co q (by omega)]
  · rcases List.mem_append.mp hl with hl | hl
    · exact ok.rng l hl
    · rw [List.mem_singleton.mp hl]; omega
end Th
end

section
set_option Elab.async false
set_option linter.all false
set_option maxRecDepth 100000
namespace Th
open PySem DN
/-! the completion with given totals -/
def ows (found : List Int) : Option (List Int) → D
  | none => .non
  | some ls => sd (found ++ ls)
theorem step_wt0 (tr : List Ev) (X : D) (s : List Int) (c : Int) (found : List Int) (k : Nat) (n l : Int) (j : Option D) (hl : n - (c - s.length) = l) (h : ¬ (0 ≤ l ∧ l ≤ s.length)) :
    ∃ e', Pf.l_with_totals_1 [some (td tr), some X, some (sd s), some (.int c), some (il found), some (.int k), some (.int n), j] = .ok (.rt .non e') := by
  by_cases h1 : 0 ≤ l
  · have h2 : ¬ l ≤ s.length := fun z => h ⟨h1, z⟩
    exact ⟨_, by simp [Pf.l_with_totals_1, hl, h1, h2]; rfl⟩
  · exact ⟨_, by simp [Pf.l_with_totals_1, hl, h1]; rfl⟩
theorem step_wt1 (tr : List Ev) (X : D) (s : List Int) (c : Int) (found : List Int) (k : Nat) (n l : Int) (j : Option D) (hl : n - (c - s.length) = l) (h1 : 0 ≤ l) (h2 : l ≤ s.length) (hf : found.length < 16777216) (hk : ¬ k < tr.length) :
    Pf.l_with_totals_1 [some (td tr), some X, some (sd s), some (.int c), some (il found), some (.int k), some (.int n), j] = .ok (.nx [some (td tr), some X, some (sd (s.take (s.length - l).toNat)), some (.int c), some (il (found ++ [l])), some (.int k), some (.int n), some (.int l)]) := by
  have hsl := sd_sl s (s.length - l) (by omega)
  simp [Pf.l_with_totals_1, hl, h1, h2, il, hsl, hf, hk]
theorem step_wt2 (tr : List Ev) (X : D) (s : List Int) (c : Int) (found : List Int) (k : Nat) (n l : Int) (j : Option D) (e : Ev) (hl : n - (c - s.length) = l) (h1 : 0 ≤ l) (h2 : l ≤ s.length) (hf : found.length < 16777216) (hk : tr[k]? = some e) (hs : s.length < 1000) :
    (after (s.take (s.length - l).toNat) c e = none → ∃ e', Pf.l_with_totals_1 [some (td tr), some X, some (sd s), some (.int c), some (il found), some (.int k), some (.int n), j] = .ok (.rt .non e')) ∧
    ∀ s2, after (s.take (s.length - l).toNat) c e = some s2 → Pf.l_with_totals_1 [some (td tr), some X, some (sd s), some (.int c), some (il found), some (.int k), some (.int n), j] = .ok (.nx [some (td tr), some X, some (sd s2), some (.int (c + b2i e.cr)), some (il (found ++ [l])), some (.int k), some (.int n), some (.int l)]) := by
  have hsl := sd_sl s (s.length - l) (by omega)
  have ha := m_after (s.take (s.length - l).toNat) c e (by simp; omega)
  obtain ⟨hk2, hk3⟩ := List.getElem?_eq_some_iff.mp hk
  refine ⟨fun hA => ?_, fun s2 hA => ?_⟩
  · rw [hA] at ha; exact ⟨_, by simp [Pf.l_with_totals_1, hl, h1, h2, il, hsl, hf, hk2, hk3, ha, od, b2i]; rfl⟩
  · rw [hA] at ha; simp [Pf.l_with_totals_1, hl, h1, h2, il, hsl, hf, hk2, hk3, ha, od, b2i]
@[simp] theorem il_enum (s : List Int) : dEnum [il s] = .ok ((s.map D.int).zipIdx.map fun p => .pr [.int (p.2 : Nat), p.1]) := rfl
@[simp] theorem il_tup (s : List Int) : dTupleOf [il s] = .ok (sd s) := rfl
theorem loop_wt (tr : List Ev) (X : D) : ∀ (ns : List Int) (k : Nat) (s : List Int) (c : Int) (found : List Int) (j5 j6 j7 : Option D), s.length + ns.length < 1000 → found.length + ns.length < 1000 →
    finF (rseq (loop (gT 2 (gCons' (gN 5) (gCons' (gN 6) gNil'))) Pf.l_with_totals_1 (((ns.map D.int).zipIdx k).map fun p => .pr [.int (p.2 : Nat), p.1]) [some (td tr), some X, some (sd s), some (.int c), some (il found), j5, j6, j7]) (sRet (eArgs dTupleOf (eCons (eVar 4) eNil))))
      = .ok (ows found (wtGo (tr.drop k) ns s c))
  | [], k, s, c, found, j5, j6, j7, h1, h2 => by simp [wtGo, ows]
  | n :: ns, k, s, c, found, j5, j6, j7, h1, h2 => by
    simp only [List.length_cons] at h1 h2
    simp only [List.map_cons, List.zipIdx_cons, loop_cons]
    generalize hl : n - (c - (s.length : Int)) = l
    by_cases h : 0 ≤ l ∧ l ≤ s.length
    · by_cases hk : k < tr.length
      · have ed : tr.drop k = tr[k] :: tr.drop (k + 1) := List.drop_eq_getElem_cons hk
        obtain ⟨st0, st1⟩ := step_wt2 tr X s c found k n l j7 tr[k] hl h.1 h.2 (by omega) (List.getElem?_eq_getElem hk) (by omega)
        rw [ed]
        cases hA : after (s.take (s.length - l).toNat) c tr[k] with
        | none =>
          obtain ⟨e', st⟩ := st0 hA
          simp [st, wtGo, hl, h, hA, ows]
        | some s2 =>
          have st := st1 s2 hA
          have hs2 := after_len hA
          simp only [List.length_take] at hs2
          have ih := loop_wt tr X ns (k + 1) s2 (c + b2i tr[k].cr) (found ++ [l]) (some (.int k)) (some (.int n)) (some (.int l)) (by omega) (by simp; omega)
          simp only [gT_p, gCons_eq, gN_eq, gNil_eq, bind_ok, List.set_cons_succ, List.set_cons_zero, List.length_cons, List.length_nil, chk_t, gk_ok, st, lk_nx, Nat.zero_add, Nat.reduceAdd, ih]
          cases hr : wtGo (tr.drop (k + 1)) ns s2 (c + b2i tr[k].cr) with
          | none => simp [wtGo, hl, h, hA, hr, ows]
          | some rs => simp [wtGo, hl, h, hA, hr, ows]
      · have ed : tr.drop k = [] := List.drop_eq_nil_of_le (by omega)
        have ed2 : tr.drop (k + 1) = [] := List.drop_eq_nil_of_le (by omega)
        have st := step_wt1 tr X s c found k n l j7 hl h.1 h.2 (by omega) hk
        have ih := loop_wt tr X ns (k + 1) (s.take (s.length - l).toNat) c (found ++ [l]) (some (.int k)) (some (.int n)) (some (.int l)) (by simp; omega) (by simp; omega)
        rw [ed2] at ih
        rw [ed]
        simp only [gT_p, gCons_eq, gN_eq, gNil_eq, bind_ok, List.set_cons_succ, List.set_cons_zero, List.length_cons, List.length_nil, chk_t, gk_ok, st, lk_nx, Nat.zero_add, Nat.reduceAdd, ih]
        cases hr : wtGo [] ns (s.take (s.length - l).toNat) c with
        | none => simp [wtGo, hl, h, hr, ows]
        | some rs => simp [wtGo, hl, h, hr, ows]
    · obtain ⟨e', st⟩ := step_wt0 tr X s c found k n l j7 hl h
      simp [st, wtGo, hl, h, ows]
theorem m_wt (tr : List Ev) (ns : List Int) (h : ns.length < 1000) : Pf.m_with_totals [td tr, il ns] = .ok (ows [] (wtGo tr ns [] 0)) := by
  have h := loop_wt tr (il ns) ns 0 [] 0 [] none none none (by simp; omega) (by simp; omega)
  simp only [List.drop_zero] at h
  simp [Pf.m_with_totals]
  exact h
end Th
end

section
set_option Elab.async false
set_option linter.all false
set_option maxRecDepth 100000
namespace Th
open PySem DN
end Th
end

section
set_option Elab.async false
set_option linter.all false
set_option maxRecDepth 100000
namespace Th
open PySem DN
@[simp] theorem il_isL (s : List Int) : dIsi "list" (il s) = .ok (.bl true) := rfl
@[simp] theorem il_items (s : List Int) : dItems (il s) = .ok (s.map D.int) := rfl
@[simp] theorem il_len (s : List Int) : dLen [il s] = .ok (.int s.length) := by simp [il]
theorem ints_all {g : DN.Env} (tr : List Ev) (X : D) (xs : List Int) : lcGo (gN 2) eYes (eArgs Pf.m_is_integer (eCons (eVar 2) (eCons (eC (.int 0)) (eCons (eC (.int 10)) eNil)))) [some (td tr), some X, none] (xs.map D.int) = .ok (xs.map fun l => D.bl (decide (0 ≤ l ∧ l ≤ 10))) :=
  lc_map (g := gN 2) (f := eArgs Pf.m_is_integer (eCons (eVar 2) (eCons (eC (.int 0)) (eCons (eC (.int 10)) eNil)))) (env := [some (td tr), some X, none]) (y := fun l => D.bl (decide (0 ≤ l ∧ l ≤ 10))) D.int (fun l => [some (td tr), some X, some (.int l)]) xs
    (fun x hx => by simp [m_int])
theorem m_ft {tr : List Ev} (ht : TrOk tr) (ns : List Int) (h : ns.length = tr.length + 1) : Pf.m_from_totals [td tr, il ns] = .ok (ows [] (wtGo tr ns [] 0)) := by
  have hlt := ht.len
  have h1 : ns.length ≤ 16777216 := by omega
  have h2 : (ns.length : Int) = (tr.length : Int) + 1 := by omega
  have e1 := ints_all (g := []) tr (il ns) ns
  by_cases hr : ∀ x, x ∈ ns → 0 ≤ x ∧ x ≤ 10
  · have eA : dAll [.lst (ns.map fun l => D.bl (decide (0 ≤ l ∧ l ≤ 10)))] = .ok (.bl true) := by
      rw [dAll_map, List.all_eq_true.mpr fun x hx => decide_eq_true (hr x hx)]
    simp [-Bool.decide_and, Pf.m_from_totals, m_req_trace ht, h1, h2, e1, eA, m_wt tr ns (by omega)]
  · have eA : dAll [.lst (ns.map fun l => D.bl (decide (0 ≤ l ∧ l ≤ 10)))] = .ok (.bl false) := by
      rw [dAll_map]
      have : ns.all (fun l => decide (0 ≤ l ∧ l ≤ 10)) = false := by
        rw [← Bool.not_eq_true, List.all_eq_true]
        exact fun z => hr fun x hx => of_decide_eq_true (z x hx)
      rw [this]
    have e4 : wtGo tr ns [] 0 = none := by
      cases q : wtGo tr ns [] 0 with
      | none => rfl
      | some ls => exact absurd (fun x hx => wt_rng Inc.nil (by omega) (by have := ht.cr; omega) q x hx) hr
    simp [-Bool.decide_and, Pf.m_from_totals, m_req_trace ht, h1, h2, e1, eA, e4, ows]
end Th
end

section
set_option Elab.async false
set_option linter.all false
set_option maxRecDepth 100000
namespace Th
open PySem DN
/-! comprehensions and loops, in one step -/
theorem eLc_run {vs : List Nat} {fi : DN.Env → R (List D)} {g : D → DN.Env → R DN.Env} {c : DN.Env → R Bool} {f : DN.Env → R D} {env : DN.Env} {α : Type} (en : α → D) (p : α → Bool) (y : α → D) (xs : List α)
    (hi : fi env = .ok (xs.map en)) (hl : xs.length ≤ 16777216) (h : ∀ x ∈ xs, ∃ e, g (en x) (wipeE env vs) = .ok e ∧ c e = .ok (p x) ∧ (p x = true → f e = .ok (y x))) :
    eLc vs fi g c f env = .ok (.lst ((xs.filter p).map y)) := by
  have key : lcGo g c f (wipeE env vs) (xs.map en) = .ok ((xs.filter p).map y) := by
    clear hi hl
    induction xs with
    | nil => rfl
    | cons x xs ih =>
      obtain ⟨e, h1, h2, h3⟩ := h x (List.mem_cons_self ..)
      have ih := ih fun z hz => h z (List.mem_cons_of_mem _ hz)
      simp only [List.map_cons, lcGo, h1, R.nox, bind_ok, h2]
      cases hp : p x with
      | true => simp only [h3 hp, R.nox, bind_ok, ih, List.filter_cons, hp, if_pos, List.map_cons]
      | false => rw [List.filter_cons, hp]; exact ih
  rw [eLc_eq, hi, bind_ok, chk_pos (by rw [List.length_map]; exact hl), key]; rfl
/-- without a test -/
theorem eLc_map {vs : List Nat} {fi : DN.Env → R (List D)} {g : D → DN.Env → R DN.Env} {f : DN.Env → R D} {env : DN.Env} {α : Type} (en : α → D) (y : α → D) (xs : List α)
    (hi : fi env = .ok (xs.map en)) (hl : xs.length ≤ 16777216) (h : ∀ x ∈ xs, ∃ e, g (en x) (wipeE env vs) = .ok e ∧ f e = .ok (y x)) :
    eLc vs fi g eYes f env = .ok (.lst (xs.map y)) := by
  rw [eLc_run en (fun _ => true) y xs hi hl fun x hx => ?_]
  · rw [List.filter_eq_self.mpr fun _ _ => rfl]
  · obtain ⟨e, h1, h2⟩ := h x hx
    exact ⟨e, h1, rfl, fun _ => h2⟩
/-- a loop that adds to a list -/
theorem loop_ext {α J : Type} {g : D → DN.Env → R DN.Env} {body : DN.Env → R Fl} (en : α → D) (y : α → List D) (E : List D → J → DN.Env) : ∀ (xs : List α) (fd : List D) (j : J),
    (∀ x ∈ xs, ∀ fd j, fd.length + (y x).length ≤ 16777216 → ∃ j', gk (g (en x) (E fd j)) body = .ok (.nx (E (fd ++ y x) j'))) → fd.length + (xs.flatMap y).length ≤ 16777216 →
    ∃ j', loop g body (xs.map en) (E fd j) = .ok (.nx (E (fd ++ xs.flatMap y) j'))
  | [], fd, j, _, _ => ⟨j, by simp⟩
  | x :: xs, fd, j, h, hl => by
    rw [List.flatMap_cons, List.length_append] at hl
    obtain ⟨j1, st⟩ := h x (List.mem_cons_self ..) fd j (by omega)
    obtain ⟨j2, ih⟩ := loop_ext en y E xs (fd ++ y x) j1 (fun z hz => h z (List.mem_cons_of_mem _ hz)) (by rw [List.length_append]; omega)
    refine ⟨j2, ?_⟩
    rw [List.map_cons, loop_cons, List.flatMap_cons, ← List.append_assoc, ← ih]
    revert st
    cases g (en x) (E fd j) with
    | ok e => intro st; simp only [gk_ok] at st ⊢; rw [st, lk_nx]
    | exc c z => intro st; cases st
    | bad => intro st; cases st
theorem flatMap_one {α β : Type} (f : α → β) (xs : List α) : xs.flatMap (fun x => [f x]) = xs.map f := by
  induction xs with
  | nil => rfl
  | cons x xs ih => rw [List.flatMap_cons, ih]; rfl
/-- a loop that adds one thing each time -/
theorem loop_app {α J : Type} {g : D → DN.Env → R DN.Env} {body : DN.Env → R Fl} (en : α → D) (y : α → D) (E : List D → J → DN.Env) (xs : List α) (fd : List D) (j : J)
    (h : ∀ x ∈ xs, ∀ fd j, fd.length < 16777216 → ∃ j', gk (g (en x) (E fd j)) body = .ok (.nx (E (fd ++ [y x]) j'))) (hl : fd.length + xs.length ≤ 16777216) :
    ∃ j', loop g body (xs.map en) (E fd j) = .ok (.nx (E (fd ++ xs.map y) j')) := by
  have := loop_ext en (fun x => [y x]) E xs fd j (fun x hx fd j hl => h x hx fd j (by simp at hl; omega)) (by rw [flatMap_one, List.length_map]; exact hl)
  rw [flatMap_one] at this; exact this
def extK (i : Nat) (env : DN.Env) (xs : List D) : D → R Fl
  | .lst ys => chk (xs.length + ys.length ≤ 16777216) (.ok (.nx (env.set i (some (.lst (xs ++ ys))))))
  | _ => .bad
@[simp] theorem extK_l (i : Nat) (env : DN.Env) (xs ys : List D) : extK i env xs (.lst ys) = chk (xs.length + ys.length ≤ 16777216) (.ok (.nx (env.set i (some (.lst (xs ++ ys)))))) := rfl
@[simp] theorem sExt_eq (i : Nat) (f : DN.Env → R D) (env : DN.Env) : sExt i f env = ownS (fun xs => sB (f env) env (extK i env xs)) env[i]? := by
  unfold sExt ownS
  cases env[i]? with
  | none => rfl
  | some o =>
    cases o with
    | none => rfl
    | some d =>
      cases d with
      | lst xs =>
        simp only
        refine sB_f fun d => ?_
        cases d <;> simp only [extK, sizeLine_eq] <;> rfl
      | _ => rfl
/-! numbers of a list -/
theorem il_ix {xs : List Int} {k : Nat} {v : Int} (h : xs[k]? = some v) : dIx (il xs) (.int k) = .ok (.int v) := by simp [il, h]
theorem iln_ix {xs : List Nat} {k : Nat} {v : Nat} (h : xs[k]? = some v) : dIx (iln xs) (.int k) = .ok (.int v) := by simp [iln, h]
@[simp] theorem iln_len (s : List Nat) : dLen [iln s] = .ok (.int s.length) := by simp [iln]
@[simp] theorem iln_items (s : List Nat) : dItems (iln s) = .ok (s.map fun n => .int (n : Nat)) := rfl
theorem cb_ix (tr : List Ev) {k : Nat} (h : k ≤ tr.length) : dIx (il (cbs 0 tr)) (.int k) = .ok (.int (cb tr k)) := il_ix (cbs_cb tr h)
theorem cb_ix1 (tr : List Ev) {k : Nat} (h : k + 1 ≤ tr.length) : dIx (il (cbs 0 tr)) (.int ((k : Int) + 1)) = .ok (.int (cb tr (k + 1))) := by
  have := cb_ix tr h; simpa using this
theorem range_up (a k : Nat) (h : k < 1000) (ha : a < 1000) : dRange2 [.int ((a : Int) + 1), .int ((k : Int) + 1)] = .ok ((upTo a k).map fun (n : Nat) => .int (n : Int)) := by
  have s1 : small62 ((a : Int) + 1) = true := by have := small_nat (a + 1) (by omega); simpa using this
  have s2 : small62 ((k : Int) + 1) = true := by have := small_nat (k + 1) (by omega); simpa using this
  have e1 : ((k : Int) + 1 - ((a : Int) + 1)).toNat = k - a := by omega
  rw [dRange2_ok _ _ s1 s2, e1, rangeD, upTo, List.map_map]
  congr 1
def btw (a k : Nat) : List Nat := (List.range (k - (a + 1))).map (a + 1 + ·)
theorem mem_btw {a k l : Nat} : l ∈ btw a k ↔ a < l ∧ l < k := by
  unfold btw
  rw [List.mem_map]
  constructor
  · rintro ⟨j, hj, rfl⟩; have := List.mem_range.mp hj; omega
  · rintro ⟨h1, h2⟩; exact ⟨l - (a + 1), List.mem_range.mpr (by omega), by omega⟩
theorem range_btw (a k : Nat) (h : k < 1000) (ha : a < 1000) : dRange2 [.int ((a : Int) + 1), .int (k : Int)] = .ok ((btw a k).map fun (n : Nat) => .int (n : Int)) := by
  have s1 : small62 ((a : Int) + 1) = true := by have := small_nat (a + 1) (by omega); simpa using this
  have s2 : small62 (k : Int) = true := small_nat k (by omega)
  have e1 : ((k : Int) - ((a : Int) + 1)).toNat = k - (a + 1) := by omega
  rw [dRange2_ok _ _ s1 s2, e1, rangeD, btw, List.map_map]
  congr 1
/-! inequalities as data -/
def Src.d : Src → D
  | .ev k => .tup [.str "event", .int (k : Nat)]
  | .fa n => .tup [.str "fact", .int (n : Nat)]
  | .no => .non
def tmD (t : Option Nat × Int) : D := .tup [(match t.1 with | none => .non | some l => .int (l : Nat)), .int t.2]
def Iq.d (q : Iq) : D := .tup [q.src.d, .int (q.m : Nat), .lst (q.ts.map tmD)]
def qd (qs : List Iq) : D := .lst (qs.map Iq.d)
theorem tag_tail (e : Ev) : (Ev.tag e == ("tail" : Str)) = e.isT := by cases e <;> simp [Ev.tag, Ev.isT]
theorem m_is_tail {tr : List Ev} {k : Nat} (h : k < tr.length) : Pf.m_is_tail [td tr, .int k] = .ok (.bl (isTl tr k)) := by
  have e : tr[k]? = some tr[k] := List.getElem?_eq_getElem h
  simp [Pf.m_is_tail, e, isTl_of e, tag_tail]
theorem m_tails {tr : List Ev} {a k : Nat} (hk : k ≤ tr.length) (ha : a < k) (ht : tr.length ≤ 24) : Pf.m_tails_between [td tr, .int a, .int k] = .ok (iln (tails tr a k)) := by
  simp [-eLc_eq, Pf.m_tails_between]
  rw [eLc_run (α := Nat) (fun n => .int (n : Int)) (isTl tr) (fun n => .int (n : Int)) (btw a k) ?_ ?_ ?_]
  · simp [iln, tails, btw]
  · simp [range_btw a k (by omega) (by omega)]
  · simp [btw]; omega
  · intro x hx
    have := mem_btw.mp hx
    refine ⟨_, rfl, ?_, fun _ => rfl⟩
    simp [m_is_tail (show x < tr.length by omega)]
end Th
end

section
set_option Elab.async false
set_option linter.all false
set_option maxRecDepth 100000
namespace Th
open PySem DN
theorem b2i_eq (b : Bool) : (if b = true then (1 : Int) else 0) = b2i b := rfl
/-- a frame with its event -/
structure Fr (tr : List Ev) (i k : Nat) : Prop where
  g : (crIdx tr)[i]? = some (evOf tr i)
  lt : evOf tr i < k
  le : k ≤ tr.length
theorem FrameAt.fr {tr : List Ev} {i k : Nat} (h : FrameAt tr i k) : Fr tr i k := ⟨by unfold evOf; rw [List.getElem?_eq_getElem h.1]; rfl, h.2.2, h.2.1⟩
theorem fr_of {tr : List Ev} {i k : Nat} (h : (i : Int) < cb tr k) (hk : k ≤ tr.length) : Fr tr i k := by
  obtain ⟨_, _, _, _, h1, h2⟩ := evOf_lt h
  exact ⟨h2, h1, hk⟩
theorem qAct_len (tr : List Ev) (s : Src) (i k : Nat) : (qAct tr s i k).length ≤ 2 * k := by
  have := tails_len tr (evOf tr i) k
  simp only [qAct, List.length_append, List.length_map, upTo_len]; omega
theorem m_act {tr : List Ev} (ht : tr.length ≤ 24) {i k : Nat} (s : Src) (h : Fr tr i k) : Pf.m_rows_active [td tr, s.d, .int i, .int k] = .ok (qd (qAct tr s i k)) := by
  have h1 := h.lt
  have h2 := h.le
  generalize hb : cb tr (evOf tr i) + 1 - b2i (isTl tr (evOf tr i)) = base
  obtain ⟨j1, e1⟩ := loop_app (g := gN 8) (body := Pf.l_rows_active_1) (fun (n : Nat) => .int (n : Int)) (fun (l : Nat) => Iq.d ⟨s, l, [(some (evOf tr i), cb tr l - base)]⟩)
    (fun fd (j : Option D) => [some (td tr), some s.d, some (.int i), some (.int k), some (il (cbs 0 tr)), some (.int (evOf tr i)), some (.int base), some (.lst fd), j]) (upTo (evOf tr i) k) [] none
    (fun x hx fd j hl => by
      have hx2 := mem_upTo.mp hx
      exact ⟨some (.int x), by simp [Pf.l_rows_active_1, cb_ix tr (show x ≤ tr.length by omega), hl, Iq.d, tmD]⟩)
    (by rw [upTo_len]; simp; omega)
  obtain ⟨j2, e2⟩ := loop_app (g := gN 8) (body := Pf.l_rows_active_2) (fun (n : Nat) => .int (n : Int)) (fun (l : Nat) => Iq.d ⟨s, l, [(some (evOf tr i), cb tr l - base - 1)]⟩)
    (fun fd (j : Option D) => [some (td tr), some s.d, some (.int i), some (.int k), some (il (cbs 0 tr)), some (.int (evOf tr i)), some (.int base), some (.lst fd), j]) (tails tr (evOf tr i) k) ([] ++ (upTo (evOf tr i) k).map (fun (l : Nat) => Iq.d ⟨s, l, [(some (evOf tr i), cb tr l - base)]⟩)) j1
    (fun x hx fd j hl => by
      have hx2 := mem_tails.mp hx
      exact ⟨some (.int x), by simp [Pf.l_rows_active_2, cb_ix tr (show x ≤ tr.length by omega), hl, Iq.d, tmD]⟩)
    (by have := tails_len tr (evOf tr i) k; simp [upTo_len]; omega)
  have e3 := iln_ix h.g
  simp [Pf.m_rows_active, m_cb tr (by omega), m_at tr (by omega), e3, cb_ix tr (show evOf tr i ≤ tr.length by omega), m_is_tail (show evOf tr i < tr.length by omega), b2i_eq, hb, range_up (evOf tr i) k (by omega) (by omega), e1, m_tails h2 h1 ht]
  simp at e2
  simp [e2, qd, qAct, hb]
  rfl
theorem m_ret {tr : List Ev} (ht : tr.length ≤ 24) {i k : Nat} (s : Src) (h : Fr tr i k) : Pf.m_rows_returned [td tr, s.d, .int i, .int k] = .ok (qd (qRet tr s i k)) := by
  have h1 := h.lt
  have h2 := h.le
  have e3 := iln_ix h.g
  have e4 := tails_len tr (evOf tr i) k
  simp [-eLc_eq, Pf.m_rows_returned, m_cb tr (by omega), m_at tr (by omega), e3, cb_ix tr (show evOf tr i ≤ tr.length by omega), m_is_tail (show evOf tr i < tr.length by omega), b2i_eq]
  rw [eLc_map (α := Nat) (fun n => .int (n : Int)) (fun l => tmD (some l, cb tr (evOf tr i) - b2i (isTl tr (evOf tr i)) - cb tr l)) (upTo (evOf tr i) k)]
  · simp [-eLc_eq]
    rw [eLc_map (α := Nat) (fun n => .int (n : Int)) (fun l => tmD (some l, cb tr (evOf tr i) - b2i (isTl tr (evOf tr i)) + 1 - cb tr l)) (tails tr (evOf tr i) k)]
    · have hl : (upTo (evOf tr i) k).length + (tails tr (evOf tr i) k).length ≤ 16777216 := by rw [upTo_len]; omega
      simp [hl, qd, qRet, Iq.d]
      rfl
    · simp [m_tails h2 h1 ht]
    · omega
    · intro x hx
      have hx2 := mem_tails.mp hx
      exact ⟨_, rfl, by simp [cb_ix tr (show x ≤ tr.length by omega), tmD]⟩
  · simp [range_up (evOf tr i) k (by omega) (by omega)]
  · rw [upTo_len]; omega
  · intro x hx
    have hx2 := mem_upTo.mp hx
    exact ⟨_, rfl, by simp [cb_ix tr (show x ≤ tr.length by omega), tmD]⟩
theorem m_nd {tr : List Ev} (ht : tr.length ≤ 24) {i k : Nat} (s : Src) (l : Nat) (h : Fr tr i k) : Pf.m_rows_not_deeper [td tr, s.d, .int i, .int k, .int l] = .ok (qd (qNotDeep tr s i k l)) := by
  have h1 := h.lt
  have h2 := h.le
  have e3 := iln_ix h.g
  simp [Pf.m_rows_not_deeper, m_cb tr (by omega), m_at tr (by omega), e3, cb_ix tr (show evOf tr i ≤ tr.length by omega), cb_ix tr h2, m_is_tail (show evOf tr i < tr.length by omega), b2i_eq, qd, qNotDeep, Iq.d, tmD]
theorem qd_add (xs ys : List Iq) (h : xs.length + ys.length ≤ 16777216) : dAdd (qd xs) (qd ys) = .ok (qd (xs ++ ys)) := by
  simp [qd, h]
theorem m_inn {tr : List Ev} (ht : tr.length ≤ 24) {i k : Nat} (s : Src) (h : Fr tr i k) : Pf.m_rows_innermost [td tr, s.d, .int i, .int k] = .ok (qd (qInn tr s i k)) := by
  have h2 := h.le
  have h3 := qAct_len tr s i k
  simp [Pf.m_rows_innermost, m_act ht s h, m_nd ht s k h]
  rw [qd_add _ _ (by simp [qNotDeep]; omega)]
  simp [qInn]
end Th
end

section
set_option Elab.async false
set_option linter.all false
set_option maxRecDepth 100000
namespace Th
open PySem DN
theorem qd_app (xs ys : List Iq) : D.lst (xs.map Iq.d ++ ys.map Iq.d) = qd (xs ++ ys) := by simp [qd]
/-- adding inequalities to an own list of them -/
theorem ext_qd (i : Nat) (env : DN.Env) (xs ys : List Iq) (h : xs.length + ys.length ≤ 16777216) : extK i env (xs.map Iq.d) (qd ys) = .ok (.nx (env.set i (some (qd (xs ++ ys))))) := by
  simp [qd, h]
theorem own_qd (k : List D → R Fl) (xs : List Iq) : ownS k (some (some (qd xs))) = k (xs.map Iq.d) := rfl
theorem qInn_len (tr : List Ev) (s : Src) (i k : Nat) : (qInn tr s i k).length ≤ 2 * k + 1 := by
  have := qAct_len tr s i k
  simp only [qInn, qNotDeep, List.length_append, List.length_cons, List.length_nil]; omega
theorem qEv_len (tr : List Ev) (k : Nat) (e : Ev) : (qEv tr k e).length ≤ 2 * k + 2 := by
  cases e with
  | exi f => have := qInn_len tr (.ev k) f.toNat k; simp only [qEv, qEvR, List.length_cons]; omega
  | cat f => have := qAct_len tr (.ev k) f.toNat k; simp only [qEv, qEvR, List.length_cons, List.length_append, qNotDeep, List.length_nil]; omega
  | _ => simp [qEv, qEvR]
theorem m_of_event {tr : List Ev} (ht : TrT tr) {k : Nat} {e : Ev} (he : tr[k]? = some e) : Pf.m_rows_of_event [td tr, .int k] = .ok (qd (qEv tr k e)) := by
  have hk : k < tr.length := (List.getElem?_eq_some_iff.mp he).1
  have hlt := ht.len
  have hcb := m_cb tr (by omega)
  have hs : D.tup [.str "event", .int k] = (Src.ev k).d := rfl
  have hq : D.lst [.tup [(Src.ev k).d, .int k, .lst [.tup [.int ((k : Int) + 1), .int (-1)]]]] = qd [⟨.ev k, k, [(some (k + 1), 0 - 1)]⟩] := by simp [qd, Iq.d, tmD]
  have hq0 : D.lst [.tup [(Src.ev k).d, .int k, .lst [.tup [.int ((k : Int) + 1), .int 0]]]] = qd [⟨.ev k, k, [(some (k + 1), 0 - 0)]⟩] := by simp [qd, Iq.d, tmD]
  cases e with
  | ent n => 
    simp [Pf.m_rows_of_event, he, hcb, Ev.d, Ev.tag, Ev.rest, hs, hq0, qEv, qEvR, isTE, b2i]
  | tai n =>
    simp [Pf.m_rows_of_event, he, hcb, Ev.d, Ev.tag, Ev.rest, hs, cb_ix tr (show k ≤ tr.length by omega), qEv, qEvR, isTE, b2i, qd, Iq.d, tmD]
  | mar =>
    simp [Pf.m_rows_of_event, he, hcb, Ev.d, Ev.tag, Ev.rest, hs, hq0, qEv, qEvR, isTE, b2i]
  | exi f =>
    have hf := ht.fr k f (.inl he)
    have fr : Fr tr f.toNat k := fr_of (toNat_lt hf) (by omega)
    have e1 := m_inn hlt (.ev k) fr
    rw [toNat_eq hf.1] at e1
    have hl := qInn_len tr (.ev k) f.toNat k
    have x1 : ∀ env, extK 5 env [Iq.d ⟨.ev k, k, [(some (k + 1), -1)]⟩] (qd (qInn tr (.ev k) f.toNat k)) = .ok (.nx (env.set 5 (some (qd (⟨.ev k, k, [(some (k + 1), -1)]⟩ :: qInn tr (.ev k) f.toNat k))))) := fun env => ext_qd 5 env [⟨.ev k, k, [(some (k + 1), -1)]⟩] _ (by simp; omega)
    simp [Pf.m_rows_of_event, he, hcb, Ev.d, Ev.tag, Ev.rest, hs, hq, e1, own_qd, qEv, qEvR, isTE, b2i, x1]
  | cat f =>
    have hf := ht.fr k f (.inr he)
    have fr : Fr tr f.toNat k := fr_of (toNat_lt hf) (by omega)
    have e1 := m_act hlt (.ev k) fr
    have e2 := m_nd hlt (.ev k) (k + 1) fr
    rw [toNat_eq hf.1] at e1 e2
    have hl := qAct_len tr (.ev k) f.toNat k
    have e2' : Pf.m_rows_not_deeper [td tr, (Src.ev k).d, .int f, .int k, .int ((k : Int) + 1)] = .ok (qd (qNotDeep tr (.ev k) f.toNat k (k + 1))) := by simpa using e2
    have x1 : ∀ env, extK 5 env [Iq.d ⟨.ev k, k, [(some (k + 1), 0)]⟩] (qd (qAct tr (.ev k) f.toNat k)) = .ok (.nx (env.set 5 (some (qd (⟨.ev k, k, [(some (k + 1), 0)]⟩ :: qAct tr (.ev k) f.toNat k))))) := fun env => ext_qd 5 env [⟨.ev k, k, [(some (k + 1), 0)]⟩] _ (by simp; omega)
    have x2 : ∀ env, extK 5 env (Iq.d ⟨.ev k, k, [(some (k + 1), 0)]⟩ :: (qAct tr (.ev k) f.toNat k).map Iq.d) (qd (qNotDeep tr (.ev k) f.toNat k (k + 1))) = .ok (.nx (env.set 5 (some (qd (⟨.ev k, k, [(some (k + 1), 0)]⟩ :: (qAct tr (.ev k) f.toNat k ++ qNotDeep tr (.ev k) f.toNat k (k + 1))))))) := fun env => ext_qd 5 env (⟨.ev k, k, [(some (k + 1), 0)]⟩ :: qAct tr (.ev k) f.toNat k) _ (by simp [qNotDeep]; omega)
    simp [Pf.m_rows_of_event, he, hcb, Ev.d, Ev.tag, Ev.rest, hs, hq0, e1, e2', own_qd, qEv, qEvR, isTE, b2i, x1, x2]
theorem qTrace_len (tr : List Ev) (h : tr.length ≤ 24) : (qTrace tr).length ≤ 1200 := by
  have key : ∀ (xs : List (Ev × Nat)), (∀ p ∈ xs, p.2 ≤ 24) → (xs.flatMap fun p => qEv tr p.2 p.1).length ≤ 50 * xs.length := by
    intro xs
    induction xs with
    | nil => intro _; simp
    | cons p xs ih =>
      intro hp
      have h1 := ih fun q hq => hp q (List.mem_cons_of_mem _ hq)
      have h2 := qEv_len tr p.2 p.1
      have h3 := hp p (List.mem_cons_self ..)
      rw [List.flatMap_cons, List.length_append, List.length_cons]; omega
  have h1 := key tr.zipIdx fun p hp => by
    obtain ⟨e, k⟩ := p
    have := (List.getElem?_eq_some_iff.mp (mem_zipIdx0.mp hp)).1
    simp only; omega
  rw [List.length_zipIdx] at h1
  unfold qTrace; omega
theorem m_of_trace {tr : List Ev} (ht : TrT tr) : Pf.m_of_trace [td tr] = .ok (qd (qTrace tr)) := by
  have hlt := ht.len
  have hq := qTrace_len tr ht.len
  have e0 := dRange1_ok (tr.length : Int) (small_nat _ (by omega))
  have e0' : rangeD 0 tr.length = tr.zipIdx.map fun p => D.int (p.2 : Nat) := by
    have h1 : tr.zipIdx.map (·.2) = List.range tr.length := by
      apply List.ext_getElem?
      intro k
      by_cases hk : k < tr.length
      · simp [hk]
      · simp [hk]
    have h2 : (tr.zipIdx.map fun p => D.int (p.2 : Nat)) = (tr.zipIdx.map (·.2)).map fun (k : Nat) => D.int (k : Nat) := by rw [List.map_map]; rfl
    rw [h2, h1, rangeD]
    simp
  obtain ⟨j1, e1⟩ := loop_ext (g := gN 2) (body := Pf.l_of_trace_1) (fun (p : Ev × Nat) => .int (p.2 : Nat)) (fun p => (qEv tr p.2 p.1).map Iq.d) (fun fd (j : Option D) => [some (td tr), some (.lst fd), j]) tr.zipIdx [] none
    (fun p hp fd j hl => by
      obtain ⟨e, k⟩ := p
      rw [List.length_map] at hl
      have he := mem_zipIdx0.mp hp
      refine ⟨some (.int k), ?_⟩
      simp [Pf.l_of_trace_1, m_of_event ht he, qd, hl])
    (by rw [← List.map_flatMap, List.length_map]; simp only [List.length_nil]; unfold qTrace at hq; omega)
  simp only [Int.toNat_natCast, e0'] at e0
  simp [Pf.m_of_trace, e0, e1, qd, qTrace, List.map_flatMap]
end Th
end

section
set_option Elab.async false
set_option linter.all false
set_option maxRecDepth 100000
namespace Th
open PySem DN
@[simp] theorem fq_active_active : (("active" : Str) == ("active" : Str)) = true := by decide
@[simp] theorem fq_active_returned : (("active" : Str) == ("returned" : Str)) = false := by decide
@[simp] theorem fq_active_innermost : (("active" : Str) == ("innermost" : Str)) = false := by decide
@[simp] theorem fq_active_stack : (("active" : Str) == ("stack" : Str)) = false := by decide
@[simp] theorem fq_active_depth : (("active" : Str) == ("depth" : Str)) = false := by decide
@[simp] theorem fq_active_returns : (("active" : Str) == ("returns" : Str)) = false := by decide
@[simp] theorem fq_active_deeper : (("active" : Str) == ("deeper" : Str)) = false := by decide
@[simp] theorem fq_returned_active : (("returned" : Str) == ("active" : Str)) = false := by decide
@[simp] theorem fq_returned_returned : (("returned" : Str) == ("returned" : Str)) = true := by decide
@[simp] theorem fq_returned_innermost : (("returned" : Str) == ("innermost" : Str)) = false := by decide
@[simp] theorem fq_returned_stack : (("returned" : Str) == ("stack" : Str)) = false := by decide
@[simp] theorem fq_returned_depth : (("returned" : Str) == ("depth" : Str)) = false := by decide
@[simp] theorem fq_returned_returns : (("returned" : Str) == ("returns" : Str)) = false := by decide
@[simp] theorem fq_returned_deeper : (("returned" : Str) == ("deeper" : Str)) = false := by decide
@[simp] theorem fq_innermost_active : (("innermost" : Str) == ("active" : Str)) = false := by decide
@[simp] theorem fq_innermost_returned : (("innermost" : Str) == ("returned" : Str)) = false := by decide
@[simp] theorem fq_innermost_innermost : (("innermost" : Str) == ("innermost" : Str)) = true := by decide
@[simp] theorem fq_innermost_stack : (("innermost" : Str) == ("stack" : Str)) = false := by decide
@[simp] theorem fq_innermost_depth : (("innermost" : Str) == ("depth" : Str)) = false := by decide
@[simp] theorem fq_innermost_returns : (("innermost" : Str) == ("returns" : Str)) = false := by decide
@[simp] theorem fq_innermost_deeper : (("innermost" : Str) == ("deeper" : Str)) = false := by decide
@[simp] theorem fq_stack_active : (("stack" : Str) == ("active" : Str)) = false := by decide
@[simp] theorem fq_stack_returned : (("stack" : Str) == ("returned" : Str)) = false := by decide
@[simp] theorem fq_stack_innermost : (("stack" : Str) == ("innermost" : Str)) = false := by decide
@[simp] theorem fq_stack_stack : (("stack" : Str) == ("stack" : Str)) = true := by decide
@[simp] theorem fq_stack_depth : (("stack" : Str) == ("depth" : Str)) = false := by decide
@[simp] theorem fq_stack_returns : (("stack" : Str) == ("returns" : Str)) = false := by decide
@[simp] theorem fq_stack_deeper : (("stack" : Str) == ("deeper" : Str)) = false := by decide
@[simp] theorem fq_depth_active : (("depth" : Str) == ("active" : Str)) = false := by decide
@[simp] theorem fq_depth_returned : (("depth" : Str) == ("returned" : Str)) = false := by decide
@[simp] theorem fq_depth_innermost : (("depth" : Str) == ("innermost" : Str)) = false := by decide
@[simp] theorem fq_depth_stack : (("depth" : Str) == ("stack" : Str)) = false := by decide
@[simp] theorem fq_depth_depth : (("depth" : Str) == ("depth" : Str)) = true := by decide
@[simp] theorem fq_depth_returns : (("depth" : Str) == ("returns" : Str)) = false := by decide
@[simp] theorem fq_depth_deeper : (("depth" : Str) == ("deeper" : Str)) = false := by decide
@[simp] theorem fq_returns_active : (("returns" : Str) == ("active" : Str)) = false := by decide
@[simp] theorem fq_returns_returned : (("returns" : Str) == ("returned" : Str)) = false := by decide
@[simp] theorem fq_returns_innermost : (("returns" : Str) == ("innermost" : Str)) = false := by decide
@[simp] theorem fq_returns_stack : (("returns" : Str) == ("stack" : Str)) = false := by decide
@[simp] theorem fq_returns_depth : (("returns" : Str) == ("depth" : Str)) = false := by decide
@[simp] theorem fq_returns_returns : (("returns" : Str) == ("returns" : Str)) = true := by decide
@[simp] theorem fq_returns_deeper : (("returns" : Str) == ("deeper" : Str)) = false := by decide
@[simp] theorem fq_deeper_active : (("deeper" : Str) == ("active" : Str)) = false := by decide
@[simp] theorem fq_deeper_returned : (("deeper" : Str) == ("returned" : Str)) = false := by decide
@[simp] theorem fq_deeper_innermost : (("deeper" : Str) == ("innermost" : Str)) = false := by decide
@[simp] theorem fq_deeper_stack : (("deeper" : Str) == ("stack" : Str)) = false := by decide
@[simp] theorem fq_deeper_depth : (("deeper" : Str) == ("depth" : Str)) = false := by decide
@[simp] theorem fq_deeper_returns : (("deeper" : Str) == ("returns" : Str)) = false := by decide
@[simp] theorem fq_deeper_deeper : (("deeper" : Str) == ("deeper" : Str)) = true := by decide
def Fact.d : Fact → D
  | .depth k lo hi => .tup [.str "depth", .int (k : Nat), .int lo, .int hi]
  | .act i k => .tup [.str "active", .int (i : Nat), .int (k : Nat)]
  | .ret i k => .tup [.str "returned", .int (i : Nat), .int (k : Nat)]
  | .inn i k => .tup [.str "innermost", .int (i : Nat), .int (k : Nat)]
  | .rets j k lo hi => .tup [.str "returns", .int (j : Nat), .int (k : Nat), .int lo, .int hi]
  | .deep j k b => .tup [.str "deeper", .int (j : Nat), .int (k : Nat), .int b]
  | .stk k fs => .tup [.str "stack", .int (k : Nat), sd fs]
@[simp] theorem atI2' {α : Type} (x y z : α) (xs : List α) : L2.atI (x :: y :: z :: xs) 2 = some z := by
  have := atI_nat (x :: y :: z :: xs) 2; simpa using this
@[simp] theorem atI3' {α : Type} (x y z w : α) (xs : List α) : L2.atI (x :: y :: z :: w :: xs) 3 = some w := by
  have := atI_nat (x :: y :: z :: w :: xs) 3; simpa using this
@[simp] theorem atI4' {α : Type} (x y z w v : α) (xs : List α) : L2.atI (x :: y :: z :: w :: v :: xs) 4 = some v := by
  have := atI_nat (x :: y :: z :: w :: v :: xs) 4; simpa using this
theorem flatMap_len {α β : Type} {f : α → List β} {b : Nat} : ∀ (xs : List α), (∀ x ∈ xs, (f x).length ≤ b) → (xs.flatMap f).length ≤ b * xs.length
  | [], _ => by simp
  | x :: xs, h => by
    have h1 := flatMap_len xs fun y hy => h y (List.mem_cons_of_mem _ hy)
    have h2 := h x (List.mem_cons_self ..)
    rw [List.flatMap_cons, List.length_append, List.length_cons, Nat.mul_succ]; omega
theorem cb_ten {tr : List Ev} (ht : TrT tr) (k : Nat) : cb tr k ≤ 10 := by have := cb_le tr k; have := ht.cr; omega
theorem qStk_one (tr : List Ev) (s : Src) (k : Nat) (fs : List Int) (i : Nat) : (if (i : Int) ∈ fs then qAct tr s i k else qRet tr s i k).length ≤ 2 * k + 1 := by
  have := qAct_len tr s i k
  split
  · omega
  · simp [qRet]
theorem qStk_len {tr : List Ev} (ht : TrT tr) (s : Src) {k : Nat} (hk : k ≤ tr.length) (fs : List Int) : (qStk tr s k fs).length ≤ 490 := by
  have h1 := flatMap_len (f := fun (i : Nat) => if (i : Int) ∈ fs then qAct tr s i k else qRet tr s i k) (b := 49) (List.range (cb tr k).toNat) fun i _ => by
    have := qStk_one tr s k fs i; have := ht.len; omega
  have h2 := cb_ten ht k
  rw [List.length_range] at h1
  unfold qStk; omega
theorem range_cb {tr : List Ev} (ht : TrT tr) (k : Nat) : dRange1 [.int (cb tr k)] = .ok ((List.range (cb tr k).toNat).map fun (i : Nat) => .int (i : Int)) := by
  have h1 := cb_nn tr k
  have h2 := cb_ten ht k
  have := dRange1_ok (cb tr k) (by have := small_nat (cb tr k).toNat (by omega); rwa [Int.toNat_of_nonneg h1] at this)
  rw [this, rangeD]; simp
theorem m_of_stack {tr : List Ev} (ht : TrT tr) (s : Src) {k : Nat} (hk : k ≤ tr.length) (fs : List Int) : Pf.m_rows_of_stack [td tr, s.d, .int k, sd fs] = .ok (qd (qStk tr s k fs)) := by
  have hlt := ht.len
  have hq := qStk_len ht s hk fs
  have h1 := cb_nn tr k
  have h2 := cb_ten ht k
  obtain ⟨j1, e1⟩ := loop_ext (g := gN 5) (body := Pf.l_rows_of_stack_1) (fun (i : Nat) => .int (i : Int)) (fun i => (if (i : Int) ∈ fs then qAct tr s i k else qRet tr s i k).map Iq.d) (fun fd (j : Option D) => [some (td tr), some s.d, some (.int k), some (sd fs), some (.lst fd), j]) (List.range (cb tr k).toNat) [] none
    (fun i hi fd j hl => by
      rw [List.length_map] at hl
      have hlt2 : (i : Int) < cb tr k := by have := List.mem_range.mp hi; omega
      have fr := fr_of hlt2 hk
      refine ⟨some (.int i), ?_⟩
      by_cases hm : (i : Int) ∈ fs
      · rw [if_pos hm] at hl ⊢
        simp [Pf.l_rows_of_stack_1, hm, m_act hlt s fr, qd, hl]
      · rw [if_neg hm] at hl ⊢
        simp [Pf.l_rows_of_stack_1, hm, m_ret hlt s fr, qd, hl])
    (by rw [← List.map_flatMap, List.length_map]; simp only [List.length_nil]; unfold qStk at hq; omega)
  simp [Pf.m_rows_of_stack, m_cb tr (by omega), cb_ix tr hk, range_cb ht k, e1, qd, qStk, List.map_flatMap]
theorem qFact_len {tr : List Ev} (ht : TrT tr) (s : Src) : ∀ {f : Fact}, FactOk tr f → (qFact tr s f).length ≤ 490
  | .act i k, h => by have := qAct_len tr s i k; have := ht.len; have := h.2.1; simp only [qFact]; omega
  | .ret i k, h => by simp [qFact, qRet]
  | .inn i k, h => by have := qInn_len tr s i k; have := ht.len; have := h.2.1; simp only [qFact]; omega
  | .stk k fs, h => qStk_len ht s h.1 fs
  | .depth k lo hi, h => by simp [qFact]
  | .deep j k b, h => by simp [qFact]
  | .rets j k lo hi, h => by simp [qFact]
theorem m_of_fact {tr : List Ev} (ht : TrT tr) (s : Src) : ∀ {f : Fact}, FactOk tr f → Pf.m_rows_of_fact [td tr, s.d, f.d] = .ok (qd (qFact tr s f))
  | .act i k, h => by simp [Pf.m_rows_of_fact, Fact.d, m_act ht.len s h.fr, qFact]
  | .ret i k, h => by simp [Pf.m_rows_of_fact, Fact.d, m_ret ht.len s h.fr, qFact]
  | .inn i k, h => by simp [Pf.m_rows_of_fact, Fact.d, m_inn ht.len s h.fr, qFact]
  | .stk k fs, h => by simp [Pf.m_rows_of_fact, Fact.d, m_of_stack ht s h.1 fs, qFact]
  | .depth k lo hi, h => by
    have := ht.len
    simp [Pf.m_rows_of_fact, Fact.d, m_cb tr (by omega), cb_ix tr h.1, qFact, qd, Iq.d, tmD]
  | .deep j k b, h => by
    have := ht.len
    simp [Pf.m_rows_of_fact, Fact.d, m_cb tr (by omega), cb_ix tr h.1, cb_ix tr h.2.1, qFact, qd, Iq.d, tmD]
  | .rets j k lo hi, h => by
    have := ht.len
    simp [Pf.m_rows_of_fact, Fact.d, m_cb tr (by omega), qFact, qd, Iq.d, tmD]
def fd (fs : List Fact) : D := .tup (fs.map Fact.d)
theorem qFacts_len {tr : List Ev} (ht : TrT tr) {fs : List Fact} (hf : ∀ f ∈ fs, FactOk tr f) : (qFacts tr fs).length ≤ 490 * fs.length := by
  have h1 := flatMap_len (f := fun (p : Fact × Nat) => qFact tr (.fa p.2) p.1) (b := 490) fs.zipIdx fun p hp => by
    obtain ⟨f, k⟩ := p
    exact qFact_len ht _ (hf f (List.mem_of_getElem? (mem_zipIdx0.mp hp)))
  rw [List.length_zipIdx] at h1
  exact h1
@[simp] theorem fd_enum (fs : List Fact) : dEnum [fd fs] = .ok (fs.zipIdx.map fun p => .pr [.int (p.2 : Nat), p.1.d]) := by
  simp only [fd, dEnum_t, enumD, List.zipIdx_map, List.map_map]; rfl
theorem m_of_facts {tr : List Ev} (ht : TrT tr) {fs : List Fact} (hf : ∀ f ∈ fs, FactOk tr f) (hl : fs.length ≤ 100) : Pf.m_of_facts [td tr, fd fs] = .ok (qd (qFacts tr fs)) := by
  have hq := qFacts_len ht hf
  obtain ⟨j1, e1⟩ := loop_ext (g := gT 2 (gCons' (gN 3) (gCons' (gN 4) (gNil')))) (body := Pf.l_of_facts_1) (fun (p : Fact × Nat) => .pr [.int (p.2 : Nat), p.1.d]) (fun p => (qFact tr (.fa p.2) p.1).map Iq.d) (fun fd' (j : Option D × Option D) => [some (td tr), some (fd fs), some (.lst fd'), j.1, j.2]) fs.zipIdx [] (none, none)
    (fun p hp fd' j hl => by
      obtain ⟨f, k⟩ := p
      rw [List.length_map] at hl
      have hm := hf f (List.mem_of_getElem? (mem_zipIdx0.mp hp))
      have hs : D.tup [.str "fact", .int (k : Nat)] = (Src.fa k).d := rfl
      refine ⟨(some (.int k), some f.d), ?_⟩
      simp [Pf.l_of_facts_1, hs, m_of_fact ht (.fa k) hm, qd, hl])
    (by rw [← List.map_flatMap, List.length_map]; simp only [List.length_nil]; unfold qFacts at hq; omega)
  simp [Pf.m_of_facts, e1, qd, qFacts, List.map_flatMap]
end Th
end

section
set_option Elab.async false
set_option linter.all false
set_option maxRecDepth 100000
namespace Th
open PySem DN
theorem putK_il' (i : Nat) (env : DN.Env) (v : Int) (s : List Int) (r : Nat) (h : r < s.length) : putK i env (.int v) (s.map D.int) (.int r) = .ok (.nx (env.set i (some (il (s.set r v))))) := by
  have : L2.ixN (s.map D.int).length (r : Int) = some r := by
    simp only [L2.ixN, if_pos (show (0 : Int) ≤ r by omega), List.length_map]
    rw [if_pos (by omega)]; rfl
  simp only [putK, this, il, List.map_set]
@[simp] theorem ownK_il' (k : List D → R D) (s : List Int) : ownK k (some (some (il s))) = k (s.map D.int) := rfl
@[simp] theorem ownS_il' (k : List D → R Fl) (s : List Int) : ownS k (some (some (il s))) = k (s.map D.int) := rfl
theorem gmax_imax : ∀ (l : List Int) (m : Int), gmax m l = imax m l
  | [], _ => rfl
  | x :: r, m => gmax_imax r _
theorem m_right {b : List Int} {ts : List (Option Nat × Int)} (hne : ts ≠ []) (hl : ts.length ≤ 1000) (hb : ∀ t ∈ ts, ∀ l, t.1 = some l → l < b.length) : Pf.m_right_side [.lst (ts.map tmD), il b] = .ok (.int (rside b ts)) := by
  simp [-eLc_eq, Pf.m_right_side]
  rw [eLc_map (α := Option Nat × Int) tmD (fun t => .int (tval (fn b) t)) ts]
  · cases ts with
    | nil => exact absurd rfl hne
    | cons t ts =>
      have h : dints (.int (tval (fn b) t) :: List.map (fun t => D.int (tval (fn b) t)) ts) = some ((t :: ts).map (tval (fn b))) := by
        have := dints_map ((t :: ts).map (tval (fn b)))
        rw [List.map_map] at this; exact this
      have h2 : dMaxL [.lst (.int (tval (fn b) t) :: List.map (fun t => D.int (tval (fn b) t)) ts)] = .ok (.int (imax (tval (fn b) t) (ts.map (tval (fn b))))) := by
        simp only [dMaxL, h, List.map_cons]
      simp [h2, rside, gmax_imax]
  · simp
  · omega
  · intro t ht
    obtain ⟨o, v⟩ := t
    refine ⟨_, rfl, ?_⟩
    cases o with
    | none => simp [tval]
    | some l =>
      have hlt := hb _ ht l rfl
      have : b[l]? = some b[l] := List.getElem?_eq_getElem hlt
      simp [tval, il_ix this, fn, this]
def Ln.d (l : Ln) : D := .tup [.int (l.1 : Nat), .int l.2.1, l.2.2.d]
def lnD (ls : List Ln) : D := .lst (ls.map Ln.d)
theorem m_down (m : Nat) (v : Int) (h : m < 1000) : Pf.m_down_to_start [.int m, .int v] = .ok (lnD (downs m v)) := by
  have s1 : small62 ((m : Int) - 1) = true := by
    simp only [small62, decide_eq_true_eq]
    have : ((m : Int) - 1).natAbs < 1000 := by omega
    exact Nat.lt_trans this (by decide)
  have s2 : small62 (-1) = true := rfl
  have e1 : dRange3 [.int ((m : Int) - 1), .int (-1), .int (-1)] = .ok ((((List.range m).map fun j => m - 1 - j)).map fun (j : Nat) => .int (j : Int)) := by
    simp only [dRange3]
    rw [if_pos ⟨trivial, s1, s2⟩, downD]
    have : ((m : Int) - 1 - -1).toNat = m := by omega
    rw [this, List.map_map]
    congr 1
    apply List.map_congr_left
    intro x hx
    have := List.mem_range.mp hx
    simp only [Function.comp]
    congr 1
    omega
  simp [-eLc_eq, Pf.m_down_to_start]
  rw [eLc_map (α := Nat) (fun j => .int (j : Int)) (fun j => Ln.d (j, v, .ev j)) ((List.range m).map fun j => m - 1 - j)]
  · simp [lnD, downs]
  · simp [e1]
  · simp; omega
  · intro x hx
    exact ⟨_, rfl, by simp [Ln.d, Src.d]⟩
theorem downs_len (m : Nat) (v : Int) : (downs m v).length = m := by simp [downs]
@[simp] theorem ownK_ln (k : List D → R D) (ls : List Ln) : ownK k (some (some (lnD ls))) = k (ls.map Ln.d) := rfl
@[simp] theorem ownS_ln (k : List D → R Fl) (ls : List Ln) : ownS k (some (some (lnD ls))) = k (ls.map Ln.d) := rfl
/-- one inequality -/
theorem step_low {n : Nat} (hn : n < 100) (tr : List Ev) (Q : D) {q : Iq} (hw : q.Wf n) (hts : q.ts.length ≤ 1000) {b : List Int} (hb : b.length = n + 1) (ls : List Ln) (hls : ls.length < 100000) (g : Bool) (j8 : Option D) :
    (rside b q.ts < fn b q.m → rside b q.ts < 0 → ∃ e, Pf.l_lowered_1 [some (td tr), some Q, some (il b), some (lnD ls), some (.bl g), some q.src.d, some (.int q.m), some (.lst (q.ts.map tmD)), j8] = .ok (.rt (.tup [.non, lnD (ls ++ [(q.m, rside b q.ts, q.src)] ++ downs q.m (rside b q.ts))]) e)) ∧
    (rside b q.ts < fn b q.m → ¬ rside b q.ts < 0 → ∃ j, Pf.l_lowered_1 [some (td tr), some Q, some (il b), some (lnD ls), some (.bl g), some q.src.d, some (.int q.m), some (.lst (q.ts.map tmD)), j8] = .ok (.nx [some (td tr), some Q, some (il (b.set q.m (rside b q.ts))), some (lnD (ls ++ [(q.m, rside b q.ts, q.src)])), some (.bl true), some q.src.d, some (.int q.m), some (.lst (q.ts.map tmD)), j])) ∧
    (¬ rside b q.ts < fn b q.m → ∃ j, Pf.l_lowered_1 [some (td tr), some Q, some (il b), some (lnD ls), some (.bl g), some q.src.d, some (.int q.m), some (.lst (q.ts.map tmD)), j8] = .ok (.nx [some (td tr), some Q, some (il b), some (lnD ls), some (.bl g), some q.src.d, some (.int q.m), some (.lst (q.ts.map tmD)), j])) := by
  have hm := hw.m
  have e1 := m_right (b := b) hw.ne hts (fun t ht l hl => by have := hw.ts t ht l hl; omega)
  have hlt : q.m < b.length := by omega
  have hg : b[q.m]? = some b[q.m] := List.getElem?_eq_getElem hlt
  have hfn : fn b q.m = b[q.m] := by unfold fn; rw [hg]; rfl
  have e2 := il_ix hg
  have e2' : dIx (.lst (b.map D.int)) (.int q.m) = .ok (.int b[q.m]) := e2
  have e3 := m_down q.m (rside b q.ts) (by omega)
  rw [hfn]
  have hl1 : ls.length < 16777216 := by omega
  have hl2 : ls.length + 1 + q.m ≤ 16777216 := by omega
  have x1 : D.lst (ls.map Ln.d ++ [.tup [.int q.m, .int (rside b q.ts), q.src.d]]) = lnD (ls ++ [(q.m, rside b q.ts, q.src)]) := by simp [lnD, Ln.d]
  have x2 : dCat (.lst (ls.map Ln.d ++ [Ln.d (q.m, rside b q.ts, q.src)])) (lnD (downs q.m (rside b q.ts))) = .ok (lnD (ls ++ [(q.m, rside b q.ts, q.src)] ++ downs q.m (rside b q.ts))) := by
    simp only [lnD, dCat_l]
    rw [chk_pos (by simp [downs_len]; omega)]
    simp
  refine ⟨fun h1 h2 => ⟨[some (td tr), some Q, some (il (b.set q.m (rside b q.ts))), some (lnD (ls ++ [(q.m, rside b q.ts, q.src)])), some (.bl true), some q.src.d, some (.int q.m), some (.lst (q.ts.map tmD)), some (.int (rside b q.ts))], ?_⟩, fun h1 h2 => ⟨some (.int (rside b q.ts)), ?_⟩, fun h1 => ⟨some (.int (rside b q.ts)), ?_⟩⟩
  · simp [-dIx_l, -dCat_l, Pf.l_lowered_1, e1, e2', h1, h2, e3, putK_il', hlt, hl1, x1, x2]
  · simp [-dIx_l, Pf.l_lowered_1, e1, e2', h1, h2, e3, putK_il', hlt, hl1, x1]
  · simp [-dIx_l, Pf.l_lowered_1, e1, e2', h1, e3]
/-- one turn -/
theorem loop_low {n : Nat} (hn : n < 100) (tr : List Ev) (Q : D) : ∀ (qs : List Iq), (∀ q ∈ qs, q.Wf n ∧ q.ts.length ≤ 1000) → ∀ (b : List Int) (ls : List Ln) (g : Bool) (j5 j6 j7 j8 : Option D), b.length = n + 1 → Nn b → (ls.length : Int) + total b < 100000 →
    (∀ ls' m v, pass qs b ls g = .inl (ls', m, v) → ∃ e, loop (gT 3 (gCons' (gN 5) (gCons' (gN 6) (gCons' (gN 7) (gNil'))))) Pf.l_lowered_1 (qs.map Iq.d) [some (td tr), some Q, some (il b), some (lnD ls), some (.bl g), j5, j6, j7, j8] = .ok (.rt (.tup [.non, lnD (ls' ++ downs m v)]) e)) ∧
    (∀ b' ls' g', pass qs b ls g = .inr (b', ls', g') → (ls'.length : Int) + total b' ≤ ls.length + total b ∧ ∃ a5 a6 a7 a8, loop (gT 3 (gCons' (gN 5) (gCons' (gN 6) (gCons' (gN 7) (gNil'))))) Pf.l_lowered_1 (qs.map Iq.d) [some (td tr), some Q, some (il b), some (lnD ls), some (.bl g), j5, j6, j7, j8] = .ok (.nx [some (td tr), some Q, some (il b'), some (lnD ls'), some (.bl g'), a5, a6, a7, a8]))
  | [], _, b, ls, g, j5, j6, j7, j8, _, _, _ => by
    refine ⟨fun ls' m v h => by simp [pass] at h, fun b' ls' g' h => ?_⟩
    simp only [pass, Sum.inr.injEq, Prod.mk.injEq] at h
    obtain ⟨rfl, rfl, rfl⟩ := h
    exact ⟨Int.le_refl _, j5, j6, j7, j8, rfl⟩
  | q :: qs, hw, b, ls, g, j5, j6, j7, j8, hb, hnn, hls => by
    obtain ⟨hwq, htq⟩ := hw q (List.mem_cons_self ..)
    have hws := fun x hx => hw x (List.mem_cons_of_mem _ hx)
    have hm : q.m < b.length := by have := hwq.m; omega
    have htot := hnn.total
    obtain ⟨s1, s2, s3⟩ := step_low hn tr Q hwq htq hb ls (by omega) g j8
    have hgo : ∀ (k : DN.Env → R Fl), gk (gT 3 (gCons' (gN 5) (gCons' (gN 6) (gCons' (gN 7) (gNil')))) q.d [some (td tr), some Q, some (il b), some (lnD ls), some (.bl g), j5, j6, j7, j8]) k = k [some (td tr), some Q, some (il b), some (lnD ls), some (.bl g), some q.src.d, some (.int q.m), some (.lst (q.ts.map tmD)), j8] := fun k => by simp [Iq.d]
    simp only [List.map_cons, loop_cons, hgo, pass]
    by_cases hlt : rside b q.ts < fn b q.m
    · rw [if_pos hlt]
      by_cases hneg : rside b q.ts < 0
      · rw [if_pos hneg]
        obtain ⟨e, st⟩ := s1 hlt hneg
        refine ⟨fun ls' m v h => ?_, fun b' ls' g' h => by cases h⟩
        simp only [Sum.inl.injEq, Prod.mk.injEq] at h
        obtain ⟨rfl, rfl, rfl⟩ := h
        exact ⟨e, by rw [st, lk_rt]⟩
      · rw [if_neg hneg]
        obtain ⟨j, st⟩ := s2 hlt hneg
        have hs := sum_set (v := rside b q.ts) hm
        have hn1 : Nn (b.set q.m (rside b q.ts)) := ⟨fun k hk => by
          rw [fn_set hm]
          split
          · omega
          · exact hnn.nn k (by rw [List.length_set] at hk; exact hk)⟩
        obtain ⟨i1, i2⟩ := loop_low hn tr Q qs hws (b.set q.m (rside b q.ts)) (ls ++ [(q.m, rside b q.ts, q.src)]) true (some q.src.d) (some (.int q.m)) (some (.lst (q.ts.map tmD))) j (by rw [List.length_set]; exact hb) hn1 (by rw [List.length_append]; simp only [List.length_cons, List.length_nil]; omega)
        refine ⟨fun ls' m v h => ?_, fun b' ls' g' h => ?_⟩
        · obtain ⟨e, he⟩ := i1 ls' m v h
          exact ⟨e, by rw [st, lk_nx, he]⟩
        · obtain ⟨h1, a5, a6, a7, a8, he⟩ := i2 b' ls' g' h
          rw [List.length_append] at h1
          simp only [List.length_cons, List.length_nil] at h1
          exact ⟨by omega, a5, a6, a7, a8, by rw [st, lk_nx, he]⟩
    · rw [if_neg hlt]
      obtain ⟨j, st⟩ := s3 hlt
      obtain ⟨i1, i2⟩ := loop_low hn tr Q qs hws b ls g (some q.src.d) (some (.int q.m)) (some (.lst (q.ts.map tmD))) j hb hnn hls
      refine ⟨fun ls' m v h => ?_, fun b' ls' g' h => ?_⟩
      · obtain ⟨e, he⟩ := i1 ls' m v h
        exact ⟨e, by rw [st, lk_nx, he]⟩
      · obtain ⟨h1, a5, a6, a7, a8, he⟩ := i2 b' ls' g' h
        exact ⟨h1, a5, a6, a7, a8, by rw [st, lk_nx, he]⟩
def obD : Option (List Int) → D
  | none => .non
  | some b => il b
theorem while_low {n : Nat} (hn : n < 100) (tr : List Ev) (qs : List Iq) (hw : ∀ q ∈ qs, q.Wf n ∧ q.ts.length ≤ 1000) : ∀ (m : Nat) (b : List Int) (ls : List Ln) (j5 j6 j7 j8 : Option D) (ob : Option (List Int)) (ls' : List Ln), b.length = n + 1 → Nn b → (ls.length : Int) + total b < 100000 → low m qs b ls = some (ob, ls') →
    finF (rseq (wloop (eT dTru (eVar 4)) (sSeq (sSet 4 (eC (.bl false))) (sFor (eItems (eVar 1)) (gT 3 (gCons' (gN 5) (gCons' (gN 6) (gCons' (gN 7) (gNil'))))) Pf.l_lowered_1)) (m + 1) [some (td tr), some (qd qs), some (il b), some (lnD ls), some (.bl true), j5, j6, j7, j8]) (sRet (eArgs dTup (eCons (eVar 2) (eCons (eVar 3) (eNil)))))) = .ok (.tup [obD ob, lnD ls'])
  | 0, b, ls, j5, j6, j7, j8, ob, ls', _, _, _, h => by cases h
  | m + 1, b, ls, j5, j6, j7, j8, ob, ls', hb, hnn, hls, h => by
    obtain ⟨i1, i2⟩ := loop_low hn tr (qd qs) qs hw b ls false j5 j6 j7 j8 hb hnn hls
    have hit : dItems (qd qs) = .ok (qs.map Iq.d) := rfl
    rw [wloop]
    simp only [low] at h
    cases hp : pass qs b ls false with
    | inl x =>
      obtain ⟨l1, k, v⟩ := x
      rw [hp] at h
      simp only [Option.some.injEq, Prod.mk.injEq] at h
      obtain ⟨rfl, rfl⟩ := h
      obtain ⟨e, he⟩ := i1 l1 k v hp
      simp [hit, he, obD]
    | inr x =>
      obtain ⟨b', l1, g'⟩ := x
      rw [hp] at h
      obtain ⟨h1, a5, a6, a7, a8, he⟩ := i2 b' l1 g' hp
      obtain ⟨p1, p2, _, _⟩ := pass_inv (fun q hq => (hw q hq).1) hb hnn hp
      simp only at h
      cases g' with
      | true =>
        rw [if_pos rfl] at h
        have ih := while_low hn tr qs hw m b' l1 a5 a6 a7 a8 ob ls' p1 p2 (by omega) h
        simp [hit, he]
        simpa using ih
      | false =>
        rw [if_neg (by simp)] at h
        simp only [Option.some.injEq, Prod.mk.injEq] at h
        obtain ⟨rfl, rfl⟩ := h
        simp [hit, he, wloop, obD]
end Th
end

section
set_option Elab.async false
set_option linter.all false
set_option maxRecDepth 100000
namespace Th
open PySem DN
theorem m_low {tr : List Ev} (ht : TrT tr) {E : List Iq} (hE : WfAll tr.length E) {ob : Option (List Int)} {ls : List Ln} (h : lows tr E = some (ob, ls)) : Pf.m_lowered [td tr, qd (qTrace tr ++ E)] = .ok (.tup [obD ob, lnD ls]) := by
  have hlt := ht.len
  have hw : ∀ q ∈ qTrace tr ++ E, q.Wf tr.length ∧ q.ts.length ≤ 1000 := fun q hq => by
    have h1 := (wf_trace ht.fr).app hE q hq
    exact ⟨h1, by have := h1.tl; omega⟩
  have h1 := while_low (n := tr.length) (by omega) tr (qTrace tr ++ E) hw 999 (cbs 0 tr) [] none none none none ob ls (cbs_len tr 0) (nn_cbs tr) (by have := total_cbs ht.len ht.cr; simp; omega) h
  have e1 : dLs (il (cbs 0 tr)) = .ok (il (cbs 0 tr)) := rfl
  have e2 : D.lst [] = lnD [] := rfl
  simp [Pf.m_lowered, m_cb tr (by omega), e1, e2]
  simpa using h1
/-- can the inequalities be kept? -/
def Feas (tr : List Ev) (E : List Iq) : Prop := ∃ co rs, CoOk tr co rs ∧ SatAll (totF tr rs) E
theorem lows_cases {tr : List Ev} (ht : TrT tr) {E : List Iq} (hE : WfAll tr.length E) :
    (Feas tr E ∧ ∃ ls co rs, lows tr E = some (some (tots (cbs 0 tr) rs), ls) ∧ Most tr E co rs ∧ wtGo tr (tots (cbs 0 tr) rs) [] 0 = some co) ∨ (¬ Feas tr E ∧ ∃ ls, lows tr E = some (none, ls)) := by
  rcases lows_ok ht hE with ⟨b, ls, co, rs, h1, h2, rfl, h4⟩ | ⟨ls, h1, h2⟩
  · exact .inl ⟨⟨co, rs, h2.ok, h2.sat⟩, ls, co, rs, h1, h2, h4⟩
  · exact .inr ⟨fun ⟨co, rs, h3, h4⟩ => h2 co rs h3 h4, ls, h1⟩
open Classical in
theorem m_feas {tr : List Ev} (ht : TrT tr) {E : List Iq} (hE : WfAll tr.length E) : Pf.m_is_feasible [td tr, qd (qTrace tr ++ E)] = .ok (.bl (decide (Feas tr E))) := by
  rcases lows_cases ht hE with ⟨h0, ls, co, rs, h1, _, _⟩ | ⟨h0, ls, h1⟩
  · have e : (obD (some (tots (cbs 0 tr) rs))).isNon = false := rfl
    simp [Pf.m_is_feasible, m_low ht hE h1, e, h0]
  · simp [Pf.m_is_feasible, m_low ht hE h1, obD, h0]
theorem qd_app2 {tr : List Ev} (ht : TrT tr) {fs : List Fact} (hf : ∀ f ∈ fs, FactOk tr f) (hl : fs.length ≤ 100) : dAdd (qd (qTrace tr)) (qd (qFacts tr fs)) = .ok (qd (qTrace tr ++ qFacts tr fs)) :=
  qd_add _ _ (by have := qTrace_len tr ht.len; have := qFacts_len ht hf; omega)
/-- most_of -/
theorem m_most_of {tr : List Ev} (ht : TrT tr) {fs : List Fact} (hf : ∀ f ∈ fs, FactOk tr f) (hl : fs.length ≤ 100) :
    (∃ co rs, Pf.m_most_of [td tr, fd fs] = .ok (sd co) ∧ Most tr (qFacts tr fs) co rs) ∨ (Pf.m_most_of [td tr, fd fs] = .ok .non ∧ ¬ Feas tr (qFacts tr fs)) := by
  have hE := wf_facts hf
  have hlt := ht.len
  rcases lows_cases ht hE with ⟨h0, ls, co, rs, h1, h2, h3⟩ | ⟨h0, ls, h1⟩
  · left
    refine ⟨co, rs, ?_, h2⟩
    have e : (obD (some (tots (cbs 0 tr) rs))).isNon = false := rfl
    have e1 := m_wt tr (tots (cbs 0 tr) rs) (by rw [tots_len h2.ok.rlen]; omega)
    rw [h3] at e1
    have e2 : obD (some (tots (cbs 0 tr) rs)) = il (tots (cbs 0 tr) rs) := rfl
    have e3 : (il (tots (cbs 0 tr) rs)).isNon = false := rfl
    simp [Pf.m_most_of, m_of_trace ht, m_of_facts ht hf hl, qd_app2 ht hf hl, m_low ht hE h1, e2, e3, e1, ows]
  · right
    refine ⟨?_, h0⟩
    simp [Pf.m_most_of, m_of_trace ht, m_of_facts ht hf hl, qd_app2 ht hf hl, m_low ht hE h1, obD]
end Th
end

section
set_option Elab.async false
set_option linter.all false
set_option maxRecDepth 100000
namespace Th
open PySem DN
theorem evs_fr : ∀ {tr : List Ev} {c : Int}, evsOk c tr → ∀ k f, (tr[k]? = some (.exi f) ∨ tr[k]? = some (.cat f)) → 0 ≤ f ∧ f < c + cb tr k
  | [], c, _, k, f, h => by simp at h
  | e :: tr, c, h, 0, f, hf => by
    simp only [List.getElem?_cons_zero, Option.some.injEq] at hf
    have h1 := h.1
    rw [cb_zero]
    rcases hf with rfl | rfl
    · simp only [Ev.ok] at h1; omega
    · simp only [Ev.ok] at h1; omega
  | e :: tr, c, h, k + 1, f, hf => by
    simp only [List.getElem?_cons_succ] at hf
    have := evs_fr h.2 k f hf
    rw [cb_cons]; omega
theorem TrOk.t {tr : List Ev} (h : TrOk tr) : TrT tr := ⟨fun k f hf => by have := evs_fr h.ev k f hf; omega, h.len, h.cr⟩
theorem m_moment (tr : List Ev) (k : Nat) (h : k ≤ tr.length) : Pf.m_is_moment [td tr, .int k] = .ok (.bl true) := by
  have h1 : (k : Int) ≤ tr.length := by omega
  have h0 : (0 : Int) ≤ k := by omega
  simp [Pf.m_is_moment, m_int, h]
theorem m_range {lo hi : Int} (h0 : 0 ≤ lo) (h1 : lo ≤ hi) (h2 : hi ≤ 10) : Pf.m_is_range [.int lo, .int hi] = .ok (.bl true) := by
  have h3 : 0 ≤ hi := by omega
  simp [Pf.m_is_range, m_int, h0, h1, h2, h3]
theorem m_frame_fact {tr : List Ev} (ht : tr.length ≤ 24) {i k : Nat} (w : D) (h : FrameAt tr i k) : Pf.m_is_frame_fact [td tr, .tup [w, .int i, .int k]] = .ok (.bl true) := by
  have h1 := h.1
  have h2 := h.2.1
  have h3 := h.2.2
  have e3 := iln_ix h.fr.g
  have h4 : (i : Int) ≤ ((crIdx tr).length : Int) - 1 := by omega
  have h5 : (evOf tr i : Int) < k := by omega
  simp [Pf.m_is_frame_fact, m_at tr (by omega), m_int, h4, m_moment tr k h2, e3, h3]
theorem zip_tail_dec : ∀ {fs : List Int}, fs.Pairwise (· < ·) → ∀ p ∈ fs.zip (fs.tail), p.1 < p.2
  | [], _, p, hp => by simp at hp
  | [x], _, p, hp => by simp at hp
  | x :: y :: fs, h, p, hp => by
    rw [List.pairwise_cons] at h
    simp only [List.tail_cons, List.zip_cons_cons, List.mem_cons] at hp
    rcases hp with rfl | hp
    · exact h.1 y (List.mem_cons_self ..)
    · exact zip_tail_dec h.2 p (by simpa using hp)
theorem dAll_of {α : Type} (p : α → Bool) (xs : List α) (h : ∀ x ∈ xs, p x = true) : dAll [.lst (xs.map fun x => .bl (p x))] = .ok (.bl true) := by
  rw [dAll_map, List.all_eq_true.mpr h]
theorem cut_from {α : Type} (xs : List α) (n : Nat) : cutD xs (some (n : Int)) none = xs.drop n := by
  unfold cutD
  have h : ¬ ((n : Int) < 0) := by omega
  simp only [HT.sIx, if_neg h, Int.toNat_natCast]
  rw [List.take_of_length_le (by simp)]
  by_cases hn : n ≤ xs.length
  · rw [Nat.min_eq_left hn]
  · rw [Nat.min_eq_right (by omega), List.drop_length, List.drop_eq_nil_of_le (by omega)]
theorem m_stack_fact {tr : List Ev} (ht : TrT tr) {k : Nat} {fs : List Int} (w : D) (hk : k ≤ tr.length) (h : Inc fs (cb tr k)) : Pf.m_is_stack_fact [td tr, .tup [w, .int k, sd fs]] = .ok (.bl true) := by
  have hlt := ht.len
  have hl := h.len (cb_nn tr k)
  have h10 := cb_ten ht k
  have e0 : dSl (sd fs) (some 1) none = .ok (sd (fs.tail)) := by
    have := cut_from (fs.map D.int) 1
    simp [sd] at this ⊢; exact this
  have e1 : dZip [sd fs, sd (fs.tail)] = .ok ((fs.zip (fs.tail)).map fun p => .pr [.int p.1, .int p.2]) := by
    simp only [sd, dZip_t, zipD, List.zip_map, List.map_map]; rfl
  simp [-eLc_eq, Pf.m_is_stack_fact, m_moment tr k hk, m_cb tr (by omega), cb_ix tr hk]
  rw [eLc_map (α := Int) D.int (fun l => .bl (decide (0 ≤ l ∧ l ≤ cb tr k - 1))) fs]
  · have e2 := dAll_of (fun l => decide (0 ≤ l ∧ l ≤ cb tr k - 1)) fs (fun x hx => by have := h.b x hx; simp; omega)
    simp only [bd_ok, e2, eNil_eq, bind_ok, dTru_b, sbi_ok, Bool.not_true, eC_eq, eSl_eq, oSome_eq, toI_i, oNone_eq, e0]
    simp [-eLc_eq, e2]
    rw [eLc_map (α := Int × Int) (fun p => .pr [.int p.1, .int p.2]) (fun p => .bl (decide (p.1 < p.2))) (fs.zip (fs.tail))]
    · have e3 := dAll_of (fun p : Int × Int => decide (p.1 < p.2)) (fs.zip (fs.tail)) (fun p hp => by simpa using zip_tail_dec h.p p hp)
      simp [e3]
    · simp [e0, e1]
    · simp; omega
    · intro p hp; exact ⟨_, rfl, by simp⟩
  · simp
  · omega
  · intro x hx
    exact ⟨_, rfl, by simp [m_int]⟩
end Th
end

section
set_option Elab.async false
set_option linter.all false
set_option maxRecDepth 100000
namespace Th
open PySem DN
@[simp] theorem finF_bad : finF .bad = .bad := rfl
theorem m_good {tr : List Ev} (ht : TrT tr) : ∀ {f : Fact}, FactOk tr f → Pf.m_good_fact [td tr, f.d] = .ok (.bl true)
  | .act i k, h => by simp [Pf.m_good_fact, Fact.d, m_frame_fact ht.len _ h]
  | .ret i k, h => by simp [Pf.m_good_fact, Fact.d, m_frame_fact ht.len _ h]
  | .inn i k, h => by simp [Pf.m_good_fact, Fact.d, m_frame_fact ht.len _ h]
  | .stk k fs, h => by simp [Pf.m_good_fact, Fact.d, m_stack_fact ht _ h.1 h.2]
  | .depth k lo hi, h => by simp [Pf.m_good_fact, Fact.d, m_moment tr k h.1, m_range h.2.1 h.2.2.1 h.2.2.2]
  | .rets j k lo hi, h => by
    have h1 := h.1
    have h2 := h.2.1
    simp [Pf.m_good_fact, Fact.d, m_moment tr j (by omega), m_moment tr k h2, m_range h.2.2.1 h.2.2.2.1 h.2.2.2.2, h1]
  | .deep j k b, h => by
    have h3 := h.2.2.1
    have h3' : ¬ (j : Int) = k := by omega
    simp [Pf.m_good_fact, Fact.d, m_moment tr j h.1, m_moment tr k h.2.1, h3, h3', m_int, h.2.2.2.1, h.2.2.2.2]
@[simp] theorem fd_items (fs : List Fact) : dItems (fd fs) = .ok (fs.map Fact.d) := rfl
@[simp] theorem fd_len (fs : List Fact) : dLen [fd fs] = .ok (.int fs.length) := by simp [fd]
@[simp] theorem fd_isT (fs : List Fact) : dIsi "tuple" (fd fs) = .ok (.bl true) := rfl
theorem m_req_fact {tr : List Ev} (ht : TrT tr) {f : Fact} (h : FactOk tr f) : Pf.m_require_fact [td tr, f.d] = .ok .non := by
  simp [Pf.m_require_fact, m_good ht h]
theorem m_req_facts {tr : List Ev} (ht : TrT tr) {fs : List Fact} (hf : ∀ f ∈ fs, FactOk tr f) (hl : fs.length ≤ 8) : Pf.m_require_facts [td tr, fd fs] = .ok .non := by
  have h1 : ¬ 8 < (fs.length : Int) := by omega
  have h2 : ¬ 8 < fs.length := by omega
  simp [-eLc_eq, Pf.m_require_facts, h1, h2]
  rw [eLc_map (α := Fact) Fact.d (fun _ => .bl true) fs]
  · have := dAll_of (fun _ : Fact => true) fs (fun _ _ => rfl)
    simp [this]
  · simp
  · omega
  · intro x hx
    exact ⟨_, rfl, by simp [m_good ht (hf x hx)]⟩
theorem m_most {tr : List Ev} (ht : TrOk tr) {fs : List Fact} (hf : ∀ f ∈ fs, FactOk tr f) (hl : fs.length ≤ 8) : Pf.m_most_returned [td tr, fd fs] = Pf.m_most_of [td tr, fd fs] := by
  simp [Pf.m_most_returned, m_req_trace ht, m_req_facts ht.t hf hl]
  cases h : Pf.m_most_of [td tr, fd fs] <;> simp
/-! what it takes that a fact fails -/
theorem m_deeper {tr : List Ev} (ht : tr.length ≤ 24) {i k : Nat} (h : Fr tr i k) : Pf.m_rows_deeper_than [td tr, .int i, .int k] = .ok (qd (qDeeper tr i k)) := by
  have h1 := h.lt
  have h2 := h.le
  have e3 := iln_ix h.g
  have h3 := qAct_len tr .no i k
  have e4 : dAdd (qd (qAct tr .no i k)) (.lst [.tup [.non, .int k, .lst [.tup [.int (evOf tr i), .int (cb tr k - cb tr (evOf tr i) - 2 + b2i (isTl tr (evOf tr i)))]]]]) = .ok (qd (qDeeper tr i k)) := by
    have := qd_add (qAct tr .no i k) [⟨.no, k, [(some (evOf tr i), cb tr k - cb tr (evOf tr i) - 2 + b2i (isTl tr (evOf tr i)))]⟩] (by simp; omega)
    exact this
  have e5 := m_act ht .no h
  have e6 : (Src.no).d = .non := rfl
  rw [e6] at e5
  simp [-dAdd_l, Pf.m_rows_deeper_than, m_cb tr (by omega), m_at tr (by omega), e3, cb_ix tr (show evOf tr i ≤ tr.length by omega), cb_ix tr h2, m_is_tail (show evOf tr i < tr.length by omega), b2i_eq, e5, e4]
theorem m_not_stack {tr : List Ev} (ht : TrT tr) {k : Nat} (hk : k ≤ tr.length) (fs : List Int) : Pf.m_rows_not_stack [td tr, .int k, sd fs] = .ok (.lst ((negs tr (.stk k fs)).map qd)) := by
  have hlt := ht.len
  have h1 := cb_nn tr k
  have h2 := cb_ten ht k
  obtain ⟨j1, e1⟩ := loop_app (g := gN 4) (body := Pf.l_rows_not_stack_1) (fun (i : Nat) => .int (i : Int)) (fun i => qd (if (i : Int) ∈ fs then qRet tr .no i k else qAct tr .no i k)) (fun fd (j : Option D) => [some (td tr), some (.int k), some (sd fs), some (.lst fd), j]) (List.range (cb tr k).toNat) [] none
    (fun i hi fd j hl => by
      have hlt2 : (i : Int) < cb tr k := by have := List.mem_range.mp hi; omega
      have fr := fr_of hlt2 hk
      have e6 : (Src.no).d = .non := rfl
      have e5 := m_act hlt .no fr
      have e7 := m_ret hlt .no fr
      rw [e6] at e5 e7
      refine ⟨some (.int i), ?_⟩
      by_cases hm : (i : Int) ∈ fs
      · simp [Pf.l_rows_not_stack_1, hm, e7, hl]
      · simp [Pf.l_rows_not_stack_1, hm, e5, hl])
    (by simp; omega)
  simp [Pf.m_rows_not_stack, m_cb tr (by omega), cb_ix tr hk, range_cb ht k, e1, negs]
theorem m_negs {tr : List Ev} (ht : TrT tr) : ∀ {f : Fact}, FactOk tr f → Pf.m_negations [td tr, f.d] = .ok (.lst ((negs tr f).map qd))
  | .act i k, h => by
    have e := m_ret ht.len .no h.fr
    simp only [Src.d] at e
    simp [Pf.m_negations, Fact.d, e, negs]
  | .ret i k, h => by
    have e := m_act ht.len .no h.fr
    simp only [Src.d] at e
    simp [Pf.m_negations, Fact.d, e, negs]
  | .inn i k, h => by
    have e := m_ret ht.len .no h.fr
    simp only [Src.d] at e
    simp [Pf.m_negations, Fact.d, e, m_deeper ht.len h.fr, negs]
  | .stk k fs, h => by simp [Pf.m_negations, Fact.d, m_not_stack ht h.1 fs]
  | .deep j k b, h => by
    have hlt := ht.len
    have e : Pf.m_rows_of_fact [td tr, .non, .tup [.str "deeper", .int k, .int j, .int (1 - b)]] = .ok (qd (qFact tr .no (.deep k j (1 - b)))) := by
      simp [Pf.m_rows_of_fact, m_cb tr (by omega), cb_ix tr h.1, cb_ix tr h.2.1, qFact, qd, Iq.d, tmD, Src.d]
    simp [Pf.m_negations, Fact.d, e, negs]
  | .depth k lo hi, h => by
    have hlt := ht.len
    simp [Pf.m_negations, Fact.d, m_cb tr (by omega), cb_ix tr h.1, negs, qd, Iq.d, tmD, Src.d]
  | .rets j k lo hi, h => by
    have hlt := ht.len
    simp [Pf.m_negations, Fact.d, negs, qd, Iq.d, tmD, Src.d]
theorem negs_len {tr : List Ev} (ht : TrT tr) : ∀ {f : Fact}, FactOk tr f → (negs tr f).length ≤ 10 ∧ ∀ qs ∈ negs tr f, qs.length ≤ 50
  | .act i k, h => by simp [negs, qRet]
  | .ret i k, h => by
    have := qAct_len tr .no i k; have := h.2.1; have := ht.len
    simp [negs]; omega
  | .inn i k, h => by
    have := qAct_len tr .no i k; have := h.2.1; have := ht.len
    simp [negs, qRet, qDeeper]; omega
  | .stk k fs, h => by
    have h10 := cb_ten ht k
    refine ⟨by simp [negs]; omega, fun qs hq => ?_⟩
    simp only [negs, List.mem_map] at hq
    obtain ⟨i, _, rfl⟩ := hq
    have := qAct_len tr .no i k; have := h.1; have := ht.len
    split
    · simp [qRet]
    · omega
  | .deep j k b, h => by simp [negs, qFact]
  | .depth k lo hi, h => by simp [negs]
  | .rets j k lo hi, h => by simp [negs]
theorem dAny_map {α : Type} (p : α → Bool) (xs : List α) : dAny [.lst (xs.map fun x => .bl (p x))] = .ok (.bl (xs.any p)) := by
  have h : dbools (xs.map fun x => D.bl (p x)) = some (xs.map p) := by
    induction xs with
    | nil => rfl
    | cons x xs ih => simp [dbools, ih]
  simp [dAny, h]
open Classical in
theorem m_can_fail {tr : List Ev} (ht : TrT tr) {E : List Iq} (hE : WfAll tr.length E) (hl : E.length ≤ 100000) {f : Fact} (hf : FactOk tr f) : Pf.m_can_fail [td tr, qd (qTrace tr ++ E), f.d] = .ok (.bl (decide (∃ co rs, CoOk tr co rs ∧ SatAll (totF tr rs) E ∧ ¬ Holds tr rs f))) := by
  obtain ⟨n1, n2⟩ := negs_len ht hf
  have hq := qTrace_len tr ht.len
  simp [-eLc_eq, Pf.m_can_fail]
  rw [eLc_map (α := List Iq) qd (fun qs => .bl (decide (Feas tr (E ++ qs)))) (negs tr f)]
  · simp [dAny_map]
    rw [Bool.eq_iff_iff, List.any_eq_true]
    simp only [decide_eq_true_eq]
    constructor
    · rintro ⟨qs, hm, co, rs, hc, hs⟩
      obtain ⟨s1, s2⟩ := SatAll.app.mp hs
      exact ⟨co, rs, hc, s1, (neg_iff hc hf).mp ⟨qs, hm, s2⟩⟩
    · rintro ⟨co, rs, hc, hs, hn⟩
      obtain ⟨qs, hm, s2⟩ := (neg_iff hc hf).mpr hn
      exact ⟨qs, hm, co, rs, hc, SatAll.app.mpr ⟨hs, s2⟩⟩
  · simp [m_negs ht hf]
  · omega
  · intro qs hm
    have := n2 qs hm
    refine ⟨_, rfl, ?_⟩
    have e1 := qd_add (qTrace tr ++ E) qs (by simp; omega)
    rw [List.append_assoc] at e1
    simp [e1, m_feas ht (hE.app (wf_negs hf qs hm))]
end Th
end

section
set_option Elab.async false
set_option linter.all false
set_option maxRecDepth 100000
namespace Th
open PySem DN
theorem feas_iff {tr : List Ev} {fs : List Fact} (hf : ∀ f ∈ fs, FactOk tr f) : Feas tr (qFacts tr fs) ↔ ∃ co rs, Sol tr fs co rs :=
  ⟨fun ⟨co, rs, h1, h2⟩ => ⟨co, rs, h1, (facts_iff h1 hf).mp h2⟩, fun ⟨co, rs, h⟩ => ⟨co, rs, h.ok, (facts_iff h.ok hf).mpr h.holds⟩⟩
/-- the completion of the facts with the most returns -/
structure MostS (tr : List Ev) (fs : List Fact) (co : List Int) (rs : List (List Int)) : Prop where
  sol : Sol tr fs co rs
  most : ∀ co' rs', Sol tr fs co' rs' → ∀ k, k ≤ tr.length → totF tr rs' k ≤ totF tr rs k
theorem Most.s {tr : List Ev} {fs : List Fact} (hf : ∀ f ∈ fs, FactOk tr f) {co : List Int} {rs : List (List Int)} (h : Most tr (qFacts tr fs) co rs) : MostS tr fs co rs :=
  ⟨⟨h.ok, (facts_iff h.ok hf).mp h.sat⟩, fun co' rs' hs => h.most co' rs' hs.ok ((facts_iff hs.ok hf).mpr hs.holds)⟩
theorem MostS.uniq {tr : List Ev} {fs : List Fact} {co co' : List Int} {rs rs' : List (List Int)} (h : MostS tr fs co rs) (h' : MostS tr fs co' rs') : co = co' ∧ rs = rs' :=
  h.sol.ok.inj h'.sol.ok fun k hk => Int.le_antisymm (h'.most co rs h.sol k hk) (h.most co' rs' h'.sol k hk)
theorem m_most_s {tr : List Ev} (ht : TrOk tr) {fs : List Fact} (hf : ∀ f ∈ fs, FactOk tr f) (hl : fs.length ≤ 8) :
    (∃ co rs, Pf.m_most_returned [td tr, fd fs] = .ok (sd co) ∧ MostS tr fs co rs) ∨ (Pf.m_most_returned [td tr, fd fs] = .ok .non ∧ ∀ co rs, ¬ Sol tr fs co rs) := by
  rw [m_most ht hf hl]
  rcases m_most_of ht.t hf (by omega) with ⟨co, rs, h1, h2⟩ | ⟨h1, h2⟩
  · exact .inl ⟨co, rs, h1, h2.s hf⟩
  · exact .inr ⟨h1, fun co rs h => h2 ((feas_iff hf).mpr ⟨co, rs, h⟩)⟩
open Classical in
/-- status -/
noncomputable def statS (tr : List Ev) (fs : List Fact) (f : Fact) : Str :=
  if ∃ co rs, Sol tr fs co rs then (if ∃ co rs, Sol tr fs co rs ∧ ¬ Holds tr rs f then (if ∃ co rs, Sol tr fs co rs ∧ Holds tr rs f then "open" else "excluded") else "entailed") else "inconsistent"
theorem m_rows_of {tr : List Ev} (ht : TrT tr) {fs : List Fact} (hf : ∀ f ∈ fs, FactOk tr f) (hl : fs.length ≤ 100) : Pf.m_rows_of [td tr, fd fs] = .ok (qd (qTrace tr ++ qFacts tr fs)) := by
  simp [Pf.m_rows_of, m_of_trace ht, m_of_facts ht hf hl, qd_app2 ht hf hl]
open Classical in
theorem m_status_of {tr : List Ev} (ht : TrT tr) {fs : List Fact} (hf : ∀ f ∈ fs, FactOk tr f) (hl : fs.length ≤ 100) {f : Fact} (h : FactOk tr f) : Pf.m_status_of [td tr, fd fs, f.d] = .ok (.str (statS tr fs f)) := by
  have hE := wf_facts hf
  have hq := qTrace_len tr ht.len
  have hq2 := qFacts_len ht hf
  have h1f : ∀ g ∈ [f], FactOk tr g := fun g hg => by rw [List.mem_singleton.mp hg]; exact h
  have e0 : D.tup [f.d] = fd [f] := rfl
  have e1 := m_feas ht hE
  have e2 := m_can_fail ht hE (by omega) h
  have e3 := m_of_facts ht h1f (by simp)
  have hq3 := qFacts_len ht h1f
  have e4 := qd_add (qTrace tr ++ qFacts tr fs) (qFacts tr [f]) (by simp at hq3 ⊢; omega)
  rw [List.append_assoc] at e4
  have e5 := m_feas ht (hE.app (wf_facts h1f))
  have c1 : Feas tr (qFacts tr fs) ↔ ∃ co rs, Sol tr fs co rs := feas_iff hf
  have c2 : (∃ co rs, CoOk tr co rs ∧ SatAll (totF tr rs) (qFacts tr fs) ∧ ¬ Holds tr rs f) ↔ ∃ co rs, Sol tr fs co rs ∧ ¬ Holds tr rs f :=
    ⟨fun ⟨co, rs, a, b, c⟩ => ⟨co, rs, ⟨a, (facts_iff a hf).mp b⟩, c⟩, fun ⟨co, rs, a, c⟩ => ⟨co, rs, a.ok, (facts_iff a.ok hf).mpr a.holds, c⟩⟩
  have c3 : Feas tr (qFacts tr fs ++ qFacts tr [f]) ↔ ∃ co rs, Sol tr fs co rs ∧ Holds tr rs f := by
    constructor
    · rintro ⟨co, rs, a, b⟩
      obtain ⟨b1, b2⟩ := SatAll.app.mp b
      exact ⟨co, rs, ⟨a, (facts_iff a hf).mp b1⟩, (facts_iff a h1f).mp b2 f (List.mem_singleton.mpr rfl)⟩
    · rintro ⟨co, rs, a, b⟩
      exact ⟨co, rs, a.ok, SatAll.app.mpr ⟨(facts_iff a.ok hf).mpr a.holds, (facts_iff a.ok h1f).mpr fun g hg => by rw [List.mem_singleton.mp hg]; exact b⟩⟩
  unfold statS
  by_cases g1 : ∃ co rs, Sol tr fs co rs
  · by_cases g2 : ∃ co rs, Sol tr fs co rs ∧ ¬ Holds tr rs f
    · by_cases g3 : ∃ co rs, Sol tr fs co rs ∧ Holds tr rs f
      · simp only [if_pos g1, if_pos g2, if_pos g3]
        rw [decide_eq_true (c1.mpr g1)] at e1; rw [decide_eq_true (c2.mpr g2)] at e2; rw [decide_eq_true (c3.mpr g3)] at e5
        simp [Pf.m_status_of, m_rows_of ht hf hl, e1, e2, e0, e3, e4, e5]
      · simp only [if_pos g1, if_pos g2, if_neg g3]
        rw [decide_eq_true (c1.mpr g1)] at e1; rw [decide_eq_true (c2.mpr g2)] at e2; rw [decide_eq_false fun z => g3 (c3.mp z)] at e5
        simp [Pf.m_status_of, m_rows_of ht hf hl, e1, e2, e0, e3, e4, e5]
    · simp only [if_pos g1, if_neg g2]
      rw [decide_eq_true (c1.mpr g1)] at e1; rw [decide_eq_false fun z => g2 (c2.mp z)] at e2
      simp [Pf.m_status_of, m_rows_of ht hf hl, e1, e2]
  · simp only [if_neg g1]
    rw [decide_eq_false fun z => g1 (c1.mp z)] at e1
    simp [Pf.m_status_of, m_rows_of ht hf hl, e1]
theorem m_status {tr : List Ev} (ht : TrOk tr) {fs : List Fact} (hf : ∀ f ∈ fs, FactOk tr f) (hl : fs.length ≤ 8) {f : Fact} (h : FactOk tr f) : Pf.m_status [td tr, fd fs, f.d] = .ok (.str (statS tr fs f)) := by
  simp [Pf.m_status, m_req_trace ht, m_req_facts ht.t hf hl, m_req_fact ht.t h, m_status_of ht.t hf (by omega) h]
theorem stat_ent {tr : List Ev} {fs : List Fact} {f : Fact} (h : ∃ co rs, Sol tr fs co rs) (h2 : ∀ co rs, Sol tr fs co rs → Holds tr rs f) : statS tr fs f = "entailed" := by
  unfold statS
  rw [if_pos h, if_neg fun ⟨co, rs, a, b⟩ => b (h2 co rs a)]
end Th
end

section
set_option Elab.async false
set_option linter.all false
set_option maxRecDepth 100000
namespace Th
open PySem DN
/-- a drawn trace with a completion -/
theorem m_runG {b : D} (hb : Bag b) (ev most : Nat) (h1 : ev ≤ 24) (h2 : most ≤ 10) : ∃ (b' : D) (tr : List Ev) (co : List Int) (rs : List (List Int)), Pf.m__law_run b [.int ev, .int most] = .ok (.tup [td tr, sd co], b') ∧ Bag b' ∧ TrOk tr ∧ CoOk tr co rs ∧ tr.length ≤ ev ∧ created tr ≤ most := by
  obtain ⟨n, b1, e1, hn, hb1⟩ := m_take hb (ev + 1) (by omega) (by omega)
  obtain ⟨b2, tr, co, s, c, j7, j8, j9, h1, hb2, r, hl⟩ := loop_run (.int ev) (most := (most : Int)) (by omega) (by omega) ((List.range n).map fun (k : Nat) => D.int (0 + (k : Int))) b1 [] [] [] 0 none none none hb1 .nil (by simp; omega)
  have ok := r.ok (by omega)
  have hs := ok.inc.len ok.c0
  have hcm := ok.cm
  obtain ⟨q, b3, e2, hq, hb3⟩ := m_take hb2 (s.length + 1) (by omega) (by omega)
  obtain ⟨rs, hr⟩ := ok.rows
  simp only [List.length_nil, List.length_map, List.length_range, Nat.zero_add] at hl
  have hq2 : ¬ (s.length : Int) < (q : Int) := by omega
  have hrow : rowsGo tr (co ++ [(q : Int)]) [] 0 = some (rs ++ [s.take (s.length - (q : Int)).toNat]) := by
    have := hr [] [(q : Int)]
    rw [List.append_nil] at this
    rw [this]
    simp [rowsGo, hq2]
  refine ⟨b3, tr, co ++ [(q : Int)], _, ?_, hb3, ⟨ok.ev, by omega, by have := ok.cr; omega⟩, ⟨by simp [ok.len], fun l hl => ?_, hrow⟩, by omega, by have := ok.cr; omega⟩
  · have e3 := dRange1_ok (n : Int) (by simp only [small62, decide_eq_true_eq]; omega)
    simp only [rangeD, Int.toNat_natCast] at e3
    have e4 : sd [] = .tup [] := rfl
    have e5 : td [] = .tup [] := rfl
    simp only [e4, e5] at h1
    have hco := ok.len
    have e1' : Pf.m__law_take b [D.int ((ev : Int) + 1)] = .ok (.int n, b1) := by simpa using e1
    have e2' : Pf.m__law_take b2 [D.int ((s.length : Int) + 1)] = .ok (.int q, b3) := by simpa using e2
    simp only [Int.zero_add] at h1 e3
    simp [Pf.m__law_run, e1', e3, h1, e2', sd_add co q (by omega)]
  · rcases List.mem_append.mp hl with hl | hl
    · exact ok.rng l hl
    · rw [List.mem_singleton.mp hl]; omega
theorem dLs_bag {b : D} (h : Bag b) : dLs b = .ok b := by obtain ⟨a, s, rfl, _⟩ := h; rfl
/-! slices and sums of lists -/
theorem sd_to (s : List Int) (m : Nat) : dSl (sd s) none (some (m : Int)) = .ok (sd (s.take m)) := by simp [sd, cut_to, List.map_take]
theorem sd_from (s : List Int) (m : Nat) : dSl (sd s) (some (m : Int)) none = .ok (sd (s.drop m)) := by simp [sd, cut_from, List.map_drop]
theorem sd_from1 (s : List Int) (m : Nat) : dSl (sd s) (some ((m : Int) + 1)) none = .ok (sd (s.drop (m + 1))) := by have := sd_from s (m + 1); simpa using this
theorem td_to (s : List Ev) (m : Nat) : dSl (td s) none (some (m : Int)) = .ok (td (s.take m)) := by simp [td, cut_to, List.map_take]
theorem td_from (s : List Ev) (m : Nat) : dSl (td s) (some (m : Int)) none = .ok (td (s.drop m)) := by simp [td, cut_from, List.map_drop]
theorem il_to (s : List Int) (m : Nat) : dSl (il s) none (some (m : Int)) = .ok (il (s.take m)) := by simp [il, cut_to, List.map_take]
theorem il_from (s : List Int) (m : Nat) : dSl (il s) (some (m : Int)) none = .ok (il (s.drop m)) := by simp [il, cut_from, List.map_drop]
theorem il_from1 (s : List Int) (m : Nat) : dSl (il s) (some ((m : Int) + 1)) none = .ok (il (s.drop (m + 1))) := by have := il_from s (m + 1); simpa using this
theorem sd_app (s t : List Int) (h : s.length + t.length ≤ 16777216) : dAdd (sd s) (sd t) = .ok (sd (s ++ t)) := by simp [sd, h]
theorem td_app (s t : List Ev) (h : s.length + t.length ≤ 16777216) : dAdd (td s) (td t) = .ok (td (s ++ t)) := by simp [td, h]
theorem il_app (s t : List Int) (h : s.length + t.length ≤ 16777216) : dAdd (il s) (il t) = .ok (il (s ++ t)) := by simp [il, h]
theorem evs_app : ∀ {xs ys : List Ev} {c : Int}, evsOk c (xs ++ ys) ↔ evsOk c xs ∧ evsOk (c + created xs) ys
  | [], ys, c => by simp [evsOk, created]
  | e :: xs, ys, c => by
    have hcr : c + (created (e :: xs) : Int) = c + b2i e.cr + created xs := by
      rw [created_cons]; cases e.cr <;> simp [b2i] <;> omega
    rw [List.cons_append, evsOk, evsOk, evs_app, hcr, and_assoc]
theorem rec_tr {tr : List Ev} (ht : TrOk tr) {m : Nat} {f : Int} (hm : m ≤ tr.length) (h23 : tr.length ≤ 23) (hf : 0 ≤ f ∧ f < cb tr m) : TrOk (recTr tr m f) := by
  have h1 := ht.ev
  rw [← List.take_append_drop m tr, evs_app] at h1
  have hc : cb tr m = created (tr.take m) := rfl
  refine ⟨?_, by rw [recTr_len f hm]; omega, ?_⟩
  · unfold recTr
    rw [evs_app]
    refine ⟨h1.1, ⟨hf.1, by omega⟩, ?_⟩
    have : b2i (Ev.cr (.exi f)) = 0 := rfl
    rw [this, Int.add_zero]; exact h1.2
  · have h2 := ht.cr
    have := created_app (tr.take m) (tr.drop m)
    rw [List.take_append_drop] at this
    unfold recTr
    rw [created_app, created_cons]; simp [Ev.cr]; omega
theorem m_rec {tr : List Ev} (ht : TrOk tr) {co : List Int} {rs : List (List Int)} (h : CoOk tr co rs) {m : Nat} {l f : Int} (hl : co[m]? = some l) (hm : m ≤ tr.length)
    (hr : rowsGo (tr.take m) (co.take m ++ [l - 1]) [] 0 = some (rs.take m ++ [rs[m]?.getD [] ++ [f]])) : Pf.m__law_recorded [td tr, sd co, .int m] = .ok (.tup [td (recTr tr m f), sd (recCo co m l), .int f]) := by
  have hlt := ht.len
  have hcl := h.len
  have hrl := h.rlen
  have e1 := m_lrows (tr.take m) (co.take m ++ [l - 1]) (by simp; omega)
  rw [hr] at e1
  have e2 : orows [] (some (rs.take m ++ [rs[m]?.getD [] ++ [f]])) = rd (rs.take m ++ [rs[m]?.getD [] ++ [f]]) := by simp [orows, rd]
  rw [e2] at e1
  have e3 : dIx (rd (rs.take m ++ [rs[m]?.getD [] ++ [f]])) (.int m) = .ok (sd (rs[m]?.getD [] ++ [f])) := by
    rw [rd_ix, List.getElem?_append_right (by simp; omega)]
    have : m - (rs.take m).length = 0 := by simp; omega
    rw [this]; rfl
  have e4 : dIx (sd (rs[m]?.getD [] ++ [f])) (.int (-1)) = .ok (.int f) := by simp [sd, atI_last]
  have e5 : dIx (sd co) (.int m) = .ok (.int l) := by simp [sd, hl]
  have e6 : D.tup [.int (l - 1)] = sd [l - 1] := rfl
  have e7 : D.tup [.tup [.str "exit", .int f]] = td [.exi f] := rfl
  have e8 : D.tup [.int (l - 1), .int 0] = sd [l - 1, 0] := rfl
  have a1 := sd_app (co.take m) [l - 1] (by simp; omega)
  have a2 := td_app (tr.take m) [.exi f] (by simp; omega)
  have a3 := td_app (tr.take m ++ [.exi f]) (tr.drop m) (by simp; omega)
  have a4 := sd_app (co.take m) [l - 1, 0] (by simp; omega)
  have a5 := sd_app (co.take m ++ [l - 1, 0]) (co.drop (m + 1)) (by simp; omega)
  simp [Pf.m__law_recorded, e5, td_to, td_from, sd_to, sd_from1, e6, a1, e1, e3, e4, e7, a2, a3, e8, a4, a5, recTr, recCo]
end Th
end

section
set_option Elab.async false
set_option linter.all false
set_option maxRecDepth 100000
namespace Th
open PySem DN
mutual
theorem eqv_refl : ∀ d : D, d.dp ≤ 64 → D.eqv d d = true
  | .non, _ => rfl
  | .bl b, _ => by simp
  | .int i, _ => by simp
  | .str x, _ => by simp
  | .fn _, h => by simp at h
  | .scr _, h => by simp at h
  | .pr _, h => by simp at h
  | .lst xs, h => by simp only [D.dp] at h; simp only [D.eqv]; exact eqvs_refl xs (by omega)
  | .tup xs, h => by simp only [D.dp] at h; simp only [D.eqv]; exact eqvs_refl xs (by omega)
theorem eqvs_refl : ∀ ds : List D, D.dps ds ≤ 64 → D.eqvs ds ds = true
  | [], _ => rfl
  | d :: ds, h => by
    simp only [D.dps] at h
    simp only [D.eqvs, eqv_refl d (by omega), eqvs_refl ds (by omega), Bool.and_self]
end
theorem dNe_self {d : D} (h : d.dp ≤ 64) : dNe d d = .ok (.bl false) := by simp only [dNe_eq, eqv_refl d h]; exact chk_pos ⟨h, h⟩
theorem dEq_self {d : D} (h : d.dp ≤ 64) : dEq d d = .ok (.bl true) := by simp only [dEq_eq, eqv_refl d h]; exact chk_pos ⟨h, h⟩
theorem dps_le {n : Nat} : ∀ {ds : List D}, (∀ d ∈ ds, d.dp ≤ n) → D.dps ds ≤ n
  | [], _ => by simp
  | d :: ds, h => by
    simp only [D.dps]
    have h1 := h d (List.mem_cons_self ..)
    have h2 := dps_le fun x hx => h x (List.mem_cons_of_mem _ hx)
    omega
theorem il_dp (s : List Int) : (il s).dp = 1 := by simp [il]
theorem rd_dp (rs : List (List Int)) : (rd rs).dp ≤ 2 := by
  simp only [rd, D.dp]
  have : D.dps (rs.map sd) ≤ 1 := dps_le fun d hd => by
    obtain ⟨s, _, rfl⟩ := List.mem_map.mp hd; simp
  omega
theorem cals_dp (tr : List Ev) (rs : List (List Int)) : (cals tr rs).dp ≤ 1 := by
  simp only [cals, D.dp]
  have : D.dps ((crIdx tr).zipIdx.map (calP tr rs)) ≤ 0 := dps_le fun d hd => by
    obtain ⟨p, _, rfl⟩ := List.mem_map.mp hd
    unfold calP
    split
    · split
      · rename_i st _
        rcases calD_plain st with h | ⟨i, h⟩ <;> rw [h] <;> simp
      · simp
    · simp
  omega
theorem ends_dp (tr : List Ev) (rs : List (List Int)) : (endsD tr rs).dp ≤ 1 := by
  simp only [endsD, D.dp]
  have : D.dps ((crIdx tr).zipIdx.map (endP rs)) ≤ 0 := dps_le fun d hd => by
    obtain ⟨p, _, rfl⟩ := List.mem_map.mp hd
    rcases endP_plain rs p with h | ⟨i, h⟩ <;> rw [h] <;> simp
  omega
theorem ows_dp (o : Option (List Int)) : (ows [] o).dp ≤ 1 := by cases o <;> simp [ows]
/-! other values for from_totals -/
theorem ft_tup {tr : List Ev} (ht : TrOk tr) (xs : List D) : Pf.m_from_totals [td tr, .tup xs] = .ok .non := by
  simp [Pf.m_from_totals, m_req_trace ht]
theorem ft_non {tr : List Ev} (ht : TrOk tr) : Pf.m_from_totals [td tr, .non] = .ok .non := by
  simp [Pf.m_from_totals, m_req_trace ht]
theorem ft_len {tr : List Ev} (ht : TrOk tr) (xs : List D) (h : xs.length ≠ tr.length + 1) : Pf.m_from_totals [td tr, .lst xs] = .ok .non := by
  have h2 : ¬ (xs.length : Int) = (tr.length : Int) + 1 := by omega
  simp [Pf.m_from_totals, m_req_trace ht, h2]
theorem lc_rep {g : D → DN.Env → R DN.Env} {f : DN.Env → R D} {env e : DN.Env} {x y : D} (hg : g x env = .ok e) (hf : f e = .ok y) : ∀ n : Nat, lcGo g eYes f env (List.replicate n x) = .ok (List.replicate n y)
  | 0 => rfl
  | n + 1 => by
    simp only [List.replicate_succ, lcGo, hg, hf, R.nox, bind_ok, eYes_eq, lc_rep hg hf n]
theorem dAll_repF (n : Nat) : dAll [.lst (List.replicate (n + 1) (.bl false))] = .ok (.bl false) := by
  have h : ∀ m : Nat, dbools (List.replicate m (D.bl false)) = some (List.replicate m false) := by
    intro m
    induction m with
    | zero => rfl
    | succ m ih => simp [List.replicate_succ, dbools, ih]
  simp [dAll, h]
theorem ft_rep {tr : List Ev} (ht : TrOk tr) (x : D) (hx : Pf.m_is_integer [x, .int 0, .int 10] = .ok (.bl false)) : Pf.m_from_totals [td tr, .lst (List.replicate (tr.length + 1) x)] = .ok .non := by
  have hl := ht.len
  have h1 : tr.length ≤ 16777215 := by omega
  have e1 := lc_rep (g := gN 2) (f := eArgs Pf.m_is_integer (eCons (eVar 2) (eCons (eC (.int 0)) (eCons (eC (.int 10)) eNil)))) (env := [some (td tr), some (.lst (List.replicate (tr.length + 1) x)), none]) (x := x) (y := .bl false) (by simp; rfl) (by simp [hx]) (tr.length + 1)
  simp [Pf.m_from_totals, m_req_trace ht, h1, e1, dAll_repF]
end Th
end

section
set_option Elab.async false
set_option linter.all false
set_option maxRecDepth 100000
namespace Th
open PySem DN
def Pt.d (x : Pt) : D := .tup [sd x.1, sd x.2.1, rd x.2.2]
theorem rd_snoc (rs : List (List Int)) (s : List Int) (h : rs.length < 1000) : dAdd (rd rs) (.lst [sd s]) = .ok (rd (rs ++ [s])) := by
  have h2 : rs.length ≤ 16777215 := by omega
  simp [rd, h2]
theorem sd_left (s : List Int) (l : Nat) (h : l ≤ s.length) : dSl (sd s) none (some ((s.length : Int) - (l : Int))) = .ok (sd (left s l)) := by
  rw [sd_sl s _ (by omega)]
  unfold left
  congr 3; omega
/-- what one moment gives -/
def onY (aft : List Int → Option (List Int)) (x : Pt) (l : Nat) : List Pt := match aft (left x.2.1 l) with
  | none => []
  | some a => [(x.1 ++ [(l : Int)], a, x.2.2 ++ [left x.2.1 l])]
theorem onY_E (e : Ev) (c : Int) (x : Pt) : (List.range (x.2.1.length + 1)).flatMap (onY (fun s => after s c e) x) = oneE e c x := by
  unfold oneE
  induction List.range (x.2.1.length + 1) with
  | nil => rfl
  | cons l ls ih =>
    rw [List.flatMap_cons, ih, List.filterMap_cons]
    unfold onY
    simp only
    cases after (left x.2.1 l) c e <;> rfl
theorem onY_L (x : Pt) : (List.range (x.2.1.length + 1)).flatMap (onY some x) = oneL x := by
  unfold oneL onY
  exact flatMap_one _ _
theorem range_len (s : List Int) (h : s.length < 1000) : dRange1 [.int ((s.length : Int) + 1)] = .ok ((List.range (s.length + 1)).map fun (l : Nat) => .int (l : Int)) := by
  have h1 := dRange1_ok ((s.length : Int) + 1) (by have := small_nat (s.length + 1) (by omega); simpa using this)
  rw [h1, rangeD]
  have : ((s.length : Int) + 1).toNat = s.length + 1 := by omega
  rw [this]; simp
section
variable (tr : List Ev) (m : Nat) (c : Int) (hm : m ≤ tr.length) (ht : tr.length ≤ 24)
/-- the event at a moment, or none -/
def aftAt (s : List Int) : Option (List Int) := match tr[m]? with
  | some e => after s c e
  | none => some s
include hm ht in
theorem all_in (F : D) (x : Pt) (hx : x.2.1.length ≤ 30 ∧ x.1.length ≤ 30 ∧ x.2.2.length ≤ 30 ∧ Inc x.2.1 c) (j8 j9 j10 : Option D) (fd : List D) (hf : fd.length + ((List.range (x.2.1.length + 1)).flatMap (onY (aftAt tr m c) x)).length ≤ 16777216) :
    ∃ j : Option D × Option D × Option D, loop (gN 8) Pf.l__law_all_1 ((List.range (x.2.1.length + 1)).map fun (l : Nat) => .int (l : Int)) [some (td tr), some F, some (.int c), some (.int m), some (.lst fd), some (sd x.1), some (sd x.2.1), some (rd x.2.2), j8, j9, j10] =
      .ok (.nx [some (td tr), some F, some (.int c), some (.int m), some (.lst (fd ++ ((List.range (x.2.1.length + 1)).flatMap (onY (aftAt tr m c) x)).map Pt.d)), some (sd x.1), some (sd x.2.1), some (rd x.2.2), j.1, j.2.1, j.2.2]) := by
  obtain ⟨co, s, rs⟩ := x
  simp only at hx hf ⊢
  obtain ⟨j, e⟩ := loop_ext (g := gN 8) (body := Pf.l__law_all_1) (fun (l : Nat) => .int (l : Int)) (fun l => (onY (aftAt tr m c) (co, s, rs) l).map Pt.d)
    (fun fd (j : Option D × Option D × Option D) => [some (td tr), some F, some (.int c), some (.int m), some (.lst fd), some (sd co), some (sd s), some (rd rs), j.1, j.2.1, j.2.2]) (List.range (s.length + 1)) fd (j8, j9, j10)
    (fun l hl fd j hfl => by
      have hl2 : l ≤ s.length := by have := List.mem_range.mp hl; omega
      have e1 := sd_left s l hl2
      have e2 := sd_app co [(l : Int)] (by simp; omega)
      have e3 : D.tup [.int (l : Int)] = sd [(l : Int)] := rfl
      have e4 := rd_snoc rs (left s l) (by omega)
      have hn0 := m_lafter (left s l)
      rw [List.length_map] at hfl
      by_cases hlt : m < tr.length
      · have he : tr[m]? = some tr[m] := List.getElem?_eq_getElem hlt
        have e5 := m_lafter (left s l) c tr[m] (by have := left_len s l; omega) ((hx.2.2.2.take _).p)
        cases hA : after (left s l) c tr[m] with
        | none =>
          rw [hA] at e5
          refine ⟨(some (.int l), some (sd (left s l)), some .non), ?_⟩
          simp [Pf.l__law_all_1, e1, hlt, e5, od, onY, aftAt, hA]
        | some a =>
          rw [hA] at e5
          have hfl2 : fd.length < 16777216 := by simp only [onY, aftAt, he, hA, List.length_cons, List.length_nil] at hfl; omega
          refine ⟨(some (.int l), some (sd (left s l)), some (sd a)), ?_⟩
          simp [Pf.l__law_all_1, e1, hlt, e5, od, onY, aftAt, hA, e2, e3, e4, hfl2, Pt.d]
      · have he : tr[m]? = none := List.getElem?_eq_none (by omega)
        have hfl2 : fd.length < 16777216 := by simp only [onY, aftAt, he, List.length_cons, List.length_nil] at hfl; omega
        refine ⟨(some (.int l), some (sd (left s l)), some (sd (left s l))), ?_⟩
        simp [Pf.l__law_all_1, e1, hlt, onY, aftAt, he, e2, e3, e4, hfl2, Pt.d])
    (by rw [← List.map_flatMap, List.length_map]; exact hf)
  refine ⟨j, ?_⟩
  rw [List.map_flatMap]
  exact e
include hm ht in
theorem all_mid (P : List Pt) (hP : ∀ x ∈ P, x.2.1.length ≤ 30 ∧ x.1.length ≤ 30 ∧ x.2.2.length ≤ 30 ∧ Inc x.2.1 c) (hl : (P.flatMap fun x => (List.range (x.2.1.length + 1)).flatMap (onY (aftAt tr m c) x)).length ≤ 16777216) (F : D) (j5 j6 j7 j8 j9 j10 : Option D) :
    ∃ j : Option D × Option D × Option D × Option D × Option D × Option D, loop (gT 3 (gCons' (gN 5) (gCons' (gN 6) (gCons' (gN 7) gNil')))) Pf.l__law_all_2 (P.map Pt.d) [some (td tr), some F, some (.int c), some (.int m), some (.lst []), j5, j6, j7, j8, j9, j10] =
      .ok (.nx [some (td tr), some F, some (.int c), some (.int m), some (.lst ((P.flatMap fun x => (List.range (x.2.1.length + 1)).flatMap (onY (aftAt tr m c) x)).map Pt.d)), j.1, j.2.1, j.2.2.1, j.2.2.2.1, j.2.2.2.2.1, j.2.2.2.2.2]) := by
  obtain ⟨j, e⟩ := loop_ext (g := gT 3 (gCons' (gN 5) (gCons' (gN 6) (gCons' (gN 7) gNil')))) (body := Pf.l__law_all_2) Pt.d (fun x => ((List.range (x.2.1.length + 1)).flatMap (onY (aftAt tr m c) x)).map Pt.d)
    (fun fd (j : Option D × Option D × Option D × Option D × Option D × Option D) => [some (td tr), some F, some (.int c), some (.int m), some (.lst fd), j.1, j.2.1, j.2.2.1, j.2.2.2.1, j.2.2.2.2.1, j.2.2.2.2.2]) P [] (j5, j6, j7, j8, j9, j10)
    (fun x hx fd j hfl => by
      rw [List.length_map] at hfl
      obtain ⟨q, e⟩ := all_in tr m c hm ht F x (hP x hx) j.2.2.2.1 j.2.2.2.2.1 j.2.2.2.2.2 fd hfl
      refine ⟨(some (sd x.1), some (sd x.2.1), some (rd x.2.2), q), ?_⟩
      have hr := range_len x.2.1 (by have := (hP x hx).1; omega)
      simp only [gT_t, Pt.d, List.length_cons, List.length_nil, gCons_eq, gN_eq, gNil_eq, bind_ok, List.set_cons_succ, List.set_cons_zero, Nat.zero_add, Nat.reduceAdd, chk_t, gk_ok, Pf.l__law_all_2, sFor_eq, eItA_eq, eCons_eq, eBin_eq, eArgs_eq, eVar_eq, eNil_eq, eC_eq, List.getElem?_cons_succ, List.getElem?_cons_zero, ofSlot_s, sd_len, dAdd_i, hr, sB_ok]
      exact e)
    (by rw [← List.map_flatMap, List.length_map]; simp only [List.length_nil]; omega)
  refine ⟨j, ?_⟩
  rw [List.nil_append] at e
  rw [List.map_flatMap]
  exact e
/-- one moment of the search -/
theorem all_step {P : List Pt} {m : Nat} {c : Int} {tr : List Ev} (hL : Lev c m P) (hc : 0 ≤ c) (hm : m ≤ tr.length) (ht : tr.length ≤ 9) : ∀ js : List (Option D), js.length = 7 →
    ∃ js', Pf.l__law_all_3 (some (td tr) :: some (.lst (P.map Pt.d)) :: some (.int c) :: some (.int m) :: js) =
      .ok (.nx (some (td tr) :: some (.lst ((match tr[m]? with | some e => P.flatMap (oneE e c) | none => P.flatMap oneL).map Pt.d)) :: some (.int (match tr[m]? with | some e => c + b2i e.cr | none => c)) :: some (.int m) :: js')) ∧ js'.length = 7
  | [j4, j5, j6, j7, j8, j9, j10], _ => by
    have hP : ∀ x ∈ P, x.2.1.length ≤ 30 ∧ x.1.length ≤ 30 ∧ x.2.2.length ≤ 30 ∧ Inc x.2.1 c := fun x hx => by
      obtain ⟨d1, d2, d3, d4⟩ := hL.d x hx
      exact ⟨by omega, by omega, by omega, d4⟩
    by_cases hlt : m < tr.length
    · have he : tr[m]? = some tr[m] := List.getElem?_eq_getElem hlt
      have eq : (P.flatMap fun x => (List.range (x.2.1.length + 1)).flatMap (onY (aftAt tr m c) x)) = P.flatMap (oneE tr[m] c) := by
        congr 1
        funext x
        rw [← onY_E]
        congr 2
        funext s
        simp only [aftAt, he]
      have hl := (hL.step hc tr[m]).n
      have hf := fac_le (show m + 1 ≤ 10 by omega)
      obtain ⟨j, e⟩ := all_mid tr m c hm (by omega) P hP (by rw [eq]; omega) (.lst (P.map Pt.d)) j5 j6 j7 j8 j9 j10
      rw [eq] at e
      rw [he]
      refine ⟨[some (.lst ((P.flatMap (oneE tr[m] c)).map Pt.d)), j.1, j.2.1, j.2.2.1, j.2.2.2.1, j.2.2.2.2.1, j.2.2.2.2.2], ?_, rfl⟩
      simp [Pf.l__law_all_3, e, hlt, b2i]
    · have he : tr[m]? = none := List.getElem?_eq_none (by omega)
      have eq : (P.flatMap fun x => (List.range (x.2.1.length + 1)).flatMap (onY (aftAt tr m c) x)) = P.flatMap oneL := by
        congr 1
        funext x
        rw [← onY_L]
        congr 2
        funext s
        simp only [aftAt, he]
      have hl := hL.last
      have hf := fac_le (show m + 1 ≤ 10 by omega)
      obtain ⟨j, e⟩ := all_mid tr m c hm (by omega) P hP (by rw [eq]; omega) (.lst (P.map Pt.d)) j5 j6 j7 j8 j9 j10
      rw [eq] at e
      rw [he]
      refine ⟨[some (.lst ((P.flatMap oneL).map Pt.d)), j.1, j.2.1, j.2.2.1, j.2.2.2.1, j.2.2.2.2.1, j.2.2.2.2.2], ?_, rfl⟩
      simp [Pf.l__law_all_3, e, hlt]
theorem all_loop {tr : List Ev} (ht : tr.length ≤ 9) : ∀ (xs : List Ev) (m : Nat) (P : List Pt) (c : Int) (j3 : Option D) (js : List (Option D)), tr.drop m = xs → m ≤ tr.length → Lev c m P → 0 ≤ c → js.length = 7 →
    ∃ c' j3' js', loop (gN 3) Pf.l__law_all_3 ((List.range' m (xs.length + 1)).map fun (k : Nat) => .int (k : Int)) (some (td tr) :: some (.lst (P.map Pt.d)) :: some (.int c) :: j3 :: js) =
      .ok (.nx (some (td tr) :: some (.lst ((bfs xs c P).map Pt.d)) :: some (.int c') :: j3' :: js')) ∧ js'.length = 7
  | [], m, P, c, j3, js, hd, hm, hL, hc, hj => by
    have hmn : m = tr.length := by have := List.drop_eq_nil_iff.mp hd; omega
    obtain ⟨js', st, h1⟩ := all_step hL hc hm ht js hj
    have he : tr[m]? = none := List.getElem?_eq_none (by omega)
    rw [he] at st
    refine ⟨c, some (.int m), js', ?_, h1⟩
    simp only [List.length_nil, Nat.zero_add, List.range'_one, List.map_cons, List.map_nil, loop_cons, gN_eq, gk_ok, List.set_cons_succ, List.set_cons_zero, st, lk_nx, loop_nil, bfs]
  | e :: xs, m, P, c, j3, js, hd, hm, hL, hc, hj => by
    have hlt : m < tr.length := by
      refine Nat.lt_of_not_le fun z => ?_
      rw [List.drop_eq_nil_of_le z] at hd; cases hd
    have he : tr[m]? = some e := by
      have : (tr.drop m)[0]? = some e := by rw [hd]; rfl
      simpa using this
    have hd2 : tr.drop (m + 1) = xs := by
      rw [← List.drop_drop, hd]; rfl
    obtain ⟨js1, st, h1⟩ := all_step hL hc hm ht js hj
    rw [he] at st
    obtain ⟨c', j3', js', ih, h2⟩ := all_loop ht xs (m + 1) (P.flatMap (oneE e c)) (c + b2i e.cr) (some (.int m)) js1 hd2 (by omega) (hL.step hc e) (by have := b2i_nn e.cr; omega) h1
    refine ⟨c', j3', js', ?_, h2⟩
    rw [List.length_cons, List.range'_succ]
    simp only [List.map_cons, loop_cons, gN_eq, gk_ok, List.set_cons_succ, List.set_cons_zero, st, lk_nx, ih, bfs]
def coD (p : List Int × List (List Int)) : D := .tup [sd p.1, rd p.2]
def alD (ys : List (List Int × List (List Int))) : D := .lst (ys.map coD)
theorem m_lall {tr : List Ev} (ht : tr.length ≤ 9) : Pf.m__law_all [td tr] = .ok (alD (allC tr)) := by
  obtain ⟨c', j3', js', e, hj⟩ := all_loop ht tr 0 [([], [], [])] 0 none [none, none, none, none, none, none, none] (by simp) (by omega) Lev.zero (by omega) rfl
  have hr := dRange1_ok ((tr.length : Int) + 1) (by have := small_nat (tr.length + 1) (by omega); simpa using this)
  have e3 : ((tr.length : Int) + 1).toNat = tr.length + 1 := by omega
  rw [rangeD, e3] at hr
  simp only [Int.zero_add] at hr
  rw [List.range_eq_range'] at hr
  have hb : (bfs tr 0 [([], [], [])]).length ≤ 16777216 := by
    have h1 := allC_len ht
    rw [← bfs_all, List.length_map] at h1; omega
  have e0 : D.lst [.tup [.tup [], .tup [], .lst []]] = .lst ([([], [], [])].map Pt.d) := rfl
  have e1 : List.map Pt.d [([], [], [])] = [Pt.d ([], [], [])] := rfl
  match js', hj, e with
  | [j4, j5, j6, j7, j8, j9, j10], _, e =>
    simp [-eLc_eq, Pf.m__law_all, hr, e0]
    rw [e1] at e
    rw [e]
    simp [-eLc_eq]
    rw [eLc_map (α := Pt) Pt.d (fun x => coD (x.1, x.2.2)) (bfs tr 0 [([], [], [])])]
    · have : (bfs tr 0 [([], [], [])]).map (fun x => coD (x.1, x.2.2)) = (allC tr).map coD := by
        rw [← bfs_all, List.map_map]; rfl
      rw [this]
      simp [alD]
    · simp
    · exact hb
    · rintro ⟨a, b, r⟩ _
      exact ⟨_, rfl, by simp [coD]⟩
end
end Th
end

section
set_option Elab.async false
set_option linter.all false
set_option maxRecDepth 100000
namespace Th
open PySem DN
theorem rd_rw {rs : List (List Int)} {k : Nat} (h : k < rs.length) : dIx (rd rs) (.int k) = .ok (sd (rw rs k)) := by
  rw [rd_ix]; unfold rw; rw [List.getElem?_eq_getElem h]; rfl
theorem tots_ix {tr : List Ev} {rs : List (List Int)} (h : rs.length = tr.length + 1) {k : Nat} (hk : k ≤ tr.length) : dIx (il (tots (cbs 0 tr) rs)) (.int k) = .ok (.int (totF tr rs k)) := il_ix (tots_get h hk)
/-- a fact whose moments are there -/
def FactMo (tr : List Ev) : Fact → Prop
  | .depth k _ _ => k ≤ tr.length
  | .act _ k => k ≤ tr.length
  | .ret _ k => k ≤ tr.length
  | .inn _ k => k ≤ tr.length
  | .rets j k _ _ => j ≤ tr.length ∧ k ≤ tr.length
  | .deep j k _ => j ≤ tr.length ∧ k ≤ tr.length
  | .stk k _ => k ≤ tr.length
theorem FactOk.mo {tr : List Ev} : ∀ {f : Fact}, FactOk tr f → FactMo tr f
  | .depth k _ _, h => h.1
  | .act _ k, h => h.2.1
  | .ret _ k, h => h.2.1
  | .inn _ k, h => h.2.1
  | .rets j k _ _, h => ⟨by have := h.1; have := h.2.1; omega, h.2.1⟩
  | .deep j k _, h => ⟨h.1, h.2.1⟩
  | .stk k _, h => h.1
theorem last_dec (s : List Int) (i : Int) : (if (!s.isEmpty) = true then (decide (s.getLast? = some i)) else false) = decide (s.getLast? = some i) := by
  cases s with
  | nil => rfl
  | cons x s => rfl
theorem m_lholds {tr : List Ev} (ht : tr.length < 900) {rs : List (List Int)} (hr : rs.length = tr.length + 1) : ∀ {f : Fact}, FactMo tr f → Pf.m__law_holds [td tr, rd rs, f.d] = .ok (.bl (decide (Holds tr rs f)))
  | .depth k lo hi, h => by
    have h1 := rd_rw (rs := rs) (k := k) (by have : k ≤ tr.length := h; omega)
    by_cases q1 : lo ≤ ((rw rs k).length : Int) <;> by_cases q2 : ((rw rs k).length : Int) ≤ hi <;> simp [Pf.m__law_holds, Fact.d, h1, q1, q2, Holds]
  | .act i k, h => by
    have h1 := rd_rw (rs := rs) (k := k) (by have : k ≤ tr.length := h; omega)
    simp [Pf.m__law_holds, Fact.d, h1, Holds]
  | .ret i k, h => by
    have h1 := rd_rw (rs := rs) (k := k) (by have : k ≤ tr.length := h; omega)
    by_cases q : (i : Int) ∈ rw rs k <;> simp [Pf.m__law_holds, Fact.d, h1, Holds, q]
  | .inn i k, h => by
    have h1 := rd_rw (rs := rs) (k := k) (by have : k ≤ tr.length := h; omega)
    rcases List.eq_nil_or_concat (rw rs k) with e | ⟨xs, x, e⟩
    · rw [e] at h1
      simp [Pf.m__law_holds, Fact.d, h1, Holds, e]
    · rw [e] at h1
      have h2 : dIx (sd (xs ++ [x])) (.int (-1)) = .ok (.int x) := by simp [sd, atI_last]
      have h3 : (xs ++ [x]).isEmpty = false := by simp
      simp [Pf.m__law_holds, Fact.d, h1, h2, h3, Holds, e]
      rfl
  | .stk k fs, h => by
    have h1 := rd_rw (rs := rs) (k := k) (by have : k ≤ tr.length := h; omega)
    simp [Pf.m__law_holds, Fact.d, h1, Holds]
  | .deep j k b, h => by
    have h1 := rd_rw (rs := rs) (k := k) (by have := h.2; omega)
    have h2 := rd_rw (rs := rs) (k := j) (by have := h.1; omega)
    simp [Pf.m__law_holds, Fact.d, h1, h2, Holds]
  | .rets j k lo hi, h => by
    have h1 := tots_ix hr h.1
    have h2 := tots_ix hr h.2
    by_cases q1 : lo ≤ totF tr rs k - totF tr rs j <;> by_cases q2 : totF tr rs k - totF tr rs j ≤ hi <;> simp [Pf.m__law_holds, Fact.d, m_ltot tr rs ht, h1, h2, q1, q2, Holds]
/-! those that keep the facts -/
def goodC (tr : List Ev) (fs : List Fact) (ys : List (List Int × List (List Int))) : List (List Int × List (List Int)) := ys.filter fun p => decide (∀ f ∈ fs, Holds tr p.2 f)
theorem eqvs_nil_r (xs : List D) : D.eqvs xs [] = xs.isEmpty := by cases xs <;> rfl
theorem step_good {tr : List Ev} (ht : tr.length < 900) {fs : List Fact} (hf : ∀ f ∈ fs, FactMo tr f) (hl : fs.length ≤ 100) (hdp : ∀ f ∈ fs, f.d.dp ≤ 10) (X : D) (fd' : List D) (p : List Int × List (List Int)) (hfl : fd'.length + (if decide (∀ f ∈ fs, Holds tr p.2 f) = true then [coD p] else []).length ≤ 16777216) (hr : p.2.length = tr.length + 1) (j6 : Option D) :
    Pf.l__law_good_1 [some (td tr), some X, some (fd fs), some (.lst fd'), some (sd p.1), some (rd p.2), j6] =
      .ok (.nx [some (td tr), some X, some (fd fs), some (.lst (fd' ++ (if decide (∀ f ∈ fs, Holds tr p.2 f) = true then [coD p] else []))), some (sd p.1), some (rd p.2), j6]) := by
  obtain ⟨co, rs⟩ := p
  simp only at hr hfl ⊢
  have e1 : eLc [6] (eItems (eVar 2)) (gN 6) (eNot (eT dTru (eArgs Pf.m__law_holds (eCons (eVar 0) (eCons (eVar 5) (eCons (eVar 6) eNil)))))) (eVar 6) [some (td tr), some X, some (fd fs), some (.lst fd'), some (sd co), some (rd rs), j6] = .ok (.lst ((fs.filter fun f => !decide (Holds tr rs f)).map Fact.d)) := by
    rw [eLc_run (α := Fact) Fact.d (fun f => !decide (Holds tr rs f)) Fact.d fs]
    · simp
    · omega
    · intro f hm
      exact ⟨_, rfl, by simp [m_lholds ht hr (hf f hm)], fun _ => by simp⟩
  have hdp2 : D.dp (.lst ((fs.filter fun f => !decide (Holds tr rs f)).map Fact.d)) ≤ 64 := by
    have := dps_le (n := 10) (ds := (fs.filter fun f => !decide (Holds tr rs f)).map Fact.d) fun d hd => by
      obtain ⟨f, h1, rfl⟩ := List.mem_map.mp hd
      exact hdp f (List.mem_filter.mp h1).1
    rw [D.dp]; omega
  have e2 : dEq (.lst ((fs.filter fun f => !decide (Holds tr rs f)).map Fact.d)) (.lst []) = .ok (.bl (decide (∀ f ∈ fs, Holds tr rs f))) := by
    rw [dEq_eq, chk_pos ⟨hdp2, by simp⟩]
    congr 2
    rw [D.eqv, eqvs_nil_r, List.isEmpty_map]
    rw [Bool.eq_iff_iff, List.isEmpty_iff, List.filter_eq_nil_iff, decide_eq_true_eq]
    simp
  by_cases q : ∀ f ∈ fs, Holds tr rs f
  · rw [decide_eq_true q] at e2 hfl ⊢
    have hfl : fd'.length < 16777216 := by simp at hfl; omega
    simp [-eLc_eq, -dEq_eq, Pf.l__law_good_1, e1, e2, hfl, coD]
  · rw [decide_eq_false q] at e2 ⊢
    simp [-eLc_eq, -dEq_eq, Pf.l__law_good_1, e1, e2]
theorem fact_dp : ∀ f : Fact, f.d.dp ≤ 10
  | .depth _ _ _ => by simp [Fact.d]
  | .act _ _ => by simp [Fact.d]
  | .ret _ _ => by simp [Fact.d]
  | .inn _ _ => by simp [Fact.d]
  | .rets _ _ _ _ => by simp [Fact.d]
  | .deep _ _ _ => by simp [Fact.d]
  | .stk _ _ => by simp [Fact.d]
theorem m_lgood {tr : List Ev} (ht : tr.length < 900) {fs : List Fact} (hf : ∀ f ∈ fs, FactMo tr f) (hl : fs.length ≤ 100) (ys : List (List Int × List (List Int))) (hy : ys.length ≤ 16777216) (hr : ∀ p ∈ ys, p.2.length = tr.length + 1) : Pf.m__law_good [td tr, alD ys, fd fs] = .ok (alD (goodC tr fs ys)) := by
  have hfl : ∀ zs : List (List Int × List (List Int)), (zs.flatMap fun p => if decide (∀ f ∈ fs, Holds tr p.2 f) = true then [coD p] else []) = (goodC tr fs zs).map coD := by
    intro zs
    induction zs with
    | nil => rfl
    | cons p zs ih =>
      rw [List.flatMap_cons, ih]
      unfold goodC
      rw [List.filter_cons]
      split <;> rfl
  have hlen : (goodC tr fs ys).length ≤ ys.length := List.length_filter_le _ _
  obtain ⟨j, e⟩ := loop_ext (g := gT 2 (gCons' (gN 4) (gCons' (gN 5) gNil'))) (body := Pf.l__law_good_1) coD (fun p => if decide (∀ f ∈ fs, Holds tr p.2 f) = true then [coD p] else [])
    (fun fd' (j : Option D × Option D) => [some (td tr), some (alD ys), some (fd fs), some (.lst fd'), j.1, j.2, none]) ys [] (none, none)
    (fun p hp fd' j hfl => by
      refine ⟨(some (sd p.1), some (rd p.2)), ?_⟩
      have st := step_good ht hf hl (fun f _ => fact_dp f) (alD ys) fd' p hfl (hr p hp) none
      simp only [coD, gT_t, List.length_cons, List.length_nil, gCons_eq, gN_eq, gNil_eq, bind_ok, List.set_cons_succ, List.set_cons_zero, Nat.zero_add, Nat.reduceAdd, chk_t, gk_ok]
      exact st)
    (by rw [hfl, List.length_map]; simp only [List.length_nil]; omega)
  rw [hfl, List.nil_append] at e
  have hit : dItems (alD ys) = .ok (ys.map coD) := rfl
  simp [Pf.m__law_good, hit, e]
  rfl
end Th
end

section
set_option Elab.async false
set_option linter.all false
set_option maxRecDepth 100000
namespace Th
open PySem DN
@[simp] theorem sPar2X_eq (i j : Nat) (f g : DN.Env → R (D × DN.Env)) (env : DN.Env) : sPar2X i j f g env = sX (f env) fun a e1 => sX (g e1) fun b e2 => .ok (.nx ((e2.set i (some a)).set j (some b))) := rfl
theorem evOf_ne {tr : List Ev} (h : crIdx tr ≠ []) {i : Nat} (hi : i < (crIdx tr).length) : (crIdx tr)[i]? = some (evOf tr i) ∧ evOf tr i < tr.length := by
  have h1 : (crIdx tr)[i]? = some (evOf tr i) := by unfold evOf; rw [List.getElem?_eq_getElem hi]; rfl
  exact ⟨h1, crIdx_lt (List.mem_of_getElem? h1)⟩
theorem dEq_iln (xs : List Nat) : dEq (iln xs) (.lst []) = .ok (.bl xs.isEmpty) := by
  have h : D.dp (iln xs) ≤ 64 := by
    have := dps_le (n := 0) (ds := xs.map fun n => D.int (n : Nat)) fun d hd => by
      obtain ⟨n, _, rfl⟩ := List.mem_map.mp hd; simp
    unfold iln
    rw [D.dp]; omega
  rw [dEq_eq, chk_pos ⟨h, by simp⟩, iln, D.eqv, eqvs_nil_r, List.isEmpty_map]
theorem m_lframe {b : D} (hb : Bag b) {tr : List Ev} (ht : tr.length ≤ 24) (w : Str) : ∃ b', Bag b' ∧
    ((crIdx tr = [] ∧ Pf.m__law_frame_fact b [td tr, .str w] = .ok (.non, b')) ∨ ∃ i k, FrameAt tr i k ∧ Pf.m__law_frame_fact b [td tr, .str w] = .ok (.tup [.str w, .int (i : Nat), .int (k : Nat)], b')) := by
  have hlat := m_lat tr (by omega)
  have hle := crIdx_len tr
  by_cases hne : crIdx tr = []
  · refine ⟨b, hb, .inl ⟨hne, ?_⟩⟩
    have e : dEq (iln (crIdx tr)) (.lst []) = .ok (.bl true) := by rw [dEq_iln, hne]; rfl
    simp [-dEq_eq, Pf.m__law_frame_fact, hlat, e]
  · have hpos : 0 < (crIdx tr).length := List.length_pos_iff.mpr hne
    obtain ⟨i, b1, e1, hi, hb1⟩ := m_take hb (crIdx tr).length hpos (by omega)
    obtain ⟨hg, hlt⟩ := evOf_ne hne hi
    obtain ⟨r, b2, e2, hr, hb2⟩ := m_take hb1 (tr.length - evOf tr i) (by omega) (by omega)
    have e0 : dEq (iln (crIdx tr)) (.lst []) = .ok (.bl false) := by
      rw [dEq_iln]
      cases h : crIdx tr with
      | nil => exact absurd h hne
      | cons x xs => rfl
    have e3 := iln_ix hg
    have e4 : ((tr.length - evOf tr i : Nat) : Int) = (tr.length : Int) - (evOf tr i : Int) := by omega
    rw [e4] at e2
    refine ⟨b2, hb2, .inr ⟨i, evOf tr i + 1 + r, ⟨hi, by omega, by omega⟩, ?_⟩⟩
    simp [-dEq_eq, Pf.m__law_frame_fact, hlat, e0, e1, e3, e2]
/-- a fact as it is drawn -/
def FactPre (tr : List Ev) : Fact → Prop
  | .deep j k b => j ≤ tr.length ∧ k ≤ tr.length ∧ j ≠ k
  | f => FactOk tr f
def words : List Str := ["active", "returned", "innermost"]
def fcOf (w : Str) (i k : Nat) : Fact := if w = "active" then .act i k else if w = "returned" then .ret i k else .inn i k
theorem fcOf_d {w : Str} (h : w ∈ words) (i k : Nat) : (fcOf w i k).d = .tup [.str w, .int (i : Nat), .int (k : Nat)] := by
  simp only [words, List.mem_cons, List.not_mem_nil, or_false] at h
  rcases h with rfl | rfl | rfl
  · rfl
  · have : ¬ (("returned" : Str) = "active") := by decide
    simp only [fcOf, if_neg this, if_pos]; rfl
  · have h1 : ¬ (("innermost" : Str) = "active") := by decide
    have h2 : ¬ (("innermost" : Str) = "returned") := by decide
    simp only [fcOf, if_neg h1, if_neg h2]; rfl
theorem fcOf_ok {w : Str} {tr : List Ev} {i k : Nat} (h : FrameAt tr i k) : FactOk tr (fcOf w i k) := by
  unfold fcOf
  split
  · exact h
  · split
    · exact h
    · exact h
theorem FactOk.pre {tr : List Ev} : ∀ {f : Fact}, FactOk tr f → FactPre tr f
  | .depth _ _ _, h => h
  | .act _ _, h => h
  | .ret _ _, h => h
  | .inn _ _, h => h
  | .rets _ _ _ _, h => h
  | .deep _ _ _, h => ⟨h.1, h.2.1, h.2.2.1⟩
  | .stk _ _, h => h
theorem m_lclip {tr : List Ev} : ∀ {f : Fact}, FactPre tr f → ∃ g, FactOk tr g ∧ Pf.m__law_clipped [f.d] = .ok g.d
  | .deep j k b, h => by
    have e0 : dSl (.tup [.str "deeper", .int (j : Nat), .int (k : Nat), .int b]) none (some 3) = .ok (.tup [.str "deeper", .int (j : Nat), .int (k : Nat)]) := by
      have := cut_to [D.str "deeper", .int (j : Nat), .int (k : Nat), .int b] 3
      simp at this ⊢; exact this
    have hb : ∃ b2 : Int, -10 ≤ b2 ∧ b2 ≤ 10 ∧ (if (if b < 10 then b else 10) > -10 then (if b < 10 then b else 10) else -10) = b2 := by
      by_cases q : b < 10
      · rw [if_pos q]
        by_cases q2 : b > -10
        · rw [if_pos q2]; exact ⟨b, by omega, by omega, rfl⟩
        · rw [if_neg q2]; exact ⟨-10, by omega, by omega, rfl⟩
      · rw [if_neg q, if_pos (by omega)]; exact ⟨10, by omega, by omega, rfl⟩
    obtain ⟨b2, h1, h2, h3⟩ := hb
    refine ⟨.deep j k b2, ⟨h.1, h.2.1, h.2.2, h1, h2⟩, ?_⟩
    have h4 : dMax2 [.int (-10), .int (if b < 10 then b else 10)] = .ok (.int b2) := by rw [dMax2_i, h3]
    simp [-dSl_t, -dMax2_i, Pf.m__law_clipped, Fact.d, e0, h4]
  | .depth k lo hi, h => ⟨.depth k lo hi, h, by simp [Pf.m__law_clipped, Fact.d]⟩
  | .act i k, h => ⟨.act i k, h, by simp [Pf.m__law_clipped, Fact.d]⟩
  | .ret i k, h => ⟨.ret i k, h, by simp [Pf.m__law_clipped, Fact.d]⟩
  | .inn i k, h => ⟨.inn i k, h, by simp [Pf.m__law_clipped, Fact.d]⟩
  | .rets j k lo hi, h => ⟨.rets j k lo hi, h, by simp [Pf.m__law_clipped, Fact.d]⟩
  | .stk k fs, h => ⟨.stk k fs, h, by simp [Pf.m__law_clipped, Fact.d]⟩
@[simp] theorem atI5' {α : Type} (x y z w v u : α) (xs : List α) : L2.atI (x :: y :: z :: w :: v :: u :: xs) 5 = some u := by
  have := atI_nat (x :: y :: z :: w :: v :: u :: xs) 5; simpa using this
theorem word_ix {way : Nat} (h : way < 6) : ∃ w ∈ words, dIx (.lst [.str "active", .str "returned", .str "returned", .str "innermost", .str "active", .str "innermost"]) (.int way) = .ok (.str w) := by
  have : way = 0 ∨ way = 1 ∨ way = 2 ∨ way = 3 ∨ way = 4 ∨ way = 5 := by omega
  rcases this with rfl | rfl | rfl | rfl | rfl | rfl
  · exact ⟨"active", by simp [words], by simp⟩
  · exact ⟨"returned", by simp [words], by simp⟩
  · exact ⟨"returned", by simp [words], by simp⟩
  · exact ⟨"innermost", by simp [words], by simp⟩
  · exact ⟨"active", by simp [words], by simp⟩
  · exact ⟨"innermost", by simp [words], by simp⟩
theorem m_lfact {b : D} (hb : Bag b) {tr : List Ev} (ht : TrT tr) {co : List Int} {rs : List (List Int)} (hc : CoOk tr co rs) : ∃ f b', Pf.m__law_fact b [td tr, rd rs] = .ok (Fact.d f, b') ∧ Bag b' ∧ FactPre tr f := by
  have hlt := ht.len
  have hr := hc.rlen
  obtain ⟨one, b1, e1, h1, hb1⟩ := m_take hb (tr.length + 1) (by omega) (by omega)
  obtain ⟨other, b2, e2, h2, hb2⟩ := m_take hb1 (tr.length + 1) (by omega) (by omega)
  obtain ⟨way, b3, e3, h3, hb3⟩ := m_take hb2 10 (by omega) (by omega)
  have e1' : Pf.m__law_take b [.int ((tr.length : Int) + 1)] = .ok (.int one, b1) := by simpa using e1
  have e2' : Pf.m__law_take b1 [.int ((tr.length : Int) + 1)] = .ok (.int other, b2) := by simpa using e2
  have e3' : Pf.m__law_take b2 [.int 10] = .ok (.int way, b3) := e3
  have r1 := rd_rw (rs := rs) (k := one) (by omega)
  have r2 := rd_rw (rs := rs) (k := other) (by omega)
  have hi1 := rw_inc hc (show one ≤ tr.length by omega)
  have hl1 := hi1.len (cb_nn tr one)
  have h10 := cb_ten ht one
  -- a depth
  have depth : ∀ b0 : D, Bag b0 → ∃ (lo : Int) (b4 b5 : D) (x y : Nat), Pf.m__law_take b0 [.int 3] = .ok (.int x, b4) ∧ (if ((rw rs one).length : Int) - (x : Int) > 0 then ((rw rs one).length : Int) - (x : Int) else 0) = lo ∧ Pf.m__law_take b4 [.int 3] = .ok (.int y, b5) ∧ Bag b5 ∧ FactOk tr (.depth one lo (if lo + (y : Int) < 10 then lo + (y : Int) else 10)) := fun b0 hb0 => by
    obtain ⟨x, b4, q1, hx, hb4⟩ := m_take hb0 3 (by omega) (by omega)
    obtain ⟨y, b5, q2, hy, hb5⟩ := m_take hb4 3 (by omega) (by omega)
    refine ⟨_, b4, b5, x, y, q1, rfl, q2, hb5, ⟨by omega, ?_, ?_, ?_⟩⟩
    · split <;> omega
    · split <;> split <;> omega
    · split <;> omega
  by_cases w6 : way < 6
  · obtain ⟨w, hw, ew⟩ := word_ix w6
    obtain ⟨b4, hb4, hfr⟩ := m_lframe hb3 hlt w
    have w6i : (way : Int) < 6 := by omega
    have w6e : ¬ (way : Int) = 6 := by omega
    have w8i : (way : Int) < 8 := by omega
    rcases hfr with ⟨hne, ef⟩ | ⟨i, k, hfa, ef⟩
    · obtain ⟨lo, b5, b6, x, y, q1, q2, q3, hb6, hok⟩ := depth b4 hb4
      have dm : dMax2 [.int 0, .int (((rw rs one).length : Int) - (x : Int))] = .ok (.int lo) := by rw [dMax2_i, q2]
      refine ⟨_, b6, ?_, hb6, hok.pre⟩
      have w6e2 : ¬ way = 6 := by omega
      have w8 : way < 8 := by omega
      simp [-dIx_l, -dMax2_i, Pf.m__law_fact, e1', e2', e3', w6, w6i, w6e, w6e2, w8, w8i, ew, ef, r1, q1, dm, q3, Fact.d]
    · have hfd := fcOf_d hw i k
      obtain ⟨r, b5, q1, hr4, hb5⟩ := m_take hb4 4 (by omega) (by omega)
      have q1' : Pf.m__law_take b4 [.int 4] = .ok (.int r, b5) := q1
      have hh := m_lholds (rs := rs) (show tr.length < 900 by omega) hr (f := fcOf w i k) (fcOf_ok hfa).mo
      rw [hfd] at hh
      by_cases hcond : 0 < r ∧ ¬ Holds tr rs (fcOf w i k)
      · obtain ⟨x, b6, q2, hx, hb6⟩ := m_of hb5 [.str "active", .str "returned"] (by simp) (by simp)
        simp only [List.mem_cons, List.not_mem_nil, or_false] at hx
        have hr0 : (0 : Int) < r := by omega
        rcases hx with rfl | rfl
        · refine ⟨.act i k, b6, ?_, hb6, hfa⟩
          simp [-dIx_l, Pf.m__law_fact, e1', e2', e3', w6, w6i, ew, ef, q1', hcond.1, hh, hcond.2, q2, Fact.d]
        · refine ⟨.ret i k, b6, ?_, hb6, hfa⟩
          simp [-dIx_l, Pf.m__law_fact, e1', e2', e3', w6, w6i, ew, ef, q1', hcond.1, hh, hcond.2, q2, Fact.d]
      · refine ⟨fcOf w i k, b5, ?_, hb5, (fcOf_ok hfa).pre⟩
        rw [hfd]
        by_cases c1 : 0 < r
        · have c2 : Holds tr rs (fcOf w i k) := Classical.byContradiction fun z => hcond ⟨c1, z⟩
          simp [-dIx_l, Pf.m__law_fact, e1', e2', e3', w6, w6i, ew, ef, q1', c1, hh, c2]
        · simp [-dIx_l, Pf.m__law_fact, e1', e2', e3', w6, w6i, ew, ef, q1', c1]
  · have w6i : ¬ (way : Int) < 6 := by omega
    by_cases w6e : way = 6
    · subst w6e
      refine ⟨.stk one (rw rs one), b3, ?_, hb3, ⟨by omega, hi1⟩⟩
      simp [-dIx_l, Pf.m__law_fact, e1', e2', e3', r1, Fact.d]
    · have w6e' : ¬ (way : Int) = 6 := by omega
      by_cases w8 : way < 8 ∨ one = other
      · obtain ⟨lo, b5, b6, x, y, q1, q2, q3, hb6, hok⟩ := depth b3 hb3
        have dm : dMax2 [.int 0, .int (((rw rs one).length : Int) - (x : Int))] = .ok (.int lo) := by rw [dMax2_i, q2]
        refine ⟨_, b6, ?_, hb6, hok.pre⟩
        by_cases w8a : way < 8
        · have w8i : (way : Int) < 8 := by omega
          simp [-dIx_l, -dMax2_i, Pf.m__law_fact, e1', e2', e3', w6, w6i, w6e, w6e', w8a, w8i, r1, q1, dm, q3, Fact.d]
        · have w8i : ¬ (way : Int) < 8 := by omega
          have heq := w8.resolve_left w8a
          subst heq
          simp [-dIx_l, -dMax2_i, Pf.m__law_fact, e1', e2', e3', w6, w6i, w6e, w6e', w8a, w8i, r1, q1, dm, q3, Fact.d]
      · have w8a : ¬ way < 8 := fun z => w8 (.inl z)
        have w8i : ¬ (way : Int) < 8 := by omega
        have hno : ¬ one = other := fun z => w8 (.inr z)
        have hnoi : ¬ (one : Int) = other := by omega
        by_cases w8e : way = 8
        · subst w8e
          obtain ⟨x, b4, q1, hx, hb4⟩ := m_take hb3 4 (by omega) (by omega)
          obtain ⟨y, b5, q2, hy, hb5⟩ := m_take hb4 4 (by omega) (by omega)
          have q1' : Pf.m__law_take b3 [.int 4] = .ok (.int x, b4) := q1
          have q2' : Pf.m__law_take b4 [.int 4] = .ok (.int y, b5) := q2
          refine ⟨.rets (min one other) (max one other) x (if (x : Int) + (y : Int) < 10 then (x : Int) + (y : Int) else 10), b5, ?_, hb5, ⟨by omega, by omega, by omega, by split <;> omega, by split <;> omega⟩⟩
          have m1 : dMin2 [.int (one : Int), .int (other : Int)] = .ok (.int ((min one other : Nat) : Int)) := by
            rw [dMin2_i]; congr 2; split <;> omega
          have m2 : dMax2 [.int (one : Int), .int (other : Int)] = .ok (.int ((max one other : Nat) : Int)) := by
            rw [dMax2_i]; congr 2; split <;> omega
          have m3 : dMin2 [.int 10, .int ((x : Int) + (y : Int))] = .ok (.int (if (x : Int) + (y : Int) < 10 then (x : Int) + (y : Int) else 10)) := dMin2_i _ _
          simp [-dIx_l, -dMin2_i, -dMax2_i, Pf.m__law_fact, e1', e2', e3', hno, hnoi, q1', q2', m1, m2, m3, Fact.d]
        · have w8e' : ¬ (way : Int) = 8 := by omega
          obtain ⟨x, b4, q1, hx, hb4⟩ := m_of hb3 [.int 0, .int 0, .int 1, .int (-1)] (by simp) (by simp)
          obtain ⟨v, rfl⟩ : ∃ v : Int, x = .int v := by
            simp only [List.mem_cons, List.not_mem_nil, or_false] at hx
            rcases hx with rfl | rfl | rfl | rfl <;> exact ⟨_, rfl⟩
          refine ⟨.deep one other (((rw rs one).length : Int) - ((rw rs other).length : Int) - v), b4, ?_, hb4, ⟨by omega, by omega, hno⟩⟩
          simp [-dIx_l, Pf.m__law_fact, e1', e2', e3', w6, w6i, w6e, w6e', w8a, w8i, w8e, w8e', hno, hnoi, r1, r2, q1, Fact.d]
end Th
end

section
set_option Elab.async false
set_option linter.all false
set_option maxRecDepth 100000
namespace Th
open PySem DN
/-- a drawn fact, within the bounds -/
theorem m_lfactC {b : D} (hb : Bag b) {tr : List Ev} (ht : TrT tr) {co : List Int} {rs : List (List Int)} (hc : CoOk tr co rs) :
    ∃ (f g : Fact) (b' : D), Pf.m__law_fact b [td tr, rd rs] = .ok (f.d, b') ∧ Pf.m__law_clipped [f.d] = .ok g.d ∧ Bag b' ∧ FactOk tr g := by
  obtain ⟨f, b', h1, h2, h3⟩ := m_lfact hb ht hc
  obtain ⟨g, h4, h5⟩ := m_lclip h3
  exact ⟨f, g, b', h1, h5, h2, h4⟩
theorem lc_facts {tr : List Ev} (ht : TrT tr) {co : List Int} {rs : List (List Int)} (hc : CoOk tr co rs) (j3 j4 : Option D) : ∀ (ds : List D) (b : D), Bag b →
    ∃ (fs : List Fact) (b' : D), lcGoX (gN 5) eYes (xArgs Pf.m__law_clipped (xCons (xBag 0 Pf.m__law_fact (xCons (xOf (eVar 1)) (xCons (xOf (eVar 2)) xNil))) xNil)) [5] [some b, some (td tr), some (rd rs), j3, j4, none] ds = .ok (fs.map Fact.d, [some b', some (td tr), some (rd rs), j3, j4, none]) ∧ Bag b' ∧ (∀ f ∈ fs, FactOk tr f) ∧ fs.length = ds.length
  | [], b, hb => ⟨[], b, rfl, hb, fun f hf => (by cases hf), rfl⟩
  | d :: ds, b, hb => by
    obtain ⟨f, g, b1, e1, e2, hb1, hg⟩ := m_lfactC hb ht hc
    obtain ⟨fs, b2, ih, hb2, hfs, hl⟩ := lc_facts ht hc j3 j4 ds b1 hb1
    refine ⟨g :: fs, b2, ?_, hb2, fun x hx => ?_, by simp [hl]⟩
    · rw [lcGoX]
      simp [R.nox, e1, e2, ih]
    · rcases List.mem_cons.mp hx with rfl | hx
      · exact hg
      · exact hfs x hx
theorem m_lsome {b : D} (hb : Bag b) {tr : List Ev} (ht : TrT tr) {co : List Int} {rs : List (List Int)} (hc : CoOk tr co rs) (most : Nat) (hm : most ≤ 100) :
    ∃ (fs : List Fact) (b' : D), Pf.m__law_some_facts b [td tr, rd rs, .int most] = .ok (fd fs, b') ∧ Bag b' ∧ (∀ f ∈ fs, FactOk tr f) ∧ fs.length ≤ most := by
  obtain ⟨n, b1, e1, hn, hb1⟩ := m_take hb (most + 1) (by omega) (by omega)
  have e1' : Pf.m__law_take b [.int ((most : Int) + 1)] = .ok (.int n, b1) := by simpa using e1
  have e2 := dRange1_ok (n : Int) (small_nat n (by omega))
  rw [Int.toNat_natCast] at e2
  obtain ⟨fs, b2, e3, hb2, hfs, hl⟩ := lc_facts ht hc (some (.int most)) none (rangeD 0 n) b1 hb1
  have hl2 : (rangeD 0 n).length = n := by simp [rangeD]
  have hz : n ≤ 16777216 := by omega
  refine ⟨fs, b2, ?_, hb2, hfs, by omega⟩
  simp [Pf.m__law_some_facts, xLc, e1', e2, hl2, sizeLine_eq, hz, e3, fd]
end Th
end

section
set_option Elab.async false
set_option linter.all false
set_option maxRecDepth 100000
namespace Th
open PySem DN
/-- a loop keeps what each turn keeps -/
theorem loop_inv {g : D → DN.Env → R DN.Env} {body : DN.Env → R Fl} {I : DN.Env → Prop} : ∀ (ds : List D), (∀ d ∈ ds, ∀ env, I env → ∃ e2, gk (g d env) body = .ok (.nx e2) ∧ I e2) → ∀ env, I env → ∃ e2, loop g body ds env = .ok (.nx e2) ∧ I e2
  | [], _, env, h => ⟨env, rfl, h⟩
  | d :: ds, hs, env, h => by
    obtain ⟨e1, st, h1⟩ := hs d (List.mem_cons_self ..) env h
    obtain ⟨e2, ih, h2⟩ := loop_inv ds (fun x hx => hs x (List.mem_cons_of_mem _ hx)) e1 h1
    refine ⟨e2, ?_, h2⟩
    rw [loop_cons, ← ih]
    revert st
    cases g d env with
    | ok e => intro st; simp only [gk_ok] at st ⊢; rw [st, lk_nx]
    | exc c z => intro st; cases st
    | bad => intro st; cases st
theorem bl_mem (b : Bool) (bs : List Bool) : ((bs.map D.bl).any fun y => D.eqv y (.bl b)) = decide (b ∈ bs) := by
  induction bs with
  | nil => rfl
  | cons x xs ih =>
    rw [List.map_cons, List.any_cons, ih]
    cases x <;> cases b <;> simp
theorem bl_flat (bs : List Bool) : (bs.map D.bl).all D.flat = true := by simp [List.all_eq_true, D.flat]
theorem dIn_bl (b : Bool) (bs : List Bool) : dIn (.bl b) (.lst (bs.map D.bl)) = .ok (.bl (decide (b ∈ bs))) := by
  rw [dIn_l _ _ ⟨rfl, bl_flat bs⟩, bl_mem]
theorem dNotIn_bl (b : Bool) (bs : List Bool) : dNotIn (.bl b) (.lst (bs.map D.bl)) = .ok (.bl (!decide (b ∈ bs))) := by
  simp only [dNotIn, dInB]
  rw [if_pos ⟨rfl, bl_flat bs⟩, bl_mem]; rfl
theorem coD_dp (p : List Int × List (List Int)) : (coD p).dp ≤ 3 := by
  have := rd_dp p.2
  simp only [coD, D.dp, D.dps, sd_dp]; omega
theorem alD_dp (ys : List (List Int × List (List Int))) : (alD ys).dp ≤ 4 := by
  have := dps_le (n := 3) (ds := ys.map coD) fun d hd => by
    obtain ⟨p, _, rfl⟩ := List.mem_map.mp hd; exact coD_dp p
  unfold alD
  rw [D.dp]; omega
theorem dEq_al (ys : List (List Int × List (List Int))) : dEq (alD ys) (.lst []) = .ok (.bl ys.isEmpty) := by
  rw [dEq_eq, chk_pos ⟨by have := alD_dp ys; omega, by simp⟩, alD, D.eqv, eqvs_nil_r, List.isEmpty_map]
@[simp] theorem alD_items (ys : List (List Int × List (List Int))) : dItems (alD ys) = .ok (ys.map coD) := rfl
/-- the solutions, by all completions -/
theorem mem_good {tr : List Ev} (h10 : created tr ≤ 10) {fs : List Fact} {p : List Int × List (List Int)} : p ∈ goodC tr fs (allC tr) ↔ Sol tr fs p.1 p.2 := by
  unfold goodC
  rw [List.mem_filter, decide_eq_true_eq]
  constructor
  · rintro ⟨h1, h2⟩; exact ⟨(mem_allC h10).mp h1, h2⟩
  · intro h; exact ⟨(mem_allC h10).mpr h.ok, h.holds⟩
theorem good_len {tr : List Ev} (h9 : tr.length ≤ 9) (fs : List Fact) : (goodC tr fs (allC tr)).length ≤ 3628800 := Nat.le_trans (List.length_filter_le _ _) (allC_len h9)
theorem allC_rl {tr : List Ev} (h10 : created tr ≤ 10) : ∀ p ∈ allC tr, p.2.length = tr.length + 1 := fun p hp => ((mem_allC h10).mp (show (p.1, p.2) ∈ allC tr from hp)).rlen
theorem good_rl {tr : List Ev} (h10 : created tr ≤ 10) {fs : List Fact} : ∀ p ∈ goodC tr fs (allC tr), p.2.length = tr.length + 1 := fun p hp => ((mem_good h10).mp hp).ok.rlen
theorem m_lstat {tr : List Ev} (ht : TrT tr) (h9 : tr.length ≤ 9) {fs : List Fact} {f : Fact} (hf : FactMo tr f) : Pf.m__law_status [td tr, alD (goodC tr fs (allC tr)), f.d] = .ok (.str (statS tr fs f)) := by
  have hlt := ht.len
  have hgl := good_len h9 fs
  have key : ∀ p, p ∈ goodC tr fs (allC tr) ↔ Sol tr fs p.1 p.2 := fun p => mem_good ht.cr
  have hrl := good_rl ht.cr (fs := fs)
  generalize goodC tr fs (allC tr) = good at hgl key hrl
  cases good with
  | nil =>
    have g1 : ¬ ∃ co rs, Sol tr fs co rs := fun ⟨co, rs, h⟩ => by have := (key (co, rs)).mpr h; cases this
    have e1 : dEq (alD []) (.lst []) = .ok (.bl true) := dEq_al []
    unfold statS
    rw [if_neg g1]
    simp [-dEq_eq, Pf.m__law_status, e1]
  | cons p0 good =>
    have g1 : ∃ co rs, Sol tr fs co rs := ⟨p0.1, p0.2, (key p0).mp (List.mem_cons_self ..)⟩
    have e1 : dEq (alD (p0 :: good)) (.lst []) = .ok (.bl false) := dEq_al (p0 :: good)
    have e2 := dNotIn_bl false ((p0 :: good).map fun p => decide (Holds tr p.2 f))
    have e3 := dIn_bl true ((p0 :: good).map fun p => decide (Holds tr p.2 f))
    rw [List.map_map] at e2 e3
    have c1 : (false ∈ (p0 :: good).map fun p => decide (Holds tr p.2 f)) ↔ ∃ co rs, Sol tr fs co rs ∧ ¬ Holds tr rs f := by
      rw [List.mem_map]
      constructor
      · rintro ⟨p, hp, e⟩; exact ⟨p.1, p.2, (key p).mp hp, of_decide_eq_false e⟩
      · rintro ⟨co, rs, h, hn⟩; exact ⟨(co, rs), (key (co, rs)).mpr h, decide_eq_false hn⟩
    have c2 : (true ∈ (p0 :: good).map fun p => decide (Holds tr p.2 f)) ↔ ∃ co rs, Sol tr fs co rs ∧ Holds tr rs f := by
      rw [List.mem_map]
      constructor
      · rintro ⟨p, hp, e⟩; exact ⟨p.1, p.2, (key p).mp hp, of_decide_eq_true e⟩
      · rintro ⟨co, rs, h, hn⟩; exact ⟨(co, rs), (key (co, rs)).mpr h, decide_eq_true hn⟩
    simp [-eLc_eq, -dEq_eq, Pf.m__law_status, e1]
    rw [eLc_map (α := List Int × List (List Int)) coD (fun p => .bl (decide (Holds tr p.2 f))) (p0 :: good)]
    · unfold statS
      rw [if_pos g1]
      by_cases g2 : ∃ co rs, Sol tr fs co rs ∧ ¬ Holds tr rs f
      · rw [if_pos g2]
        rw [decide_eq_true (c1.mpr g2)] at e2
        by_cases g3 : ∃ co rs, Sol tr fs co rs ∧ Holds tr rs f
        · rw [if_pos g3]
          rw [decide_eq_true (c2.mpr g3)] at e3
          simp only [sbi_ok, rsi_nx, List.set_cons_succ, List.set_cons_zero]
          have e2' : dNotIn (.bl false) (.lst ((p0 :: good).map fun p => .bl (decide (Holds tr p.2 f)))) = .ok (.bl false) := e2
          have e3' : dIn (.bl true) (.lst ((p0 :: good).map fun p => .bl (decide (Holds tr p.2 f)))) = .ok (.bl true) := e3
          simp [-List.map_cons, e2', e3']
        · rw [if_neg g3]
          rw [decide_eq_false fun z => g3 (c2.mp z)] at e3
          have e2' : dNotIn (.bl false) (.lst ((p0 :: good).map fun p => .bl (decide (Holds tr p.2 f)))) = .ok (.bl false) := e2
          have e3' : dIn (.bl true) (.lst ((p0 :: good).map fun p => .bl (decide (Holds tr p.2 f)))) = .ok (.bl false) := e3
          simp [-List.map_cons, e2', e3']
      · rw [if_neg g2]
        rw [decide_eq_false fun z => g2 (c1.mp z)] at e2
        have e2' : dNotIn (.bl false) (.lst ((p0 :: good).map fun p => .bl (decide (Holds tr p.2 f)))) = .ok (.bl true) := e2
        simp [-List.map_cons, e2']
    · simp
    · simp at hgl ⊢; omega
    · rintro ⟨co, rs⟩ hp
      exact ⟨_, rfl, by simp [m_lholds (show tr.length < 900 by omega) (hrl (co, rs) hp) hf]⟩
def app0 (k : R Fl) : Option (Option D) → R Fl
  | some (some _) => k
  | _ => .bad
@[simp] theorem app0_s (k : R Fl) (d : D) : app0 k (some (some d)) = k := rfl
@[simp] theorem sAppX_eq (i : Nat) (f : DN.Env → R (D × DN.Env)) (env : DN.Env) : sAppX i f env = app0 (sX (f env) fun d e => ownS (fun xs => chk (xs.length < 16777216) (.ok (.nx (e.set i (some (.lst (xs ++ [d]))))))) e[i]?) env[i]? := by
  simp only [sAppX, sizeLine_eq]; rfl
theorem m_lquer {b : D} (hb : Bag b) {tr : List Ev} (ht : TrT tr) {co : List Int} {rs : List (List Int)} (hc : CoOk tr co rs) : ∃ (qs : List Fact) (b' : D), Pf.m__law_queries b [td tr, rd rs] = .ok (.lst (qs.map Fact.d), b') ∧ Bag b' ∧ ∀ f ∈ qs, FactOk tr f := by
  have h0 : ∀ f ∈ [Fact.depth tr.length 0 0, Fact.stk tr.length []], FactOk tr f := fun f hf => by
    simp only [List.mem_cons, List.not_mem_nil, or_false] at hf
    rcases hf with rfl | rfl
    · exact ⟨Nat.le_refl _, by omega, by omega, by omega⟩
    · exact ⟨Nat.le_refl _, Inc.nil⟩
  have key : ∀ (ds : List D) (b : D) (qs : List Fact) (j : Option D), Bag b → (∀ f ∈ qs, FactOk tr f) → qs.length + ds.length < 1000 → ∃ (b' : D) (qs' : List Fact) (j' : Option D), loop (gN 4) Pf.l__law_queries_1 ds [some b, some (td tr), some (rd rs), some (.lst (qs.map Fact.d)), j] = .ok (.nx [some b', some (td tr), some (rd rs), some (.lst (qs'.map Fact.d)), j']) ∧ Bag b' ∧ ∀ f ∈ qs', FactOk tr f := by
    intro ds
    induction ds with
    | nil => intro b qs j hb hq _; exact ⟨b, qs, j, rfl, hb, hq⟩
    | cons d ds ih =>
      intro b qs j hb hq hl
      simp only [List.length_cons] at hl
      obtain ⟨f, g, b1, e1, e2, hb1, hg⟩ := m_lfactC hb ht hc
      have hl2 : qs.length < 16777216 := by omega
      have st : Pf.l__law_queries_1 [some b, some (td tr), some (rd rs), some (.lst (qs.map Fact.d)), some d] = .ok (.nx [some b1, some (td tr), some (rd rs), some (.lst ((qs ++ [g]).map Fact.d)), some d]) := by
        simp [Pf.l__law_queries_1, e1, e2, hl2]
      obtain ⟨b2, qs2, j2, h1, h2, h3⟩ := ih b1 (qs ++ [g]) (some d) hb1 (fun x hx => by
        rcases List.mem_append.mp hx with hx | hx
        · exact hq x hx
        · rw [List.mem_singleton.mp hx]; exact hg) (by simp; omega)
      exact ⟨b2, qs2, j2, by simp only [loop_cons, gN_eq, gk_ok, List.set_cons_succ, List.set_cons_zero, st, lk_nx, h1], h2, h3⟩
  obtain ⟨b', qs, j, h1, h2, h3⟩ := key (rangeD 0 10) b _ none hb h0 (by simp [rangeD])
  have e0 : dRange1 [.int 10] = .ok (rangeD 0 10) := dRange1_ok 10 rfl
  have e1 : D.lst [.tup [.str "depth", .int tr.length, .int 0, .int 0], .tup [.str "stack", .int tr.length, .tup []]] = .lst ([Fact.depth tr.length 0 0, Fact.stk tr.length []].map Fact.d) := rfl
  refine ⟨qs, b', ?_, h2, h3⟩
  simp only [List.map_cons, List.map_nil] at h1 e1
  simp [Pf.m__law_queries, e0, e1, h1]
end Th
end

section
set_option Elab.async false
set_option linter.all false
set_option maxRecDepth 100000
namespace Th
open PySem DN
@[simp] theorem gL_l (n : Nat) (g : List D → DN.Env → R DN.Env) (ds : List D) (env : DN.Env) : gL n g (.lst ds) env = chk (ds.length = n) (g ds env) := rfl
theorem cut_last {α : Type} (xs : List α) (x : α) : cutD (xs ++ [x]) (some (-1)) none = [x] := by
  unfold cutD
  simp only [HT.sIx, if_pos (show (-1 : Int) < 0 by omega)]
  have h1 : (-1 + (((xs ++ [x]).length : Nat) : Int)).toNat = xs.length := by simp; omega
  rw [h1, List.drop_append_of_le_length (by omega), List.drop_length]
  simp
theorem m_holds {tr : List Ev} (ht : tr.length < 900) {rs : List (List Int)} (hr : rs.length = tr.length + 1) : ∀ {f : Fact}, FactMo tr f → Pf.m_holds_for [td tr, rd rs, f.d] = .ok (.bl (decide (Holds tr rs f)))
  | .depth k lo hi, h => by
    have h1 := rd_rw (rs := rs) (k := k) (by have : k ≤ tr.length := h; omega)
    by_cases q1 : lo ≤ ((rw rs k).length : Int) <;> by_cases q2 : ((rw rs k).length : Int) ≤ hi <;> simp [Pf.m_holds_for, Fact.d, h1, q1, q2, Holds]
  | .act i k, h => by
    have h1 := rd_rw (rs := rs) (k := k) (by have : k ≤ tr.length := h; omega)
    simp [Pf.m_holds_for, Fact.d, h1, Holds]
  | .ret i k, h => by
    have h1 := rd_rw (rs := rs) (k := k) (by have : k ≤ tr.length := h; omega)
    by_cases q : (i : Int) ∈ rw rs k <;> simp [Pf.m_holds_for, Fact.d, h1, Holds, q]
  | .inn i k, h => by
    have h1 := rd_rw (rs := rs) (k := k) (by have : k ≤ tr.length := h; omega)
    rcases List.eq_nil_or_concat (rw rs k) with e | ⟨xs, x, e⟩
    · rw [e] at h1
      have h2 : dSl (sd []) (some (-1)) none = .ok (sd []) := rfl
      have h3 : D.tup [.int (i : Int)] = sd [(i : Int)] := rfl
      simp [Pf.m_holds_for, Fact.d, h1, h2, h3, Holds, e]
    · rw [List.concat_eq_append] at e
      rw [e] at h1
      have h2 : dSl (sd (xs ++ [x])) (some (-1)) none = .ok (sd [x]) := by
        have := cut_last (xs.map D.int) (.int x)
        simp [sd, this]
      have h3 : D.tup [.int (i : Int)] = sd [(i : Int)] := rfl
      simp [Pf.m_holds_for, Fact.d, h1, h2, h3, Holds, e]
  | .stk k fs, h => by
    have h1 := rd_rw (rs := rs) (k := k) (by have : k ≤ tr.length := h; omega)
    simp [Pf.m_holds_for, Fact.d, h1, Holds]
  | .deep j k b, h => by
    have h1 := rd_rw (rs := rs) (k := k) (by have := h.2; omega)
    have h2 := rd_rw (rs := rs) (k := j) (by have := h.1; omega)
    simp [Pf.m_holds_for, Fact.d, h1, h2, Holds]
  | .rets j k lo hi, h => by
    have h1 := rd_rw (rs := rs) (k := k) (by have := h.2; omega)
    have h2 := rd_rw (rs := rs) (k := j) (by have := h.1; omega)
    have h3 := cb_ix tr h.1
    have h4 := cb_ix tr h.2
    have h5 : cutD [D.str "returns", .int (j : Nat), .int (k : Nat), .int lo, .int hi] (some 1) (some 3) = [.int (j : Nat), .int (k : Nat)] := rfl
    have h6 : cb tr j - ((rw rs j).length : Int) = totF tr rs j := rfl
    have h7 : cb tr k - ((rw rs k).length : Int) = totF tr rs k := rfl
    by_cases q1 : lo ≤ totF tr rs k - totF tr rs j <;> by_cases q2 : totF tr rs k - totF tr rs j ≤ hi <;> simp [Pf.m_holds_for, Fact.d, m_cb tr ht, h1, h2, h3, h4, h5, h6, h7, lcGo, R.nox, q1, q2, Holds]
/-! the smallest total at a moment -/
def qLe (m : Nat) (v : Int) : Iq := ⟨.no, m, [(none, v)]⟩
theorem feas_le {tr : List Ev} {E : List Iq} {m : Nat} {v : Int} : Feas tr (E ++ [qLe m v]) ↔ ∃ co rs, CoOk tr co rs ∧ SatAll (totF tr rs) E ∧ totF tr rs m ≤ v := by
  unfold Feas
  constructor
  · rintro ⟨co, rs, h1, h2⟩
    obtain ⟨s1, s2⟩ := SatAll.app.mp h2
    have := s2 _ (List.mem_singleton.mpr rfl)
    exact ⟨co, rs, h1, s1, by simpa [qLe] using this⟩
  · rintro ⟨co, rs, h1, h2, h3⟩
    refine ⟨co, rs, h1, SatAll.app.mpr ⟨h2, fun q hq => ?_⟩⟩
    rw [List.mem_singleton.mp hq]
    simpa [qLe] using h3
open Classical in
theorem while_small {tr : List Ev} (ht : TrT tr) {E : List Iq} (hE : WfAll tr.length E) (hl : E.length ≤ 100000) {m : Nat} (hm : m ≤ tr.length) (X : D) : ∀ (n : Nat) (lo hi : Int) (j6 : Option D), 0 ≤ lo → lo ≤ hi → (hi - lo).toNat < n → (∀ u, 0 ≤ u → u < lo → ¬ Feas tr (E ++ [qLe m u])) → Feas tr (E ++ [qLe m hi]) →
    ∃ v, 0 ≤ v ∧ (∀ u, 0 ≤ u → u < v → ¬ Feas tr (E ++ [qLe m u])) ∧ Feas tr (E ++ [qLe m v]) ∧
    finF (rseq (wloop (eT dB (eBin dLt (eVar 4) (eVar 5))) (sSeq (sSet 6 (eBin dFdiv (eBin dAdd (eVar 4) (eVar 5)) (eC (.int 2)))) (sIf (eT dTru (eArgs Pf.m_is_feasible (eCons (eVar 0) (eCons (eBin dAdd (eVar 1) (eArgs dLst (eCons (eArgs dTup (eCons (eC .non) (eCons (eVar 2) (eCons (eArgs dLst (eCons (eArgs dTup (eCons (eC .non) (eCons (eVar 6) eNil))) eNil)) eNil)))) eNil))) eNil)))) (sSet 5 (eVar 6)) (sSet 4 (eBin dAdd (eVar 6) (eC (.int 1)))))) n [some (td tr), some (qd (qTrace tr ++ E)), some (.int m), some X, some (.int lo), some (.int hi), j6]) (sRet (eVar 4))) = .ok (.int v)
  | 0, lo, hi, j6, _, _, h, _, _ => by omega
  | n + 1, lo, hi, j6, h0, h1, h2, h3, h4 => by
    rw [wloop]
    by_cases hlt : lo < hi
    · have hd : 0 < (2 : Int) ∧ (2 : Int).natAbs < 1073741824 := by decide
      have hq := qTrace_len tr ht.len
      have e1 : D.lst [.tup [.non, .int m, .lst [.tup [.non, .int ((lo + hi) / 2)]]]] = qd [qLe m ((lo + hi) / 2)] := rfl
      have e2 := qd_add (qTrace tr ++ E) [qLe m ((lo + hi) / 2)] (by simp; omega)
      rw [List.append_assoc] at e2
      have hw : WfAll tr.length (E ++ [qLe m ((lo + hi) / 2)]) := hE.app (WfAll.cons (wf0 hm) WfAll.nil)
      have e3 := m_feas ht hw
      have hmid1 : lo ≤ (lo + hi) / 2 := by omega
      have hmid2 : (lo + hi) / 2 < hi := by omega
      by_cases hF : Feas tr (E ++ [qLe m ((lo + hi) / 2)])
      · rw [decide_eq_true hF] at e3
        obtain ⟨v, v0, v1, v2, v3⟩ := while_small ht hE hl hm X n lo ((lo + hi) / 2) (some (.int ((lo + hi) / 2))) h0 hmid1 (by omega) h3 hF
        refine ⟨v, v0, v1, v2, ?_⟩
        simp [hlt, e1, e2, e3]
        simpa using v3
      · rw [decide_eq_false hF] at e3
        obtain ⟨v, v0, v1, v2, v3⟩ := while_small ht hE hl hm X n ((lo + hi) / 2 + 1) hi (some (.int ((lo + hi) / 2))) (by omega) (by omega) (by omega) (fun u u0 u1 hFu => hF (by
          obtain ⟨co, rs, a, b, c⟩ := feas_le.mp hFu
          exact feas_le.mpr ⟨co, rs, a, b, by omega⟩)) h4
        refine ⟨v, v0, v1, v2, ?_⟩
        simp [hlt, e1, e2, e3]
        simpa using v3
    · have he : lo = hi := by omega
      subst he
      refine ⟨lo, h0, h3, h4, ?_⟩
      simp [hlt]
theorem m_small {tr : List Ev} (ht : TrT tr) {fs : List Fact} (hf : ∀ f ∈ fs, FactOk tr f) (hl : fs.length ≤ 100) {co : List Int} {rs : List (List Int)} (hs : Sol tr fs co rs) {m : Nat} (hm : m ≤ tr.length) :
    ∃ v, IsMin tr fs m v ∧ Pf.m_smallest_total [td tr, qd (qTrace tr ++ qFacts tr fs), .int m, .int (totF tr rs m)] = .ok (.int v) := by
  have hb := hs.ok.bounds hm
  have h10 := cb_ten ht m
  have hlen := qFacts_len ht hf
  obtain ⟨v, v0, v1, v2, v3⟩ := while_small ht (wf_facts hf) (by omega) hm (.int (totF tr rs m)) 40 0 (totF tr rs m) none (by omega) hb.1 (by omega) (fun u u0 u1 => by omega) (feas_le.mpr ⟨co, rs, hs.ok, (facts_iff hs.ok hf).mpr hs.holds, Int.le_refl _⟩)
  have hle : ∀ co rs, Sol tr fs co rs → v ≤ totF tr rs m := fun co' rs' h' => by
    refine Int.not_lt.mp fun z => v1 (totF tr rs' m) (h'.ok.bounds hm).1 z (feas_le.mpr ⟨co', rs', h'.ok, (facts_iff h'.ok hf).mpr h'.holds, Int.le_refl _⟩)
  refine ⟨v, ⟨?_, hle⟩, ?_⟩
  · obtain ⟨co', rs', a, b, c⟩ := feas_le.mp v2
    have hs' : Sol tr fs co' rs' := ⟨a, (facts_iff a hf).mp b⟩
    exact ⟨co', rs', hs', by have := hle co' rs' hs'; omega⟩
  · simp [Pf.m_smallest_total]
    simpa using v3
end Th
end

section
set_option Elab.async false
set_option linter.all false
set_option maxRecDepth 100000
namespace Th
open PySem DN
theorem enum_il (s : List Int) : dEnum [il s] = .ok (s.zipIdx.map fun p => .pr [.int (p.2 : Nat), .int p.1]) := by
  rw [il_enum, List.zipIdx_map, List.map_map]; rfl
theorem fn_map_range {g : Nat → Int} {n k : Nat} (h : k ≤ n) : fn ((List.range (n + 1)).map g) k = g k := by
  unfold fn; rw [List.getElem?_map, List.getElem?_range (by omega)]; rfl
theorem zipIdx_map_snd {α β : Type} (g : Nat → β) (xs : List α) : (xs.zipIdx.map fun p => g p.2) = (List.range xs.length).map g := by
  apply List.ext_getElem?
  intro k
  by_cases hk : k < xs.length
  · simp [hk]
  · simp [hk]
open Classical in
theorem m_few {tr : List Ev} (ht : TrOk tr) {fs : List Fact} (hf : ∀ f ∈ fs, FactOk tr f) (hl : fs.length ≤ 8) :
    (∃ co rs, Least tr fs co rs ∧ Pf.m_fewest_returned [td tr, fd fs] = .ok (sd co)) ∨ ((∀ co rs, ¬ Least tr fs co rs) ∧ Pf.m_fewest_returned [td tr, fd fs] = .ok .non) := by
  have hlt := ht.len
  have hE := wf_facts hf
  have e1 := m_req_trace ht
  have e2 := m_req_facts ht.t hf hl
  have e3 := m_of_trace ht.t
  have e4 := m_of_facts ht.t hf (by omega)
  have e5 := qd_app2 ht.t hf (by omega)
  rcases lows_cases ht.t hE with ⟨h0, ls, co0, rs0, h1, hM, h3⟩ | ⟨h0, ls, h1⟩
  · have hS := (hM.s hf).sol
    have e6 := m_low ht.t hE h1
    have e7 : obD (some (tots (cbs 0 tr) rs0)) = il (tots (cbs 0 tr) rs0) := rfl
    rw [e7] at e6
    have e8 : (il (tots (cbs 0 tr) rs0)).isNon = false := rfl
    have htl := tots_len hS.ok.rlen
    let g : Nat → Int := fun k => if h : k ≤ tr.length then (m_small ht.t hf (by omega) hS h).choose else 0
    have hg : ∀ k, k ≤ tr.length → IsMin tr fs k (g k) ∧ Pf.m_smallest_total [td tr, qd (qTrace tr ++ qFacts tr fs), .int k, .int (totF tr rs0 k)] = .ok (.int (g k)) := fun k hk => by
      have := (m_small ht.t hf (by omega) hS hk).choose_spec
      show IsMin tr fs k (if h : k ≤ tr.length then (m_small ht.t hf (by omega) hS h).choose else 0) ∧ Pf.m_smallest_total _ = .ok (.int (if h : k ≤ tr.length then (m_small ht.t hf (by omega) hS h).choose else 0))
      rw [dif_pos hk]; exact this
    clear_value g
    -- the list of the smallest totals
    generalize hns : (List.range (tr.length + 1)).map g = ns
    have hnl : ns.length = tr.length + 1 := by rw [← hns]; simp
    have hfn : ∀ k, k ≤ tr.length → fn ns k = g k := fun k hk => by rw [← hns, fn_map_range hk]
    have e9 : ∀ env : DN.Env, env = [some (td tr), some (fd fs), some (qd (qTrace tr ++ qFacts tr fs)), some (il (tots (cbs 0 tr) rs0)), none, none, none, none, none, none] →
        eLc [7, 8] (eItA dEnum (eCons (eVar 3) eNil)) (gT 2 (gCons' (gN 7) (gCons' (gN 8) gNil'))) eYes (eArgs Pf.m_smallest_total (eCons (eVar 0) (eCons (eVar 2) (eCons (eVar 7) (eCons (eVar 8) eNil))))) env = .ok (il ns) := by
      rintro env rfl
      rw [eLc_map (α := Int × Nat) (fun p => .pr [.int (p.2 : Nat), .int p.1]) (fun p => .int (g p.2)) (tots (cbs 0 tr) rs0).zipIdx]
      · have : (tots (cbs 0 tr) rs0).zipIdx.map (fun p => D.int (g p.2)) = ns.map D.int := by
          rw [← hns, List.map_map, ← htl]
          exact zipIdx_map_snd (fun k => D.int (g k)) _
        rw [this]; rfl
      · simp [-il_enum, enum_il]
      · simp [htl]; omega
      · rintro ⟨v, k⟩ hp
        have hk := mem_zipIdx0.mp hp
        have hk2 : k ≤ tr.length := by have := (List.getElem?_eq_some_iff.mp hk).1; omega
        have hv : v = totF tr rs0 k := by
          rw [tots_get hS.ok.rlen hk2] at hk; cases hk; rfl
        subst hv
        exact ⟨_, rfl, by simp [(hg k hk2).2]⟩
    have e9' := e9 _ rfl
    have e10 := m_wt tr ns (by omega)
    -- a least completion has these totals
    have least : ∀ co rs, Least tr fs co rs → tots (cbs 0 tr) rs = ns := fun co rs h => by
      have hl2 := tots_len h.sol.ok.rlen
      apply List.ext_getElem (by omega)
      intro k h1 h2
      have hk : k ≤ tr.length := by omega
      have a1 := tots_get h.sol.ok.rlen hk
      rw [List.getElem?_eq_getElem h1] at a1
      have a2 := hfn k hk
      unfold fn at a2
      rw [List.getElem?_eq_getElem h2] at a2
      simp only [Option.some.injEq, Option.getD_some] at a1 a2
      rw [a1, a2]
      exact (h.min k hk).uniq (hg k hk).1
    cases hw : wtGo tr ns [] 0 with
    | none =>
      right
      rw [hw] at e10
      refine ⟨fun co rs h => ?_, ?_⟩
      · have := wt_tots h.sol.ok.rows (fun l hl => (h.sol.ok.rng l hl).1) (by have := h.sol.ok.len; omega)
        rw [least co rs h, hw] at this; cases this
      · simp [-eLc_eq, Pf.m_fewest_returned, e1, e2, e3, e4, e5, e6, e8, e9', e10, ows]
    | some co =>
      rw [hw] at e10
      obtain ⟨rs, hc, htt⟩ := wt_co ht.cr hw hnl
      have e11 := m_stacks_of tr co (by have := hc.len; omega)
      rw [hc.rows] at e11
      have e12 : orows [] (some rs) = rd rs := by simp [orows, rd]
      rw [e12] at e11
      have e13 : ows [] (some co) = sd co := by simp [ows]
      rw [e13] at e10
      have htf : ∀ k, k ≤ tr.length → totF tr rs k = g k := fun k hk => by
        rw [← fn_tots hc.rlen hk, htt, hfn k hk]
      have e14 : ∀ env : DN.Env, env = [some (td tr), some (fd fs), some (qd (qTrace tr ++ qFacts tr fs)), some (il (tots (cbs 0 tr) rs0)), some (il ns), some (sd co), some (rd rs), none, none, none] →
          eLc [9] (eItems (eVar 1)) (gN 9) eYes (eArgs Pf.m_holds_for (eCons (eVar 0) (eCons (eVar 6) (eCons (eVar 9) eNil)))) env = .ok (.lst (fs.map fun f => .bl (decide (Holds tr rs f)))) := by
        rintro env rfl
        rw [eLc_map (α := Fact) Fact.d (fun f => .bl (decide (Holds tr rs f))) fs]
        · simp
        · omega
        · intro f hm
          exact ⟨_, rfl, by simp [m_holds (show tr.length < 900 by omega) hc.rlen (hf f hm).mo]⟩
      have e14' := e14 _ rfl
      have e15 := dAll_map (fun f => decide (Holds tr rs f)) fs
      by_cases hall : ∀ f ∈ fs, Holds tr rs f
      · left
        have : fs.all (fun f => decide (Holds tr rs f)) = true := List.all_eq_true.mpr fun f hm => decide_eq_true (hall f hm)
        rw [this] at e15
        refine ⟨co, rs, ⟨⟨hc, hall⟩, fun k hk => by rw [htf k hk]; exact (hg k hk).1⟩, ?_⟩
        simp [-eLc_eq, Pf.m_fewest_returned, e1, e2, e3, e4, e5, e6, e8, e9', e10, e11, e14', e15]
      · right
        have : fs.all (fun f => decide (Holds tr rs f)) = false := by
          rw [← Bool.not_eq_true, List.all_eq_true]
          exact fun z => hall fun f hm => of_decide_eq_true (z f hm)
        rw [this] at e15
        refine ⟨fun co' rs' h => hall ?_, ?_⟩
        · have hi := hc.inj h.sol.ok fun k hk => by
            rw [← fn_tots hc.rlen hk, ← fn_tots h.sol.ok.rlen hk, htt, least co' rs' h]
          rw [hi.2]; exact h.sol.holds
        · simp [-eLc_eq, Pf.m_fewest_returned, e1, e2, e3, e4, e5, e6, e8, e9', e10, e11, e14', e15]
  · right
    have e6 := m_low ht.t hE h1
    refine ⟨fun co rs h => h0 ((feas_iff hf).mpr ⟨co, rs, h.sol⟩), ?_⟩
    simp [Pf.m_fewest_returned, e1, e2, e3, e4, e5, e6, obD]
theorem m_rows_rd {tr : List Ev} {co : List Int} {rs : List (List Int)} (ht : tr.length ≤ 24) (hc : CoOk tr co rs) : Pf.m__law_rows [td tr, sd co] = .ok (rd rs) := by
  have e3 := m_lrows tr co (by have := hc.len; omega)
  rw [hc.rows] at e3
  rw [e3]; simp [orows, rd]
theorem fd_snoc (fs : List Fact) (f : Fact) (h : fs.length ≤ 1000) : dAdd (fd fs) (.tup [f.d]) = .ok (fd (fs ++ [f])) := by
  have h2 : fs.length ≤ 16777215 := by omega
  simp [fd, h2]
end Th
end

section
set_option Elab.async false
set_option linter.all false
set_option maxRecDepth 100000
set_option maxHeartbeats 4000000
namespace Pf
open PySem DN
abbrev b__law_right : DN.Env → R Fl := sSeq (sSet 3 (eArgs m__law_good (eCons (eVar 0) (eCons (eVar 1) (eCons (eVar 2) (eNil)))))) (sSeq (sSet 4 (eArgs m_most_returned (eCons (eVar 0) (eCons (eVar 2) (eNil))))) (sSeq (sIf (eT dB (eBin dEq (eVar 3) (eArgs dLst (eNil)))) (sRet (eBin dIs (eVar 4) (eC .non))) (sNx)) (sSeq (sIf (eT dB (eBin dNotIn (eVar 4) (eLc [5] (eItems (eVar 3)) (gN 5) (eYes) (eBin dIx (eVar 5) (eC (.int 0)))))) (sRet (eC (.bl false))) (sNx)) (sRet (eBin dEq (eArgs m__law_totals (eCons (eVar 0) (eCons (eArgs m__law_rows (eCons (eVar 0) (eCons (eVar 4) (eNil)))) (eNil)))) (eArgs m__law_best (eCons (eVar 0) (eCons (eVar 3) (eCons (eC (.str "most")) (eNil))))))))))
def m__law_right : List D → R D := runF 3 6 b__law_right
def l_law_1 : DN.Env → R Fl := sSeq (sSetX 9 (xBag 2 m__law_some_facts (xCons (xOf (eVar 4)) (xCons (xOf (eVar 7)) (xCons (xBag 2 m__law_of (xCons (xOf (eArgs dLst (eCons (eC (.int 1)) (eCons (eC (.int 2)) (eCons (eC (.int 4)) (eCons (eC (.int 8)) (eNil))))))) (xNil))) (xNil)))))) (sSeq (sIf (eNot (eT dTru (eArgs m__law_right (eCons (eVar 4) (eCons (eVar 6) (eCons (eVar 9) (eNil))))))) (sRet (eC (.bl false))) (sNx)) (sIf (eT dB (eBin dNe (eArgs m_most_returned (eCons (eVar 4) (eCons (eVar 9) (eNil)))) (eArgs m_most_returned (eCons (eVar 4) (eCons (eUn dRev (eVar 9)) (eNil)))))) (sRet (eC (.bl false))) (sNx)))
def l_law_2 : DN.Env → R Fl := sSeq (sAsgX (xBag 2 m__law_run (xCons (xOf (eC (.int 6))) (xCons (xOf (eC (.int 6))) (xNil)))) (gT 2 (gCons' (gN 4) (gCons' (gN 5) (gNil'))))) (sSeq (sPar2 6 7 (eArgs m__law_all (eCons (eVar 4) (eNil))) (eArgs m__law_rows (eCons (eVar 4) (eCons (eVar 5) (eNil))))) (sSeq (sIf (eNot (eT dTru (eArgs m__law_right (eCons (eVar 4) (eCons (eVar 6) (eCons (eArgs dTup (eNil)) (eNil))))))) (sRet (eC (.bl false))) (sNx)) (sFor (eItA dRange1 (eCons (eC (.int 8)) (eNil))) (gN 8) l_law_1)))
def l_law_3 : DN.Env → R Fl := sSeq (sSet 2 (eUn dLs (eArgs m__law_bag (eCons (eVar 0) (eCons (eVar 1) (eNil)))))) (sFor (eItA dRange1 (eCons (eC (.int 2)) (eNil))) (gN 3) l_law_2)
abbrev b_law : DN.Env → R Fl := sSeq (sFor (eItA dRange1 (eCons (eBin dAdd (eArgs dMin2 (eCons (eArgs dLen (eCons (eVar 0) (eNil))) (eCons (eC (.int 6)) (eNil)))) (eC (.int 2))) (eNil))) (gN 1) l_law_3) (sRet (eAndV (eBin dEq (eArgs m_most_returned (eCons (eArgs dTup (eNil)) (eCons (eArgs dTup (eNil)) (eNil)))) (eArgs dTup (eCons (eC (.int 0)) (eNil)))) (eBin dIs (eArgs m_most_returned (eCons (eArgs dTup (eCons (eArgs dTup (eCons (eC (.str "enter")) (eCons (eC (.str "f")) (eNil)))) (eCons (eArgs dTup (eCons (eC (.str "exit")) (eCons (eC (.int 0)) (eNil)))) (eCons (eArgs dTup (eCons (eC (.str "exit")) (eCons (eC (.int 0)) (eNil)))) (eNil))))) (eCons (eArgs dTup (eNil)) (eNil)))) (eC .non))))
def m_law : List D → R D := runF 1 10 b_law
end Pf
end

section
set_option Elab.async false
set_option linter.all false
set_option maxRecDepth 100000
namespace Th
open PySem DN
theorem dMaxL_map {α : Type} (f : α → Int) (p0 : α) (ps : List α) : dMaxL [.lst ((p0 :: ps).map fun p => .int (f p))] = .ok (.int (imax (f p0) (ps.map f))) := by
  have h : dints ((p0 :: ps).map fun p => D.int (f p)) = some ((p0 :: ps).map f) := by
    have := dints_map ((p0 :: ps).map f)
    rw [List.map_map] at this; exact this
  simp only [List.map_cons] at h ⊢
  simp only [dMaxL, h]
theorem range_lenN (n : Nat) (h : n < 1000) : dRange1 [.int ((n : Int) + 1)] = .ok ((List.range (n + 1)).map fun (l : Nat) => .int (l : Int)) := by
  have h1 := dRange1_ok ((n : Int) + 1) (by have := small_nat (n + 1) (by omega); simpa using this)
  rw [h1, rangeD]
  have : ((n : Int) + 1).toNat = n + 1 := by omega
  rw [this]; simp
theorem dNotIn_sd (co : List Int) (xs : List (List Int)) (h : co ∈ xs) : dNotIn (sd co) (.lst (xs.map sd)) = .ok (.bl false) := by
  have hd : D.dps (xs.map sd) ≤ 1 := dps_le fun d hd => by obtain ⟨s, _, rfl⟩ := List.mem_map.mp hd; simp
  have ha : ((xs.map sd).any fun y => D.eqv y (sd co)) = true := List.any_eq_true.mpr ⟨sd co, List.mem_map.mpr ⟨co, h, rfl⟩, by simp⟩
  have hf : ¬ ((sd co).flat = true ∧ (xs.map sd).all D.flat = true) := fun z => by have := z.1; cases this
  simp only [dNotIn, dInB]
  rw [if_neg hf, if_pos ⟨by simp, by omega⟩, ha]; rfl
theorem m_lbest {tr : List Ev} (ht : TrT tr) (h9 : tr.length ≤ 9) {fs : List Fact} {co : List Int} {rs : List (List Int)} (hM : MostS tr fs co rs) : Pf.m__law_best [td tr, alD (goodC tr fs (allC tr)), .str "most"] = .ok (il (tots (cbs 0 tr) rs)) := by
  have hgl := good_len h9 fs
  have key : ∀ p, p ∈ goodC tr fs (allC tr) ↔ Sol tr fs p.1 p.2 := fun p => mem_good ht.cr
  have hrl := good_rl ht.cr (fs := fs)
  generalize goodC tr fs (allC tr) = good at hgl key hrl
  have e1 : ∀ env : DN.Env, env = [some (td tr), some (alD good), some (.str "most"), none, none, none, none, none, none, none] →
      eLc [7, 8] (eItems (eVar 1)) (gT 2 (gCons' (gN 7) (gCons' (gN 8) gNil'))) eYes (eArgs Pf.m__law_totals (eCons (eVar 0) (eCons (eVar 8) eNil))) env = .ok (.lst (good.map fun p => il (tots (cbs 0 tr) p.2))) := by
    rintro env rfl
    rw [eLc_map (α := List Int × List (List Int)) coD (fun p => il (tots (cbs 0 tr) p.2)) good]
    · simp
    · omega
    · rintro ⟨co, rs⟩ hp
      exact ⟨_, rfl, by simp [m_ltot tr rs (show tr.length < 900 by omega)]⟩
  have e1' := e1 _ rfl
  cases good with
  | nil => exact absurd ((key (co, rs)).mpr hM.sol) (by simp)
  | cons p0 ps =>
    have hg : ∀ k, k ≤ tr.length → imax (totF tr p0.2 k) (ps.map fun p => totF tr p.2 k) = totF tr rs k := fun k hk => by
      obtain ⟨m1, m2, m3⟩ := imax_le (ps.map fun p => totF tr p.2 k) (totF tr p0.2 k)
      apply Int.le_antisymm
      · rcases m3 with h | h
        · rw [h]; exact hM.most p0.1 p0.2 ((key p0).mp (List.mem_cons_self ..)) k hk
        · obtain ⟨p, hp, e⟩ := List.mem_map.mp h
          rw [← e]; exact hM.most p.1 p.2 ((key p).mp (List.mem_cons_of_mem _ hp)) k hk
      · rcases List.mem_cons.mp ((key (co, rs)).mpr hM.sol) with z | z
        · have hz : rs = p0.2 := congrArg Prod.snd z
          rw [hz]; exact m1
        · exact m2 _ (List.mem_map.mpr ⟨(co, rs), z, rfl⟩)
    have hr := range_lenN tr.length (by omega)
    obtain ⟨j, e3⟩ := loop_app (g := gN 5) (body := Pf.l__law_best_1) (fun (k : Nat) => .int (k : Int)) (fun k => .int (totF tr rs k))
      (fun fd' (j : Option D × Option D) => [some (td tr), some (alD (p0 :: ps)), some (.str "most"), some (.lst ((p0 :: ps).map fun p => il (tots (cbs 0 tr) p.2))), some (.lst fd'), j.1, j.2, none, none, none]) (List.range (tr.length + 1)) [] (none, none)
      (fun k hk fd' j hfl => by
        have hk2 : k ≤ tr.length := by have := List.mem_range.mp hk; omega
        refine ⟨(some (.int k), some (.lst ((p0 :: ps).map fun p => .int (totF tr p.2 k)))), ?_⟩
        have e4 : ∀ j6 : Option D, eLc [9] (eItems (eVar 3)) (gN 9) eYes (eBin dIx (eVar 9) (eVar 5)) [some (td tr), some (alD (p0 :: ps)), some (.str "most"), some (.lst ((p0 :: ps).map fun p => il (tots (cbs 0 tr) p.2))), some (.lst fd'), some (.int k), j6, none, none, none] = .ok (.lst ((p0 :: ps).map fun p => .int (totF tr p.2 k))) := fun j6 => by
          rw [eLc_map (α := List Int × List (List Int)) (fun p => il (tots (cbs 0 tr) p.2)) (fun p => .int (totF tr p.2 k)) (p0 :: ps)]
          · simp
          · omega
          · rintro ⟨co, rs⟩ hp
            exact ⟨_, rfl, by simp [tots_ix (hrl (co, rs) hp) hk2]⟩
        have e5 := dMaxL_map (fun p : List Int × List (List Int) => totF tr p.2 k) p0 ps
        rw [hg k hk2] at e5
        have e6 := dEq_self (d := .str "most") (by simp)
        have e4' := e4 j.2
        simp only [List.map_cons] at e4' e5 ⊢
        simp [-eLc_eq, -dEq_eq, Pf.l__law_best_1, e4', e5, e6, hfl])
      (by simp; omega)
    simp only [List.nil_append] at e3
    have e6 : D.lst ((List.range (tr.length + 1)).map fun k => D.int (totF tr rs k)) = il (tots (cbs 0 tr) rs) := by
      unfold il
      congr 1
      apply List.ext_getElem?
      intro k
      by_cases hk : k ≤ tr.length
      · rw [List.getElem?_map, List.getElem?_range (by omega), List.getElem?_map, tots_get hM.sol.ok.rlen hk]; rfl
      · rw [List.getElem?_eq_none (by simp; omega), List.getElem?_eq_none (by simp [tots_len hM.sol.ok.rlen]; omega)]
    rw [e6] at e3
    simp only [List.map_cons] at e1' e3
    simp [-eLc_eq, Pf.m__law_best, e1', hr, e3]
theorem k06_right {tr : List Ev} (ht : TrOk tr) (h9 : tr.length ≤ 9) {fs : List Fact} (hf : ∀ f ∈ fs, FactOk tr f) (hl : fs.length ≤ 8) : Pf.m__law_right [td tr, alD (allC tr), fd fs] = .ok (.bl true) := by
  have hlt := ht.len
  have e1 := m_lgood (show tr.length < 900 by omega) (fun f h => (hf f h).mo) (by omega) (allC tr) (by have := allC_len h9; omega) (allC_rl ht.cr)
  have e6 := dEq_al (goodC tr fs (allC tr))
  rcases m_most_s ht hf hl with ⟨co, rs, e2, hM⟩ | ⟨e2, hno⟩
  · have hne : (goodC tr fs (allC tr)).isEmpty = false := by
      have := (mem_good ht.cr (p := (co, rs))).mpr hM.sol
      cases hg : goodC tr fs (allC tr) with
      | nil => rw [hg] at this; cases this
      | cons x xs => rfl
    rw [hne] at e6
    have e3 : ∀ env : DN.Env, (∃ a b c d, env = [a, b, c, some (alD (goodC tr fs (allC tr))), d, none]) → eLc [5] (eItems (eVar 3)) (gN 5) eYes (eBin dIx (eVar 5) (eC (.int 0))) env = .ok (.lst (((goodC tr fs (allC tr)).map (·.1)).map sd)) := by
      rintro env ⟨a, b, c, d, rfl⟩
      rw [eLc_map (α := List Int × List (List Int)) coD (fun p => sd p.1) (goodC tr fs (allC tr))]
      · rw [List.map_map]; rfl
      · simp
      · have := good_len h9 fs; omega
      · rintro ⟨co, rs⟩ hp
        exact ⟨_, rfl, by simp [coD]⟩
    have e3' := e3 [some (td tr), some (alD (allC tr)), some (fd fs), some (alD (goodC tr fs (allC tr))), some (sd co), none] ⟨_, _, _, _, rfl⟩
    have e4 := dNotIn_sd co ((goodC tr fs (allC tr)).map (·.1)) (List.mem_map.mpr ⟨(co, rs), (mem_good ht.cr).mpr hM.sol, rfl⟩)
    have e5 := m_rows_rd hlt hM.sol.ok
    have e7 := m_ltot tr rs (by omega)
    have e8 := m_lbest ht.t h9 hM
    have e9 := dEq_self (d := il (tots (cbs 0 tr) rs)) (by rw [il_dp]; omega)
    rw [List.map_map] at e3' e4
    simp [-eLc_eq, -dEq_eq, Pf.m__law_right, e1, e2, e6, e3', e4, e5, e7, e8, e9]
  · have hemp : (goodC tr fs (allC tr)).isEmpty = true := by
      cases hg : goodC tr fs (allC tr) with
      | nil => rfl
      | cons p ps =>
        exact absurd ((mem_good ht.cr).mp (show p ∈ goodC tr fs (allC tr) by rw [hg]; exact List.mem_cons_self ..)) (hno _ _)
    rw [hemp] at e6
    simp [-eLc_eq, -dEq_eq, Pf.m__law_right, e1, e2, e6]
theorem k06_rev {tr : List Ev} (ht : TrOk tr) {fs : List Fact} (hf : ∀ f ∈ fs, FactOk tr f) (hl : fs.length ≤ 8) : ∃ d : D, d.dp ≤ 64 ∧ Pf.m_most_returned [td tr, fd fs] = .ok d ∧ Pf.m_most_returned [td tr, fd fs.reverse] = .ok d := by
  have hf2 : ∀ f ∈ fs.reverse, FactOk tr f := fun f h => hf f (List.mem_reverse.mp h)
  have sw : ∀ co rs, Sol tr fs co rs ↔ Sol tr fs.reverse co rs := fun co rs =>
    ⟨fun h => ⟨h.ok, fun f hm => h.holds f (List.mem_reverse.mp hm)⟩, fun h => ⟨h.ok, fun f hm => h.holds f (List.mem_reverse.mpr hm)⟩⟩
  rcases m_most_s ht hf hl with ⟨co, rs, e1, hM⟩ | ⟨e1, hno⟩
  · rcases m_most_s ht hf2 (by simpa using hl) with ⟨co', rs', e2, hM'⟩ | ⟨e2, hno'⟩
    · have hM2 : MostS tr fs co' rs' := ⟨(sw _ _).mpr hM'.sol, fun a b h => hM'.most a b ((sw _ _).mp h)⟩
      have := (hM.uniq hM2).1
      subst this
      exact ⟨sd co, by simp, e1, e2⟩
    · exact absurd ((sw _ _).mp hM.sol) (hno' _ _)
  · rcases m_most_s ht hf2 (by simpa using hl) with ⟨co', rs', e2, hM'⟩ | ⟨e2, hno'⟩
    · exact absurd ((sw _ _).mpr hM'.sol) (hno _ _)
    · exact ⟨.non, by simp, e1, e2⟩
end Th
end

section
set_option Elab.async false
set_option linter.all false
set_option maxRecDepth 100000
namespace Th
open PySem DN
theorem k06_ask {b : D} (hb : Bag b) {tr : List Ev} (ht : TrOk tr) (h9 : tr.length ≤ 9) {co : List Int} {rs : List (List Int)} (hc : CoOk tr co rs) (j0 j1 j3 j5 j8 j9 : Option D) :
    ∃ b' a9, Bag b' ∧ Pf.l_law_1 [j0, j1, some b, j3, some (td tr), j5, some (alD (allC tr)), some (rd rs), j8, j9] = .ok (.nx [j0, j1, some b', j3, some (td tr), j5, some (alD (allC tr)), some (rd rs), j8, a9]) := by
  obtain ⟨x, b1, e1, hx, hb1⟩ := m_of hb [.int 1, .int 2, .int 4, .int 8] (by simp) (by simp)
  obtain ⟨n, rfl, hn⟩ : ∃ n : Nat, x = .int n ∧ n ≤ 8 := by
    simp only [List.mem_cons, List.not_mem_nil, or_false] at hx
    rcases hx with rfl | rfl | rfl | rfl
    · exact ⟨1, rfl, by omega⟩
    · exact ⟨2, rfl, by omega⟩
    · exact ⟨4, rfl, by omega⟩
    · exact ⟨8, rfl, by omega⟩
  obtain ⟨fs, b2, e2, hb2, hfs, hfl⟩ := m_lsome hb1 ht.t hc n (by omega)
  have e3 := k06_right ht h9 hfs (by omega)
  obtain ⟨d, hd, e4, e5⟩ := k06_rev ht hfs (by omega)
  have e6 : dRev (fd fs) = .ok (fd fs.reverse) := by simp [dRev, fd, List.map_reverse]
  have e7 := dNe_self hd
  exact ⟨b2, some (fd fs), hb2, by simp [-dNe_eq, Pf.l_law_1, e1, e2, e3, e6, e4, e5, e7]⟩
theorem k06_turn {b : D} (hb : Bag b) (j0 j1 j3 j4 j5 j6 j7 j8 j9 : Option D) :
    ∃ b' a4 a5 a6 a7 a8 a9, Bag b' ∧ Pf.l_law_2 [j0, j1, some b, j3, j4, j5, j6, j7, j8, j9] = .ok (.nx [j0, j1, some b', j3, a4, a5, a6, a7, a8, a9]) := by
  obtain ⟨b1, tr, co, rs, e1, hb1, ht, hc, h6, _⟩ := m_runG hb 6 6 (by omega) (by omega)
  have e1' : Pf.m__law_run b [.int 6, .int 6] = .ok (.tup [td tr, sd co], b1) := e1
  have e2 := m_lall (tr := tr) (by omega)
  have e3 := m_rows_rd ht.len hc
  have e4 : dRange1 [.int 8] = .ok (rangeD 0 8) := dRange1_ok 8 rfl
  have e5 := k06_right ht (by omega) (fs := []) (fun f hf => by cases hf) (by simp)
  have e5' : Pf.m__law_right [td tr, alD (allC tr), .tup []] = .ok (.bl true) := e5
  obtain ⟨env, e6, b2, a8, a9, hb2, rfl⟩ := loop_inv (g := gN 8) (body := Pf.l_law_1) (I := fun env => ∃ (b : D) (a8 a9 : Option D), Bag b ∧ env = [j0, j1, some b, j3, some (td tr), some (sd co), some (alD (allC tr)), some (rd rs), a8, a9]) (rangeD 0 8)
    (fun d _ env ⟨b, a8, a9, hb, he⟩ => by
      subst he
      obtain ⟨b', c9, hb', st⟩ := k06_ask hb ht (by omega) hc j0 j1 j3 (some (sd co)) (some d) a9
      exact ⟨_, st, b', some d, c9, hb', rfl⟩) [j0, j1, some b1, j3, some (td tr), some (sd co), some (alD (allC tr)), some (rd rs), j8, j9] ⟨b1, j8, j9, hb1, rfl⟩
  exact ⟨b2, some (td tr), some (sd co), some (alD (allC tr)), some (rd rs), a8, a9, hb2, by simp [Pf.l_law_2, e1', e2, e3, e5', e4, e6]⟩
theorem k06_step (ns : List Int) (k : Nat) (hk : k < 1000) : ∀ js : List (Option D), js.length = 8 → ∃ js', Pf.l_law_3 (some (.scr (ns.map D.int)) :: some (.int k) :: js) = .ok (.nx (some (.scr (ns.map D.int)) :: some (.int k) :: js')) ∧ js'.length = 8
  | [j2, j3, j4, j5, j6, j7, j8, j9], _ => by
    obtain ⟨b0, e0, hb0⟩ := m_bag ns k hk
    have e4 : dRange1 [.int 2] = .ok (rangeD 0 2) := dRange1_ok 2 rfl
    obtain ⟨env, e6, b2, a3, a4, a5, a6, a7, a8, a9, hb2, rfl⟩ := loop_inv (g := gN 3) (body := Pf.l_law_2) (I := fun env => ∃ (b : D) (a3 a4 a5 a6 a7 a8 a9 : Option D), Bag b ∧ env = [some (.scr (ns.map D.int)), some (.int k), some b, a3, a4, a5, a6, a7, a8, a9]) (rangeD 0 2)
      (fun d _ env ⟨b, a3, a4, a5, a6, a7, a8, a9, hb, he⟩ => by
        subst he
        obtain ⟨b', c4, c5, c6, c7, c8, c9, hb', st⟩ := k06_turn hb (some (.scr (ns.map D.int))) (some (.int k)) (some d) a4 a5 a6 a7 a8 a9
        exact ⟨_, st, b', some d, c4, c5, c6, c7, c8, c9, hb', rfl⟩) [some (.scr (ns.map D.int)), some (.int k), some b0, j3, j4, j5, j6, j7, j8, j9] ⟨b0, j3, j4, j5, j6, j7, j8, j9, hb0, rfl⟩
    exact ⟨[some b2, a3, a4, a5, a6, a7, a8, a9], by simp [Pf.l_law_3, e0, dLs_bag hb0, e4, e6], rfl⟩
end Th
namespace Pf
open DN Th
theorem law_true (ns : List Int) (h : ns.length ≤ 63) : m_law [.scr (ns.map D.int)] = .ok (.bl true) := by
  have e1 : ∃ n : Nat, n ≤ 10 ∧ ((if (6 : Int) < (ns.length : Int) then (6 : Int) else (ns.length : Int)) + 2) = (n : Int) := by
    by_cases q : (6 : Int) < (ns.length : Int)
    · exact ⟨8, by omega, by rw [if_pos q]; rfl⟩
    · exact ⟨ns.length + 2, by omega, by rw [if_neg q]; omega⟩
  obtain ⟨n, hn, en⟩ := e1
  have e2 := dRange1_ok (n : Int) (by simp only [small62, decide_eq_true_eq]; omega)
  simp only [rangeD, Int.toNat_natCast, Int.zero_add] at e2
  obtain ⟨env, e3, j, js, hj, rfl⟩ := loop_inv (g := gN 1) (body := l_law_3) (I := fun env => ∃ (j : Option D) (js : List (Option D)), js.length = 8 ∧ env = some (.scr (ns.map D.int)) :: j :: js) ((List.range n).map fun (k : Nat) => D.int (k : Int))
    (fun d hd env ⟨j, js, hj, he⟩ => by
      obtain ⟨k, hk, rfl⟩ := List.mem_map.mp hd
      subst he
      have := List.mem_range.mp hk
      obtain ⟨js', st, h1⟩ := k06_step ns k (by omega) js hj
      exact ⟨_, st, some (.int k), js', h1, rfl⟩) [some (.scr (ns.map D.int)), none, none, none, none, none, none, none, none, none] ⟨none, _, rfl, rfl⟩
  have c1 : m_most_returned [.tup [], .tup []] = .ok (.tup [.int 0]) := by kernel_rfl
  have c2 : m_most_returned [.tup [.tup [.str "enter", .str "f"], .tup [.str "exit", .int 0], .tup [.str "exit", .int 0]], .tup []] = .ok .non := by kernel_rfl
  match js, hj, e3 with
  | [j2, j3, j4, j5, j6, j7, j8, j9], _, e3 =>
    simp [m_law, en, e2, e3, c1, c2]
end Pf
end

section
set_option Elab.async false
set_option linter.all false
set_option maxRecDepth 100000
set_option maxHeartbeats 4000000
namespace Pf
open PySem PySem.Spec PyProof.Rows L2 DN
def top (i : Nat) : Stmt := PySem.Challenge.pw_lostexits_k06_whole_most_returned.main.body.getD i (.Pass ⟨0, 0, 0, 0⟩)
def d_is_integer : He.DefD := ⟨("is_integer", none), "is_integer", "is_integer", defArgs (top 9), defBody (top 9), defScope (top 9), [], []⟩
def d_is_name : He.DefD := ⟨("is_name", none), "is_name", "is_name", defArgs (top 10), defBody (top 10), defScope (top 10), [], []⟩
def d_is_event : He.DefD := ⟨("is_event", none), "is_event", "is_event", defArgs (top 11), defBody (top 11), defScope (top 11), [], []⟩
def d_are_events : He.DefD := ⟨("are_events", none), "are_events", "are_events", defArgs (top 12), defBody (top 12), defScope (top 12), [], []⟩
def d_fits : He.DefD := ⟨("fits", none), "fits", "fits", defArgs (top 13), defBody (top 13), defScope (top 13), [], []⟩
def d_is_trace : He.DefD := ⟨("is_trace", none), "is_trace", "is_trace", defArgs (top 14), defBody (top 14), defScope (top 14), [], []⟩
def d_require_trace : He.DefD := ⟨("require_trace", none), "require_trace", "require_trace", defArgs (top 15), defBody (top 15), defScope (top 15), [], []⟩
def d_created_at : He.DefD := ⟨("created_at", none), "created_at", "created_at", defArgs (top 16), defBody (top 16), defScope (top 16), [], []⟩
def d_created_before : He.DefD := ⟨("created_before", none), "created_before", "created_before", defArgs (top 17), defBody (top 17), defScope (top 17), [], []⟩
def d_stack_after : He.DefD := ⟨("stack_after", none), "stack_after", "stack_after", defArgs (top 19), defBody (top 19), defScope (top 19), [], []⟩
def d_with_totals : He.DefD := ⟨("with_totals", none), "with_totals", "with_totals", defArgs (top 20), defBody (top 20), defScope (top 20), [], []⟩
def d_is_moment : He.DefD := ⟨("is_moment", none), "is_moment", "is_moment", defArgs (top 23), defBody (top 23), defScope (top 23), [], []⟩
def d_is_frame_fact : He.DefD := ⟨("is_frame_fact", none), "is_frame_fact", "is_frame_fact", defArgs (top 24), defBody (top 24), defScope (top 24), [], []⟩
def d_is_range : He.DefD := ⟨("is_range", none), "is_range", "is_range", defArgs (top 25), defBody (top 25), defScope (top 25), [], []⟩
def d_is_stack_fact : He.DefD := ⟨("is_stack_fact", none), "is_stack_fact", "is_stack_fact", defArgs (top 26), defBody (top 26), defScope (top 26), [], []⟩
def d_good_fact : He.DefD := ⟨("good_fact", none), "good_fact", "good_fact", defArgs (top 27), defBody (top 27), defScope (top 27), [], []⟩
def d_require_facts : He.DefD := ⟨("require_facts", none), "require_facts", "require_facts", defArgs (top 28), defBody (top 28), defScope (top 28), [], []⟩
def d_is_tail : He.DefD := ⟨("is_tail", none), "is_tail", "is_tail", defArgs (top 30), defBody (top 30), defScope (top 30), [], []⟩
def d_tails_between : He.DefD := ⟨("tails_between", none), "tails_between", "tails_between", defArgs (top 31), defBody (top 31), defScope (top 31), [], []⟩
def d_rows_active : He.DefD := ⟨("rows_active", none), "rows_active", "rows_active", defArgs (top 32), defBody (top 32), defScope (top 32), [], []⟩
def d_rows_returned : He.DefD := ⟨("rows_returned", none), "rows_returned", "rows_returned", defArgs (top 33), defBody (top 33), defScope (top 33), [], []⟩
def d_rows_not_deeper : He.DefD := ⟨("rows_not_deeper", none), "rows_not_deeper", "rows_not_deeper", defArgs (top 34), defBody (top 34), defScope (top 34), [], []⟩
def d_rows_innermost : He.DefD := ⟨("rows_innermost", none), "rows_innermost", "rows_innermost", defArgs (top 35), defBody (top 35), defScope (top 35), [], []⟩
def d_rows_of_event : He.DefD := ⟨("rows_of_event", none), "rows_of_event", "rows_of_event", defArgs (top 36), defBody (top 36), defScope (top 36), [], []⟩
def d_rows_of_stack : He.DefD := ⟨("rows_of_stack", none), "rows_of_stack", "rows_of_stack", defArgs (top 37), defBody (top 37), defScope (top 37), [], []⟩
def d_rows_of_fact : He.DefD := ⟨("rows_of_fact", none), "rows_of_fact", "rows_of_fact", defArgs (top 38), defBody (top 38), defScope (top 38), [], []⟩
def d_of_trace : He.DefD := ⟨("of_trace", none), "of_trace", "of_trace", defArgs (top 39), defBody (top 39), defScope (top 39), [], []⟩
def d_of_facts : He.DefD := ⟨("of_facts", none), "of_facts", "of_facts", defArgs (top 40), defBody (top 40), defScope (top 40), [], []⟩
def d_right_side : He.DefD := ⟨("right_side", none), "right_side", "right_side", defArgs (top 41), defBody (top 41), defScope (top 41), [], []⟩
def d_down_to_start : He.DefD := ⟨("down_to_start", none), "down_to_start", "down_to_start", defArgs (top 42), defBody (top 42), defScope (top 42), [], []⟩
def d_lowered : He.DefD := ⟨("lowered", none), "lowered", "lowered", defArgs (top 43), defBody (top 43), defScope (top 43), [], []⟩
def d_most_of : He.DefD := ⟨("most_of", none), "most_of", "most_of", defArgs (top 45), defBody (top 45), defScope (top 45), [], []⟩
def d_most_returned : He.DefD := ⟨("most_returned", none), "most_returned", "most_returned", defArgs (top 46), defBody (top 46), defScope (top 46), [], []⟩
def d__law_bag : He.DefD := ⟨("_law_bag", none), "_law_bag", "_law_bag", defArgs (top 48), defBody (top 48), defScope (top 48), [], []⟩
def d__law_take : He.DefD := ⟨("_law_take", none), "_law_take", "_law_take", defArgs (top 49), defBody (top 49), defScope (top 49), [], []⟩
def d__law_of : He.DefD := ⟨("_law_of", none), "_law_of", "_law_of", defArgs (top 50), defBody (top 50), defScope (top 50), [], []⟩
def d__law_after : He.DefD := ⟨("_law_after", none), "_law_after", "_law_after", defArgs (top 51), defBody (top 51), defScope (top 51), [], []⟩
def d__law_rows : He.DefD := ⟨("_law_rows", none), "_law_rows", "_law_rows", defArgs (top 52), defBody (top 52), defScope (top 52), [], []⟩
def d__law_created : He.DefD := ⟨("_law_created", none), "_law_created", "_law_created", defArgs (top 53), defBody (top 53), defScope (top 53), [], []⟩
def d__law_events : He.DefD := ⟨("_law_events", none), "_law_events", "_law_events", defArgs (top 54), defBody (top 54), defScope (top 54), [], []⟩
def d__law_totals : He.DefD := ⟨("_law_totals", none), "_law_totals", "_law_totals", defArgs (top 55), defBody (top 55), defScope (top 55), [], []⟩
def d__law_event : He.DefD := ⟨("_law_event", none), "_law_event", "_law_event", defArgs (top 56), defBody (top 56), defScope (top 56), [], []⟩
def d__law_run : He.DefD := ⟨("_law_run", none), "_law_run", "_law_run", defArgs (top 57), defBody (top 57), defScope (top 57), [], []⟩
def d__law_holds : He.DefD := ⟨("_law_holds", none), "_law_holds", "_law_holds", defArgs (top 58), defBody (top 58), defScope (top 58), [], []⟩
def d__law_frame_fact : He.DefD := ⟨("_law_frame_fact", none), "_law_frame_fact", "_law_frame_fact", defArgs (top 59), defBody (top 59), defScope (top 59), [], []⟩
def d__law_fact : He.DefD := ⟨("_law_fact", none), "_law_fact", "_law_fact", defArgs (top 60), defBody (top 60), defScope (top 60), [], []⟩
def d__law_clipped : He.DefD := ⟨("_law_clipped", none), "_law_clipped", "_law_clipped", defArgs (top 61), defBody (top 61), defScope (top 61), [], []⟩
def d__law_some_facts : He.DefD := ⟨("_law_some_facts", none), "_law_some_facts", "_law_some_facts", defArgs (top 62), defBody (top 62), defScope (top 62), [], []⟩
def d__law_all : He.DefD := ⟨("_law_all", none), "_law_all", "_law_all", defArgs (top 63), defBody (top 63), defScope (top 63), [], []⟩
def d__law_good : He.DefD := ⟨("_law_good", none), "_law_good", "_law_good", defArgs (top 64), defBody (top 64), defScope (top 64), [], []⟩
def d__law_best : He.DefD := ⟨("_law_best", none), "_law_best", "_law_best", defArgs (top 65), defBody (top 65), defScope (top 65), [], []⟩
def d__law_right : He.DefD := ⟨("_law_right", none), "_law_right", "_law_right", defArgs (top 66), defBody (top 66), defScope (top 66), [], []⟩
def d_law : He.DefD := ⟨("law", none), "law", "law", defArgs (top 67), defBody (top 67), defScope (top 67), [], []⟩
def fn : List He.DefD := [d_is_integer, d_is_name, d_is_event, d_are_events, d_fits, d_is_trace, d_require_trace, d_created_at, d_created_before, d_stack_after, d_with_totals, d_is_moment, d_is_frame_fact, d_is_range, d_is_stack_fact, d_good_fact, d_require_facts, d_is_tail, d_tails_between, d_rows_active, d_rows_returned, d_rows_not_deeper, d_rows_innermost, d_rows_of_event, d_rows_of_stack, d_rows_of_fact, d_of_trace, d_of_facts, d_right_side, d_down_to_start, d_lowered, d_most_of, d_most_returned, d__law_bag, d__law_take, d__law_of, d__law_after, d__law_rows, d__law_created, d__law_events, d__law_totals, d__law_event, d__law_run, d__law_holds, d__law_frame_fact, d__law_fact, d__law_clipped, d__law_some_facts, d__law_all, d__law_good, d__law_best, d__law_right, d_law]
def fa : List He.Fa := [.glo "is_integer", .glo "is_name", .glo "is_event", .glo "are_events", .glo "fits", .glo "is_trace", .glo "require_trace", .glo "created_at", .glo "created_before", .glo "stack_after", .glo "with_totals", .glo "is_moment", .glo "is_frame_fact", .glo "is_range", .glo "is_stack_fact", .glo "good_fact", .glo "require_facts", .glo "is_tail", .glo "tails_between", .glo "rows_active", .glo "rows_returned", .glo "rows_not_deeper", .glo "rows_innermost", .glo "rows_of_event", .glo "rows_of_stack", .glo "rows_of_fact", .glo "of_trace", .glo "of_facts", .glo "right_side", .glo "down_to_start", .glo "lowered", .glo "most_of", .glo "most_returned", .glo "_law_bag", .glo "_law_take", .glo "_law_of", .glo "_law_after", .glo "_law_rows", .glo "_law_created", .glo "_law_events", .glo "_law_totals", .glo "_law_event", .glo "_law_run", .glo "_law_holds", .glo "_law_frame_fact", .glo "_law_fact", .glo "_law_clipped", .glo "_law_some_facts", .glo "_law_all", .glo "_law_good", .glo "_law_best", .glo "_law_right", .glo "law", .glo "TraceError", .glo "InvalidTrace", .glo "InvalidFacts", .exc "TraceError", .exc "InvalidTrace", .exc "InvalidFacts", .int "EVENTS" 24, .int "FRAMES" 10, .str "LETTERS" "abcdefghijklmnopqrstuvwxyz", .glo "CREATING", .int "FACTS" 8, .free "ValueError", .free "all", .free "bool", .free "enumerate", .free "int", .free "isinstance", .free "len", .free "list", .free "max", .free "min", .free "range", .free "str", .free "tuple", .free "zip"]
def ex (K : PySem.W.Frag) : Bool := tupG K "CREATING" ["enter", "tail"]
variable {P : Program} {w : World} {K : PySem.W.Frag} {mg : Str → Option Value} {base : Heap}
abbrev n_is_integer : List Str := ["value", "low", "high"]
theorem sc_is_integer : FnScope ["value", "low", "high"] ["value", "low", "high"] (defScope (top 9)) := ⟨rfl, rfl, rfl, by decide +kernel, rfl, by decide +kernel, by decide +kernel⟩
theorem ok_is_integer (mo : Mo fa fn ex w K mg) : Fd P w K mg base 1 "is_integer" (spP K m_is_integer) := by
  obtain ⟨fd, F⟩ := mo.dfn 0 (d := d_is_integer)
  exact fd_of (fn_den (n := 3) (b := b_is_integer) (mn := [.v, .v, .v]) F sc_is_integer rfl (by decide) [.v, .v, .v] rfl (fun cdv A outer s H E hr => ⟨_, dss_one (ds_ret (de_and (ke_isi (K := K) (T := "int") (by decide) (mo.free 69) (mo.free 68) bt_int (de_var 0)) (de_and (de_not (ke_isi (K := K) (T := "bool") (by decide) (mo.free 69) (mo.free 66) bt_bool (de_var 0))) (de_one (de_chain op_le v_le op_le v_le (de_var 1) (de_var 0) (de_var 2))))))⟩)) (mo.glo 0) F (fun _ _ _ _ _ _ us hl => match us, hl with | [_, _, _], _ => rfl)
abbrev n_is_name : List Str := ["value", "sign"]
theorem sc_is_name : FnScope ["value", "sign"] ["value"] (defScope (top 10)) := ⟨rfl, rfl, rfl, by decide +kernel, rfl, by decide +kernel, by decide +kernel⟩
theorem ok_is_name (mo : Mo fa fn ex w K mg) : Fd P w K mg base 1 "is_name" (spP K m_is_name) := by
  obtain ⟨fd, F⟩ := mo.dfn 1 (d := d_is_name)
  exact fd_of (fn_den (n := 2) (b := b_is_name) (mn := [.v, .v]) F sc_is_name rfl (by decide) [.v, .v] rfl (fun cdv A outer s H E hr => ⟨_, dss_one (ds_ret (de_and (ke_isi (K := K) (T := "str") (by decide) (mo.free 69) (mo.free 75) bt_str (de_var 0)) (de_and (de_chain op_le v_le op_le v_le (de_int) (de_callB (r := rLenK K) k_len k_vlen (by rfl) (mo.free 70) bt_len (da_cons (de_var 0) (da_nil))) (de_int)) (de_one (de_callB (r := rAll K) (cr_all rfl) v_all (by rfl) (mo.free 65) bt_all (da_cons ((df_lc [("sign", 1)] sc_is_name.nd (blkOk_by (N := n_is_name) (sc := defScope (top 10)) (by decide +kernel)) ((ki_any (K := K) (de_var 0)).j) (fun _ _ _ _ _ => dg_name 1 sc_is_name.nd) (fun _ _ _ _ _ => dts_nil) (fun _ _ _ _ _ => de_cmp (r := rInA K) (op_inA (room65 hr)) v_in (de_var 1) (de_gstr (mo.str 61)))).val) (da_nil)))))))⟩)) (mo.glo 1) F (fun _ _ _ _ _ _ us hl => match us, hl with | [_], _ => rfl)
abbrev n_fits : List Str := ["values", "value"]
theorem sc_fits : FnScope ["values", "value"] ["values"] (defScope (top 13)) := ⟨rfl, rfl, rfl, by decide +kernel, rfl, by decide +kernel, by decide +kernel⟩
theorem ok_fits (mo : Mo fa fn ex w K mg) : Fd P w K mg base 1 "fits" (spP K m_fits) := by
  obtain ⟨fd, F⟩ := mo.dfn 4 (d := d_fits)
  exact fd_of (fn_den (n := 2) (b := b_fits) (mn := [.v, .v]) F sc_fits rfl (by decide) [.v, .v] rfl (fun cdv A outer s H E hr => ⟨_, dss_one (ds_ret (de_and (de_cmp op_le v_le (de_callB (r := rLenK K) k_len k_vlen (by rfl) (mo.free 70) bt_len (da_cons (de_var 0) (da_nil))) (de_gint (mo.int 59))) (de_one (de_cmp op_le v_le (de_callB (r := rLenK K) k_len k_vlen (by rfl) (mo.free 70) bt_len (da_cons ((df_lc [("value", 1)] sc_fits.nd (blkOk_by (N := n_fits) (sc := defScope (top 13)) (by decide +kernel)) ((ki_any (K := K) (de_var 0)).j) (fun _ _ _ _ _ => dg_name 1 sc_fits.nd) (fun _ _ _ _ _ => dts_one (dt_cmp (r := rInA K) (op_inA (room65 hr)) v_in (de_ix (r := rIx K) ix_seq v_ix (de_var 1) (de_int)) (ke_gtup (K := K) (y := "CREATING") (zs := ["enter", "tail"]) (mo.glo 62) mo.more))) (fun _ _ _ _ _ => de_var 1)).val) (da_nil))) (de_gint (mo.int 60))))))⟩)) (mo.glo 4) F (fun _ _ _ _ _ _ us hl => match us, hl with | [_], _ => rfl)
abbrev n_created_at : List Str := ["trace", "index", "event"]
theorem sc_created_at : FnScope ["trace", "index", "event"] ["trace"] (defScope (top 16)) := ⟨rfl, rfl, rfl, by decide +kernel, rfl, by decide +kernel, by decide +kernel⟩
theorem ok_created_at (mo : Mo fa fn ex w K mg) : Fd P w K mg base 1 "created_at" (spP K m_created_at) := by
  obtain ⟨fd, F⟩ := mo.dfn 7 (d := d_created_at)
  exact fd_of (fn_den (n := 3) (b := b_created_at) (mn := [.v, .v, .v]) F sc_created_at rfl (by decide) [.v, .v, .v] rfl (fun cdv A outer s H E hr => ⟨_, dss_one (ds_ret ((df_lc [("index", 1), ("event", 2)] sc_created_at.nd (blkOk_by (N := n_created_at) (sc := defScope (top 16)) (by decide +kernel)) ((ki_enum (K := K) (mo.free 67) (da_cons (de_var 0) (da_nil))).j) (fun _ _ _ _ _ => kg_tup (K := K) (dgs_cons (dg_name 1 sc_created_at.nd) (dgs_cons (dg_name 2 sc_created_at.nd) (dgs_nil)))) (fun _ _ _ _ _ => dts_one (dt_cmp (r := rInA K) (op_inA (room65 hr)) v_in (de_ix (r := rIx K) ix_seq v_ix (de_var 2) (de_int)) (ke_gtup (K := K) (y := "CREATING") (zs := ["enter", "tail"]) (mo.glo 62) mo.more))) (fun _ _ _ _ _ => de_var 1)).val))⟩)) (mo.glo 7) F (fun _ _ _ _ _ _ us hl => match us, hl with | [_], _ => rfl)
abbrev n_created_before : List Str := ["trace", "found", "event"]
theorem sc_created_before : FnScope ["trace", "found", "event"] ["trace"] (defScope (top 17)) := ⟨rfl, rfl, rfl, by decide +kernel, rfl, by decide +kernel, by decide +kernel⟩
theorem ok_created_before (mo : Mo fa fn ex w K mg) : Fd P w K mg base 1 "created_before" (spL K m_created_before) := by
  obtain ⟨fd, F⟩ := mo.dfn 8 (d := d_created_before)
  exact fd_of (fn_denL (n := 3) (b := b_created_before) (mn := [.v, .o, .v]) F sc_created_before rfl (by decide) [.v, .v, .v] rfl (fun cdv A outer s H E hr => ⟨_, dss_cons (ds_setO 1 sc_created_before.nd (df_lst (da_cons (de_int) (da_nil))))
 (dss_cons (ds_for body_own (ki_any (K := K) (de_var 0)) (dg_name 2 sc_created_before.nd)
 (dss_one (ds_append 1 (de_bin (r := rAddA K) op_addA v_add (ke_ixO (K := K) 1 (de_un un_neg v_neg (de_int))) (de_callTy call_int1 v_intOf (by rfl) (mo.free 68) bt_int (da_cons (de_cmp (r := rInA K) (op_inA (room65 hr)) v_in (de_ix (r := rIx K) ix_seq v_ix (de_var 2) (de_int)) (ke_gtup (K := K) (y := "CREATING") (zs := ["enter", "tail"]) (mo.glo 62) mo.more)) (da_nil)))))))
 (dss_one (ds_retO 1)))⟩)) (mo.glo 8) F (fun _ _ _ _ _ _ us hl => match us, hl with | [_], _ => rfl)
abbrev n_stack_after : List Str := ["stack", "event", "created"]
theorem sc_stack_after : FnScope ["stack", "event", "created"] ["stack", "event", "created"] (defScope (top 19)) := ⟨rfl, rfl, rfl, by decide +kernel, rfl, by decide +kernel, by decide +kernel⟩
theorem ok_stack_after (mo : Mo fa fn ex w K mg) : Fd P w K mg base 1 "stack_after" (spP K m_stack_after) := by
  obtain ⟨fd, F⟩ := mo.dfn 9 (d := d_stack_after)
  exact fd_of (fn_den (n := 3) (b := b_stack_after) (mn := [.v, .v, .v]) F sc_stack_after rfl (by decide) [.v, .v, .v] rfl (fun cdv A outer s H E hr => ⟨_, dss_cons (ds_if (mn := [.v, .v, .v]) (dt_cmp (r := rEqD K) (op_eqD hr.units) v_eq (de_ix (r := rIx K) ix_seq v_ix (de_var 1) (de_int)) (de_str)) (dss_one (ds_ret (de_bin (r := rAddA K) op_addA v_add (de_var 0) (de_tup (da_cons (de_var 2) (da_nil)))))) (dss_nil))
 (dss_cons (ds_if (mn := [.v, .v, .v]) (dt_cmp (r := rEqD K) (op_eqD hr.units) v_eq (de_ix (r := rIx K) ix_seq v_ix (de_var 1) (de_int)) (de_str)) (dss_one (ds_ret (de_if (kt_tru (K := K) (de_var 0)) (de_bin (r := rAddA K) op_addA v_add (ke_sl (K := K) (de_var 0) (do_none) (do_some (de_un un_neg v_neg (de_int)))) (de_tup (da_cons (de_var 2) (da_nil)))) (de_non)))) (dss_nil))
 (dss_cons (ds_if (mn := [.v, .v, .v]) (dt_cmp (r := rEqD K) (op_eqD hr.units) v_eq (de_ix (r := rIx K) ix_seq v_ix (de_var 1) (de_int)) (de_str)) (dss_one (ds_ret (de_if ((dw_and (kt_tru (K := K) (de_var 0)) (dw_and1 (dt_cmp (r := rEqD K) (op_eqD hr.units) v_eq (de_ix (r := rIx K) ix_seq v_ix (de_var 0) (de_un un_neg v_neg (de_int))) (de_ix (r := rIx K) ix_seq v_ix (de_var 1) (de_int))))).dt) (ke_sl (K := K) (de_var 0) (do_none) (do_some (de_un un_neg v_neg (de_int)))) (de_non)))) (dss_nil))
 (dss_cons (ds_if (mn := [.v, .v, .v]) (dt_cmp (r := rEqD K) (op_eqD hr.units) v_eq (de_ix (r := rIx K) ix_seq v_ix (de_var 1) (de_int)) (de_str)) (dss_one (ds_ret (de_if (dt_cmp (r := rInA K) (op_inA (room65 hr)) v_in (de_ix (r := rIx K) ix_seq v_ix (de_var 1) (de_int)) (de_var 0)) (ke_sl (K := K) (de_var 0) (do_none) (do_some (de_bin (r := rAddA K) op_addA v_add (ke_index (K := K) (de_var 0) (de_ix (r := rIx K) ix_seq v_ix (de_var 1) (de_int))) (de_int)))) (de_non)))) (dss_nil))
 (dss_one (ds_ret (de_var 0))))))⟩)) (mo.glo 9) F (fun _ _ _ _ _ _ us hl => match us, hl with | [_, _, _], _ => rfl)
abbrev n_is_tail : List Str := ["trace", "event"]
theorem sc_is_tail : FnScope ["trace", "event"] ["trace", "event"] (defScope (top 30)) := ⟨rfl, rfl, rfl, by decide +kernel, rfl, by decide +kernel, by decide +kernel⟩
theorem ok_is_tail (mo : Mo fa fn ex w K mg) : Fd P w K mg base 1 "is_tail" (spP K m_is_tail) := by
  obtain ⟨fd, F⟩ := mo.dfn 17 (d := d_is_tail)
  exact fd_of (fn_den (n := 2) (b := b_is_tail) (mn := [.v, .v]) F sc_is_tail rfl (by decide) [.v, .v] rfl (fun cdv A outer s H E hr => ⟨_, dss_one (ds_ret (de_cmp (r := rEqD K) (op_eqD hr.units) v_eq (de_ix (r := rIx K) ix_seq v_ix (de_ix (r := rIx K) ix_seq v_ix (de_var 0) (de_var 1)) (de_int)) (de_str)))⟩)) (mo.glo 17) F (fun _ _ _ _ _ _ us hl => match us, hl with | [_, _], _ => rfl)
abbrev n_right_side : List Str := ["terms", "bounds", "moment", "number"]
theorem sc_right_side : FnScope ["terms", "bounds", "moment", "number"] ["terms", "bounds"] (defScope (top 41)) := ⟨rfl, rfl, rfl, by decide +kernel, rfl, by decide +kernel, by decide +kernel⟩
theorem ok_right_side (mo : Mo fa fn ex w K mg) : Fd P w K mg base 1 "right_side" (spP K m_right_side) := by
  obtain ⟨fd, F⟩ := mo.dfn 28 (d := d_right_side)
  exact fd_of (fn_den (n := 4) (b := b_right_side) (mn := [.v, .v, .v, .v]) F sc_right_side rfl (by decide) [.v, .v, .v, .v] rfl (fun cdv A outer s H E hr => ⟨_, dss_one (ds_ret (de_callB (r := rMax K) (cr_max rfl) v_maxL (by rfl) (mo.free 72) bt_max (da_cons ((df_lc [("moment", 2), ("number", 3)] sc_right_side.nd (blkOk_by (N := n_right_side) (sc := defScope (top 41)) (by decide +kernel)) ((ki_any (K := K) (de_var 0)).j) (fun _ _ _ _ _ => kg_tup (K := K) (dgs_cons (dg_name 2 sc_right_side.nd) (dgs_cons (dg_name 3 sc_right_side.nd) (dgs_nil)))) (fun _ _ _ _ _ => dts_nil) (fun _ _ _ _ _ => de_if (dt_cmp op_isA v_is (de_var 2) (de_non)) (de_var 3) (de_bin (r := rAddA K) op_addA v_add (de_ix (r := rIx K) ix_seq v_ix (de_var 1) (de_var 2)) (de_var 3)))).val) (da_nil))))⟩)) (mo.glo 28) F (fun _ _ _ _ _ _ us hl => match us, hl with | [_, _], _ => rfl)
abbrev n_down_to_start : List Str := ["moment", "number", "earlier"]
theorem sc_down_to_start : FnScope ["moment", "number", "earlier"] ["moment", "number"] (defScope (top 42)) := ⟨rfl, rfl, rfl, by decide +kernel, rfl, by decide +kernel, by decide +kernel⟩
theorem ok_down_to_start (mo : Mo fa fn ex w K mg) : Fd P w K mg base 1 "down_to_start" (spP K m_down_to_start) := by
  obtain ⟨fd, F⟩ := mo.dfn 29 (d := d_down_to_start)
  exact fd_of (fn_den (n := 3) (b := b_down_to_start) (mn := [.v, .v, .v]) F sc_down_to_start rfl (by decide) [.v, .v, .v] rfl (fun cdv A outer s H E hr => ⟨_, dss_one (ds_ret ((df_lc [("earlier", 2)] sc_down_to_start.nd (blkOk_by (N := n_down_to_start) (sc := defScope (top 42)) (by decide +kernel)) ((di_range3 (mo.free 74) (da_cons (de_bin op_sub v_sub (de_var 0) (de_int)) (da_cons (de_un un_neg v_neg (de_int)) (da_cons (de_un un_neg v_neg (de_int)) (da_nil))))).j) (fun _ _ _ _ _ => dg_name 2 sc_down_to_start.nd) (fun _ _ _ _ _ => dts_nil) (fun _ _ _ _ _ => de_tup (da_cons (de_var 2) (da_cons (de_var 1) (da_cons (de_tup (da_cons (de_str) (da_cons (de_var 2) (da_nil)))) (da_nil)))))).val))⟩)) (mo.glo 29) F (fun _ _ _ _ _ _ us hl => match us, hl with | [_, _], _ => rfl)
abbrev n__law_bag : List Str := ["script", "k", "cell", "seed"]
theorem sc__law_bag : FnScope ["script", "k", "cell", "seed"] ["script", "k"] (defScope (top 48)) := ⟨rfl, rfl, rfl, by decide +kernel, rfl, by decide +kernel, by decide +kernel⟩
theorem ok__law_bag (mo : Mo fa fn ex w K mg) : Fd P w K mg base 1 "_law_bag" (spL K m__law_bag) := by
  obtain ⟨fd, F⟩ := mo.dfn 33 (d := d__law_bag)
  exact fd_of (fn_denL (n := 4) (b := b__law_bag) (mn := [.v, .v, .v, .v]) F sc__law_bag rfl (by decide) [.v, .v, .v, .v] rfl (fun cdv A outer s H E hr => ⟨_, dss_cons (ds_set 2 sc__law_bag.nd (de_int))
 (dss_cons (ds_if (mn := [.v, .v, .v, .v]) (dt_cmp op_lt v_lt (de_var 1) (de_callB (r := rLenK K) k_len k_vlen (by rfl) (mo.free 70) bt_len (da_cons (de_var 0) (da_nil)))) (dss_one (ds_set 2 sc__law_bag.nd (de_bin op_mod v_mod (de_ix (r := rIx K) ix_seq v_ix (de_var 0) (de_var 1)) (de_bin op_pow v_pow (de_int) (de_int))))) (dss_nil))
 (dss_cons (ds_set 3 sc__law_bag.nd (de_bin (r := rAddA K) op_addA v_add (de_int) (de_bin op_mod v_mod (de_bin (r := rAddA K) op_addA v_add (de_bin (r := rAddA K) op_addA v_add (de_bin (r := rAddA K) op_addA v_add (de_bin (r := rMulA K) op_mulA v_mul (de_bin op_mod v_mod (de_var 2) (de_int)) (de_int)) (de_bin (r := rMulA K) op_mulA v_mul (de_bin (r := rMulA K) op_mulA v_mul (de_int) (de_var 1)) (de_var 1))) (de_bin (r := rMulA K) op_mulA v_mul (de_int) (de_var 1))) (de_int)) (de_int))))
 (dss_cons (ds_if (mn := [.v, .v, .v, .v]) (dt_cmp op_lt v_lt (de_var 2) (de_bin op_pow v_pow (de_int) (de_int))) (dss_one (ds_retFN ((df_lst (da_cons (de_int) (da_cons (de_var 3) (da_nil)))).n))) (dss_nil))
 (dss_one (ds_retFN ((df_lst (da_cons (de_var 2) (da_cons (de_var 3) (da_nil)))).n))))))⟩)) (mo.glo 33) F (fun _ _ _ _ _ _ us hl => match us, hl with | [_, _], _ => rfl)
abbrev n__law_take : List Str := ["bag", "many", "found"]
theorem sc__law_take : FnScope ["bag", "many", "found"] ["bag", "many"] (defScope (top 49)) := ⟨rfl, rfl, rfl, by decide +kernel, rfl, by decide +kernel, by decide +kernel⟩
theorem ok__law_take (mo : Mo fa fn ex w K mg) : Fd P w K mg base 1 "_law_take" (spB K m__law_take) := by
  obtain ⟨fd, F⟩ := mo.dfn 34 (d := d__law_take)
  exact fd_of (fn_denB (n := 3) (b := b__law_take) (mn := [.p, .v, .v]) F sc__law_take rfl (by decide) [.p, .v, .v] rfl rfl (fun cdv A outer s H E hr => ⟨_, dss_cons (ds_if (mn := [.p, .v, .v]) (dt_cmp op_gt v_gt (ke_ixO (K := K) 0 (de_int)) (de_int)) (dss_cons (ds_set 2 sc__law_take.nd (de_bin op_mod v_mod (ke_ixO (K := K) 0 (de_int)) (de_var 1)))
 (dss_cons (ds_put 0 (de_bin op_fdiv v_fdiv (ke_ixO (K := K) 0 (de_int)) (de_var 1)) (de_int))
 (dss_one (ds_ret (de_var 2))))) (dss_nil))
 (dss_cons (ds_put 0 (de_bin op_mod v_mod (de_bin (r := rMulA K) op_mulA v_mul (ke_ixO (K := K) 0 (de_int)) (de_int)) (de_int)) (de_int))
 (dss_one (ds_ret (de_bin op_mod v_mod (de_bin op_fdiv v_fdiv (de_bin op_mod v_mod (de_bin (r := rMulA K) op_mulA v_mul (de_bin op_fdiv v_fdiv (ke_ixO (K := K) 0 (de_int)) (de_int)) (de_bin (r := rAddA K) op_addA v_add (de_bin op_mod v_mod (ke_ixO (K := K) 0 (de_int)) (de_int)) (de_int))) (de_int)) (de_int)) (de_var 1)))))⟩)) (mo.glo 34) F (fun _ _ _ _ _ _ us hl => match us, hl with | [_, _], _ => rfl)
abbrev n__law_after : List Str := ["stack", "event", "created", "frame"]
theorem sc__law_after : FnScope ["stack", "event", "created", "frame"] ["stack", "event", "created"] (defScope (top 51)) := ⟨rfl, rfl, rfl, by decide +kernel, rfl, by decide +kernel, by decide +kernel⟩
theorem ok__law_after (mo : Mo fa fn ex w K mg) : Fd P w K mg base 1 "_law_after" (spP K m__law_after) := by
  obtain ⟨fd, F⟩ := mo.dfn 36 (d := d__law_after)
  exact fd_of (fn_den (n := 4) (b := b__law_after) (mn := [.v, .v, .v, .v]) F sc__law_after rfl (by decide) [.v, .v, .v, .v] rfl (fun cdv A outer s H E hr => ⟨_, dss_cons (ds_if (mn := [.v, .v, .v, .v]) (dt_cmp (r := rEqD K) (op_eqD hr.units) v_eq (de_ix (r := rIx K) ix_seq v_ix (de_var 1) (de_int)) (de_str)) (dss_one (ds_ret (de_bin (r := rAddA K) op_addA v_add (de_var 0) (de_tup (da_cons (de_var 2) (da_nil)))))) (dss_nil))
 (dss_cons (ds_if (mn := [.v, .v, .v, .v]) (dt_cmp (r := rEqD K) (op_eqD hr.units) v_eq (de_ix (r := rIx K) ix_seq v_ix (de_var 1) (de_int)) (de_str)) (dss_one (ds_ret (de_var 0))) (dss_nil))
 (dss_cons (ds_if (mn := [.v, .v, .v, .v]) (dt_cmp (r := rEqD K) (op_eqD hr.units) v_eq (de_var 0) (de_tup (da_nil))) (dss_one (ds_ret (de_non))) (dss_nil))
 (dss_cons (ds_if (mn := [.v, .v, .v, .v]) (dt_cmp (r := rEqD K) (op_eqD hr.units) v_eq (de_ix (r := rIx K) ix_seq v_ix (de_var 1) (de_int)) (de_str)) (dss_one (ds_ret (de_bin (r := rAddA K) op_addA v_add (ke_sl (K := K) (de_var 0) (do_none) (do_some (de_un un_neg v_neg (de_int)))) (de_tup (da_cons (de_var 2) (da_nil)))))) (dss_nil))
 (dss_cons (ds_if (mn := [.v, .v, .v, .v]) (dt_cmp (r := rEqD K) (op_eqD hr.units) v_eq (de_ix (r := rIx K) ix_seq v_ix (de_var 1) (de_int)) (de_str)) (dss_one (ds_ret (de_if (dt_cmp (r := rEqD K) (op_eqD hr.units) v_eq (de_ix (r := rIx K) ix_seq v_ix (de_var 0) (de_un un_neg v_neg (de_int))) (de_ix (r := rIx K) ix_seq v_ix (de_var 1) (de_int))) (ke_sl (K := K) (de_var 0) (do_none) (do_some (de_un un_neg v_neg (de_int)))) (de_non)))) (dss_nil))
 (dss_cons (ds_if (mn := [.v, .v, .v, .v]) (dt_cmp (r := rNotInA K) (op_notInA (room65 hr)) v_notIn (de_ix (r := rIx K) ix_seq v_ix (de_var 1) (de_int)) (de_var 0)) (dss_one (ds_ret (de_non))) (dss_nil))
 (dss_one (ds_ret (de_callTy (r := rTupOf K) call_tupF v_tupleOf (by rfl) (mo.free 76) bt_tuple (da_cons ((df_lc [("frame", 3)] sc__law_after.nd (blkOk_by (N := n__law_after) (sc := defScope (top 51)) (by decide +kernel)) ((ki_any (K := K) (de_var 0)).j) (fun _ _ _ _ _ => dg_name 3 sc__law_after.nd) (fun _ _ _ _ _ => dts_one (dt_cmp op_le v_le (de_var 3) (de_ix (r := rIx K) ix_seq v_ix (de_var 1) (de_int)))) (fun _ _ _ _ _ => de_var 3)).val) (da_nil))))))))))⟩)) (mo.glo 36) F (fun _ _ _ _ _ _ us hl => match us, hl with | [_, _, _], _ => rfl)
abbrev n__law_created : List Str := ["trace", "found", "event"]
theorem sc__law_created : FnScope ["trace", "found", "event"] ["trace"] (defScope (top 53)) := ⟨rfl, rfl, rfl, by decide +kernel, rfl, by decide +kernel, by decide +kernel⟩
theorem ok__law_created (mo : Mo fa fn ex w K mg) : Fd P w K mg base 1 "_law_created" (spL K m__law_created) := by
  obtain ⟨fd, F⟩ := mo.dfn 38 (d := d__law_created)
  exact fd_of (fn_denL (n := 3) (b := b__law_created) (mn := [.v, .o, .v]) F sc__law_created rfl (by decide) [.v, .v, .v] rfl (fun cdv A outer s H E hr => ⟨_, dss_cons (ds_setO 1 sc__law_created.nd (df_lst (da_cons (de_int) (da_nil))))
 (dss_cons (ds_for body_own (ki_any (K := K) (de_var 0)) (dg_name 2 sc__law_created.nd)
 (dss_one (ds_append 1 (de_bin (r := rAddA K) op_addA v_add (ke_ixO (K := K) 1 (de_un un_neg v_neg (de_int))) (de_callTy call_int1 v_intOf (by rfl) (mo.free 68) bt_int (da_cons (de_cmp (r := rInA K) (op_inA (room65 hr)) v_in (de_ix (r := rIx K) ix_seq v_ix (de_var 2) (de_int)) (de_tup (da_cons (de_str) (da_cons (de_str) (da_nil))))) (da_nil)))))))
 (dss_one (ds_retO 1)))⟩)) (mo.glo 38) F (fun _ _ _ _ _ _ us hl => match us, hl with | [_], _ => rfl)
abbrev n__law_events : List Str := ["trace", "at", "event"]
theorem sc__law_events : FnScope ["trace", "at", "event"] ["trace"] (defScope (top 54)) := ⟨rfl, rfl, rfl, by decide +kernel, rfl, by decide +kernel, by decide +kernel⟩
theorem ok__law_events (mo : Mo fa fn ex w K mg) : Fd P w K mg base 1 "_law_events" (spP K m__law_events) := by
  obtain ⟨fd, F⟩ := mo.dfn 39 (d := d__law_events)
  exact fd_of (fn_den (n := 3) (b := b__law_events) (mn := [.v, .v, .v]) F sc__law_events rfl (by decide) [.v, .v, .v] rfl (fun cdv A outer s H E hr => ⟨_, dss_one (ds_ret ((df_lc [("at", 1), ("event", 2)] sc__law_events.nd (blkOk_by (N := n__law_events) (sc := defScope (top 54)) (by decide +kernel)) ((ki_enum (K := K) (mo.free 67) (da_cons (de_var 0) (da_nil))).j) (fun _ _ _ _ _ => kg_tup (K := K) (dgs_cons (dg_name 1 sc__law_events.nd) (dgs_cons (dg_name 2 sc__law_events.nd) (dgs_nil)))) (fun _ _ _ _ _ => dts_one (dt_cmp (r := rInA K) (op_inA (room65 hr)) v_in (de_ix (r := rIx K) ix_seq v_ix (de_var 2) (de_int)) (de_tup (da_cons (de_str) (da_cons (de_str) (da_nil)))))) (fun _ _ _ _ _ => de_var 1)).val))⟩)) (mo.glo 39) F (fun _ _ _ _ _ _ us hl => match us, hl with | [_], _ => rfl)
abbrev n__law_clipped : List Str := ["fact"]
theorem sc__law_clipped : FnScope ["fact"] ["fact"] (defScope (top 61)) := ⟨rfl, rfl, rfl, by decide +kernel, rfl, by decide +kernel, by decide +kernel⟩
theorem ok__law_clipped (mo : Mo fa fn ex w K mg) : Fd P w K mg base 1 "_law_clipped" (spP K m__law_clipped) := by
  obtain ⟨fd, F⟩ := mo.dfn 46 (d := d__law_clipped)
  exact fd_of (fn_den (n := 1) (b := b__law_clipped) (mn := [.v]) F sc__law_clipped rfl (by decide) [.v] rfl (fun cdv A outer s H E hr => ⟨_, dss_cons (ds_if (mn := [.v]) (dt_cmp (r := rEqD K) (op_eqD hr.units) v_eq (de_ix (r := rIx K) ix_seq v_ix (de_var 0) (de_int)) (de_str)) (dss_one (ds_ret (de_bin (r := rAddA K) op_addA v_add (ke_sl (K := K) (de_var 0) (do_none) (do_some (de_int))) (de_tup (da_cons (de_callB (call_max2 rfl) v_max2 (by rfl) (mo.free 72) bt_max (da_cons (de_un un_neg v_neg (de_int)) (da_cons (de_callB (call_min2 rfl) v_min2 (by rfl) (mo.free 73) bt_min (da_cons (de_int) (da_cons (de_ix (r := rIx K) ix_seq v_ix (de_var 0) (de_int)) (da_nil)))) (da_nil)))) (da_nil)))))) (dss_nil))
 (dss_one (ds_ret (de_var 0)))⟩)) (mo.glo 46) F (fun _ _ _ _ _ _ us hl => match us, hl with | [_], _ => rfl)
abbrev n_is_event : List Str := ["value", "created"]
theorem sc_is_event : FnScope ["value", "created"] ["value", "created"] (defScope (top 11)) := ⟨rfl, rfl, rfl, by decide +kernel, rfl, by decide +kernel, by decide +kernel⟩
theorem ok_is_event (mo : Mo fa fn ex w K mg) : Fd P w K mg base 2 "is_event" (spP K m_is_event) := by
  have c_is_name := ok_is_name (P := P) (base := base) mo
  have c_is_integer := ok_is_integer (P := P) (base := base) mo
  obtain ⟨fd, F⟩ := mo.dfn 2 (d := d_is_event)
  exact fd_of (fn_den (n := 2) (b := b_is_event) (mn := [.v, .v]) F sc_is_event rfl (by decide) [.v, .v] rfl (fun cdv A outer s H E hr => ⟨_, dss_cons (ds_if (mn := [.v, .v]) ((dw_or (dt_not (kt_tru (K := K) (ke_isi (K := K) (T := "tuple") (by decide) (mo.free 69) (mo.free 76) bt_tuple (de_var 0)))) (dw_or (dt_not (kt_tru (K := K) (de_var 0))) (dw_or1 (dt_not (kt_tru (K := K) (ke_isi (K := K) (T := "str") (by decide) (mo.free 69) (mo.free 75) bt_str (de_ix (r := rIx K) ix_seq v_ix (de_var 0) (de_int)))))))).dt) (dss_one (ds_ret (de_bl))) (dss_nil))
 (dss_cons (ds_if (mn := [.v, .v]) (dt_cmp (r := rEqD K) (op_eqD hr.units) v_eq (de_ix (r := rIx K) ix_seq v_ix (de_var 0) (de_int)) (de_str)) (dss_one (ds_ret (de_cmp (r := rEqD K) (op_eqD hr.units) v_eq (de_callB (r := rLenK K) k_len k_vlen (by rfl) (mo.free 70) bt_len (da_cons (de_var 0) (da_nil))) (de_int)))) (dss_nil))
 (dss_cons (ds_if (mn := [.v, .v]) (dt_cmp (r := rNeD K) (op_neD hr.units) v_ne (de_callB (r := rLenK K) k_len k_vlen (by rfl) (mo.free 70) bt_len (da_cons (de_var 0) (da_nil))) (de_int)) (dss_one (ds_ret (de_bl))) (dss_nil))
 (dss_cons (ds_if (mn := [.v, .v]) (dt_cmp (r := rInA K) (op_inA (room65 hr)) v_in (de_ix (r := rIx K) ix_seq v_ix (de_var 0) (de_int)) (ke_gtup (K := K) (y := "CREATING") (zs := ["enter", "tail"]) (mo.glo 62) mo.more)) (dss_one (ds_ret (de_and (ke_call (K := K) c_is_name (hr.mono (by decide)) body_pass (da_cons (de_ix (r := rIx K) ix_seq v_ix (de_var 0) (de_int)) (da_nil))) (de_one (de_or (de_cmp (r := rEqD K) (op_eqD hr.units) v_eq (de_ix (r := rIx K) ix_seq v_ix (de_var 0) (de_int)) (de_str)) (de_one (de_cmp op_gt v_gt (de_var 1) (de_int)))))))) (dss_nil))
 (dss_one (ds_ret (de_and (de_cmp (r := rInA K) (op_inA (room65 hr)) v_in (de_ix (r := rIx K) ix_seq v_ix (de_var 0) (de_int)) (de_tup (da_cons (de_str) (da_cons (de_str) (da_nil))))) (de_one (ke_call (K := K) c_is_integer (hr.mono (by decide)) body_pass (da_cons (de_ix (r := rIx K) ix_seq v_ix (de_var 0) (de_int)) (da_cons (de_int) (da_cons (de_bin op_sub v_sub (de_var 1) (de_int)) (da_nil))))))))))))⟩)) (mo.glo 2) F (fun _ _ _ _ _ _ us hl => match us, hl with | [_, _], _ => rfl)
abbrev n_with_totals : List Str := ["trace", "numbers", "stack", "created", "found", "moment", "number", "lost"]
theorem sc_with_totals : FnScope ["trace", "numbers", "stack", "created", "found", "moment", "number", "lost"] ["trace", "numbers"] (defScope (top 20)) := ⟨rfl, rfl, rfl, by decide +kernel, rfl, by decide +kernel, by decide +kernel⟩
theorem ok_with_totals (mo : Mo fa fn ex w K mg) : Fd P w K mg base 2 "with_totals" (spP K m_with_totals) := by
  have c_stack_after := ok_stack_after (P := P) (base := base) mo
  obtain ⟨fd, F⟩ := mo.dfn 10 (d := d_with_totals)
  exact fd_of (fn_den (n := 8) (b := b_with_totals) (mn := [.v, .v, .v, .v, .v, .v, .v, .v]) F sc_with_totals rfl (by decide) [.v, .v, .v, .v, .v, .v, .v, .v] rfl (fun cdv A outer s H E hr => ⟨_, dss_cons (ds_par3 2 3 4 sc_with_totals.nd ((de_tup (da_nil)).place) ((de_int).place) ((df_lst (da_nil)).place))
 (dss_cons (ds_for body_own (ki_enum (K := K) (mo.free 67) (da_cons (de_var 1) (da_nil))) (kg_tup (K := K) (dgs_cons (dg_name 5 sc_with_totals.nd) (dgs_cons (dg_name 6 sc_with_totals.nd) (dgs_nil))))
 (dss_cons (ds_set 7 sc_with_totals.nd (de_bin op_sub v_sub (de_var 6) (de_bin op_sub v_sub (de_var 3) (de_callB (r := rLenK K) k_len k_vlen (by rfl) (mo.free 70) bt_len (da_cons (de_var 2) (da_nil))))))
 (dss_cons (ds_if (mn := [.v, .v, .v, .v, .o, .v, .v, .v]) (dt_not (dt_chain op_le v_le op_le v_le (de_int) (de_var 7) (de_callB (r := rLenK K) k_len k_vlen (by rfl) (mo.free 70) bt_len (da_cons (de_var 2) (da_nil))))) (dss_one (ds_ret (de_non))) (dss_nil))
 (dss_cons (ds_append 4 (de_var 7))
 (dss_cons (ds_set 2 sc_with_totals.nd (ke_sl (K := K) (de_var 2) (do_none) (do_some (de_bin op_sub v_sub (de_callB (r := rLenK K) k_len k_vlen (by rfl) (mo.free 70) bt_len (da_cons (de_var 2) (da_nil))) (de_var 7)))))
 (dss_one (ds_if (mn := [.v, .v, .v, .v, .o, .v, .v, .v]) (dt_cmp op_lt v_lt (de_var 5) (de_callB (r := rLenK K) k_len k_vlen (by rfl) (mo.free 70) bt_len (da_cons (de_var 0) (da_nil)))) (dss_cons (ds_set 2 sc_with_totals.nd (ke_call (K := K) c_stack_after (hr.mono (by decide)) body_pass (da_cons (de_var 2) (da_cons (de_ix (r := rIx K) ix_seq v_ix (de_var 0) (de_var 5)) (da_cons (de_var 3) (da_nil))))))
 (dss_cons (ds_aug 3 sc_with_totals.nd iop_add v_addI (de_callTy call_int1 v_intOf (by rfl) (mo.free 68) bt_int (da_cons (de_cmp (r := rInA K) (op_inA (room65 hr)) v_in (de_ix (r := rIx K) ix_seq v_ix (de_ix (r := rIx K) ix_seq v_ix (de_var 0) (de_var 5)) (de_int)) (ke_gtup (K := K) (y := "CREATING") (zs := ["enter", "tail"]) (mo.glo 62) mo.more)) (da_nil))))
 (dss_one (ds_if (mn := [.v, .v, .v, .v, .o, .v, .v, .v]) (dt_cmp op_isA v_is (de_var 2) (de_non)) (dss_one (ds_ret (de_non))) (dss_nil))))) (dss_nil))))))))
 (dss_one (ds_pre [.v, .v, .v, .v, .v, .v, .v, .v] (ds_ret (de_callTy (r := rTupOf K) call_tupF v_tupleOf (by rfl) (mo.free 76) bt_tuple (da_cons (de_var 4) (da_nil)))))))⟩)) (mo.glo 10) F (fun _ _ _ _ _ _ us hl => match us, hl with | [_, _], _ => rfl)
abbrev n_is_moment : List Str := ["trace", "value"]
theorem sc_is_moment : FnScope ["trace", "value"] ["trace", "value"] (defScope (top 23)) := ⟨rfl, rfl, rfl, by decide +kernel, rfl, by decide +kernel, by decide +kernel⟩
theorem ok_is_moment (mo : Mo fa fn ex w K mg) : Fd P w K mg base 2 "is_moment" (spP K m_is_moment) := by
  have c_is_integer := ok_is_integer (P := P) (base := base) mo
  obtain ⟨fd, F⟩ := mo.dfn 11 (d := d_is_moment)
  exact fd_of (fn_den (n := 2) (b := b_is_moment) (mn := [.v, .v]) F sc_is_moment rfl (by decide) [.v, .v] rfl (fun cdv A outer s H E hr => ⟨_, dss_one (ds_ret (ke_call (K := K) c_is_integer (hr.mono (by decide)) body_pass (da_cons (de_var 1) (da_cons (de_int) (da_cons (de_callB (r := rLenK K) k_len k_vlen (by rfl) (mo.free 70) bt_len (da_cons (de_var 0) (da_nil))) (da_nil))))))⟩)) (mo.glo 11) F (fun _ _ _ _ _ _ us hl => match us, hl with | [_, _], _ => rfl)
abbrev n_is_range : List Str := ["low", "high"]
theorem sc_is_range : FnScope ["low", "high"] ["low", "high"] (defScope (top 25)) := ⟨rfl, rfl, rfl, by decide +kernel, rfl, by decide +kernel, by decide +kernel⟩
theorem ok_is_range (mo : Mo fa fn ex w K mg) : Fd P w K mg base 2 "is_range" (spP K m_is_range) := by
  have c_is_integer := ok_is_integer (P := P) (base := base) mo
  obtain ⟨fd, F⟩ := mo.dfn 13 (d := d_is_range)
  exact fd_of (fn_den (n := 2) (b := b_is_range) (mn := [.v, .v]) F sc_is_range rfl (by decide) [.v, .v] rfl (fun cdv A outer s H E hr => ⟨_, dss_one (ds_ret (de_and (ke_call (K := K) c_is_integer (hr.mono (by decide)) body_pass (da_cons (de_var 1) (da_cons (de_int) (da_cons (de_gint (mo.int 60)) (da_nil))))) (de_one (ke_call (K := K) c_is_integer (hr.mono (by decide)) body_pass (da_cons (de_var 0) (da_cons (de_int) (da_cons (de_var 1) (da_nil))))))))⟩)) (mo.glo 13) F (fun _ _ _ _ _ _ us hl => match us, hl with | [_, _], _ => rfl)
abbrev n_tails_between : List Str := ["trace", "first", "last", "event"]
theorem sc_tails_between : FnScope ["trace", "first", "last", "event"] ["trace", "first", "last"] (defScope (top 31)) := ⟨rfl, rfl, rfl, by decide +kernel, rfl, by decide +kernel, by decide +kernel⟩
theorem ok_tails_between (mo : Mo fa fn ex w K mg) : Fd P w K mg base 2 "tails_between" (spP K m_tails_between) := by
  have c_is_tail := ok_is_tail (P := P) (base := base) mo
  obtain ⟨fd, F⟩ := mo.dfn 18 (d := d_tails_between)
  exact fd_of (fn_den (n := 4) (b := b_tails_between) (mn := [.v, .v, .v, .v]) F sc_tails_between rfl (by decide) [.v, .v, .v, .v] rfl (fun cdv A outer s H E hr => ⟨_, dss_one (ds_ret ((df_lc [("event", 3)] sc_tails_between.nd (blkOk_by (N := n_tails_between) (sc := defScope (top 31)) (by decide +kernel)) ((di_range2 (mo.free 74) (da_cons (de_bin (r := rAddA K) op_addA v_add (de_var 1) (de_int)) (da_cons (de_var 2) (da_nil)))).j) (fun _ _ _ _ _ => dg_name 3 sc_tails_between.nd) (fun _ _ _ _ _ => dts_one (kt_tru (K := K) (ke_call (K := K) c_is_tail (hr.mono (by decide)) pass_none (da_cons (de_var 0) (da_cons (de_var 3) (da_nil)))))) (fun _ _ _ _ _ => de_var 3)).val))⟩)) (mo.glo 18) F (fun _ _ _ _ _ _ us hl => match us, hl with | [_, _, _], _ => rfl)
abbrev n_rows_not_deeper : List Str := ["trace", "source", "frame", "moment", "left", "created", "event", "number"]
theorem sc_rows_not_deeper : FnScope ["trace", "source", "frame", "moment", "left", "created", "event", "number"] ["trace", "source", "frame", "moment", "left"] (defScope (top 34)) := ⟨rfl, rfl, rfl, by decide +kernel, rfl, by decide +kernel, by decide +kernel⟩
theorem ok_rows_not_deeper (mo : Mo fa fn ex w K mg) : Fd P w K mg base 2 "rows_not_deeper" (spP K m_rows_not_deeper) := by
  have c_created_before := ok_created_before (P := P) (base := base) mo
  have c_created_at := ok_created_at (P := P) (base := base) mo
  have c_is_tail := ok_is_tail (P := P) (base := base) mo
  obtain ⟨fd, F⟩ := mo.dfn 21 (d := d_rows_not_deeper)
  exact fd_of (fn_den (n := 8) (b := b_rows_not_deeper) (mn := [.v, .v, .v, .v, .v, .v, .v, .v]) F sc_rows_not_deeper rfl (by decide) [.v, .v, .v, .v, .v, .v, .v, .v] rfl (fun cdv A outer s H E hr => ⟨_, dss_cons (ds_par2 5 6 sc_rows_not_deeper.nd (((kf_call (K := K) c_created_before (hr.mono (by decide)) body_pass (da_cons (de_var 0) (da_nil))).val).place) ((de_ix (r := rIx K) ix_seq v_ix (ke_call (K := K) c_created_at (hr.mono (by decide)) body_pass (da_cons (de_var 0) (da_nil))) (de_var 2)).place))
 (dss_cons (ds_set 7 sc_rows_not_deeper.nd (de_bin op_sub v_sub (de_bin op_sub v_sub (de_bin (r := rAddA K) op_addA v_add (de_ix (r := rIx K) ix_seq v_ix (de_var 5) (de_var 6)) (de_int)) (de_callTy call_int1 v_intOf (by rfl) (mo.free 68) bt_int (da_cons (ke_call (K := K) c_is_tail (hr.mono (by decide)) body_pass (da_cons (de_var 0) (da_cons (de_var 6) (da_nil)))) (da_nil)))) (de_ix (r := rIx K) ix_seq v_ix (de_var 5) (de_var 3))))
 (dss_one (ds_ret ((df_lst (da_cons (de_tup (da_cons (de_var 1) (da_cons (de_var 6) (da_cons ((df_lst (da_cons (de_tup (da_cons (de_var 4) (da_cons (de_var 7) (da_nil)))) (da_nil))).val) (da_nil))))) (da_nil))).val))))⟩)) (mo.glo 21) F (fun _ _ _ _ _ _ us hl => match us, hl with | [_, _, _, _, _], _ => rfl)
abbrev n_lowered : List Str := ["trace", "inequalities", "bounds", "lines", "going", "source", "moment", "terms", "number"]
theorem sc_lowered : FnScope ["trace", "inequalities", "bounds", "lines", "going", "source", "moment", "terms", "number"] ["trace", "inequalities"] (defScope (top 43)) := ⟨rfl, rfl, rfl, by decide +kernel, rfl, by decide +kernel, by decide +kernel⟩
theorem ok_lowered (mo : Mo fa fn ex w K mg) : Fd P w K mg base 2 "lowered" (spP K m_lowered) := by
  have c_created_before := ok_created_before (P := P) (base := base) mo
  have c_right_side := ok_right_side (P := P) (base := base) mo
  have c_down_to_start := ok_down_to_start (P := P) (base := base) mo
  obtain ⟨fd, F⟩ := mo.dfn 30 (d := d_lowered)
  exact fd_of (fn_den (n := 9) (b := b_lowered) (mn := [.v, .v, .v, .v, .v, .v, .v, .v, .v]) F sc_lowered rfl (by decide) [.v, .v, .v, .v, .v, .v, .v, .v, .v] rfl (fun cdv A outer s H E hr => ⟨_, dss_cons (ds_par3 2 3 4 sc_lowered.nd (((kf_call (K := K) c_created_before (hr.mono (by decide)) body_pass (da_cons (de_var 0) (da_nil))).f).place) ((df_lst (da_nil)).place) ((de_bl).place))
 (dss_cons (ds_while 1000 body_own (kt_tru (K := K) (de_var 4))
 (dss_cons (ds_set 4 sc_lowered.nd (de_bl))
 (dss_one (ds_for body_own (ki_any (K := K) (de_var 1)) (kg_tup (K := K) (dgs_cons (dg_name 5 sc_lowered.nd) (dgs_cons (dg_name 6 sc_lowered.nd) (dgs_cons (dg_name 7 sc_lowered.nd) (dgs_nil)))))
 (dss_cons (ds_set 8 sc_lowered.nd (de_borrow [.v, .v, .v, .o, .v, .v, .v, .v, .v] (ke_call (K := K) c_right_side (hr.mono (by decide)) body_pass (da_cons (de_var 7) (da_cons (de_var 2) (da_nil))))))
 (dss_one (ds_if (mn := [.v, .v, .o, .o, .v, .v, .v, .v, .v]) (dt_cmp op_lt v_lt (de_var 8) (ke_ixO (K := K) 2 (de_var 6))) (dss_cons (ds_put 2 (de_var 8) (de_var 6))
 (dss_cons (ds_append 3 (de_tup (da_cons (de_var 6) (da_cons (de_var 8) (da_cons (de_var 5) (da_nil))))))
 (dss_cons (ds_set 4 sc_lowered.nd (de_bl))
 (dss_one (ds_if (mn := [.v, .v, .o, .o, .v, .v, .v, .v, .v]) (dt_cmp op_lt v_lt (de_var 8) (de_int)) (dss_one (ds_ret (de_tup (da_cons (de_non) (da_cons ((df_ownCat 3 (ke_call (K := K) c_down_to_start (hr.mono (by decide)) body_pass (da_cons (de_var 6) (da_cons (de_var 8) (da_nil))))).val) (da_nil)))))) (dss_nil)))))) (dss_nil))))))))
 (dss_one (ds_pre [.v, .v, .v, .v, .v, .v, .v, .v, .v] (ds_ret (de_tup (da_cons (de_var 2) (da_cons (de_var 3) (da_nil))))))))⟩)) (mo.glo 30) F (fun _ _ _ _ _ _ us hl => match us, hl with | [_, _], _ => rfl)
abbrev n__law_of : List Str := ["bag", "some"]
theorem sc__law_of : FnScope ["bag", "some"] ["bag", "some"] (defScope (top 50)) := ⟨rfl, rfl, rfl, by decide +kernel, rfl, by decide +kernel, by decide +kernel⟩
theorem ok__law_of (mo : Mo fa fn ex w K mg) : Fd P w K mg base 2 "_law_of" (spB K m__law_of) := by
  have c__law_take := ok__law_take (P := P) (base := base) mo
  obtain ⟨fd, F⟩ := mo.dfn 35 (d := d__law_of)
  exact fd_of (fn_denB (n := 2) (b := b__law_of) (mn := [.p, .v]) F sc__law_of rfl (by decide) [.p, .v] rfl rfl (fun cdv A outer s H E hr => ⟨_, dss_one (ds_retX (dx_ix (r := rIx K) ix_seq v_ix ((de_var 1).x) (dx_bag (K := K) 0 c__law_take (hr.mono (by decide)) body_pass (dxa_cons ((de_callB (r := rLenK K) k_len k_vlen (by rfl) (mo.free 70) bt_len (da_cons (de_var 1) (da_nil))).x) (dxa_nil)))))⟩)) (mo.glo 35) F (fun _ _ _ _ _ _ us hl => match us, hl with | [_, _], _ => rfl)
abbrev n__law_rows : List Str := ["trace", "completion", "stack", "created", "found", "moment", "lost"]
theorem sc__law_rows : FnScope ["trace", "completion", "stack", "created", "found", "moment", "lost"] ["trace", "completion"] (defScope (top 52)) := ⟨rfl, rfl, rfl, by decide +kernel, rfl, by decide +kernel, by decide +kernel⟩
theorem ok__law_rows (mo : Mo fa fn ex w K mg) : Fd P w K mg base 2 "_law_rows" (spP K m__law_rows) := by
  have c__law_after := ok__law_after (P := P) (base := base) mo
  obtain ⟨fd, F⟩ := mo.dfn 37 (d := d__law_rows)
  exact fd_of (fn_den (n := 7) (b := b__law_rows) (mn := [.v, .v, .v, .v, .v, .v, .v]) F sc__law_rows rfl (by decide) [.v, .v, .v, .v, .v, .v, .v] rfl (fun cdv A outer s H E hr => ⟨_, dss_cons (ds_par3 2 3 4 sc__law_rows.nd ((de_tup (da_nil)).place) ((de_int).place) ((df_lst (da_nil)).place))
 (dss_cons (ds_for body_own (ki_enum (K := K) (mo.free 67) (da_cons (de_var 1) (da_nil))) (kg_tup (K := K) (dgs_cons (dg_name 5 sc__law_rows.nd) (dgs_cons (dg_name 6 sc__law_rows.nd) (dgs_nil))))
 (dss_cons (ds_if (mn := [.v, .v, .v, .v, .o, .v, .v]) (dt_cmp op_gt v_gt (de_var 6) (de_callB (r := rLenK K) k_len k_vlen (by rfl) (mo.free 70) bt_len (da_cons (de_var 2) (da_nil)))) (dss_one (ds_ret (de_non))) (dss_nil))
 (dss_cons (ds_set 2 sc__law_rows.nd (ke_sl (K := K) (de_var 2) (do_none) (do_some (de_bin op_sub v_sub (de_callB (r := rLenK K) k_len k_vlen (by rfl) (mo.free 70) bt_len (da_cons (de_var 2) (da_nil))) (de_var 6)))))
 (dss_cons (ds_append 4 (de_var 2))
 (dss_one (ds_if (mn := [.v, .v, .v, .v, .o, .v, .v]) (dt_cmp op_lt v_lt (de_var 5) (de_callB (r := rLenK K) k_len k_vlen (by rfl) (mo.free 70) bt_len (da_cons (de_var 0) (da_nil)))) (dss_cons (ds_set 2 sc__law_rows.nd (ke_call (K := K) c__law_after (hr.mono (by decide)) body_pass (da_cons (de_var 2) (da_cons (de_ix (r := rIx K) ix_seq v_ix (de_var 0) (de_var 5)) (da_cons (de_var 3) (da_nil))))))
 (dss_cons (ds_set 3 sc__law_rows.nd (de_bin (r := rAddA K) op_addA v_add (de_var 3) (de_callTy call_int1 v_intOf (by rfl) (mo.free 68) bt_int (da_cons (de_cmp (r := rInA K) (op_inA (room65 hr)) v_in (de_ix (r := rIx K) ix_seq v_ix (de_ix (r := rIx K) ix_seq v_ix (de_var 0) (de_var 5)) (de_int)) (de_tup (da_cons (de_str) (da_cons (de_str) (da_nil))))) (da_nil)))))
 (dss_one (ds_if (mn := [.v, .v, .v, .v, .o, .v, .v]) (dt_cmp op_isA v_is (de_var 2) (de_non)) (dss_one (ds_ret (de_non))) (dss_nil))))) (dss_nil)))))))
 (dss_one (ds_pre [.v, .v, .v, .v, .v, .v, .v] (ds_ret (de_var 4)))))⟩)) (mo.glo 37) F (fun _ _ _ _ _ _ us hl => match us, hl with | [_, _], _ => rfl)
abbrev n__law_totals : List Str := ["trace", "rows", "many", "stack"]
theorem sc__law_totals : FnScope ["trace", "rows", "many", "stack"] ["trace", "rows"] (defScope (top 55)) := ⟨rfl, rfl, rfl, by decide +kernel, rfl, by decide +kernel, by decide +kernel⟩
theorem ok__law_totals (mo : Mo fa fn ex w K mg) : Fd P w K mg base 2 "_law_totals" (spP K m__law_totals) := by
  have c__law_created := ok__law_created (P := P) (base := base) mo
  obtain ⟨fd, F⟩ := mo.dfn 40 (d := d__law_totals)
  exact fd_of (fn_den (n := 4) (b := b__law_totals) (mn := [.v, .v, .v, .v]) F sc__law_totals rfl (by decide) [.v, .v, .v, .v] rfl (fun cdv A outer s H E hr => ⟨_, dss_one (ds_ret ((df_lc [("many", 2), ("stack", 3)] sc__law_totals.nd (blkOk_by (N := n__law_totals) (sc := defScope (top 55)) (by decide +kernel)) ((ki_zip (K := K) (mo.free 77) (da_cons ((kf_call (K := K) c__law_created (hr.mono (by decide)) body_pass (da_cons (de_var 0) (da_nil))).val) (da_cons (de_var 1) (da_nil)))).j) (fun _ _ _ _ _ => kg_tup (K := K) (dgs_cons (dg_name 2 sc__law_totals.nd) (dgs_cons (dg_name 3 sc__law_totals.nd) (dgs_nil)))) (fun _ _ _ _ _ => dts_nil) (fun _ _ _ _ _ => de_bin op_sub v_sub (de_var 2) (de_callB (r := rLenK K) k_len k_vlen (by rfl) (mo.free 70) bt_len (da_cons (de_var 3) (da_nil))))).val))⟩)) (mo.glo 40) F (fun _ _ _ _ _ _ us hl => match us, hl with | [_, _], _ => rfl)
abbrev n__law_frame_fact : List Str := ["bag", "trace", "word", "places", "frame", "moment"]
theorem sc__law_frame_fact : FnScope ["bag", "trace", "word", "places", "frame", "moment"] ["bag", "trace", "word"] (defScope (top 59)) := ⟨rfl, rfl, rfl, by decide +kernel, rfl, by decide +kernel, by decide +kernel⟩
theorem ok__law_frame_fact (mo : Mo fa fn ex w K mg) : Fd P w K mg base 2 "_law_frame_fact" (spB K m__law_frame_fact) := by
  have c__law_events := ok__law_events (P := P) (base := base) mo
  have c__law_take := ok__law_take (P := P) (base := base) mo
  obtain ⟨fd, F⟩ := mo.dfn 44 (d := d__law_frame_fact)
  exact fd_of (fn_denB (n := 6) (b := b__law_frame_fact) (mn := [.p, .v, .v, .v, .v, .v]) F sc__law_frame_fact rfl (by decide) [.p, .v, .v, .v, .v, .v] rfl rfl (fun cdv A outer s H E hr => ⟨_, dss_cons (ds_set 3 sc__law_frame_fact.nd (ke_call (K := K) c__law_events (hr.mono (by decide)) body_pass (da_cons (de_var 1) (da_nil))))
 (dss_cons (ds_if (mn := [.p, .v, .v, .v, .v, .v]) (dt_cmp (r := rEqD K) (op_eqD hr.units) v_eq (de_var 3) ((df_lst (da_nil)).val)) (dss_one (ds_ret (de_non))) (dss_nil))
 (dss_cons (ds_setX 4 sc__law_frame_fact.nd (dx_bag (K := K) 0 c__law_take (hr.mono (by decide)) body_pass (dxa_cons ((de_callB (r := rLenK K) k_len k_vlen (by rfl) (mo.free 70) bt_len (da_cons (de_var 3) (da_nil))).x) (dxa_nil))))
 (dss_cons (ds_setX 5 sc__law_frame_fact.nd (dx_bin (r := rAddA K) op_addA v_add ((de_bin (r := rAddA K) op_addA v_add (de_ix (r := rIx K) ix_seq v_ix (de_var 3) (de_var 4)) (de_int)).x) (dx_bag (K := K) 0 c__law_take (hr.mono (by decide)) body_pass (dxa_cons ((de_bin op_sub v_sub (de_callB (r := rLenK K) k_len k_vlen (by rfl) (mo.free 70) bt_len (da_cons (de_var 1) (da_nil))) (de_ix (r := rIx K) ix_seq v_ix (de_var 3) (de_var 4))).x) (dxa_nil)))))
 (dss_one (ds_ret (de_tup (da_cons (de_var 2) (da_cons (de_var 4) (da_cons (de_var 5) (da_nil))))))))))⟩)) (mo.glo 44) F (fun _ _ _ _ _ _ us hl => match us, hl with | [_, _, _], _ => rfl)
abbrev n__law_all : List Str := ["trace", "found", "created", "moment", "later", "completion", "stack", "rows", "lost", "left", "after"]
theorem sc__law_all : FnScope ["trace", "found", "created", "moment", "later", "completion", "stack", "rows", "lost", "left", "after"] ["trace"] (defScope (top 63)) := ⟨rfl, rfl, rfl, by decide +kernel, rfl, by decide +kernel, by decide +kernel⟩
theorem ok__law_all (mo : Mo fa fn ex w K mg) : Fd P w K mg base 2 "_law_all" (spP K m__law_all) := by
  have c__law_after := ok__law_after (P := P) (base := base) mo
  obtain ⟨fd, F⟩ := mo.dfn 48 (d := d__law_all)
  exact fd_of (fn_den (n := 11) (b := b__law_all) (mn := [.v, .v, .v, .v, .v, .v, .v, .v, .v, .v, .v]) F sc__law_all rfl (by decide) [.v, .v, .v, .v, .v, .v, .v, .v, .v, .v, .v] rfl (fun cdv A outer s H E hr => ⟨_, dss_cons (ds_par2 1 2 sc__law_all.nd (((df_lst (da_cons (de_tup (da_cons (de_tup (da_nil)) (da_cons (de_tup (da_nil)) (da_cons ((df_lst (da_nil)).val) (da_nil))))) (da_nil))).val).place) ((de_int).place))
 (dss_cons (ds_for body_own (di_range1 (mo.free 74) (da_cons (de_bin (r := rAddA K) op_addA v_add (de_callB (r := rLenK K) k_len k_vlen (by rfl) (mo.free 70) bt_len (da_cons (de_var 0) (da_nil))) (de_int)) (da_nil))) (dg_name 3 sc__law_all.nd)
 (dss_cons (ds_setO 4 sc__law_all.nd (df_lst (da_nil)))
 (dss_cons (ds_for body_own (ki_any (K := K) (de_var 1)) (kg_tup (K := K) (dgs_cons (dg_name 5 sc__law_all.nd) (dgs_cons (dg_name 6 sc__law_all.nd) (dgs_cons (dg_name 7 sc__law_all.nd) (dgs_nil)))))
 (dss_one (ds_for body_own (di_range1 (mo.free 74) (da_cons (de_bin (r := rAddA K) op_addA v_add (de_callB (r := rLenK K) k_len k_vlen (by rfl) (mo.free 70) bt_len (da_cons (de_var 6) (da_nil))) (de_int)) (da_nil))) (dg_name 8 sc__law_all.nd)
 (dss_cons (ds_set 9 sc__law_all.nd (ke_sl (K := K) (de_var 6) (do_none) (do_some (de_bin op_sub v_sub (de_callB (r := rLenK K) k_len k_vlen (by rfl) (mo.free 70) bt_len (da_cons (de_var 6) (da_nil))) (de_var 8)))))
 (dss_cons (ds_set 10 sc__law_all.nd (de_if (dt_cmp op_lt v_lt (de_var 3) (de_callB (r := rLenK K) k_len k_vlen (by rfl) (mo.free 70) bt_len (da_cons (de_var 0) (da_nil)))) (ke_call (K := K) c__law_after (hr.mono (by decide)) body_pass (da_cons (de_var 9) (da_cons (de_ix (r := rIx K) ix_seq v_ix (de_var 0) (de_var 3)) (da_cons (de_var 2) (da_nil))))) (de_var 9)))
 (dss_one (ds_if (mn := [.v, .v, .v, .v, .o, .v, .v, .v, .v, .v, .v]) (dt_cmp op_isNotA v_isNot (de_var 10) (de_non)) (dss_one (ds_append 4 (de_tup (da_cons (de_bin (r := rAddA K) op_addA v_add (de_var 5) (de_tup (da_cons (de_var 8) (da_nil)))) (da_cons (de_var 10) (da_cons (de_bin (r := rAddA K) op_addA v_add (de_var 7) ((df_lst (da_cons (de_var 9) (da_nil))).val)) (da_nil))))))) (dss_nil))))))))
 (dss_cons (ds_pre [.v, .v, .v, .v, .v, .v, .v, .v, .v, .v, .v] (ds_set 1 sc__law_all.nd (de_var 4)))
 (dss_one (ds_if (mn := [.v, .v, .v, .v, .v, .v, .v, .v, .v, .v, .v]) (dt_cmp op_lt v_lt (de_var 3) (de_callB (r := rLenK K) k_len k_vlen (by rfl) (mo.free 70) bt_len (da_cons (de_var 0) (da_nil)))) (dss_one (ds_set 2 sc__law_all.nd (de_bin (r := rAddA K) op_addA v_add (de_var 2) (de_callTy call_int1 v_intOf (by rfl) (mo.free 68) bt_int (da_cons (de_cmp (r := rInA K) (op_inA (room65 hr)) v_in (de_ix (r := rIx K) ix_seq v_ix (de_ix (r := rIx K) ix_seq v_ix (de_var 0) (de_var 3)) (de_int)) (de_tup (da_cons (de_str) (da_cons (de_str) (da_nil))))) (da_nil)))))) (dss_nil)))))))
 (dss_one (ds_ret ((df_lc [("completion", 5), ("stack", 6), ("rows", 7)] sc__law_all.nd (blkOk_by (N := n__law_all) (sc := defScope (top 63)) (by decide +kernel)) ((ki_any (K := K) (de_var 1)).j) (fun _ _ _ _ _ => kg_tup (K := K) (dgs_cons (dg_name 5 sc__law_all.nd) (dgs_cons (dg_name 6 sc__law_all.nd) (dgs_cons (dg_name 7 sc__law_all.nd) (dgs_nil))))) (fun _ _ _ _ _ => dts_nil) (fun _ _ _ _ _ => de_tup (da_cons (de_var 5) (da_cons (de_var 7) (da_nil))))).val))))⟩)) (mo.glo 48) F (fun _ _ _ _ _ _ us hl => match us, hl with | [_], _ => rfl)
abbrev n_are_events : List Str := ["values", "created", "value"]
theorem sc_are_events : FnScope ["values", "created", "value"] ["values"] (defScope (top 12)) := ⟨rfl, rfl, rfl, by decide +kernel, rfl, by decide +kernel, by decide +kernel⟩
theorem ok_are_events (mo : Mo fa fn ex w K mg) : Fd P w K mg base 3 "are_events" (spP K m_are_events) := by
  have c_is_event := ok_is_event (P := P) (base := base) mo
  obtain ⟨fd, F⟩ := mo.dfn 3 (d := d_are_events)
  exact fd_of (fn_den (n := 3) (b := b_are_events) (mn := [.v, .v, .v]) F sc_are_events rfl (by decide) [.v, .v, .v] rfl (fun cdv A outer s H E hr => ⟨_, dss_cons (ds_set 1 sc_are_events.nd (de_int))
 (dss_cons (ds_for body_own (ki_any (K := K) (de_var 0)) (dg_name 2 sc_are_events.nd)
 (dss_cons (ds_if (mn := [.v, .v, .v]) (dt_not (kt_tru (K := K) (ke_call (K := K) c_is_event (hr.mono (by decide)) body_pass (da_cons (de_var 2) (da_cons (de_var 1) (da_nil)))))) (dss_one (ds_ret (de_bl))) (dss_nil))
 (dss_one (ds_aug 1 sc_are_events.nd iop_add v_addI (de_callTy call_int1 v_intOf (by rfl) (mo.free 68) bt_int (da_cons (de_cmp (r := rInA K) (op_inA (room65 hr)) v_in (de_ix (r := rIx K) ix_seq v_ix (de_var 2) (de_int)) (ke_gtup (K := K) (y := "CREATING") (zs := ["enter", "tail"]) (mo.glo 62) mo.more)) (da_nil)))))))
 (dss_one (ds_ret (de_bl))))⟩)) (mo.glo 3) F (fun _ _ _ _ _ _ us hl => match us, hl with | [_], _ => rfl)
abbrev n_is_frame_fact : List Str := ["trace", "value", "index"]
theorem sc_is_frame_fact : FnScope ["trace", "value", "index"] ["trace", "value"] (defScope (top 24)) := ⟨rfl, rfl, rfl, by decide +kernel, rfl, by decide +kernel, by decide +kernel⟩
theorem ok_is_frame_fact (mo : Mo fa fn ex w K mg) : Fd P w K mg base 3 "is_frame_fact" (spP K m_is_frame_fact) := by
  have c_created_at := ok_created_at (P := P) (base := base) mo
  have c_is_integer := ok_is_integer (P := P) (base := base) mo
  have c_is_moment := ok_is_moment (P := P) (base := base) mo
  obtain ⟨fd, F⟩ := mo.dfn 12 (d := d_is_frame_fact)
  exact fd_of (fn_den (n := 3) (b := b_is_frame_fact) (mn := [.v, .v, .v]) F sc_is_frame_fact rfl (by decide) [.v, .v, .v] rfl (fun cdv A outer s H E hr => ⟨_, dss_cons (ds_set 2 sc_is_frame_fact.nd (ke_call (K := K) c_created_at (hr.mono (by decide)) body_pass (da_cons (de_var 0) (da_nil))))
 (dss_cons (ds_if (mn := [.v, .v, .v]) ((dw_or (dt_cmp (r := rNeD K) (op_neD hr.units) v_ne (de_callB (r := rLenK K) k_len k_vlen (by rfl) (mo.free 70) bt_len (da_cons (de_var 1) (da_nil))) (de_int)) (dw_or1 (dt_not (kt_tru (K := K) (ke_call (K := K) c_is_integer (hr.mono (by decide)) body_pass (da_cons (de_ix (r := rIx K) ix_seq v_ix (de_var 1) (de_int)) (da_cons (de_int) (da_cons (de_bin op_sub v_sub (de_callB (r := rLenK K) k_len k_vlen (by rfl) (mo.free 70) bt_len (da_cons (de_var 2) (da_nil))) (de_int)) (da_nil))))))))).dt) (dss_one (ds_ret (de_bl))) (dss_nil))
 (dss_one (ds_ret (de_and (ke_call (K := K) c_is_moment (hr.mono (by decide)) body_pass (da_cons (de_var 0) (da_cons (de_ix (r := rIx K) ix_seq v_ix (de_var 1) (de_int)) (da_nil)))) (de_one (de_cmp op_gt v_gt (de_ix (r := rIx K) ix_seq v_ix (de_var 1) (de_int)) (de_ix (r := rIx K) ix_seq v_ix (de_var 2) (de_ix (r := rIx K) ix_seq v_ix (de_var 1) (de_int)))))))))⟩)) (mo.glo 12) F (fun _ _ _ _ _ _ us hl => match us, hl with | [_, _], _ => rfl)
abbrev n_is_stack_fact : List Str := ["trace", "value", "created", "frame", "one", "other"]
theorem sc_is_stack_fact : FnScope ["trace", "value", "created", "frame", "one", "other"] ["trace", "value"] (defScope (top 26)) := ⟨rfl, rfl, rfl, by decide +kernel, rfl, by decide +kernel, by decide +kernel⟩
theorem ok_is_stack_fact (mo : Mo fa fn ex w K mg) : Fd P w K mg base 3 "is_stack_fact" (spP K m_is_stack_fact) := by
  have c_is_moment := ok_is_moment (P := P) (base := base) mo
  have c_created_before := ok_created_before (P := P) (base := base) mo
  have c_is_integer := ok_is_integer (P := P) (base := base) mo
  obtain ⟨fd, F⟩ := mo.dfn 14 (d := d_is_stack_fact)
  exact fd_of (fn_den (n := 6) (b := b_is_stack_fact) (mn := [.v, .v, .v, .v, .v, .v]) F sc_is_stack_fact rfl (by decide) [.v, .v, .v, .v, .v, .v] rfl (fun cdv A outer s H E hr => ⟨_, dss_cons (ds_if (mn := [.v, .v, .v, .v, .v, .v]) ((dw_or (dt_cmp (r := rNeD K) (op_neD hr.units) v_ne (de_callB (r := rLenK K) k_len k_vlen (by rfl) (mo.free 70) bt_len (da_cons (de_var 1) (da_nil))) (de_int)) (dw_or (dt_not (kt_tru (K := K) (ke_call (K := K) c_is_moment (hr.mono (by decide)) body_pass (da_cons (de_var 0) (da_cons (de_ix (r := rIx K) ix_seq v_ix (de_var 1) (de_int)) (da_nil)))))) (dw_or1 (dt_not (kt_tru (K := K) (ke_isi (K := K) (T := "tuple") (by decide) (mo.free 69) (mo.free 76) bt_tuple (de_ix (r := rIx K) ix_seq v_ix (de_var 1) (de_int)))))))).dt) (dss_one (ds_ret (de_bl))) (dss_nil))
 (dss_cons (ds_set 2 sc_is_stack_fact.nd (de_ix (r := rIx K) ix_seq v_ix ((kf_call (K := K) c_created_before (hr.mono (by decide)) body_pass (da_cons (de_var 0) (da_nil))).val) (de_ix (r := rIx K) ix_seq v_ix (de_var 1) (de_int))))
 (dss_cons (ds_if (mn := [.v, .v, .v, .v, .v, .v]) (dt_not (kt_tru (K := K) (de_callB (r := rAll K) (cr_all rfl) v_all (by rfl) (mo.free 65) bt_all (da_cons ((df_lc [("frame", 3)] sc_is_stack_fact.nd (blkOk_by (N := n_is_stack_fact) (sc := defScope (top 26)) (by decide +kernel)) ((ki_any (K := K) (de_ix (r := rIx K) ix_seq v_ix (de_var 1) (de_int))).j) (fun _ _ _ _ _ => dg_name 3 sc_is_stack_fact.nd) (fun _ _ _ _ _ => dts_nil) (fun _ _ _ _ _ => ke_call (K := K) c_is_integer (hr.mono (by decide)) pass_none (da_cons (de_var 3) (da_cons (de_int) (da_cons (de_bin op_sub v_sub (de_var 2) (de_int)) (da_nil)))))).val) (da_nil))))) (dss_one (ds_ret (de_bl))) (dss_nil))
 (dss_one (ds_ret (de_callB (r := rAll K) (cr_all rfl) v_all (by rfl) (mo.free 65) bt_all (da_cons ((df_lc [("one", 4), ("other", 5)] sc_is_stack_fact.nd (blkOk_by (N := n_is_stack_fact) (sc := defScope (top 26)) (by decide +kernel)) ((ki_zip (K := K) (mo.free 77) (da_cons (de_ix (r := rIx K) ix_seq v_ix (de_var 1) (de_int)) (da_cons (ke_sl (K := K) (de_ix (r := rIx K) ix_seq v_ix (de_var 1) (de_int)) (do_some (de_int)) (do_none)) (da_nil)))).j) (fun _ _ _ _ _ => kg_tup (K := K) (dgs_cons (dg_name 4 sc_is_stack_fact.nd) (dgs_cons (dg_name 5 sc_is_stack_fact.nd) (dgs_nil)))) (fun _ _ _ _ _ => dts_nil) (fun _ _ _ _ _ => de_cmp op_lt v_lt (de_var 4) (de_var 5))).val) (da_nil)))))))⟩)) (mo.glo 14) F (fun _ _ _ _ _ _ us hl => match us, hl with | [_, _], _ => rfl)
abbrev n_rows_active : List Str := ["trace", "source", "frame", "moment", "created", "event", "base", "found", "later"]
theorem sc_rows_active : FnScope ["trace", "source", "frame", "moment", "created", "event", "base", "found", "later"] ["trace", "source", "frame", "moment"] (defScope (top 32)) := ⟨rfl, rfl, rfl, by decide +kernel, rfl, by decide +kernel, by decide +kernel⟩
theorem ok_rows_active (mo : Mo fa fn ex w K mg) : Fd P w K mg base 3 "rows_active" (spP K m_rows_active) := by
  have c_created_before := ok_created_before (P := P) (base := base) mo
  have c_created_at := ok_created_at (P := P) (base := base) mo
  have c_is_tail := ok_is_tail (P := P) (base := base) mo
  have c_tails_between := ok_tails_between (P := P) (base := base) mo
  obtain ⟨fd, F⟩ := mo.dfn 19 (d := d_rows_active)
  exact fd_of (fn_den (n := 9) (b := b_rows_active) (mn := [.v, .v, .v, .v, .v, .v, .v, .v, .v]) F sc_rows_active rfl (by decide) [.v, .v, .v, .v, .v, .v, .v, .v, .v] rfl (fun cdv A outer s H E hr => ⟨_, dss_cons (ds_par2 4 5 sc_rows_active.nd (((kf_call (K := K) c_created_before (hr.mono (by decide)) body_pass (da_cons (de_var 0) (da_nil))).val).place) ((de_ix (r := rIx K) ix_seq v_ix (ke_call (K := K) c_created_at (hr.mono (by decide)) body_pass (da_cons (de_var 0) (da_nil))) (de_var 2)).place))
 (dss_cons (ds_set 6 sc_rows_active.nd (de_bin op_sub v_sub (de_bin (r := rAddA K) op_addA v_add (de_ix (r := rIx K) ix_seq v_ix (de_var 4) (de_var 5)) (de_int)) (de_callTy call_int1 v_intOf (by rfl) (mo.free 68) bt_int (da_cons (ke_call (K := K) c_is_tail (hr.mono (by decide)) body_pass (da_cons (de_var 0) (da_cons (de_var 5) (da_nil)))) (da_nil)))))
 (dss_cons (ds_setO 7 sc_rows_active.nd (df_lst (da_nil)))
 (dss_cons (ds_for body_own (di_range2 (mo.free 74) (da_cons (de_bin (r := rAddA K) op_addA v_add (de_var 5) (de_int)) (da_cons (de_bin (r := rAddA K) op_addA v_add (de_var 3) (de_int)) (da_nil)))) (dg_name 8 sc_rows_active.nd)
 (dss_one (ds_append 7 (de_tup (da_cons (de_var 1) (da_cons (de_var 8) (da_cons ((df_lst (da_cons (de_tup (da_cons (de_var 5) (da_cons (de_bin op_sub v_sub (de_ix (r := rIx K) ix_seq v_ix (de_var 4) (de_var 8)) (de_var 6)) (da_nil)))) (da_nil))).val) (da_nil))))))))
 (dss_cons (ds_for body_own (ki_any (K := K) (ke_call (K := K) c_tails_between (hr.mono (by decide)) body_pass (da_cons (de_var 0) (da_cons (de_var 5) (da_cons (de_var 3) (da_nil)))))) (dg_name 8 sc_rows_active.nd)
 (dss_one (ds_append 7 (de_tup (da_cons (de_var 1) (da_cons (de_var 8) (da_cons ((df_lst (da_cons (de_tup (da_cons (de_var 5) (da_cons (de_bin op_sub v_sub (de_bin op_sub v_sub (de_ix (r := rIx K) ix_seq v_ix (de_var 4) (de_var 8)) (de_var 6)) (de_int)) (da_nil)))) (da_nil))).val) (da_nil))))))))
 (dss_one (ds_pre [.v, .v, .v, .v, .v, .v, .v, .v, .v] (ds_ret (de_var 7))))))))⟩)) (mo.glo 19) F (fun _ _ _ _ _ _ us hl => match us, hl with | [_, _, _, _], _ => rfl)
abbrev n_rows_returned : List Str := ["trace", "source", "frame", "moment", "created", "event", "base", "terms", "later"]
theorem sc_rows_returned : FnScope ["trace", "source", "frame", "moment", "created", "event", "base", "terms", "later"] ["trace", "source", "frame", "moment"] (defScope (top 33)) := ⟨rfl, rfl, rfl, by decide +kernel, rfl, by decide +kernel, by decide +kernel⟩
theorem ok_rows_returned (mo : Mo fa fn ex w K mg) : Fd P w K mg base 3 "rows_returned" (spP K m_rows_returned) := by
  have c_created_before := ok_created_before (P := P) (base := base) mo
  have c_created_at := ok_created_at (P := P) (base := base) mo
  have c_is_tail := ok_is_tail (P := P) (base := base) mo
  have c_tails_between := ok_tails_between (P := P) (base := base) mo
  obtain ⟨fd, F⟩ := mo.dfn 20 (d := d_rows_returned)
  exact fd_of (fn_den (n := 9) (b := b_rows_returned) (mn := [.v, .v, .v, .v, .v, .v, .v, .v, .v]) F sc_rows_returned rfl (by decide) [.v, .v, .v, .v, .v, .v, .v, .v, .v] rfl (fun cdv A outer s H E hr => ⟨_, dss_cons (ds_unp2 4 5 sc_rows_returned.nd (((kf_call (K := K) c_created_before (hr.mono (by decide)) body_pass (da_cons (de_var 0) (da_nil))).val).place) ((de_ix (r := rIx K) ix_seq v_ix (ke_call (K := K) c_created_at (hr.mono (by decide)) body_pass (da_cons (de_var 0) (da_nil))) (de_var 2)).place))
 (dss_cons (ds_set 6 sc_rows_returned.nd (de_bin op_sub v_sub (de_ix (r := rIx K) ix_seq v_ix (de_var 4) (de_var 5)) (de_callTy call_int1 v_intOf (by rfl) (mo.free 68) bt_int (da_cons (ke_call (K := K) c_is_tail (hr.mono (by decide)) body_pass (da_cons (de_var 0) (da_cons (de_var 5) (da_nil)))) (da_nil)))))
 (dss_cons (ds_lcO 7 [("later", 8)] sc_rows_returned.nd (blkOk_by (N := n_rows_returned) (sc := defScope (top 33)) (by decide +kernel)) ((di_range2 (mo.free 74) (da_cons (de_bin (r := rAddA K) op_addA v_add (de_var 5) (de_int)) (da_cons (de_bin (r := rAddA K) op_addA v_add (de_var 3) (de_int)) (da_nil)))).j) (fun _ _ _ _ _ => dg_name 8 sc_rows_returned.nd) (fun _ _ _ _ _ => dts_nil) (fun _ _ _ _ _ => de_tup (da_cons (de_var 8) (da_cons (de_bin op_sub v_sub (de_var 6) (de_ix (r := rIx K) ix_seq v_ix (de_var 4) (de_var 8))) (da_nil)))) (sw_true rfl rfl rfl (by decide +kernel)))
 (dss_cons (ds_ext 7 sc_rows_returned.nd ((df_lc [("later", 8)] sc_rows_returned.nd (blkOk_by (N := n_rows_returned) (sc := defScope (top 33)) (by decide +kernel)) ((ki_any (K := K) (ke_call (K := K) c_tails_between (hr.mono (by decide)) body_pass (da_cons (de_var 0) (da_cons (de_var 5) (da_cons (de_var 3) (da_nil)))))).j) (fun _ _ _ _ _ => dg_name 8 sc_rows_returned.nd) (fun _ _ _ _ _ => dts_nil) (fun _ _ _ _ _ => de_tup (da_cons (de_var 8) (da_cons (de_bin op_sub v_sub (de_bin (r := rAddA K) op_addA v_add (de_var 6) (de_int)) (de_ix (r := rIx K) ix_seq v_ix (de_var 4) (de_var 8))) (da_nil))))).val))
 (dss_one (ds_pre [.v, .v, .v, .v, .v, .v, .v, .v, .v] (ds_ret ((df_lst (da_cons (de_tup (da_cons (de_var 1) (da_cons (de_var 5) (da_cons (de_var 7) (da_nil))))) (da_nil))).val)))))))⟩)) (mo.glo 20) F (fun _ _ _ _ _ _ us hl => match us, hl with | [_, _, _, _], _ => rfl)
abbrev n__law_event : List Str := ["bag", "stack", "created", "most", "name", "some"]
theorem sc__law_event : FnScope ["bag", "stack", "created", "most", "name", "some"] ["bag", "stack", "created", "most"] (defScope (top 56)) := ⟨rfl, rfl, rfl, by decide +kernel, rfl, by decide +kernel, by decide +kernel⟩
theorem ok__law_event (mo : Mo fa fn ex w K mg) : Fd P w K mg base 3 "_law_event" (spB K m__law_event) := by
  have c__law_of := ok__law_of (P := P) (base := base) mo
  obtain ⟨fd, F⟩ := mo.dfn 41 (d := d__law_event)
  exact fd_of (fn_denB (n := 6) (b := b__law_event) (mn := [.p, .v, .v, .v, .v, .v]) F sc__law_event rfl (by decide) [.p, .v, .v, .v, .v, .v] rfl rfl (fun cdv A outer s H E hr => ⟨_, dss_cons (ds_setX 4 sc__law_event.nd (dx_bag (K := K) 0 c__law_of (hr.mono (by decide)) body_pass (dxa_cons (((df_lst (da_cons (de_str) (da_cons (de_str) (da_cons (de_str) (da_cons (de_str) (da_nil)))))).val).x) (dxa_nil))))
 (dss_cons (ds_setO 5 sc__law_event.nd (df_lst (da_cons (de_tup (da_cons (de_str) (da_nil))) (da_nil))))
 (dss_cons (ds_if (mn := [.p, .v, .v, .v, .v, .o]) (dt_cmp op_lt v_lt (de_var 2) (de_var 3)) (dss_one (ds_setO 5 sc__law_event.nd (df_ownCat 5 (de_bin (r := rMulA K) op_mulA v_mul ((df_lst (da_cons (de_tup (da_cons (de_str) (da_cons (de_var 4) (da_nil)))) (da_nil))).val) (de_int))))) (dss_nil))
 (dss_cons (ds_if (mn := [.p, .v, .v, .v, .v, .o]) ((dw_and (dt_cmp (r := rNeD K) (op_neD hr.units) v_ne (de_var 1) (de_tup (da_nil))) (dw_and1 (dt_cmp op_lt v_lt (de_var 2) (de_var 3)))).dt) (dss_one (ds_append 5 (de_tup (da_cons (de_str) (da_cons (de_var 4) (da_nil)))))) (dss_nil))
 (dss_cons (ds_if (mn := [.p, .v, .v, .v, .v, .v]) (dt_cmp (r := rNeD K) (op_neD hr.units) v_ne (de_var 1) (de_tup (da_nil))) (dss_one (ds_pre [.p, .v, .v, .v, .v, .v] (ds_setX 5 sc__law_event.nd (dx_bin (r := rAddA K) op_addA v_add ((de_bin (r := rAddA K) op_addA v_add (de_var 5) (de_bin (r := rMulA K) op_mulA v_mul ((df_lst (da_cons (de_tup (da_cons (de_str) (da_cons (de_ix (r := rIx K) ix_seq v_ix (de_var 1) (de_un un_neg v_neg (de_int))) (da_nil)))) (da_nil))).val) (de_int))).x) (dx_lst (dxa_cons (dx_tup (dxa_cons ((de_str).x) (dxa_cons (dx_bag (K := K) 0 c__law_of (hr.mono (by decide)) body_pass (dxa_cons (((df_callTy (r := rListOf K) k_listOf k_vlistOf (by rfl) (mo.free 71) bt_list (da_cons (de_var 1) (da_nil))).val).x) (dxa_nil))) (dxa_nil)))) (dxa_nil))))))) (dss_post [.p, .v, .v, .v, .v, .o] (dss_nil)))
 (dss_one (ds_retX (dx_bag (K := K) 0 c__law_of (hr.mono (by decide)) body_pass (dxa_cons ((de_var 5).x) (dxa_nil)))))))))⟩)) (mo.glo 41) F (fun _ _ _ _ _ _ us hl => match us, hl with | [_, _, _, _], _ => rfl)
abbrev n__law_holds : List Str := ["trace", "rows", "fact", "totals_so", "gone"]
theorem sc__law_holds : FnScope ["trace", "rows", "fact", "totals_so", "gone"] ["trace", "rows", "fact"] (defScope (top 58)) := ⟨rfl, rfl, rfl, by decide +kernel, rfl, by decide +kernel, by decide +kernel⟩
theorem ok__law_holds (mo : Mo fa fn ex w K mg) : Fd P w K mg base 3 "_law_holds" (spP K m__law_holds) := by
  have c__law_totals := ok__law_totals (P := P) (base := base) mo
  obtain ⟨fd, F⟩ := mo.dfn 43 (d := d__law_holds)
  exact fd_of (fn_den (n := 5) (b := b__law_holds) (mn := [.v, .v, .v, .v, .v]) F sc__law_holds rfl (by decide) [.v, .v, .v, .v, .v] rfl (fun cdv A outer s H E hr => ⟨_, dss_cons (ds_if (mn := [.v, .v, .v, .v, .v]) (dt_cmp (r := rEqD K) (op_eqD hr.units) v_eq (de_ix (r := rIx K) ix_seq v_ix (de_var 2) (de_int)) (de_str)) (dss_one (ds_ret (de_chain op_le v_le op_le v_le (de_ix (r := rIx K) ix_seq v_ix (de_var 2) (de_int)) (de_callB (r := rLenK K) k_len k_vlen (by rfl) (mo.free 70) bt_len (da_cons (de_ix (r := rIx K) ix_seq v_ix (de_var 1) (de_ix (r := rIx K) ix_seq v_ix (de_var 2) (de_int))) (da_nil))) (de_ix (r := rIx K) ix_seq v_ix (de_var 2) (de_int))))) (dss_nil))
 (dss_cons (ds_if (mn := [.v, .v, .v, .v, .v]) (dt_cmp (r := rEqD K) (op_eqD hr.units) v_eq (de_ix (r := rIx K) ix_seq v_ix (de_var 2) (de_int)) (de_str)) (dss_one (ds_ret (de_cmp (r := rInA K) (op_inA (room65 hr)) v_in (de_ix (r := rIx K) ix_seq v_ix (de_var 2) (de_int)) (de_ix (r := rIx K) ix_seq v_ix (de_var 1) (de_ix (r := rIx K) ix_seq v_ix (de_var 2) (de_int)))))) (dss_nil))
 (dss_cons (ds_if (mn := [.v, .v, .v, .v, .v]) (dt_cmp (r := rEqD K) (op_eqD hr.units) v_eq (de_ix (r := rIx K) ix_seq v_ix (de_var 2) (de_int)) (de_str)) (dss_one (ds_ret (de_cmp (r := rNotInA K) (op_notInA (room65 hr)) v_notIn (de_ix (r := rIx K) ix_seq v_ix (de_var 2) (de_int)) (de_ix (r := rIx K) ix_seq v_ix (de_var 1) (de_ix (r := rIx K) ix_seq v_ix (de_var 2) (de_int)))))) (dss_nil))
 (dss_cons (ds_if (mn := [.v, .v, .v, .v, .v]) (dt_cmp (r := rEqD K) (op_eqD hr.units) v_eq (de_ix (r := rIx K) ix_seq v_ix (de_var 2) (de_int)) (de_str)) (dss_one (ds_ret (de_and (de_cmp (r := rNeD K) (op_neD hr.units) v_ne (de_ix (r := rIx K) ix_seq v_ix (de_var 1) (de_ix (r := rIx K) ix_seq v_ix (de_var 2) (de_int))) (de_tup (da_nil))) (de_one (de_cmp (r := rEqD K) (op_eqD hr.units) v_eq (de_ix (r := rIx K) ix_seq v_ix (de_ix (r := rIx K) ix_seq v_ix (de_var 1) (de_ix (r := rIx K) ix_seq v_ix (de_var 2) (de_int))) (de_un un_neg v_neg (de_int))) (de_ix (r := rIx K) ix_seq v_ix (de_var 2) (de_int))))))) (dss_nil))
 (dss_cons (ds_if (mn := [.v, .v, .v, .v, .v]) (dt_cmp (r := rEqD K) (op_eqD hr.units) v_eq (de_ix (r := rIx K) ix_seq v_ix (de_var 2) (de_int)) (de_str)) (dss_one (ds_ret (de_cmp (r := rEqD K) (op_eqD hr.units) v_eq (de_ix (r := rIx K) ix_seq v_ix (de_var 1) (de_ix (r := rIx K) ix_seq v_ix (de_var 2) (de_int))) (de_ix (r := rIx K) ix_seq v_ix (de_var 2) (de_int))))) (dss_nil))
 (dss_cons (ds_if (mn := [.v, .v, .v, .v, .v]) (dt_cmp (r := rEqD K) (op_eqD hr.units) v_eq (de_ix (r := rIx K) ix_seq v_ix (de_var 2) (de_int)) (de_str)) (dss_one (ds_ret (de_cmp op_ge v_ge (de_callB (r := rLenK K) k_len k_vlen (by rfl) (mo.free 70) bt_len (da_cons (de_ix (r := rIx K) ix_seq v_ix (de_var 1) (de_ix (r := rIx K) ix_seq v_ix (de_var 2) (de_int))) (da_nil))) (de_bin (r := rAddA K) op_addA v_add (de_callB (r := rLenK K) k_len k_vlen (by rfl) (mo.free 70) bt_len (da_cons (de_ix (r := rIx K) ix_seq v_ix (de_var 1) (de_ix (r := rIx K) ix_seq v_ix (de_var 2) (de_int))) (da_nil))) (de_ix (r := rIx K) ix_seq v_ix (de_var 2) (de_int)))))) (dss_nil))
 (dss_cons (ds_set 3 sc__law_holds.nd (ke_call (K := K) c__law_totals (hr.mono (by decide)) body_pass (da_cons (de_var 0) (da_cons (de_var 1) (da_nil)))))
 (dss_cons (ds_set 4 sc__law_holds.nd (de_bin op_sub v_sub (de_ix (r := rIx K) ix_seq v_ix (de_var 3) (de_ix (r := rIx K) ix_seq v_ix (de_var 2) (de_int))) (de_ix (r := rIx K) ix_seq v_ix (de_var 3) (de_ix (r := rIx K) ix_seq v_ix (de_var 2) (de_int)))))
 (dss_one (ds_ret (de_chain op_le v_le op_le v_le (de_ix (r := rIx K) ix_seq v_ix (de_var 2) (de_int)) (de_var 4) (de_ix (r := rIx K) ix_seq v_ix (de_var 2) (de_int))))))))))))⟩)) (mo.glo 43) F (fun _ _ _ _ _ _ us hl => match us, hl with | [_, _, _], _ => rfl)
abbrev n__law_best : List Str := ["trace", "good", "choose", "lists", "found", "moment", "some", "completion", "rows", "numbers"]
theorem sc__law_best : FnScope ["trace", "good", "choose", "lists", "found", "moment", "some", "completion", "rows", "numbers"] ["trace", "good", "choose"] (defScope (top 65)) := ⟨rfl, rfl, rfl, by decide +kernel, rfl, by decide +kernel, by decide +kernel⟩
theorem ok__law_best (mo : Mo fa fn ex w K mg) : Fd P w K mg base 3 "_law_best" (spP K m__law_best) := by
  have c__law_totals := ok__law_totals (P := P) (base := base) mo
  obtain ⟨fd, F⟩ := mo.dfn 50 (d := d__law_best)
  exact fd_of (fn_den (n := 10) (b := b__law_best) (mn := [.v, .v, .v, .v, .v, .v, .v, .v, .v, .v]) F sc__law_best rfl (by decide) [.v, .v, .v, .v, .v, .v, .v, .v, .v, .v] rfl (fun cdv A outer s H E hr => ⟨_, dss_cons (ds_par2 3 4 sc__law_best.nd (((df_lc [("completion", 7), ("rows", 8)] sc__law_best.nd (blkOk_by (N := n__law_best) (sc := defScope (top 65)) (by decide +kernel)) ((ki_any (K := K) (de_var 1)).j) (fun _ _ _ _ _ => kg_tup (K := K) (dgs_cons (dg_name 7 sc__law_best.nd) (dgs_cons (dg_name 8 sc__law_best.nd) (dgs_nil)))) (fun _ _ _ _ _ => dts_nil) (fun _ _ _ _ _ => ke_call (K := K) c__law_totals (hr.mono (by decide)) pass_none (da_cons (de_var 0) (da_cons (de_var 8) (da_nil))))).val).place) ((df_lst (da_nil)).place))
 (dss_cons (ds_for body_own (di_range1 (mo.free 74) (da_cons (de_bin (r := rAddA K) op_addA v_add (de_callB (r := rLenK K) k_len k_vlen (by rfl) (mo.free 70) bt_len (da_cons (de_var 0) (da_nil))) (de_int)) (da_nil))) (dg_name 5 sc__law_best.nd)
 (dss_cons (ds_lcV 6 [("numbers", 9)] sc__law_best.nd (blkOk_by (N := n__law_best) (sc := defScope (top 65)) (by decide +kernel)) ((ki_any (K := K) (de_var 3)).j) (fun _ _ _ _ _ => dg_name 9 sc__law_best.nd) (fun _ _ _ _ _ => dts_nil) (fun _ _ _ _ _ => de_ix (r := rIx K) ix_seq v_ix (de_var 9) (de_var 5)) (sw_true rfl rfl rfl (by decide +kernel)))
 (dss_one (ds_append 4 (de_if (dt_cmp (r := rEqD K) (op_eqD hr.units) v_eq (de_var 2) (de_str)) (de_callB (r := rMax K) (cr_max rfl) v_maxL (by rfl) (mo.free 72) bt_max (da_cons (de_var 6) (da_nil))) (de_callB (r := rMin K) (cr_min rfl) v_minL (by rfl) (mo.free 73) bt_min (da_cons (de_var 6) (da_nil))))))))
 (dss_one (ds_pre [.v, .v, .v, .v, .v, .v, .v, .v, .v, .v] (ds_ret (de_var 4)))))⟩)) (mo.glo 50) F (fun _ _ _ _ _ _ us hl => match us, hl with | [_, _, _], _ => rfl)
abbrev n_is_trace : List Str := ["value"]
theorem sc_is_trace : FnScope ["value"] ["value"] (defScope (top 14)) := ⟨rfl, rfl, rfl, by decide +kernel, rfl, by decide +kernel, by decide +kernel⟩
theorem ok_is_trace (mo : Mo fa fn ex w K mg) : Fd P w K mg base 4 "is_trace" (spP K m_is_trace) := by
  have c_are_events := ok_are_events (P := P) (base := base) mo
  have c_fits := ok_fits (P := P) (base := base) mo
  obtain ⟨fd, F⟩ := mo.dfn 5 (d := d_is_trace)
  exact fd_of (fn_den (n := 1) (b := b_is_trace) (mn := [.v]) F sc_is_trace rfl (by decide) [.v] rfl (fun cdv A outer s H E hr => ⟨_, dss_one (ds_ret (de_and (ke_isi (K := K) (T := "tuple") (by decide) (mo.free 69) (mo.free 76) bt_tuple (de_var 0)) (de_and (ke_call (K := K) c_are_events (hr.mono (by decide)) body_pass (da_cons (de_var 0) (da_nil))) (de_one (ke_call (K := K) c_fits (hr.mono (by decide)) body_pass (da_cons (de_var 0) (da_nil)))))))⟩)) (mo.glo 5) F (fun _ _ _ _ _ _ us hl => match us, hl with | [_], _ => rfl)
abbrev n_good_fact : List Str := ["trace", "value"]
theorem sc_good_fact : FnScope ["trace", "value"] ["trace", "value"] (defScope (top 27)) := ⟨rfl, rfl, rfl, by decide +kernel, rfl, by decide +kernel, by decide +kernel⟩
theorem ok_good_fact (mo : Mo fa fn ex w K mg) : Fd P w K mg base 4 "good_fact" (spP K m_good_fact) := by
  have c_is_frame_fact := ok_is_frame_fact (P := P) (base := base) mo
  have c_is_stack_fact := ok_is_stack_fact (P := P) (base := base) mo
  have c_is_moment := ok_is_moment (P := P) (base := base) mo
  have c_is_range := ok_is_range (P := P) (base := base) mo
  have c_is_integer := ok_is_integer (P := P) (base := base) mo
  obtain ⟨fd, F⟩ := mo.dfn 15 (d := d_good_fact)
  exact fd_of (fn_den (n := 2) (b := b_good_fact) (mn := [.v, .v]) F sc_good_fact rfl (by decide) [.v, .v] rfl (fun cdv A outer s H E hr => ⟨_, dss_cons (ds_if (mn := [.v, .v]) ((dw_or (dt_not (kt_tru (K := K) (ke_isi (K := K) (T := "tuple") (by decide) (mo.free 69) (mo.free 76) bt_tuple (de_var 1)))) (dw_or (dt_not (kt_tru (K := K) (de_var 1))) (dw_or1 (dt_not (kt_tru (K := K) (ke_isi (K := K) (T := "str") (by decide) (mo.free 69) (mo.free 75) bt_str (de_ix (r := rIx K) ix_seq v_ix (de_var 1) (de_int)))))))).dt) (dss_one (ds_ret (de_bl))) (dss_nil))
 (dss_cons (ds_if (mn := [.v, .v]) (dt_cmp (r := rInA K) (op_inA (room65 hr)) v_in (de_ix (r := rIx K) ix_seq v_ix (de_var 1) (de_int)) (de_tup (da_cons (de_str) (da_cons (de_str) (da_cons (de_str) (da_nil)))))) (dss_one (ds_ret (ke_call (K := K) c_is_frame_fact (hr.mono (by decide)) body_pass (da_cons (de_var 0) (da_cons (de_var 1) (da_nil)))))) (dss_nil))
 (dss_cons (ds_if (mn := [.v, .v]) (dt_cmp (r := rEqD K) (op_eqD hr.units) v_eq (de_ix (r := rIx K) ix_seq v_ix (de_var 1) (de_int)) (de_str)) (dss_one (ds_ret (ke_call (K := K) c_is_stack_fact (hr.mono (by decide)) body_pass (da_cons (de_var 0) (da_cons (de_var 1) (da_nil)))))) (dss_nil))
 (dss_cons (ds_if (mn := [.v, .v]) (dt_cmp (r := rEqD K) (op_eqD hr.units) v_eq (de_ix (r := rIx K) ix_seq v_ix (de_var 1) (de_int)) (de_str)) (dss_one (ds_ret (de_and (de_cmp (r := rEqD K) (op_eqD hr.units) v_eq (de_callB (r := rLenK K) k_len k_vlen (by rfl) (mo.free 70) bt_len (da_cons (de_var 1) (da_nil))) (de_int)) (de_and (ke_call (K := K) c_is_moment (hr.mono (by decide)) body_pass (da_cons (de_var 0) (da_cons (de_ix (r := rIx K) ix_seq v_ix (de_var 1) (de_int)) (da_nil)))) (de_one (ke_call (K := K) c_is_range (hr.mono (by decide)) body_pass (da_cons (de_ix (r := rIx K) ix_seq v_ix (de_var 1) (de_int)) (da_cons (de_ix (r := rIx K) ix_seq v_ix (de_var 1) (de_int)) (da_nil))))))))) (dss_nil))
 (dss_cons (ds_if (mn := [.v, .v]) (dt_cmp (r := rEqD K) (op_eqD hr.units) v_eq (de_ix (r := rIx K) ix_seq v_ix (de_var 1) (de_int)) (de_str)) (dss_cons (ds_if (mn := [.v, .v]) ((dw_or (dt_cmp (r := rNeD K) (op_neD hr.units) v_ne (de_callB (r := rLenK K) k_len k_vlen (by rfl) (mo.free 70) bt_len (da_cons (de_var 1) (da_nil))) (de_int)) (dw_or (dt_not (kt_tru (K := K) (ke_call (K := K) c_is_moment (hr.mono (by decide)) body_pass (da_cons (de_var 0) (da_cons (de_ix (r := rIx K) ix_seq v_ix (de_var 1) (de_int)) (da_nil)))))) (dw_or1 (dt_not (kt_tru (K := K) (ke_call (K := K) c_is_moment (hr.mono (by decide)) body_pass (da_cons (de_var 0) (da_cons (de_ix (r := rIx K) ix_seq v_ix (de_var 1) (de_int)) (da_nil))))))))).dt) (dss_one (ds_ret (de_bl))) (dss_nil))
 (dss_one (ds_ret (de_and (de_cmp op_lt v_lt (de_ix (r := rIx K) ix_seq v_ix (de_var 1) (de_int)) (de_ix (r := rIx K) ix_seq v_ix (de_var 1) (de_int))) (de_one (ke_call (K := K) c_is_range (hr.mono (by decide)) body_pass (da_cons (de_ix (r := rIx K) ix_seq v_ix (de_var 1) (de_int)) (da_cons (de_ix (r := rIx K) ix_seq v_ix (de_var 1) (de_int)) (da_nil))))))))) (dss_nil))
 (dss_cons (ds_if (mn := [.v, .v]) ((dw_or (dt_cmp (r := rNeD K) (op_neD hr.units) v_ne (de_ix (r := rIx K) ix_seq v_ix (de_var 1) (de_int)) (de_str)) (dw_or (dt_cmp (r := rNeD K) (op_neD hr.units) v_ne (de_callB (r := rLenK K) k_len k_vlen (by rfl) (mo.free 70) bt_len (da_cons (de_var 1) (da_nil))) (de_int)) (dw_or (dt_not (kt_tru (K := K) (ke_call (K := K) c_is_moment (hr.mono (by decide)) body_pass (da_cons (de_var 0) (da_cons (de_ix (r := rIx K) ix_seq v_ix (de_var 1) (de_int)) (da_nil)))))) (dw_or1 (dt_not (kt_tru (K := K) (ke_call (K := K) c_is_moment (hr.mono (by decide)) body_pass (da_cons (de_var 0) (da_cons (de_ix (r := rIx K) ix_seq v_ix (de_var 1) (de_int)) (da_nil)))))))))).dt) (dss_one (ds_ret (de_bl))) (dss_nil))
 (dss_one (ds_ret (de_and (de_cmp (r := rNeD K) (op_neD hr.units) v_ne (de_ix (r := rIx K) ix_seq v_ix (de_var 1) (de_int)) (de_ix (r := rIx K) ix_seq v_ix (de_var 1) (de_int))) (de_one (ke_call (K := K) c_is_integer (hr.mono (by decide)) body_pass (da_cons (de_ix (r := rIx K) ix_seq v_ix (de_var 1) (de_int)) (da_cons (de_un un_neg v_neg (de_gint (mo.int 60))) (da_cons (de_gint (mo.int 60)) (da_nil))))))))))))))⟩)) (mo.glo 15) F (fun _ _ _ _ _ _ us hl => match us, hl with | [_, _], _ => rfl)
abbrev n_rows_innermost : List Str := ["trace", "source", "frame", "moment"]
theorem sc_rows_innermost : FnScope ["trace", "source", "frame", "moment"] ["trace", "source", "frame", "moment"] (defScope (top 35)) := ⟨rfl, rfl, rfl, by decide +kernel, rfl, by decide +kernel, by decide +kernel⟩
theorem ok_rows_innermost (mo : Mo fa fn ex w K mg) : Fd P w K mg base 4 "rows_innermost" (spP K m_rows_innermost) := by
  have c_rows_active := ok_rows_active (P := P) (base := base) mo
  have c_rows_not_deeper := ok_rows_not_deeper (P := P) (base := base) mo
  obtain ⟨fd, F⟩ := mo.dfn 22 (d := d_rows_innermost)
  exact fd_of (fn_den (n := 4) (b := b_rows_innermost) (mn := [.v, .v, .v, .v]) F sc_rows_innermost rfl (by decide) [.v, .v, .v, .v] rfl (fun cdv A outer s H E hr => ⟨_, dss_one (ds_ret (de_bin (r := rAddA K) op_addA v_add (ke_call (K := K) c_rows_active (hr.mono (by decide)) body_pass (da_cons (de_var 0) (da_cons (de_var 1) (da_cons (de_var 2) (da_cons (de_var 3) (da_nil)))))) (ke_call (K := K) c_rows_not_deeper (hr.mono (by decide)) body_pass (da_cons (de_var 0) (da_cons (de_var 1) (da_cons (de_var 2) (da_cons (de_var 3) (da_cons (de_var 3) (da_nil)))))))))⟩)) (mo.glo 22) F (fun _ _ _ _ _ _ us hl => match us, hl with | [_, _, _, _], _ => rfl)
abbrev n_rows_of_stack : List Str := ["trace", "source", "moment", "stack", "found", "frame"]
theorem sc_rows_of_stack : FnScope ["trace", "source", "moment", "stack", "found", "frame"] ["trace", "source", "moment", "stack"] (defScope (top 37)) := ⟨rfl, rfl, rfl, by decide +kernel, rfl, by decide +kernel, by decide +kernel⟩
theorem ok_rows_of_stack (mo : Mo fa fn ex w K mg) : Fd P w K mg base 4 "rows_of_stack" (spP K m_rows_of_stack) := by
  have c_created_before := ok_created_before (P := P) (base := base) mo
  have c_rows_active := ok_rows_active (P := P) (base := base) mo
  have c_rows_returned := ok_rows_returned (P := P) (base := base) mo
  obtain ⟨fd, F⟩ := mo.dfn 24 (d := d_rows_of_stack)
  exact fd_of (fn_den (n := 6) (b := b_rows_of_stack) (mn := [.v, .v, .v, .v, .v, .v]) F sc_rows_of_stack rfl (by decide) [.v, .v, .v, .v, .v, .v] rfl (fun cdv A outer s H E hr => ⟨_, dss_cons (ds_setO 4 sc_rows_of_stack.nd (df_lst (da_nil)))
 (dss_cons (ds_for body_own (di_range1 (mo.free 74) (da_cons (de_ix (r := rIx K) ix_seq v_ix ((kf_call (K := K) c_created_before (hr.mono (by decide)) body_pass (da_cons (de_var 0) (da_nil))).val) (de_var 2)) (da_nil))) (dg_name 5 sc_rows_of_stack.nd)
 (dss_one (ds_if (mn := [.v, .v, .v, .v, .o, .v]) (dt_cmp (r := rInA K) (op_inA (room65 hr)) v_in (de_var 5) (de_var 3)) (dss_one (ds_ext 4 sc_rows_of_stack.nd (ke_call (K := K) c_rows_active (hr.mono (by decide)) body_pass (da_cons (de_var 0) (da_cons (de_var 1) (da_cons (de_var 5) (da_cons (de_var 2) (da_nil)))))))) (dss_one (ds_ext 4 sc_rows_of_stack.nd (ke_call (K := K) c_rows_returned (hr.mono (by decide)) body_pass (da_cons (de_var 0) (da_cons (de_var 1) (da_cons (de_var 5) (da_cons (de_var 2) (da_nil)))))))))))
 (dss_one (ds_pre [.v, .v, .v, .v, .v, .v] (ds_ret (de_var 4)))))⟩)) (mo.glo 24) F (fun _ _ _ _ _ _ us hl => match us, hl with | [_, _, _, _], _ => rfl)
abbrev n__law_run : List Str := ["bag", "events", "most", "trace", "completion", "stack", "created", "turn", "lost", "event"]
theorem sc__law_run : FnScope ["bag", "events", "most", "trace", "completion", "stack", "created", "turn", "lost", "event"] ["bag", "events", "most"] (defScope (top 57)) := ⟨rfl, rfl, rfl, by decide +kernel, rfl, by decide +kernel, by decide +kernel⟩
theorem ok__law_run (mo : Mo fa fn ex w K mg) : Fd P w K mg base 4 "_law_run" (spB K m__law_run) := by
  have c__law_take := ok__law_take (P := P) (base := base) mo
  have c__law_of := ok__law_of (P := P) (base := base) mo
  have c__law_event := ok__law_event (P := P) (base := base) mo
  have c__law_after := ok__law_after (P := P) (base := base) mo
  obtain ⟨fd, F⟩ := mo.dfn 42 (d := d__law_run)
  exact fd_of (fn_denB (n := 10) (b := b__law_run) (mn := [.p, .v, .v, .v, .v, .v, .v, .v, .v, .v]) F sc__law_run rfl (by decide) [.p, .v, .v, .v, .v, .v, .v, .v, .v, .v] rfl rfl (fun cdv A outer s H E hr => ⟨_, dss_cons (ds_unp4 3 4 5 6 sc__law_run.nd ((de_tup (da_nil)).place) ((de_tup (da_nil)).place) ((de_tup (da_nil)).place) ((de_int).place))
 (dss_cons (ds_forX body_own (dix_range1 (mo.free 74) (dxa_cons (dx_bag (K := K) 0 c__law_take (hr.mono (by decide)) body_pass (dxa_cons ((de_bin (r := rAddA K) op_addA v_add (de_var 1) (de_int)).x) (dxa_nil))) (dxa_nil))) (dg_name 7 sc__law_run.nd)
 (dss_cons (ds_setX 8 sc__law_run.nd (dx_callB (call_min2 rfl) v_min2 (by rfl) (mo.free 73) bt_min (dxa_cons ((de_callB (r := rLenK K) k_len k_vlen (by rfl) (mo.free 70) bt_len (da_cons (de_var 5) (da_nil))).x) (dxa_cons (dx_bag (K := K) 0 c__law_of (hr.mono (by decide)) body_pass (dxa_cons (((df_lst (da_cons (de_int) (da_cons (de_int) (da_cons (de_int) (da_cons (de_int) (da_cons (de_int) (da_cons (de_int) (da_cons (de_int) (da_nil))))))))).val).x) (dxa_nil))) (dxa_nil)))))
 (dss_cons (ds_set 5 sc__law_run.nd (ke_sl (K := K) (de_var 5) (do_none) (do_some (de_bin op_sub v_sub (de_callB (r := rLenK K) k_len k_vlen (by rfl) (mo.free 70) bt_len (da_cons (de_var 5) (da_nil))) (de_var 8)))))
 (dss_cons (ds_setX 9 sc__law_run.nd (dx_bag (K := K) 0 c__law_event (hr.mono (by decide)) body_pass (dxa_cons ((de_var 5).x) (dxa_cons ((de_var 6).x) (dxa_cons ((de_var 2).x) (dxa_nil))))))
 (dss_cons (ds_set 5 sc__law_run.nd (ke_call (K := K) c__law_after (hr.mono (by decide)) body_pass (da_cons (de_var 5) (da_cons (de_var 9) (da_cons (de_var 6) (da_nil))))))
 (dss_cons (ds_set 6 sc__law_run.nd (de_bin (r := rAddA K) op_addA v_add (de_var 6) (de_callTy call_int1 v_intOf (by rfl) (mo.free 68) bt_int (da_cons (de_cmp (r := rInA K) (op_inA (room65 hr)) v_in (de_ix (r := rIx K) ix_seq v_ix (de_var 9) (de_int)) (de_tup (da_cons (de_str) (da_cons (de_str) (da_nil))))) (da_nil)))))
 (dss_one (ds_par2 3 4 sc__law_run.nd ((de_bin (r := rAddA K) op_addA v_add (de_var 3) (de_tup (da_cons (de_var 9) (da_nil)))).place) ((de_bin (r := rAddA K) op_addA v_add (de_var 4) (de_tup (da_cons (de_var 8) (da_nil)))).place)))))))))
 (dss_one (ds_retX (dx_tup (dxa_cons ((de_var 3).x) (dxa_cons (dx_bin (r := rAddA K) op_addA v_add ((de_var 4).x) (dx_tup (dxa_cons (dx_bag (K := K) 0 c__law_take (hr.mono (by decide)) body_pass (dxa_cons ((de_bin (r := rAddA K) op_addA v_add (de_callB (r := rLenK K) k_len k_vlen (by rfl) (mo.free 70) bt_len (da_cons (de_var 5) (da_nil))) (de_int)).x) (dxa_nil))) (dxa_nil)))) (dxa_nil)))))))⟩)) (mo.glo 42) F (fun _ _ _ _ _ _ us hl => match us, hl with | [_, _, _], _ => rfl)
abbrev n__law_fact : List Str := ["bag", "trace", "rows", "last", "one", "other", "way", "fact", "low"]
theorem sc__law_fact : FnScope ["bag", "trace", "rows", "last", "one", "other", "way", "fact", "low"] ["bag", "trace", "rows"] (defScope (top 60)) := ⟨rfl, rfl, rfl, by decide +kernel, rfl, by decide +kernel, by decide +kernel⟩
theorem ok__law_fact (mo : Mo fa fn ex w K mg) : Fd P w K mg base 4 "_law_fact" (spB K m__law_fact) := by
  have c__law_take := ok__law_take (P := P) (base := base) mo
  have c__law_frame_fact := ok__law_frame_fact (P := P) (base := base) mo
  have c__law_holds := ok__law_holds (P := P) (base := base) mo
  have c__law_of := ok__law_of (P := P) (base := base) mo
  obtain ⟨fd, F⟩ := mo.dfn 45 (d := d__law_fact)
  exact fd_of (fn_denB (n := 9) (b := b__law_fact) (mn := [.p, .v, .v, .v, .v, .v, .v, .v, .v]) F sc__law_fact rfl (by decide) [.p, .v, .v, .v, .v, .v, .v, .v, .v] rfl rfl (fun cdv A outer s H E hr => ⟨_, dss_cons (ds_set 3 sc__law_fact.nd (de_callB (r := rLenK K) k_len k_vlen (by rfl) (mo.free 70) bt_len (da_cons (de_var 1) (da_nil))))
 (dss_cons (ds_par2X 4 5 sc__law_fact.nd (dx_bag (K := K) 0 c__law_take (hr.mono (by decide)) body_pass (dxa_cons ((de_bin (r := rAddA K) op_addA v_add (de_var 3) (de_int)).x) (dxa_nil))) (dx_bag (K := K) 0 c__law_take (hr.mono (by decide)) body_pass (dxa_cons ((de_bin (r := rAddA K) op_addA v_add (de_var 3) (de_int)).x) (dxa_nil))))
 (dss_cons (ds_setX 6 sc__law_fact.nd (dx_bag (K := K) 0 c__law_take (hr.mono (by decide)) body_pass (dxa_cons ((de_int).x) (dxa_nil))))
 (dss_cons (ds_if (mn := [.p, .v, .v, .v, .v, .v, .v, .v, .v]) (dt_cmp op_lt v_lt (de_var 6) (de_int)) (dss_cons (ds_setX 7 sc__law_fact.nd (dx_bag (K := K) 0 c__law_frame_fact (hr.mono (by decide)) body_pass (dxa_cons ((de_var 1).x) (dxa_cons ((de_ix (r := rIx K) ix_seq v_ix ((df_lst (da_cons (de_str) (da_cons (de_str) (da_cons (de_str) (da_cons (de_str) (da_cons (de_str) (da_cons (de_str) (da_nil)))))))).val) (de_var 6)).x) (dxa_nil)))))
 (dss_cons (ds_ifX (mn := [.p, .v, .v, .v, .v, .v, .v, .v, .v]) ((dxw_and ((dt_cmp op_isNotA v_isNot (de_var 7) (de_non)).x) (dxw_and (dxt_cmp op_gt v_gt (dx_bag (K := K) 0 c__law_take (hr.mono (by decide)) body_pass (dxa_cons ((de_int).x) (dxa_nil))) ((de_int).x)) (dxw_and1 ((dt_not (kt_tru (K := K) (ke_call (K := K) c__law_holds (hr.mono (by decide)) body_pass (da_cons (de_var 1) (da_cons (de_var 2) (da_cons (de_var 7) (da_nil))))))).x)))).dt) (dss_one (ds_retX (dx_tup (dxa_cons (dx_bag (K := K) 0 c__law_of (hr.mono (by decide)) body_pass (dxa_cons (((df_lst (da_cons (de_str) (da_cons (de_str) (da_nil)))).val).x) (dxa_nil))) (dxa_cons ((de_ix (r := rIx K) ix_seq v_ix (de_var 7) (de_int)).x) (dxa_cons ((de_ix (r := rIx K) ix_seq v_ix (de_var 7) (de_int)).x) (dxa_nil))))))) (dss_nil))
 (dss_one (ds_if (mn := [.p, .v, .v, .v, .v, .v, .v, .v, .v]) (dt_cmp op_isNotA v_isNot (de_var 7) (de_non)) (dss_one (ds_ret (de_var 7))) (dss_nil))))) (dss_nil))
 (dss_cons (ds_if (mn := [.p, .v, .v, .v, .v, .v, .v, .v, .v]) (dt_cmp (r := rEqD K) (op_eqD hr.units) v_eq (de_var 6) (de_int)) (dss_one (ds_ret (de_tup (da_cons (de_str) (da_cons (de_var 4) (da_cons (de_ix (r := rIx K) ix_seq v_ix (de_var 2) (de_var 4)) (da_nil))))))) (dss_nil))
 (dss_cons (ds_if (mn := [.p, .v, .v, .v, .v, .v, .v, .v, .v]) ((dw_or (dt_cmp op_lt v_lt (de_var 6) (de_int)) (dw_or1 (dt_cmp (r := rEqD K) (op_eqD hr.units) v_eq (de_var 4) (de_var 5)))).dt) (dss_cons (ds_setX 8 sc__law_fact.nd (dx_callB (call_max2 rfl) v_max2 (by rfl) (mo.free 72) bt_max (dxa_cons ((de_int).x) (dxa_cons (dx_bin op_sub v_sub ((de_callB (r := rLenK K) k_len k_vlen (by rfl) (mo.free 70) bt_len (da_cons (de_ix (r := rIx K) ix_seq v_ix (de_var 2) (de_var 4)) (da_nil))).x) (dx_bag (K := K) 0 c__law_take (hr.mono (by decide)) body_pass (dxa_cons ((de_int).x) (dxa_nil)))) (dxa_nil)))))
 (dss_one (ds_retX (dx_tup (dxa_cons ((de_str).x) (dxa_cons ((de_var 4).x) (dxa_cons ((de_var 8).x) (dxa_cons (dx_callB (call_min2 rfl) v_min2 (by rfl) (mo.free 73) bt_min (dxa_cons ((de_int).x) (dxa_cons (dx_bin (r := rAddA K) op_addA v_add ((de_var 8).x) (dx_bag (K := K) 0 c__law_take (hr.mono (by decide)) body_pass (dxa_cons ((de_int).x) (dxa_nil)))) (dxa_nil)))) (dxa_nil))))))))) (dss_nil))
 (dss_cons (ds_if (mn := [.p, .v, .v, .v, .v, .v, .v, .v, .v]) (dt_cmp (r := rEqD K) (op_eqD hr.units) v_eq (de_var 6) (de_int)) (dss_cons (ds_setX 8 sc__law_fact.nd (dx_bag (K := K) 0 c__law_take (hr.mono (by decide)) body_pass (dxa_cons ((de_int).x) (dxa_nil))))
 (dss_one (ds_retX (dx_tup (dxa_cons ((de_str).x) (dxa_cons ((de_callB (call_min2 rfl) v_min2 (by rfl) (mo.free 73) bt_min (da_cons (de_var 4) (da_cons (de_var 5) (da_nil)))).x) (dxa_cons ((de_callB (call_max2 rfl) v_max2 (by rfl) (mo.free 72) bt_max (da_cons (de_var 4) (da_cons (de_var 5) (da_nil)))).x) (dxa_cons ((de_var 8).x) (dxa_cons (dx_callB (call_min2 rfl) v_min2 (by rfl) (mo.free 73) bt_min (dxa_cons ((de_int).x) (dxa_cons (dx_bin (r := rAddA K) op_addA v_add ((de_var 8).x) (dx_bag (K := K) 0 c__law_take (hr.mono (by decide)) body_pass (dxa_cons ((de_int).x) (dxa_nil)))) (dxa_nil)))) (dxa_nil)))))))))) (dss_nil))
 (dss_one (ds_retX (dx_tup (dxa_cons ((de_str).x) (dxa_cons ((de_var 4).x) (dxa_cons ((de_var 5).x) (dxa_cons (dx_bin op_sub v_sub ((de_bin op_sub v_sub (de_callB (r := rLenK K) k_len k_vlen (by rfl) (mo.free 70) bt_len (da_cons (de_ix (r := rIx K) ix_seq v_ix (de_var 2) (de_var 4)) (da_nil))) (de_callB (r := rLenK K) k_len k_vlen (by rfl) (mo.free 70) bt_len (da_cons (de_ix (r := rIx K) ix_seq v_ix (de_var 2) (de_var 5)) (da_nil)))).x) (dx_bag (K := K) 0 c__law_of (hr.mono (by decide)) body_pass (dxa_cons (((df_lst (da_cons (de_int) (da_cons (de_int) (da_cons (de_int) (da_cons (de_un un_neg v_neg (de_int)) (da_nil)))))).val).x) (dxa_nil)))) (dxa_nil))))))))))))))⟩)) (mo.glo 45) F (fun _ _ _ _ _ _ us hl => match us, hl with | [_, _, _], _ => rfl)
abbrev n__law_good : List Str := ["trace", "every", "facts", "found", "completion", "rows", "fact"]
theorem sc__law_good : FnScope ["trace", "every", "facts", "found", "completion", "rows", "fact"] ["trace", "every", "facts"] (defScope (top 64)) := ⟨rfl, rfl, rfl, by decide +kernel, rfl, by decide +kernel, by decide +kernel⟩
theorem ok__law_good (mo : Mo fa fn ex w K mg) : Fd P w K mg base 4 "_law_good" (spP K m__law_good) := by
  have c__law_holds := ok__law_holds (P := P) (base := base) mo
  obtain ⟨fd, F⟩ := mo.dfn 49 (d := d__law_good)
  exact fd_of (fn_den (n := 7) (b := b__law_good) (mn := [.v, .v, .v, .v, .v, .v, .v]) F sc__law_good rfl (by decide) [.v, .v, .v, .v, .v, .v, .v] rfl (fun cdv A outer s H E hr => ⟨_, dss_cons (ds_setO 3 sc__law_good.nd (df_lst (da_nil)))
 (dss_cons (ds_for body_own (ki_any (K := K) (de_var 1)) (kg_tup (K := K) (dgs_cons (dg_name 4 sc__law_good.nd) (dgs_cons (dg_name 5 sc__law_good.nd) (dgs_nil))))
 (dss_one (ds_if (mn := [.v, .v, .v, .o, .v, .v, .v]) (dt_cmp (r := rEqD K) (op_eqD hr.units) v_eq ((df_lc [("fact", 6)] sc__law_good.nd (blkOk_by (N := n__law_good) (sc := defScope (top 64)) (by decide +kernel)) ((ki_any (K := K) (de_var 2)).j) (fun _ _ _ _ _ => dg_name 6 sc__law_good.nd) (fun _ _ _ _ _ => dts_one (dt_not (kt_tru (K := K) (ke_call (K := K) c__law_holds (hr.mono (by decide)) pass_none (da_cons (de_var 0) (da_cons (de_var 5) (da_cons (de_var 6) (da_nil)))))))) (fun _ _ _ _ _ => de_var 6)).val) ((df_lst (da_nil)).val)) (dss_one (ds_append 3 (de_tup (da_cons (de_var 4) (da_cons (de_var 5) (da_nil)))))) (dss_nil))))
 (dss_one (ds_pre [.v, .v, .v, .v, .v, .v, .v] (ds_ret (de_var 3)))))⟩)) (mo.glo 49) F (fun _ _ _ _ _ _ us hl => match us, hl with | [_, _, _], _ => rfl)
abbrev n_require_trace : List Str := ["trace"]
theorem sc_require_trace : FnScope ["trace"] ["trace"] (defScope (top 15)) := ⟨rfl, rfl, rfl, by decide +kernel, rfl, by decide +kernel, by decide +kernel⟩
theorem ok_require_trace (mo : Mo fa fn ex w K mg) : Fd P w K mg base 5 "require_trace" (spP K m_require_trace) := by
  have c_is_trace := ok_is_trace (P := P) (base := base) mo
  obtain ⟨fd, F⟩ := mo.dfn 6 (d := d_require_trace)
  exact fd_of (fn_den (n := 1) (b := b_require_trace) (mn := [.v]) F sc_require_trace rfl (by decide) [.v] rfl (fun cdv A outer s H E hr => ⟨_, dss_one (ds_if (mn := [.v]) (dt_not (kt_tru (K := K) (ke_call (K := K) c_is_trace (hr.mono (by decide)) body_pass (da_cons (de_var 0) (da_nil))))) (dss_one (ds_raise body_takes (mo.exc 57).1 (mo.glo 54) (mo.exc 57).2.1 (mo.exc 57).2.2.1 (mo.exc 57).2.2.2)) (dss_nil))⟩)) (mo.glo 6) F (fun _ _ _ _ _ _ us hl => match us, hl with | [_], _ => rfl)
abbrev n_require_facts : List Str := ["trace", "facts", "fact"]
theorem sc_require_facts : FnScope ["trace", "facts", "fact"] ["trace", "facts"] (defScope (top 28)) := ⟨rfl, rfl, rfl, by decide +kernel, rfl, by decide +kernel, by decide +kernel⟩
theorem ok_require_facts (mo : Mo fa fn ex w K mg) : Fd P w K mg base 5 "require_facts" (spP K m_require_facts) := by
  have c_good_fact := ok_good_fact (P := P) (base := base) mo
  obtain ⟨fd, F⟩ := mo.dfn 16 (d := d_require_facts)
  exact fd_of (fn_den (n := 3) (b := b_require_facts) (mn := [.v, .v, .v]) F sc_require_facts rfl (by decide) [.v, .v, .v] rfl (fun cdv A outer s H E hr => ⟨_, dss_one (ds_if (mn := [.v, .v, .v]) ((dw_or (dt_not (kt_tru (K := K) (ke_isi (K := K) (T := "tuple") (by decide) (mo.free 69) (mo.free 76) bt_tuple (de_var 1)))) (dw_or (dt_cmp op_gt v_gt (de_callB (r := rLenK K) k_len k_vlen (by rfl) (mo.free 70) bt_len (da_cons (de_var 1) (da_nil))) (de_gint (mo.int 63))) (dw_or1 (dt_not (kt_tru (K := K) (de_callB (r := rAll K) (cr_all rfl) v_all (by rfl) (mo.free 65) bt_all (da_cons ((df_lc [("fact", 2)] sc_require_facts.nd (blkOk_by (N := n_require_facts) (sc := defScope (top 28)) (by decide +kernel)) ((ki_any (K := K) (de_var 1)).j) (fun _ _ _ _ _ => dg_name 2 sc_require_facts.nd) (fun _ _ _ _ _ => dts_nil) (fun _ _ _ _ _ => ke_call (K := K) c_good_fact (hr.mono (by decide)) pass_none (da_cons (de_var 0) (da_cons (de_var 2) (da_nil))))).val) (da_nil)))))))).dt) (dss_one (ds_raise body_takes (mo.exc 58).1 (mo.glo 55) (mo.exc 58).2.1 (mo.exc 58).2.2.1 (mo.exc 58).2.2.2)) (dss_nil))⟩)) (mo.glo 16) F (fun _ _ _ _ _ _ us hl => match us, hl with | [_, _], _ => rfl)
abbrev n_rows_of_event : List Str := ["trace", "moment", "source", "event", "created", "found"]
theorem sc_rows_of_event : FnScope ["trace", "moment", "source", "event", "created", "found"] ["trace", "moment"] (defScope (top 36)) := ⟨rfl, rfl, rfl, by decide +kernel, rfl, by decide +kernel, by decide +kernel⟩
theorem ok_rows_of_event (mo : Mo fa fn ex w K mg) : Fd P w K mg base 5 "rows_of_event" (spP K m_rows_of_event) := by
  have c_created_before := ok_created_before (P := P) (base := base) mo
  have c_rows_innermost := ok_rows_innermost (P := P) (base := base) mo
  have c_rows_active := ok_rows_active (P := P) (base := base) mo
  have c_rows_not_deeper := ok_rows_not_deeper (P := P) (base := base) mo
  obtain ⟨fd, F⟩ := mo.dfn 23 (d := d_rows_of_event)
  exact fd_of (fn_den (n := 6) (b := b_rows_of_event) (mn := [.v, .v, .v, .v, .v, .v]) F sc_rows_of_event rfl (by decide) [.v, .v, .v, .v, .v, .v] rfl (fun cdv A outer s H E hr => ⟨_, dss_cons (ds_par3 2 3 4 sc_rows_of_event.nd ((de_tup (da_cons (de_str) (da_cons (de_var 1) (da_nil)))).place) ((de_ix (r := rIx K) ix_seq v_ix (de_var 0) (de_var 1)).place) (((kf_call (K := K) c_created_before (hr.mono (by decide)) body_pass (da_cons (de_var 0) (da_nil))).val).place))
 (dss_cons (ds_setO 5 sc_rows_of_event.nd (df_lst (da_cons (de_tup (da_cons (de_var 2) (da_cons (de_var 1) (da_cons ((df_lst (da_cons (de_tup (da_cons (de_bin (r := rAddA K) op_addA v_add (de_var 1) (de_int)) (da_cons (de_bin op_sub v_sub (de_int) (de_callTy call_int1 v_intOf (by rfl) (mo.free 68) bt_int (da_cons (de_cmp (r := rInA K) (op_inA (room65 hr)) v_in (de_ix (r := rIx K) ix_seq v_ix (de_var 3) (de_int)) (de_tup (da_cons (de_str) (da_cons (de_str) (da_nil))))) (da_nil)))) (da_nil)))) (da_nil))).val) (da_nil))))) (da_nil))))
 (dss_cons (ds_if (mn := [.v, .v, .v, .v, .v, .o]) (dt_cmp (r := rEqD K) (op_eqD hr.units) v_eq (de_ix (r := rIx K) ix_seq v_ix (de_var 3) (de_int)) (de_str)) (dss_one (ds_append 5 (de_tup (da_cons (de_var 2) (da_cons (de_var 1) (da_cons ((df_lst (da_cons (de_tup (da_cons (de_non) (da_cons (de_bin op_sub v_sub (de_ix (r := rIx K) ix_seq v_ix (de_var 4) (de_var 1)) (de_int)) (da_nil)))) (da_nil))).val) (da_nil))))))) (dss_nil))
 (dss_cons (ds_if (mn := [.v, .v, .v, .v, .v, .o]) (dt_cmp (r := rEqD K) (op_eqD hr.units) v_eq (de_ix (r := rIx K) ix_seq v_ix (de_var 3) (de_int)) (de_str)) (dss_one (ds_ext 5 sc_rows_of_event.nd (ke_call (K := K) c_rows_innermost (hr.mono (by decide)) body_pass (da_cons (de_var 0) (da_cons (de_var 2) (da_cons (de_ix (r := rIx K) ix_seq v_ix (de_var 3) (de_int)) (da_cons (de_var 1) (da_nil)))))))) (dss_nil))
 (dss_cons (ds_if (mn := [.v, .v, .v, .v, .v, .o]) (dt_cmp (r := rEqD K) (op_eqD hr.units) v_eq (de_ix (r := rIx K) ix_seq v_ix (de_var 3) (de_int)) (de_str)) (dss_cons (ds_ext 5 sc_rows_of_event.nd (ke_call (K := K) c_rows_active (hr.mono (by decide)) body_pass (da_cons (de_var 0) (da_cons (de_var 2) (da_cons (de_ix (r := rIx K) ix_seq v_ix (de_var 3) (de_int)) (da_cons (de_var 1) (da_nil)))))))
 (dss_one (ds_ext 5 sc_rows_of_event.nd (ke_call (K := K) c_rows_not_deeper (hr.mono (by decide)) body_pass (da_cons (de_var 0) (da_cons (de_var 2) (da_cons (de_ix (r := rIx K) ix_seq v_ix (de_var 3) (de_int)) (da_cons (de_var 1) (da_cons (de_bin (r := rAddA K) op_addA v_add (de_var 1) (de_int)) (da_nil)))))))))) (dss_nil))
 (dss_one (ds_pre [.v, .v, .v, .v, .v, .v] (ds_ret (de_var 5))))))))⟩)) (mo.glo 23) F (fun _ _ _ _ _ _ us hl => match us, hl with | [_, _], _ => rfl)
abbrev n_rows_of_fact : List Str := ["trace", "source", "fact", "created", "first", "last", "many"]
theorem sc_rows_of_fact : FnScope ["trace", "source", "fact", "created", "first", "last", "many"] ["trace", "source", "fact"] (defScope (top 38)) := ⟨rfl, rfl, rfl, by decide +kernel, rfl, by decide +kernel, by decide +kernel⟩
theorem ok_rows_of_fact (mo : Mo fa fn ex w K mg) : Fd P w K mg base 5 "rows_of_fact" (spP K m_rows_of_fact) := by
  have c_rows_active := ok_rows_active (P := P) (base := base) mo
  have c_rows_returned := ok_rows_returned (P := P) (base := base) mo
  have c_rows_innermost := ok_rows_innermost (P := P) (base := base) mo
  have c_rows_of_stack := ok_rows_of_stack (P := P) (base := base) mo
  have c_created_before := ok_created_before (P := P) (base := base) mo
  obtain ⟨fd, F⟩ := mo.dfn 25 (d := d_rows_of_fact)
  exact fd_of (fn_den (n := 7) (b := b_rows_of_fact) (mn := [.v, .v, .v, .v, .v, .v, .v]) F sc_rows_of_fact rfl (by decide) [.v, .v, .v, .v, .v, .v, .v] rfl (fun cdv A outer s H E hr => ⟨_, dss_cons (ds_if (mn := [.v, .v, .v, .v, .v, .v, .v]) (dt_cmp (r := rEqD K) (op_eqD hr.units) v_eq (de_ix (r := rIx K) ix_seq v_ix (de_var 2) (de_int)) (de_str)) (dss_one (ds_ret (ke_call (K := K) c_rows_active (hr.mono (by decide)) body_pass (da_cons (de_var 0) (da_cons (de_var 1) (da_cons (de_ix (r := rIx K) ix_seq v_ix (de_var 2) (de_int)) (da_cons (de_ix (r := rIx K) ix_seq v_ix (de_var 2) (de_int)) (da_nil)))))))) (dss_nil))
 (dss_cons (ds_if (mn := [.v, .v, .v, .v, .v, .v, .v]) (dt_cmp (r := rEqD K) (op_eqD hr.units) v_eq (de_ix (r := rIx K) ix_seq v_ix (de_var 2) (de_int)) (de_str)) (dss_one (ds_ret (ke_call (K := K) c_rows_returned (hr.mono (by decide)) body_pass (da_cons (de_var 0) (da_cons (de_var 1) (da_cons (de_ix (r := rIx K) ix_seq v_ix (de_var 2) (de_int)) (da_cons (de_ix (r := rIx K) ix_seq v_ix (de_var 2) (de_int)) (da_nil)))))))) (dss_nil))
 (dss_cons (ds_if (mn := [.v, .v, .v, .v, .v, .v, .v]) (dt_cmp (r := rEqD K) (op_eqD hr.units) v_eq (de_ix (r := rIx K) ix_seq v_ix (de_var 2) (de_int)) (de_str)) (dss_one (ds_ret (ke_call (K := K) c_rows_innermost (hr.mono (by decide)) body_pass (da_cons (de_var 0) (da_cons (de_var 1) (da_cons (de_ix (r := rIx K) ix_seq v_ix (de_var 2) (de_int)) (da_cons (de_ix (r := rIx K) ix_seq v_ix (de_var 2) (de_int)) (da_nil)))))))) (dss_nil))
 (dss_cons (ds_if (mn := [.v, .v, .v, .v, .v, .v, .v]) (dt_cmp (r := rEqD K) (op_eqD hr.units) v_eq (de_ix (r := rIx K) ix_seq v_ix (de_var 2) (de_int)) (de_str)) (dss_one (ds_ret (ke_call (K := K) c_rows_of_stack (hr.mono (by decide)) body_pass (da_cons (de_var 0) (da_cons (de_var 1) (da_cons (de_ix (r := rIx K) ix_seq v_ix (de_var 2) (de_int)) (da_cons (de_ix (r := rIx K) ix_seq v_ix (de_var 2) (de_int)) (da_nil)))))))) (dss_nil))
 (dss_cons (ds_par3 3 4 5 sc_rows_of_fact.nd (((kf_call (K := K) c_created_before (hr.mono (by decide)) body_pass (da_cons (de_var 0) (da_nil))).val).place) ((de_ix (r := rIx K) ix_seq v_ix (de_var 2) (de_int)).place) ((de_ix (r := rIx K) ix_seq v_ix (de_var 2) (de_int)).place))
 (dss_cons (ds_if (mn := [.v, .v, .v, .v, .v, .v, .v]) (dt_cmp (r := rEqD K) (op_eqD hr.units) v_eq (de_ix (r := rIx K) ix_seq v_ix (de_var 2) (de_int)) (de_str)) (dss_cons (ds_set 6 sc_rows_of_fact.nd (de_ix (r := rIx K) ix_seq v_ix (de_var 3) (de_var 4)))
 (dss_one (ds_ret ((df_lst (da_cons (de_tup (da_cons (de_var 1) (da_cons (de_var 4) (da_cons ((df_lst (da_cons (de_tup (da_cons (de_non) (da_cons (de_bin op_sub v_sub (de_var 6) (de_ix (r := rIx K) ix_seq v_ix (de_var 2) (de_int))) (da_nil)))) (da_nil))).val) (da_nil))))) (da_cons (de_tup (da_cons (de_var 1) (da_cons (de_int) (da_cons ((df_lst (da_cons (de_tup (da_cons (de_var 4) (da_cons (de_bin op_sub v_sub (de_ix (r := rIx K) ix_seq v_ix (de_var 2) (de_int)) (de_var 6)) (da_nil)))) (da_nil))).val) (da_nil))))) (da_nil)))).val)))) (dss_nil))
 (dss_cons (ds_if (mn := [.v, .v, .v, .v, .v, .v, .v]) (dt_cmp (r := rEqD K) (op_eqD hr.units) v_eq (de_ix (r := rIx K) ix_seq v_ix (de_var 2) (de_int)) (de_str)) (dss_one (ds_ret ((df_lst (da_cons (de_tup (da_cons (de_var 1) (da_cons (de_var 4) (da_cons ((df_lst (da_cons (de_tup (da_cons (de_var 5) (da_cons (de_bin op_sub v_sub (de_bin op_sub v_sub (de_ix (r := rIx K) ix_seq v_ix (de_var 3) (de_var 4)) (de_ix (r := rIx K) ix_seq v_ix (de_var 3) (de_var 5))) (de_ix (r := rIx K) ix_seq v_ix (de_var 2) (de_int))) (da_nil)))) (da_nil))).val) (da_nil))))) (da_nil))).val))) (dss_nil))
 (dss_one (ds_ret ((df_lst (da_cons (de_tup (da_cons (de_var 1) (da_cons (de_var 5) (da_cons ((df_lst (da_cons (de_tup (da_cons (de_var 4) (da_cons (de_ix (r := rIx K) ix_seq v_ix (de_var 2) (de_int)) (da_nil)))) (da_nil))).val) (da_nil))))) (da_cons (de_tup (da_cons (de_var 1) (da_cons (de_var 4) (da_cons ((df_lst (da_cons (de_tup (da_cons (de_var 5) (da_cons (de_bin op_sub v_sub (de_int) (de_ix (r := rIx K) ix_seq v_ix (de_var 2) (de_int))) (da_nil)))) (da_nil))).val) (da_nil))))) (da_nil)))).val)))))))))⟩)) (mo.glo 25) F (fun _ _ _ _ _ _ us hl => match us, hl with | [_, _, _], _ => rfl)
abbrev n__law_some_facts : List Str := ["bag", "trace", "rows", "most", "found", "turn"]
theorem sc__law_some_facts : FnScope ["bag", "trace", "rows", "most", "found", "turn"] ["bag", "trace", "rows", "most"] (defScope (top 62)) := ⟨rfl, rfl, rfl, by decide +kernel, rfl, by decide +kernel, by decide +kernel⟩
theorem ok__law_some_facts (mo : Mo fa fn ex w K mg) : Fd P w K mg base 5 "_law_some_facts" (spB K m__law_some_facts) := by
  have c__law_take := ok__law_take (P := P) (base := base) mo
  have c__law_fact := ok__law_fact (P := P) (base := base) mo
  have c__law_clipped := ok__law_clipped (P := P) (base := base) mo
  obtain ⟨fd, F⟩ := mo.dfn 47 (d := d__law_some_facts)
  exact fd_of (fn_denB (n := 6) (b := b__law_some_facts) (mn := [.p, .v, .v, .v, .v, .v]) F sc__law_some_facts rfl (by decide) [.p, .v, .v, .v, .v, .v] rfl rfl (fun cdv A outer s H E hr => ⟨_, dss_cons (ds_lcX 4 [("turn", 5)] sc__law_some_facts.nd (blkOk_by (N := n__law_some_facts) (sc := defScope (top 62)) (by decide +kernel)) (dix_range1 (mo.free 74) (dxa_cons (dx_bag (K := K) 0 c__law_take (hr.mono (by decide)) body_pass (dxa_cons ((de_bin (r := rAddA K) op_addA v_add (de_var 3) (de_int)).x) (dxa_nil))) (dxa_nil))) (fun _ _ _ _ _ => dg_name 5 sc__law_some_facts.nd) (fun _ _ _ _ _ => dts_nil) (fun _ _ _ _ _ => dx_call (K := K) c__law_clipped (hr.mono (by decide)) pass_none (dxa_cons (dx_bag (K := K) 0 c__law_fact (hr.mono (by decide)) pass_none (dxa_cons ((de_var 1).x) (dxa_cons ((de_var 2).x) (dxa_nil)))) (dxa_nil))) (sw_true rfl rfl rfl (by decide +kernel)))
 (dss_one (ds_ret (de_callTy (r := rTupOf K) call_tupF v_tupleOf (by rfl) (mo.free 76) bt_tuple (da_cons (de_var 4) (da_nil)))))⟩)) (mo.glo 47) F (fun _ _ _ _ _ _ us hl => match us, hl with | [_, _, _, _], _ => rfl)
abbrev n_of_trace : List Str := ["trace", "found", "moment"]
theorem sc_of_trace : FnScope ["trace", "found", "moment"] ["trace"] (defScope (top 39)) := ⟨rfl, rfl, rfl, by decide +kernel, rfl, by decide +kernel, by decide +kernel⟩
theorem ok_of_trace (mo : Mo fa fn ex w K mg) : Fd P w K mg base 6 "of_trace" (spP K m_of_trace) := by
  have c_rows_of_event := ok_rows_of_event (P := P) (base := base) mo
  obtain ⟨fd, F⟩ := mo.dfn 26 (d := d_of_trace)
  exact fd_of (fn_den (n := 3) (b := b_of_trace) (mn := [.v, .v, .v]) F sc_of_trace rfl (by decide) [.v, .v, .v] rfl (fun cdv A outer s H E hr => ⟨_, dss_cons (ds_setO 1 sc_of_trace.nd (df_lst (da_nil)))
 (dss_cons (ds_for body_own (di_range1 (mo.free 74) (da_cons (de_callB (r := rLenK K) k_len k_vlen (by rfl) (mo.free 70) bt_len (da_cons (de_var 0) (da_nil))) (da_nil))) (dg_name 2 sc_of_trace.nd)
 (dss_one (ds_ext 1 sc_of_trace.nd (ke_call (K := K) c_rows_of_event (hr.mono (by decide)) body_pass (da_cons (de_var 0) (da_cons (de_var 2) (da_nil)))))))
 (dss_one (ds_pre [.v, .v, .v] (ds_ret (de_var 1)))))⟩)) (mo.glo 26) F (fun _ _ _ _ _ _ us hl => match us, hl with | [_], _ => rfl)
abbrev n_of_facts : List Str := ["trace", "facts", "found", "index", "fact"]
theorem sc_of_facts : FnScope ["trace", "facts", "found", "index", "fact"] ["trace", "facts"] (defScope (top 40)) := ⟨rfl, rfl, rfl, by decide +kernel, rfl, by decide +kernel, by decide +kernel⟩
theorem ok_of_facts (mo : Mo fa fn ex w K mg) : Fd P w K mg base 6 "of_facts" (spP K m_of_facts) := by
  have c_rows_of_fact := ok_rows_of_fact (P := P) (base := base) mo
  obtain ⟨fd, F⟩ := mo.dfn 27 (d := d_of_facts)
  exact fd_of (fn_den (n := 5) (b := b_of_facts) (mn := [.v, .v, .v, .v, .v]) F sc_of_facts rfl (by decide) [.v, .v, .v, .v, .v] rfl (fun cdv A outer s H E hr => ⟨_, dss_cons (ds_setO 2 sc_of_facts.nd (df_lst (da_nil)))
 (dss_cons (ds_for body_own (ki_enum (K := K) (mo.free 67) (da_cons (de_var 1) (da_nil))) (kg_tup (K := K) (dgs_cons (dg_name 3 sc_of_facts.nd) (dgs_cons (dg_name 4 sc_of_facts.nd) (dgs_nil))))
 (dss_one (ds_ext 2 sc_of_facts.nd (ke_call (K := K) c_rows_of_fact (hr.mono (by decide)) body_pass (da_cons (de_var 0) (da_cons (de_tup (da_cons (de_str) (da_cons (de_var 3) (da_nil)))) (da_cons (de_var 4) (da_nil))))))))
 (dss_one (ds_pre [.v, .v, .v, .v, .v] (ds_ret (de_var 2)))))⟩)) (mo.glo 27) F (fun _ _ _ _ _ _ us hl => match us, hl with | [_, _], _ => rfl)
abbrev n_most_of : List Str := ["trace", "facts", "bounds"]
theorem sc_most_of : FnScope ["trace", "facts", "bounds"] ["trace", "facts"] (defScope (top 45)) := ⟨rfl, rfl, rfl, by decide +kernel, rfl, by decide +kernel, by decide +kernel⟩
theorem ok_most_of (mo : Mo fa fn ex w K mg) : Fd P w K mg base 7 "most_of" (spP K m_most_of) := by
  have c_of_trace := ok_of_trace (P := P) (base := base) mo
  have c_of_facts := ok_of_facts (P := P) (base := base) mo
  have c_lowered := ok_lowered (P := P) (base := base) mo
  have c_with_totals := ok_with_totals (P := P) (base := base) mo
  obtain ⟨fd, F⟩ := mo.dfn 31 (d := d_most_of)
  exact fd_of (fn_den (n := 3) (b := b_most_of) (mn := [.v, .v, .v]) F sc_most_of rfl (by decide) [.v, .v, .v] rfl (fun cdv A outer s H E hr => ⟨_, dss_cons (ds_set 2 sc_most_of.nd (de_ix (r := rIx K) ix_seq v_ix (ke_call (K := K) c_lowered (hr.mono (by decide)) body_pass (da_cons (de_var 0) (da_cons (de_bin (r := rAddA K) op_addA v_add (ke_call (K := K) c_of_trace (hr.mono (by decide)) body_pass (da_cons (de_var 0) (da_nil))) (ke_call (K := K) c_of_facts (hr.mono (by decide)) body_pass (da_cons (de_var 0) (da_cons (de_var 1) (da_nil))))) (da_nil)))) (de_int)))
 (dss_one (ds_ret (de_if (dt_cmp op_isA v_is (de_var 2) (de_non)) (de_non) (ke_call (K := K) c_with_totals (hr.mono (by decide)) body_pass (da_cons (de_var 0) (da_cons (de_var 2) (da_nil)))))))⟩)) (mo.glo 31) F (fun _ _ _ _ _ _ us hl => match us, hl with | [_, _], _ => rfl)
abbrev n_most_returned : List Str := ["trace", "facts"]
theorem sc_most_returned : FnScope ["trace", "facts"] ["trace", "facts"] (defScope (top 46)) := ⟨rfl, rfl, rfl, by decide +kernel, rfl, by decide +kernel, by decide +kernel⟩
theorem ok_most_returned (mo : Mo fa fn ex w K mg) : Fd P w K mg base 8 "most_returned" (spP K m_most_returned) := by
  have c_require_trace := ok_require_trace (P := P) (base := base) mo
  have c_require_facts := ok_require_facts (P := P) (base := base) mo
  have c_most_of := ok_most_of (P := P) (base := base) mo
  obtain ⟨fd, F⟩ := mo.dfn 32 (d := d_most_returned)
  exact fd_of (fn_den (n := 2) (b := b_most_returned) (mn := [.v, .v]) F sc_most_returned rfl (by decide) [.v, .v] rfl (fun cdv A outer s H E hr => ⟨_, dss_cons (ds_expr (ke_call (K := K) c_require_trace (hr.mono (by decide)) body_pass (da_cons (de_var 0) (da_nil))))
 (dss_cons (ds_expr (ke_call (K := K) c_require_facts (hr.mono (by decide)) body_pass (da_cons (de_var 0) (da_cons (de_var 1) (da_nil)))))
 (dss_one (ds_ret (ke_call (K := K) c_most_of (hr.mono (by decide)) body_pass (da_cons (de_var 0) (da_cons (de_var 1) (da_nil)))))))⟩)) (mo.glo 32) F (fun _ _ _ _ _ _ us hl => match us, hl with | [_, _], _ => rfl)
abbrev n__law_right : List Str := ["trace", "every", "facts", "good", "told", "row"]
theorem sc__law_right : FnScope ["trace", "every", "facts", "good", "told", "row"] ["trace", "every", "facts"] (defScope (top 66)) := ⟨rfl, rfl, rfl, by decide +kernel, rfl, by decide +kernel, by decide +kernel⟩
theorem ok__law_right (mo : Mo fa fn ex w K mg) : Fd P w K mg base 9 "_law_right" (spP K m__law_right) := by
  have c__law_good := ok__law_good (P := P) (base := base) mo
  have c_most_returned := ok_most_returned (P := P) (base := base) mo
  have c__law_rows := ok__law_rows (P := P) (base := base) mo
  have c__law_totals := ok__law_totals (P := P) (base := base) mo
  have c__law_best := ok__law_best (P := P) (base := base) mo
  obtain ⟨fd, F⟩ := mo.dfn 51 (d := d__law_right)
  exact fd_of (fn_den (n := 6) (b := b__law_right) (mn := [.v, .v, .v, .v, .v, .v]) F sc__law_right rfl (by decide) [.v, .v, .v, .v, .v, .v] rfl (fun cdv A outer s H E hr => ⟨_, dss_cons (ds_set 3 sc__law_right.nd (ke_call (K := K) c__law_good (hr.mono (by decide)) body_pass (da_cons (de_var 0) (da_cons (de_var 1) (da_cons (de_var 2) (da_nil))))))
 (dss_cons (ds_set 4 sc__law_right.nd (ke_call (K := K) c_most_returned (hr.mono (by decide)) body_pass (da_cons (de_var 0) (da_cons (de_var 2) (da_nil)))))
 (dss_cons (ds_if (mn := [.v, .v, .v, .v, .v, .v]) (dt_cmp (r := rEqD K) (op_eqD hr.units) v_eq (de_var 3) ((df_lst (da_nil)).val)) (dss_one (ds_ret (de_cmp op_isA v_is (de_var 4) (de_non)))) (dss_nil))
 (dss_cons (ds_if (mn := [.v, .v, .v, .v, .v, .v]) (dt_cmp (r := rNotInA K) (op_notInA (room65 hr)) v_notIn (de_var 4) ((df_lc [("row", 5)] sc__law_right.nd (blkOk_by (N := n__law_right) (sc := defScope (top 66)) (by decide +kernel)) ((ki_any (K := K) (de_var 3)).j) (fun _ _ _ _ _ => dg_name 5 sc__law_right.nd) (fun _ _ _ _ _ => dts_nil) (fun _ _ _ _ _ => de_ix (r := rIx K) ix_seq v_ix (de_var 5) (de_int))).val)) (dss_one (ds_ret (de_bl))) (dss_nil))
 (dss_one (ds_ret (de_cmp (r := rEqD K) (op_eqD hr.units) v_eq (ke_call (K := K) c__law_totals (hr.mono (by decide)) body_pass (da_cons (de_var 0) (da_cons (ke_call (K := K) c__law_rows (hr.mono (by decide)) body_pass (da_cons (de_var 0) (da_cons (de_var 4) (da_nil)))) (da_nil)))) (ke_call (K := K) c__law_best (hr.mono (by decide)) body_pass (da_cons (de_var 0) (da_cons (de_var 3) (da_cons (de_str) (da_nil)))))))))))⟩)) (mo.glo 51) F (fun _ _ _ _ _ _ us hl => match us, hl with | [_, _, _], _ => rfl)
abbrev n_law : List Str := ["script", "k", "bag", "turn", "trace", "completion", "every", "rows", "ask", "facts"]
theorem sc_law : FnScope ["script", "k", "bag", "turn", "trace", "completion", "every", "rows", "ask", "facts"] ["script"] (defScope (top 67)) := ⟨rfl, rfl, rfl, by decide +kernel, rfl, by decide +kernel, by decide +kernel⟩
theorem end_law (mo : Mo fa fn ex w K mg) : ∃ fd, FunD K d_law.name d_law.qual d_law.params d_law.body d_law.scope (d_law.dvs K) (d_law.kws K) (He.fAd K d_law.at_) fd ∧ ∀ base : Heap, FnOk P w K mg base (L2.CX P w) 10 (He.fAd K d_law.at_) fd ["script"] (spP K m_law) := by
  obtain ⟨fd, F⟩ := mo.dfn 52 (d := d_law)
  refine ⟨fd, F, fun base => ?_⟩
  have c__law_bag := ok__law_bag (P := P) (base := base) mo
  have c__law_run := ok__law_run (P := P) (base := base) mo
  have c__law_all := ok__law_all (P := P) (base := base) mo
  have c__law_rows := ok__law_rows (P := P) (base := base) mo
  have c__law_right := ok__law_right (P := P) (base := base) mo
  have c__law_of := ok__law_of (P := P) (base := base) mo
  have c__law_some_facts := ok__law_some_facts (P := P) (base := base) mo
  have c_most_returned := ok_most_returned (P := P) (base := base) mo
  exact fn_den (n := 10) (b := b_law) (mn := [.v, .v, .v, .v, .v, .v, .v, .v, .v, .v]) F sc_law rfl (by decide) [.v, .v, .v, .v, .v, .v, .v, .v, .v, .v] rfl (fun cdv A outer s H E hr => ⟨_, dss_cons (ds_for body_own (di_range1 (mo.free 74) (da_cons (de_bin (r := rAddA K) op_addA v_add (de_callB (call_min2 rfl) v_min2 (by rfl) (mo.free 73) bt_min (da_cons (de_callB (r := rLenK K) k_len k_vlen (by rfl) (mo.free 70) bt_len (da_cons (de_var 0) (da_nil))) (da_cons (de_int) (da_nil)))) (de_int)) (da_nil))) (dg_name 1 sc_law.nd)
 (dss_cons (ds_setO 2 sc_law.nd ((kf_call (K := K) c__law_bag (hr.mono (by decide)) body_pass (da_cons (de_var 0) (da_cons (de_var 1) (da_nil)))).f))
 (dss_one (ds_for body_own (di_range1 (mo.free 74) (da_cons (de_int) (da_nil))) (dg_name 3 sc_law.nd)
 (dss_cons (ds_asgX (dx_bag (K := K) 2 c__law_run (hr.mono (by decide)) body_pass (dxa_cons ((de_int).x) (dxa_cons ((de_int).x) (dxa_nil)))) (kg_tup (K := K) (dgs_cons (dg_name 4 sc_law.nd) (dgs_cons (dg_name 5 sc_law.nd) (dgs_nil)))))
 (dss_cons (ds_par2 6 7 sc_law.nd ((ke_call (K := K) c__law_all (hr.mono (by decide)) body_pass (da_cons (de_var 4) (da_nil))).place) ((ke_call (K := K) c__law_rows (hr.mono (by decide)) body_pass (da_cons (de_var 4) (da_cons (de_var 5) (da_nil)))).place))
 (dss_cons (ds_if (mn := [.v, .v, .o, .v, .v, .v, .v, .v, .v, .v]) (dt_not (kt_tru (K := K) (ke_call (K := K) c__law_right (hr.mono (by decide)) body_pass (da_cons (de_var 4) (da_cons (de_var 6) (da_cons (de_tup (da_nil)) (da_nil))))))) (dss_one (ds_ret (de_bl))) (dss_nil))
 (dss_one (ds_for body_own (di_range1 (mo.free 74) (da_cons (de_int) (da_nil))) (dg_name 8 sc_law.nd)
 (dss_cons (ds_setX 9 sc_law.nd (dx_bag (K := K) 2 c__law_some_facts (hr.mono (by decide)) body_pass (dxa_cons ((de_var 4).x) (dxa_cons ((de_var 7).x) (dxa_cons (dx_bag (K := K) 2 c__law_of (hr.mono (by decide)) body_pass (dxa_cons (((df_lst (da_cons (de_int) (da_cons (de_int) (da_cons (de_int) (da_cons (de_int) (da_nil)))))).val).x) (dxa_nil))) (dxa_nil))))))
 (dss_cons (ds_if (mn := [.v, .v, .o, .v, .v, .v, .v, .v, .v, .v]) (dt_not (kt_tru (K := K) (ke_call (K := K) c__law_right (hr.mono (by decide)) body_pass (da_cons (de_var 4) (da_cons (de_var 6) (da_cons (de_var 9) (da_nil))))))) (dss_one (ds_ret (de_bl))) (dss_nil))
 (dss_one (ds_if (mn := [.v, .v, .o, .v, .v, .v, .v, .v, .v, .v]) (dt_cmp (r := rNeD K) (op_neD hr.units) v_ne (ke_call (K := K) c_most_returned (hr.mono (by decide)) body_pass (da_cons (de_var 4) (da_cons (de_var 9) (da_nil)))) (ke_call (K := K) c_most_returned (hr.mono (by decide)) body_pass (da_cons (de_var 4) (da_cons (ke_rev (K := K) (de_var 9)) (da_nil))))) (dss_one (ds_ret (de_bl))) (dss_nil))))))))))))))
 (dss_one (ds_ret (de_and (de_cmp (r := rEqD K) (op_eqD hr.units) v_eq (ke_call (K := K) c_most_returned (hr.mono (by decide)) body_pass (da_cons (de_tup (da_nil)) (da_cons (de_tup (da_nil)) (da_nil)))) (de_tup (da_cons (de_int) (da_nil)))) (de_one (de_cmp op_isA v_is (ke_call (K := K) c_most_returned (hr.mono (by decide)) body_pass (da_cons (de_tup (da_cons (de_tup (da_cons (de_str) (da_cons (de_str) (da_nil)))) (da_cons (de_tup (da_cons (de_str) (da_cons (de_int) (da_nil)))) (da_cons (de_tup (da_cons (de_str) (da_cons (de_int) (da_nil)))) (da_nil))))) (da_cons (de_tup (da_nil)) (da_nil)))) (de_non))))))⟩)
end Pf
end

section
set_option Elab.async false
set_option linter.all false
set_option maxRecDepth 100000
set_option maxHeartbeats 0
namespace Pf
open PySem PySem.Spec PyProof.Rows L2 DN
def nm0 : List PySem.Str := ["TraceError", "InvalidTrace", "InvalidFacts", "EVENTS", "FRAMES", "LETTERS", "CREATING", "is_integer", "is_name", "is_event", "are_events", "fits", "is_trace", "require_trace", "created_at", "created_before", "stack_after", "with_totals", "FACTS", "is_moment", "is_frame_fact", "is_range", "is_stack_fact", "good_fact", "require_facts", "is_tail", "tails_between", "rows_active", "rows_returned", "rows_not_deeper"]
def nm1 : List PySem.Str := ["rows_innermost", "rows_of_event", "rows_of_stack", "rows_of_fact", "of_trace", "of_facts", "right_side", "down_to_start", "lowered", "most_of", "most_returned", "_law_bag", "_law_take", "_law_of", "_law_after", "_law_rows", "_law_created", "_law_events", "_law_totals", "_law_event", "_law_run", "_law_holds", "_law_frame_fact", "_law_fact", "_law_clipped", "_law_some_facts", "_law_all", "_law_good", "_law_best", "_law_right"]
def loose : List PySem.Str := nm0 ++ nm1
abbrev Rw : PySem.W.OpenRow := PySem.W.OpenLaw.row PySem.Challenge.rw_lostexits_k06_whole_most_returned
abbrev hk : PySem.W.Hook := DN.hookA DN.newAs fa fn ex
def ob (s : PySem.W.SharedT) : He.AlD × Bool := DN.obsA DN.newAs fa fn ex (HandSHeadRun.getT s)
theorem ob_eq (s : PySem.W.SharedT) : ob s = hk.obs s.abs := DN.obsA_eq (HandSHeadRun.getT_eq s)
section
open PySem.W PySem.Calls HandSHeadRun
theorem run_a1 (w : World) (os : OsState) : (endR Rw 20000 w os).map (fun s => staticsOk (importedModules Rw.prog.main.body) (boot_heap w.params) s.abs.heap) = some true := by
  kernel_rfl
theorem run_a2 (w : World) (os : OsState) : (endR Rw 20000 w os).map (fun s => namesBound Rw.prog s.abs.heap) = some true := by
  kernel_rfl
theorem run_a3 (w : World) (os : OsState) : (endR Rw 20000 w os).map (fun s => gensDone s.abs && laidKept (boot_heap w.params) s.abs.heap) = some true := by
  kernel_rfl
theorem run_a4 (w : World) (os : OsState) : (endR Rw 20000 w os).map (fun s => seenQ (view Rw.prog [67]) loose (importedModules Rw.prog.main.body) (fun s => xlAt (view Rw.prog [67]) [] s && recOk Rw.toRowW.records s) s.abs) = some (openGood (view Rw.prog [67]) loose) := by
  kernel_rfl
theorem run_a5 (w : World) (os : OsState) : (endR Rw 20000 w os).map ob = some (hk.val w) := by
  kernel_rfl
end
theorem run (w : World) : HandSHeadRun.RunEq Rw (PySem.W.view Rw.prog [67]) hk ob 20000 loose w := DN.run_join (run_a1 w) (run_a2 w) (run_a3 w) (run_a4 w) (run_a5 w)
end Pf
open PySem PySem.W PySem.Calls PyProof.Rows
theorem PySem.Challenge.cw_lostexits_k06_whole_most_returned_holds : PySem.Challenge.rw_lostexits_k06_whole_most_returned.Holds := by
  w_on; o_law
  refine HandSHeadRun.head_any (r := OpenLaw.row PySem.Challenge.rw_lostexits_k06_whole_most_returned) (q := view (OpenLaw.row PySem.Challenge.rw_lostexits_k06_whole_most_returned).prog [67]) (H := Pf.hk) (ob := Pf.ob) (M := 20000) (loose := Pf.loose) (d := HandSHeadRun.topDef (OpenLaw.row PySem.Challenge.rw_lostexits_k06_whole_most_returned).prog 67) (kwd := []) Pf.ob_eq
    (by kernel_rfl) (fun s => by kernel_rfl) Pf.run (by kernel_rfl) (by kernel_rfl) (by kernel_rfl) (by rfl) (by first | assumption | decide +kernel) (by decide +kernel) ⟨rfl, rfl, rfl, rfl, rfl, by decide +kernel⟩ ?hw ?hc
  case hw => w_witness2
  case hc =>
    refine DN.law_walk (l := PySem.Challenge.rw_lostexits_k06_whole_most_returned) (n := 63) (k := 10) (x := "script") (m := Pf.m_law) rfl (by decide) (by kernel_rfl) ⟨rfl, by decide, by decide⟩ Pf.law_true ?_
    intro w mg fa h Y G hmg0
    obtain ⟨K, KX, c⟩ := Y
    have hmg : mg ("law" : PySem.Str) = some (.ref fa) := by
      have e : (HandSHeadRun.topDef (OpenLaw.row PySem.Challenge.rw_lostexits_k06_whole_most_returned).prog 67).name = ("law" : PySem.Str) := by kernel_rfl
      rw [← e]; exact hmg0
    have mo : DN.Mo Pf.fa Pf.fn Pf.ex w K mg := ⟨h, KX, G, c.1, c.2⟩
    have e2 := hmg.symm.trans (mo.glo 52 (x := "law"))
    cases e2
    obtain ⟨fd, F, hF⟩ := Pf.end_law (P := (PySem.Challenge.rw_lostexits_k06_whole_most_returned).prog) mo
    have b := L2.FunD.bindsA (ps := ["script"]) F fun _ _ _ _ _ _ us hl => match us, hl with | [_], _ => rfl
    exact ⟨K, fd, KX, fun s v => b s [v] rfl, hF⟩
end
