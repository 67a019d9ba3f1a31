import PyProof.Rows.All
import Wide.All
import OpenK.AllK
import Wide.FinOn
import HandS.ForMost
import HandS.Exc
import HandS.ExcOwn
import HandS.TryOnly
import HandS.CallSlots
import HandS.WordsExc
import HandS.Walk
import HandS.TupAny
import HandS.Flow
import HandS.Style
import HandS.Wide
import HandS.IsInst
import HandS.Conv
import KE.GoesEnum
import HandS.Iter
import PyProof.SeqIndex
import KE.KSortedM
import PyProof.ListRange
import HandS.Head0
import HandS.Head1
import HandS.Head2
import HandS.HeadEnd
import HandS.HeadHook1
import HandS.HeadHook2
import HandS.Defaults
import PySem.Challenge.RW_lampkinds_k46_turns
set_option Elab.async false
set_option linter.all false
set_option maxRecDepth 100000
set_option maxHeartbeats 0
/-! tuples whose object is known: they have no dict, so their methods can be called -/
namespace Lk
open PySem PySem.Spec PyProof.Rows L2

def Tp (K : PySem.W.Frag) (H : Hp) (a : Addr) (vs : List V) : Prop :=
  (∃ o : Obj, H a = some (.frz o (.tup vs)) ∧ o.dict = none) ∨
    ∃ (o : Obj) (its : Array Value) (n : Nat), K.lookup a = some o ∧ o.cls = .type "tuple" ∧ o.dict = none ∧ o.data = .seq its n ∧ its.size ≤ sizeLine ∧ Vals vs its.toList
theorem Tp.seq {K : PySem.W.Frag} {H : Hp} {a : Addr} {vs : List V} (h : Tp K H a vs) : SqT K H a vs := by
  rcases h with ⟨o, h, _⟩ | ⟨o, its, n, h1, h2, _, h4, h5, h6⟩
  · exact .inl (.inr ⟨o, h⟩)
  · exact .inr ⟨o, its, n, h1, h2, h4, h5, h6⟩
theorem Tp.mono {K : PySem.W.Frag} {H H' : Hp} {a : Addr} {vs : List V} (h : Tp K H a vs) (e : ∀ b o u, H b = some (.frz o u) → H' b = some (.frz o u)) : Tp K H' a vs :=
  h.imp (fun ⟨o, h1, h2⟩ => ⟨o, e _ _ _ h1, h2⟩) id
/-- a new tuple -/
def NewT (H : Hp) (Q : VK) (xs : List V) : Prop := ∀ (p : Addr) (o : Obj), H p = none → o.dict = none → Q (.ref p) (upd H p (.frz o (.tup xs)))
section
variable {X : Cx} {pins : List (Addr × Obj)} {σ : L2.St} {H : Hp} {s : Shared}
theorem Inv.tupNew {its : List Value} {xs : List V} {t' : Nat} (I : Inv X pins σ H s) (r : Vals xs its) (hz : xs.length ≤ sizeLine) :
    Inv X pins σ (upd H s.heap.objs.size (.frz { cls := .type "tuple", data := .seq its.toArray } (.tup xs))) { s with heap := s.heap.push { cls := .type "tuple", data := .seq its.toArray }, toks := t' } :=
  I.laid (fun b o e => Heap.get?_push_of_some _ e) (Nat.le_refl _) ⟨Heap.get?_push_size _ rfl, hz, its, r, ⟨_, Heap.get?_push_size _ rfl, rfl, _, rfl⟩⟩
theorem Inv.tupEP {its : List Value} {xs : List V} {t' : Nat} {Q : VK} (I : Inv X pins σ H s) (r : Vals xs its) (hz : xs.length ≤ sizeLine) (q : NewT H Q xs) :
    EP X pins σ Q (.ref s.heap.objs.size) { s with heap := s.heap.push { cls := .type "tuple", data := .seq its.toArray }, toks := t' } :=
  ⟨.ref s.heap.objs.size, _, Lk.Inv.tupNew I r hz, rfl, q _ _ (I.hok.fresh (Nat.le_refl _)) rfl⟩
end
section
variable {X : Cx} {e : Expr} {es : List Expr} {te : TE} {t : TA} {pos : Pos}
def tTupF (t : TA) : TE := fun σ H Q => t σ H fun xs H1 => xs.length ≤ sizeLine ∧ NewT H1 Q xs
theorem pe_tupF {x1 : Nat} (h : PA X es t) : PE X (.Tuple es x1 pos) (tTupF t) := by
  refine ⟨fun pins s σ H Q I hq => wpAny_Tuple_spliced (thn (h.run pos pins s σ H _ I hq) ?_)⟩
  rintro us s1 ⟨xs, H1, I1, r, z, q⟩
  exact ⟨by rw [← r.length]; exact z, Lk.Inv.tupEP I1 r z q⟩
/-- tuple(x) -/
theorem call_tupF : CallR X (.type "tuple") (fun xs H Q => ∃ p ys, xs = [.ref p] ∧ ((SqL X.K H p ys ∧ NewT H Q ys) ∨ (Tp X.K H p ys ∧ Q (.ref p) H))) := by
  intro pins s σ H xs us Q I r h
  obtain ⟨p, ys, rfl, h⟩ := h
  rw [Vals.ref1 r]
  rcases h with ⟨hq, q⟩ | ⟨hq, q⟩
  · obtain ⟨its, r', pl, hz⟩ := I.list hq
    refine call_tuple_list pl.isList (fun h' kp => ?_) (by rw [List.size_toArray, ← r'.length]; exact hz)
    exact Lk.Inv.tupEP (t' := s.toks) (I.kept (t' := s.toks) kp) r' hz q
  · obtain ⟨its, r', pl, hz⟩ := I.tuple hq.seq
    exact call_tuple_same pl ⟨.ref p, H, I, rfl, q⟩
/-- t + u -/
theorem op_catF : OpR X (binaryOp .Add) (fun x y H Q => ∃ a b xs ys, x = .ref a ∧ y = .ref b ∧ Tp X.K H a xs ∧ Tp X.K H b ys ∧ xs.length + ys.length ≤ sizeLine ∧
    (xs = [] → Q (.ref b) H) ∧ (xs ≠ [] → ys = [] → Q (.ref a) H) ∧ (xs ≠ [] → ys ≠ [] → NewT H Q (xs ++ ys))) := by
  intro pins s σ H x y v u Q I rx ry h
  obtain ⟨a, b, xs, ys, rfl, rfl, ha, hb, hz, q0, q1, q2⟩ := h
  cases rx
  cases ry
  obtain ⟨its, r1, p1, _⟩ := I.tuple ha.seq
  obtain ⟨its2, r2, p2, _⟩ := I.tuple hb.seq
  have l1 := r1.length
  have l2 := r2.length
  by_cases hx : xs = []
  · subst hx
    cases r1
    exact cat_tup0 p1 p2 ⟨.ref b, H, I, rfl, q0 rfl⟩
  · refine HT.cat_tup p1 p2 (fun z => hx (by rw [z] at l1; exact List.length_eq_zero_iff.mp l1)) (fun z => ?_) (fun z => ?_) (by omega)
    · exact ⟨.ref a, H, I, rfl, q1 hx (by rw [z] at l2; exact List.length_eq_zero_iff.mp l2)⟩
    · have hy : ys ≠ [] := fun q => z (by rw [q] at l2; exact List.length_eq_zero_iff.mp l2.symm)
      exact Lk.Inv.tupEP (t' := s.toks) I (r1.append r2) (by rw [List.length_append]; exact hz) (q2 hx hy)
/-- t[lo:hi] -/
theorem sl_tupF : SlR X (fun x lo hi H Q => ∃ a xs, x = .ref a ∧ Tp X.K H a xs ∧ (HT.sIx xs.length 0 lo = 0 ∧ HT.sIx xs.length xs.length hi = xs.length → Q (.ref a) H) ∧
    (¬ (HT.sIx xs.length 0 lo = 0 ∧ HT.sIx xs.length xs.length hi = xs.length) → NewT H Q (cutV xs lo hi))) := by
  intro pins s σ H x v vl vu lo hi sl Q I rx hs pl pu h
  obtain ⟨a, xs, rfl, hx, q1, q2⟩ := h
  cases rx
  obtain ⟨its, r, ht, hz⟩ := I.tuple hx.seq
  have hlen : its.toArray.size = xs.length := by rw [List.size_toArray]; exact r.length.symm
  refine ⟨"tuple", _, PyProof.Rows.slot_tuple_getitem.lookup, ht.typeIs, ?_⟩
  by_cases hw : HT.sIx xs.length 0 lo = 0 ∧ HT.sIx xs.length xs.length hi = xs.length
  · exact getItem_tuple_whole ht hs pl pu (by rw [hlen]; exact hw) ⟨.ref a, H, I, rfl, q1 hw⟩
  · refine HT.getItem_tuple_cut ht hs pl pu (by rw [hlen]; exact hw) ?_ (by rw [hlen]; exact hz)
    rw [hlen]
    exact Lk.Inv.tupEP (t' := s.toks) I ((r.drop (HT.sIx xs.length 0 lo)).take (HT.sIx xs.length xs.length hi - HT.sIx xs.length 0 lo)) (Nat.le_trans (cutV_length xs lo hi) hz) (q2 hw)
end
end Lk

/-! values, stores, how they stand in the heap -/
namespace Lk
open PySem PySem.Spec PyProof.Rows L2

inductive D where
  | non | bl (b : Bool) | int (i : Int) | str (x : Str) | tup (xs : List D) | lst (xs : List D) | fix (xs : List D) | ref (n : Nat)

mutual
/-- no reference from b on -/
def D.fit (b : Nat) : D → Bool
  | .ref n => Nat.blt n b
  | .tup xs => fitL b xs
  | .lst xs => fitL b xs
  | .fix xs => fitL b xs
  | _ => true
def fitL (b : Nat) : List D → Bool
  | [] => true
  | x :: r => x.fit b && fitL b r
end

inductive Cell where
  | lst (xs : List D) | dead

def Cell.fit (b : Nat) : Cell → Bool
  | .lst xs => fitL b xs
  | .dead => true
abbrev Sto := List Cell

/-- where the cells stand; the lists that are being made -/
structure Mp where
  ids : List (Option Addr)
  z : List Addr

/-- a list that is only read: locked, or written in the module -/
def Fix (K : PySem.W.Frag) (H : Hp) (a : Addr) (vs : List V) : Prop :=
  (∃ o, H a = some (.frz o (.lst vs))) ∨ ∃ (o : Obj) (its : Array Value) (n : Nat), K.lookup a = some o ∧ o.cls = .type "list" ∧ o.dict = none ∧ o.data = .seq its n ∧ its.size ≤ sizeLine ∧ Vals vs its.toList
theorem Fix.seq {K : PySem.W.Frag} {H : Hp} {a : Addr} {vs : List V} (h : Fix K H a vs) : SqL K H a vs := h.imp (fun ⟨o, q⟩ => .inr ⟨o, q⟩) id
mutual
def RV (K : PySem.W.Frag) (H : Hp) (M : Mp) : D → V → Prop
  | .non, v => v = .non
  | .bl b, v => v = .bl b
  | .int i, v => v = .int i
  | .str x, v => v = .str x
  | .tup ds, v => ∃ a vs, v = .ref a ∧ Tp K H a vs ∧ RVs K H M ds vs
  | .lst ds, v => ∃ a vs, v = .ref a ∧ H a = some (.lst vs) ∧ some a ∉ M.ids ∧ a ∉ M.z ∧ RVs K H M ds vs
  | .fix ds, v => ∃ a vs, v = .ref a ∧ Fix K H a vs ∧ RVs K H M ds vs
  | .ref n, v => ∃ a o, v = .ref a ∧ M.ids[n]? = some o ∧ ∀ b, o = some b → b = a
def RVs (K : PySem.W.Frag) (H : Hp) (M : Mp) : List D → List V → Prop
  | [], vs => vs = []
  | d :: r, vs => ∃ x xs, vs = x :: xs ∧ RV K H M d x ∧ RVs K H M r xs
end

/-- behind an evaluation -/
structure Ext (H : Hp) (M : Mp) (H' : Hp) (M' : Mp) : Prop where
  keep : ∀ a o, H a = some o → some a ∉ M.ids → H' a = some o
  ids : ∀ (n : Nat) (o : Option Addr), M.ids[n]? = some o → M'.ids[n]? = some o ∨ M'.ids[n]? = some none
  fresh : ∀ a, some a ∈ M'.ids → some a ∈ M.ids ∨ H a = none
  z : ∀ a, a ∈ M'.z → a ∈ M.z ∨ H a = none
  zs : ∀ a, a ∈ M.z → a ∈ M'.z
  there : ∀ a, H a ≠ none → H' a ≠ none
  frz : ∀ a o u, H a = some (.frz o u) → H' a = some (.frz o u)
section
variable {K : PySem.W.Frag} {H H1 H2 H' : Hp} {M M1 M2 M' : Mp}
theorem Ext.refl : Ext H M H M := ⟨fun _ _ h _ => h, fun _ _ h => .inl h, fun _ h => .inl h, fun _ h => .inl h, fun _ h => h, fun _ h => h, fun _ _ _ h => h⟩
theorem Ext.out (e : Ext H M H1 M1) {a : Addr} {o : HO} (h : H a = some o) (n : some a ∉ M.ids) : some a ∉ M1.ids := fun q => by
  rcases e.fresh a q with q | q
  · exact n q
  · rw [h] at q; cases q
theorem Ext.trans (a : Ext H M H1 M1) (b : Ext H1 M1 H2 M2) : Ext H M H2 M2 where
  keep := fun c o h n => b.keep c o (a.keep c o h n) (a.out h n)
  ids := fun n o h => by
    rcases a.ids n o h with q | q
    · exact b.ids n o q
    · rcases b.ids n _ q with r | r
      · exact .inr r
      · exact .inr r
  fresh := fun c h => by
    rcases b.fresh c h with q | q
    · exact a.fresh c q
    · cases e : H c with
      | none => exact .inr rfl
      | some o =>
        refine .inl (Classical.byContradiction fun n => ?_)
        rw [a.keep c o e n] at q; cases q
  z := fun c h => by
    rcases b.z c h with q | q
    · exact a.z c q
    · cases e : H c with
      | none => exact .inr rfl
      | some o => exact absurd q (a.there c (by rw [e]; exact fun z => nomatch z))
  zs := fun c h => b.zs c (a.zs c h)
  there := fun c h => b.there c (a.there c h)
  frz := fun c o u h => b.frz c o u (a.frz c o u h)
theorem Ext.outz (e : Ext H M H1 M1) {a : Addr} {o : HO} (h : H a = some o) (n : a ∉ M.z) : a ∉ M1.z := fun q => by
  rcases e.z a q with q | q
  · exact n q
  · rw [h] at q; cases q
theorem Ext.rd (e : Ext H M H1 M1) {a : Addr} {u : HO} (h : Rd H a u) (n : some a ∉ M.ids) : Rd H1 a u := by
  rcases h with h | ⟨o, h⟩
  · exact .inl (e.keep _ _ h n)
  · exact .inr ⟨o, e.keep _ _ h n⟩
theorem rdSome {a : Addr} {u : HO} (h : Rd H a u) : ∃ o, H a = some o := by
  rcases h with h | ⟨o, h⟩
  · exact ⟨_, h⟩
  · exact ⟨_, h⟩
mutual
theorem RV.ext (e : Ext H M H1 M1) : ∀ (d : D) (v : V), RV K H M d v → RV K H1 M1 d v
  | .non, v, h => by unfold RV at h ⊢; exact h
  | .bl b, v, h => by unfold RV at h ⊢; exact h
  | .int i, v, h => by unfold RV at h ⊢; exact h
  | .str x, v, h => by unfold RV at h ⊢; exact h
  | .tup ds, v, h => by
    unfold RV at h ⊢
    obtain ⟨a, vs, e1, h1, h2⟩ := h
    exact ⟨a, vs, e1, h1.mono e.frz, RVs.ext e ds vs h2⟩
  | .lst ds, v, h => by
    unfold RV at h ⊢
    obtain ⟨a, vs, e1, h1, h2, h3, h4⟩ := h
    exact ⟨a, vs, e1, e.keep _ _ h1 h2, e.out h1 h2, e.outz h1 h3, RVs.ext e ds vs h4⟩
  | .fix ds, v, h => by
    unfold RV at h ⊢
    obtain ⟨a, vs, e1, h1, h2⟩ := h
    exact ⟨a, vs, e1, h1.imp (fun ⟨o, q⟩ => ⟨o, e.frz _ _ _ q⟩) id, RVs.ext e ds vs h2⟩
  | .ref n, v, h => by
    unfold RV at h ⊢
    obtain ⟨a, o, e1, h1, h2⟩ := h
    rcases e.ids n o h1 with q | q
    · exact ⟨a, o, e1, q, h2⟩
    · exact ⟨a, none, e1, q, fun b z => nomatch z⟩
theorem RVs.ext (e : Ext H M H1 M1) : ∀ (ds : List D) (vs : List V), RVs K H M ds vs → RVs K H1 M1 ds vs
  | [], vs, h => by unfold RVs at h ⊢; exact h
  | d :: r, vs, h => by
    unfold RVs at h ⊢
    obtain ⟨x, xs, e1, h1, h2⟩ := h
    exact ⟨x, xs, e1, RV.ext e d x h1, RVs.ext e r xs h2⟩
end
end
end Lk

namespace Lk
open PySem PySem.Spec PyProof.Rows L2

/-! ### states -/
def CRep (K : PySem.W.Frag) (H : Hp) (M : Mp) : Cell → Option Addr → Prop
  | .lst ds, o => ∃ a vs, o = some a ∧ H a = some (.lst vs) ∧ RVs K H M ds vs
  | .dead, o => o = none

structure SRep (K : PySem.W.Frag) (fbs : List Nat) (H : Hp) (M : Mp) (S : Sto) : Prop where
  len : M.ids.length = S.length
  cell : ∀ (n : Nat) (c : Cell) (o : Option Addr), S[n]? = some c → M.ids[n]? = some o → CRep K H M c o
  inj : ∀ (i j : Nat) (a : Addr), M.ids[i]? = some (some a) → M.ids[j]? = some (some a) → i = j
  zz : ∀ a, a ∈ M.z → H a ≠ none ∧ some a ∉ M.ids
  cl : ∀ b ∈ fbs, b ≤ S.length ∧ ∀ (n : Nat) (c : Cell), n < b → S[n]? = some c → c.fit b = true

abbrev Env := List (Option D)
structure ERep (K : PySem.W.Frag) (H : Hp) (M : Mp) (σ : L2.St) (ρ : Env) : Prop where
  len : σ.length = ρ.length
  at_ : ∀ (i : Nat) (d : D), ρ[i]? = some (some d) → ∃ v, σ[i]? = some (some v) ∧ RV K H M d v

/-- an exception: its class by number, its fields -/
structure Ex where
  c : Nat
  fs : List (Str × D)
inductive Rs (α : Type) where
  | ok (d : α) (S : Sto) | exc (x : Ex) (S : Sto) | bad
abbrev Res := Rs D
def Rs.bind {α β : Type} (r : Rs α) (k : α → Sto → Rs β) : Rs β := match r with
  | .ok d S => k d S
  | .exc x S => .exc x S
  | .bad => .bad

def RFs (K : PySem.W.Frag) (H : Hp) (M : Mp) : List (Str × D) → List (Str × V) → Prop
  | [], gs => gs = []
  | (n, d) :: r, gs => ∃ v gr, gs = (n, v) :: gr ∧ RV K H M d v ∧ RFs K H M r gr
def XRep (K : PySem.W.Frag) (ca : Nat → Option Addr) (H : Hp) (M : Mp) (x : Ex) (cls : Value) (dd : Option Addr) : Prop :=
  (∃ C, ca x.c = some C ∧ cls = .ref C) ∧ ((x.fs = [] ∧ dd = none) ∨ ∃ d gs, dd = some d ∧ H d = some (.xd gs) ∧ RFs K H M x.fs gs)

abbrev Rel (α β : Type) := Hp → Mp → α → β → Prop
def RP (K : PySem.W.Frag) (ca : Nat → Option Addr) (fbs : List Nat) {α β : Type} (R : Rel α β) (H : Hp) (M : Mp) (W : XK) (Q : β → Hp → Prop) : Rs α → Prop
  | .ok d S => ∀ v H' M', Ext H M H' M' → SRep K fbs H' M' S → R H' M' d v → Q v H'
  | .exc x S => ∀ cls dd H' M', Ext H M H' M' → SRep K fbs H' M' S → XRep K ca H' M' x cls dd → W cls dd H'
  | .bad => False

section
variable {K : PySem.W.Frag} {ca : Nat → Option Addr} {fbs : List Nat} {H H1 : Hp} {M M1 : Mp} {W W' : XK} {α β γ δ : Type} {R : Rel α β} {R' : Rel γ δ} {Q Q1 : β → Hp → Prop} {Q' : δ → Hp → Prop} {r : Rs α} {k : α → Sto → Rs γ}
theorem RP.ext (h : RP K ca fbs R H M W Q r) (e : Ext H M H1 M1) : RP K ca fbs R H1 M1 W Q r := by
  cases r with
  | ok d S => exact fun v H' M' e' s q => h v H' M' (e.trans e') s q
  | exc x S => exact fun c d H' M' e' s q => h c d H' M' (e.trans e') s q
  | bad => exact h
theorem RP.bind (h : RP K ca fbs R' H M W Q' (r.bind k)) :
    RP K ca fbs R H M W (fun v H1 => ∃ M1 d S1, Ext H M H1 M1 ∧ SRep K fbs H1 M1 S1 ∧ R H1 M1 d v ∧ RP K ca fbs R' H1 M1 W Q' (k d S1)) r := by
  cases r with
  | ok d S => exact fun v H' M' e s q => ⟨M', d, S, e, s, q, RP.ext h e⟩
  | exc x S => exact h
  | bad => exact h
theorem RP.mono (h : RP K ca fbs R H M W Q r) (hQ : ∀ v H' M' d S, Ext H M H' M' → SRep K fbs H' M' S → R H' M' d v → Q v H' → Q1 v H') (hW : ∀ c d H', W c d H' → W' c d H') : RP K ca fbs R H M W' Q1 r := by
  cases r with
  | ok d S => exact fun v H' M' e' s q => hQ v H' M' d S e' s q (h v H' M' e' s q)
  | exc x S => exact fun c d H' M' e' s q => hW _ _ _ (h c d H' M' e' s q)
  | bad => exact h
theorem RP.fin {d : α} {S : Sto} {v : β} (h : RP K ca fbs R H M W Q (.ok d S)) (s : SRep K fbs H M S) (q : R H M d v) : Q v H := h v H M .refl s q
end
abbrev RPost (K : PySem.W.Frag) (ca : Nat → Option Addr) (fbs : List Nat) (H : Hp) (M : Mp) (W : XK) (Q : VK) (r : Res) : Prop := RP K ca fbs (RV K) H M W Q r
theorem ERep.ext {K : PySem.W.Frag} {H H1 : Hp} {M M1 : Mp} {σ : L2.St} {ρ : Env} (h : ERep K H M σ ρ) (e : Ext H M H1 M1) : ERep K H1 M1 σ ρ :=
  ⟨h.len, fun i d q => let ⟨v, h1, h2⟩ := h.at_ i d q; ⟨v, h1, h2.ext e⟩⟩

/-- a new object that is no cell -/
theorem Ext.new {H : Hp} {M : Mp} {p : Addr} {o : HO} (hp : H p = none) : Ext H M (upd H p o) M where
  keep := fun a u h _ => by rw [upd_ne (ne_of_none h hp)]; exact h
  ids := fun _ _ h => .inl h
  fresh := fun _ h => .inl h
  z := fun _ h => .inl h
  zs := fun _ h => h
  there := fun a h => by
    unfold upd
    split
    · exact fun z => nomatch z
    · exact h
  frz := fun a o u h => by rw [upd_ne (ne_of_none h hp)]; exact h
section
variable {K : PySem.W.Frag} {fbs : List Nat} {H H1 : Hp} {M M1 : Mp} {S : Sto}
theorem CRep.ext {c : Cell} {o : Option Addr} (h : CRep K H M c o) (e : Ext H M H1 M1) (k : ∀ a xs, o = some a → H a = some (.lst xs) → H1 a = some (.lst xs)) : CRep K H1 M1 c o := by
  cases c with
  | lst ds => obtain ⟨a, vs, e1, h1, h2⟩ := h; exact ⟨a, vs, e1, k _ _ e1 h1, RVs.ext e ds vs h2⟩
  | dead => exact h
theorem SRep.live (s : SRep K fbs H M S) {n : Nat} {a : Addr} (h : M.ids[n]? = some (some a)) : ∃ ds vs, S[n]? = some (.lst ds) ∧ H a = some (.lst vs) ∧ RVs K H M ds vs := by
  have hl : n < S.length := by
    rw [← s.len]
    exact (List.getElem?_eq_some_iff.mp h).1
  have e : S[n]? = some S[n] := List.getElem?_eq_getElem hl
  have q := s.cell n _ _ e h
  cases hc : S[n] with
  | lst ds =>
    rw [hc] at q e
    obtain ⟨b, vs, e1, h1, h2⟩ := q
    cases e1
    exact ⟨ds, vs, e, h1, h2⟩
  | dead =>
    rw [hc] at q
    exact nomatch (show some a = none from q)
theorem SRep.mem (s : SRep K fbs H M S) {a : Addr} (h : some a ∈ M.ids) : ∃ n : Nat, M.ids[n]? = some (some a) := by
  obtain ⟨n, hn, e⟩ := List.getElem_of_mem h
  exact ⟨n, by rw [List.getElem?_eq_getElem hn, e]⟩
theorem SRep.notid (s : SRep K fbs H M S) {a : Addr} (h : H a = none) : some a ∉ M.ids := fun q => by
  obtain ⟨n, e⟩ := s.mem q
  obtain ⟨_, vs, _, h1, _⟩ := s.live e
  rw [h] at h1; cases h1
theorem SRep.notz (s : SRep K fbs H M S) {a : Addr} (h : H a = none) : a ∉ M.z := fun q => (s.zz a q).1 h
theorem SRep.new (s : SRep K fbs H M S) {p : Addr} {o : HO} (hp : H p = none) : SRep K fbs (upd H p o) M S where
  len := s.len
  cell := fun n c u h h' => (s.cell n c u h h').ext (Ext.new hp) fun a xs _ h => by rw [upd_ne (ne_of_none h hp)]; exact h
  inj := s.inj
  zz := fun a h => by
    obtain ⟨q, q2⟩ := s.zz a h
    refine ⟨?_, q2⟩
    unfold upd
    split
    · exact fun z => nomatch z
    · exact q
  cl := s.cl
end

/-! ### new lists and tuples -/
def mkL (mu : Bool) (ds : List D) (S : Sto) : Res := if mu then .ok (.ref S.length) (S ++ [.lst ds]) else .ok (.lst ds) S
section
variable {K : PySem.W.Frag} {ca : Nat → Option Addr} {fbs : List Nat} {H H1 : Hp} {M M1 : Mp} {W : XK} {Q Q' : VK} {S : Sto}
theorem new_tup {ds : List D} {vs : List V} (s : SRep K fbs H M S) (h : RPost K ca fbs H M W Q (.ok (.tup ds) S)) (r : RVs K H M ds vs) : NewT H Q vs := by
  intro p o hp ho
  refine h _ _ M (Ext.new hp) (s.new hp) ?_
  unfold RV
  exact ⟨p, vs, rfl, .inl ⟨o, upd_same, ho⟩, RVs.ext (Ext.new hp) ds vs r⟩
theorem new_lst {mu : Bool} {ds : List D} {vs : List V} {p : Addr} (s : SRep K fbs H M S) (h : RPost K ca fbs H M W Q (mkL mu ds S)) (r : RVs K H M ds vs) (hp : H p = none) : Q (.ref p) (upd H p (.lst vs)) := by
  cases mu with
  | false =>
    refine h _ _ M (Ext.new hp) (s.new hp) ?_
    unfold RV
    exact ⟨p, vs, rfl, upd_same, s.notid hp, s.notz hp, RVs.ext (Ext.new hp) ds vs r⟩
  | true =>
    have e : Ext H M (upd H p (.lst vs)) ⟨M.ids ++ [some p], M.z⟩ := {
      keep := fun a u h _ => by rw [upd_ne (ne_of_none h hp)]; exact h
      ids := fun n o h => .inl (by rw [List.getElem?_append_left (List.getElem?_eq_some_iff.mp h).1]; exact h)
      fresh := fun a h => by
        rcases List.mem_append.mp h with h | h
        · exact .inl h
        · have z : a = p := by simpa using h
          exact .inr (by rw [z]; exact hp)
      z := fun _ h => .inl h
      zs := fun _ h => h
      there := (Ext.new (M := M) hp).there
      frz := (Ext.new (M := M) hp).frz }
    have key : ∀ (n : Nat), n < S.length → (M.ids ++ [some p])[n]? = M.ids[n]? := fun n hn => List.getElem?_append_left (by rw [s.len]; exact hn)
    refine h _ _ ⟨M.ids ++ [some p], M.z⟩ e ?_ ?_
    · refine ⟨by simp [s.len], fun n c o h1 h2 => ?_, fun i j a h1 h2 => ?_, fun a ha => ⟨((s.new hp).zz a ha).1, fun q => ?_⟩, fun b hb => ?_⟩
      · by_cases hn : n < S.length
        · rw [List.getElem?_append_left hn] at h1
          have h2' : M.ids[n]? = some o := by rw [← key n hn]; exact h2
          exact (s.cell n c o h1 h2').ext e fun a xs _ h => by rw [upd_ne (ne_of_none h hp)]; exact h
        · have hn' : n = S.length := by
            have := (List.getElem?_eq_some_iff.mp h1).1
            simp at this; omega
          subst hn'
          rw [List.getElem?_append_right (Nat.le_refl _)] at h1
          simp at h1
          subst h1
          have h2' : (M.ids ++ [some p])[S.length]? = some o := h2
          rw [List.getElem?_append_right (by rw [s.len]; exact Nat.le_refl _), s.len] at h2'
          simp at h2'
          subst h2'
          exact ⟨p, vs, rfl, upd_same, RVs.ext e ds vs r⟩
      · have lt : ∀ i, (M.ids ++ [some p])[i]? = some (some a) → (i < S.length ∧ M.ids[i]? = some (some a)) ∨ (i = S.length ∧ a = p) := fun i h => by
          by_cases hn : i < S.length
          · exact .inl ⟨hn, by rw [← key i hn]; exact h⟩
          · have hn' : i = S.length := by
              have := (List.getElem?_eq_some_iff.mp h).1
              simp [s.len] at this; omega
            subst hn'
            rw [List.getElem?_append_right (by rw [s.len]; exact Nat.le_refl _), s.len] at h
            simp at h
            exact .inr ⟨rfl, h.symm⟩
        have no : ∀ i, M.ids[i]? = some (some a) → a ≠ p := fun i h z => by
          have := s.notid hp
          rw [← z] at this
          exact this (List.mem_of_getElem? h)
        rcases lt i h1 with ⟨_, q1⟩ | ⟨e1, q1⟩
        · rcases lt j h2 with ⟨_, q2⟩ | ⟨e2, q2⟩
          · exact s.inj i j a q1 q2
          · exact absurd q2 (no i q1)
        · rcases lt j h2 with ⟨_, q2⟩ | ⟨e2, q2⟩
          · exact absurd q1 (no j q2)
          · rw [e1, e2]
      · rcases List.mem_append.mp q with q | q
        · exact (s.zz a ha).2 q
        · have z : a = p := by simpa using q
          exact (s.zz a ha).1 (by rw [z]; exact hp)
      · obtain ⟨h1, h2⟩ := s.cl b hb
        refine ⟨by simp; omega, fun n c hn h => h2 n c hn ?_⟩
        rw [List.getElem?_append_left (by omega)] at h
        exact h
    · unfold RV
      refine ⟨p, some p, rfl, ?_, fun b z => (Option.some.inj z).symm⟩
      show (M.ids ++ [some p])[S.length]? = _
      rw [List.getElem?_append_right (by rw [s.len]; exact Nat.le_refl _), s.len]
      simp
end

/-! ### expressions -/
abbrev CallF := List Nat → Nat → List D → Sto → Res
abbrev SemE := CallF → List Nat → Env → Sto → Res
/-- the run's own: K, the exceptions' classes, what calls give -/
structure Inf where
  ca : Nat → Option Addr
  cf : CallF
  fbs : List Nat
def RE (K : PySem.W.Frag) (J : Inf) (W : WX) (f : SemE) : TE := fun σ H Q => ∃ M ρ S, SRep K J.fbs H M S ∧ ERep K H M σ ρ ∧ RPost K J.ca J.fbs H M (fun c d H' => W c d σ H') Q (f J.cf J.fbs ρ S)

abbrev SemEs := CallF → List Nat → Env → Sto → Rs (List D)
def REs (K : PySem.W.Frag) (J : Inf) (W : WX) (f : SemEs) : TA := fun σ H Q => ∃ M ρ S, SRep K J.fbs H M S ∧ ERep K H M σ ρ ∧ RP K J.ca J.fbs (RVs K) H M (fun c d H' => W c d σ H') Q (f J.cf J.fbs ρ S)
abbrev RB : Rel Bool Bool := fun _ _ a b => a = b
abbrev SemT := CallF → List Nat → Env → Sto → Rs Bool
def RT (K : PySem.W.Frag) (J : Inf) (W : WX) (f : SemT) : TT := fun σ H Q => ∃ M ρ S, SRep K J.fbs H M S ∧ ERep K H M σ ρ ∧ RP K J.ca J.fbs RB H M (fun c d H' => W c d σ H') Q (f J.cf J.fbs ρ S)

theorem PE.imp {X : Cx} {e : Expr} {t t' : TE} (h : PE X e t) (i : ∀ σ H Q, t' σ H Q → t σ H Q) : PE X e t' := ⟨fun pins s σ H Q I q => h.run pins s σ H Q I (i _ _ _ q)⟩
theorem PT.imp {X : Cx} {e : Expr} {t t' : TT} (h : PT X e t) (i : ∀ σ H Q, t' σ H Q → t σ H Q) : PT X e t' := ⟨fun pins s σ H Q I q => h.run pins s σ H Q I (i _ _ _ q)⟩
theorem PA.imp {X : Cx} {e : List Expr} {t t' : TA} (h : PA X e t) (i : ∀ σ H Q, t' σ H Q → t σ H Q) : PA X e t' := ⟨fun pos pins s σ H Q I q => h.run pos pins s σ H Q I (i _ _ _ q)⟩

/-! ### the forms -/
def eVar (i : Nat) : SemE := fun _ _ ρ S => match ρ[i]? with
  | some (some d) => .ok d S
  | _ => .bad
def eCst (d : D) : SemE := fun _ _ _ S => .ok d S
def e1 (f : D → Sto → Res) (a : SemE) : SemE := fun c b ρ S => (a c b ρ S).bind f
def e2 (f : D → D → Sto → Res) (a b : SemE) : SemE := fun c g ρ S => (a c g ρ S).bind fun x S1 => (b c g ρ S1).bind fun y S2 => f x y S2
def esNil : SemEs := fun _ _ _ S => .ok [] S
def esCons (a : SemE) (r : SemEs) : SemEs := fun c g ρ S => (a c g ρ S).bind fun x S1 => (r c g ρ S1).bind fun xs S2 => .ok (x :: xs) S2
def eL (f : List D → Sto → Res) (a : SemEs) : SemE := fun c b ρ S => (a c b ρ S).bind f
def tt (f : D → Sto → Rs Bool) (a : SemE) : SemT := fun c b ρ S => (a c b ρ S).bind f
def eIf (t : SemT) (a b : SemE) : SemE := fun c g ρ S => (t c g ρ S).bind fun k S1 => bif k then a c g ρ S1 else b c g ρ S1
def tAndT (a b : SemT) : SemT := fun c g ρ S => (a c g ρ S).bind fun k S1 => bif k then b c g ρ S1 else .ok false S1
def tOrT (a b : SemT) : SemT := fun c g ρ S => (a c g ρ S).bind fun k S1 => bif k then .ok true S1 else b c g ρ S1
def tNotT (a : SemT) : SemT := fun c g ρ S => (a c g ρ S).bind fun k S1 => .ok (!k) S1
/-- a test as a value -/
def eT (t : SemT) : SemE := fun c g ρ S => (t c g ρ S).bind fun k S1 => .ok (.bl k) S1
/-- a value that is a bool -/
def asB : D → Sto → Rs Bool
  | .bl b, S => .ok b S
  | _, _ => .bad

section
variable {X : Cx} {J : Inf} {W : WX}
theorem re_var {i : Nat} {σ : L2.St} {H : Hp} {Q : VK} (h : RE X.K J W (eVar i) σ H Q) : tVar i σ H Q := by
  obtain ⟨M, ρ, S, s, e, h⟩ := h
  unfold eVar at h
  cases q : ρ[i]? with
  | none => rw [q] at h; exact h.elim
  | some o =>
    rw [q] at h
    cases o with
    | none => exact h.elim
    | some d =>
      obtain ⟨v, h1, h2⟩ := e.at_ i d q
      exact ⟨v, h1, h.fin s h2⟩
theorem re_cst {v : V} {d : D} {σ : L2.St} {H : Hp} {Q : VK} (r : ∀ H M, RV X.K H M d v) (h : RE X.K J W (eCst d) σ H Q) : tC v σ H Q := by
  obtain ⟨M, ρ, S, s, e, h⟩ := h
  exact h.fin s (r _ _)
theorem re_2 {f : D → D → Sto → Res} {r : R2} {a b : SemE} {σ : L2.St} {H : Hp} {Q : VK}
    (hf : ∀ (x y : V) (dx dy : D) (H : Hp) (M : Mp) (S : Sto) (W : XK) (Q : VK), SRep X.K J.fbs H M S → RV X.K H M dx x → RV X.K H M dy y → RPost X.K J.ca J.fbs H M W Q (f dx dy S) → r x y H Q)
    (h : RE X.K J W (e2 f a b) σ H Q) : tOp r (RE X.K J W a) (RE X.K J W b) σ H Q := by
  obtain ⟨M, ρ, S, s, e, h⟩ := h
  refine ⟨M, ρ, S, s, e, (RP.bind h).mono (fun x H1 _ _ _ _ _ _ h1 => ?_) fun _ _ _ q => q⟩
  obtain ⟨M1, dx, S1, e1, s1, rx, h1⟩ := h1
  refine ⟨M1, ρ, S1, s1, e.ext e1, (RP.bind h1).mono (fun y H2 _ _ _ _ _ _ h2 => ?_) fun _ _ _ q => q⟩
  obtain ⟨M2, dy, S2, e2, s2, ry, h2⟩ := h2
  exact hf x y dx dy H2 M2 S2 _ Q s2 (rx.ext e2) ry h2
theorem re_1 {f : D → Sto → Res} {r : V → Hp → VK → Prop} {a : SemE} {σ : L2.St} {H : Hp} {Q : VK}
    (hf : ∀ (x : V) (dx : D) (H : Hp) (M : Mp) (S : Sto) (W : XK) (Q : VK), SRep X.K J.fbs H M S → RV X.K H M dx x → RPost X.K J.ca J.fbs H M W Q (f dx S) → r x H Q)
    (h : RE X.K J W (e1 f a) σ H Q) : RE X.K J W a σ H (fun x H1 => r x H1 Q) := by
  obtain ⟨M, ρ, S, s, e, h⟩ := h
  refine ⟨M, ρ, S, s, e, (RP.bind h).mono (fun x H1 _ _ _ _ _ _ h1 => ?_) fun _ _ _ q => q⟩
  obtain ⟨M1, dx, S1, e1, s1, rx, h1⟩ := h1
  exact hf x dx H1 M1 S1 _ Q s1 rx h1
theorem re_nil {σ : L2.St} {H : Hp} {Q : List V → Hp → Prop} (h : REs X.K J W esNil σ H Q) : tNil σ H Q := by
  obtain ⟨M, ρ, S, s, e, h⟩ := h
  exact h.fin s (by unfold RVs; rfl)
theorem re_cons {a : SemE} {r : SemEs} {σ : L2.St} {H : Hp} {Q : List V → Hp → Prop} (h : REs X.K J W (esCons a r) σ H Q) : tCons (RE X.K J W a) (REs X.K J W r) σ H Q := by
  obtain ⟨M, ρ, S, s, e, h⟩ := h
  refine ⟨M, ρ, S, s, e, (RP.bind h).mono (fun x H1 _ _ _ _ _ _ h1 => ?_) fun _ _ _ q => q⟩
  obtain ⟨M1, dx, S1, e1, s1, rx, h1⟩ := h1
  refine ⟨M1, ρ, S1, s1, e.ext e1, (RP.bind h1).mono (fun xs H2 _ _ _ _ _ _ h2 => ?_) fun _ _ _ q => q⟩
  obtain ⟨M2, dxs, S2, e2, s2, rxs, h2⟩ := h2
  exact h2.fin s2 (by unfold RVs; exact ⟨x, xs, rfl, rx.ext e2, rxs⟩)
theorem re_L {f : List D → Sto → Res} {r : List V → Hp → VK → Prop} {a : SemEs} {σ : L2.St} {H : Hp} {Q : VK}
    (hf : ∀ (xs : List V) (ds : List D) (H : Hp) (M : Mp) (S : Sto) (W : XK) (Q : VK), SRep X.K J.fbs H M S → RVs X.K H M ds xs → RPost X.K J.ca J.fbs H M W Q (f ds S) → r xs H Q)
    (h : RE X.K J W (eL f a) σ H Q) : REs X.K J W a σ H (fun xs H1 => r xs H1 Q) := by
  obtain ⟨M, ρ, S, s, e, h⟩ := h
  refine ⟨M, ρ, S, s, e, (RP.bind h).mono (fun x H1 _ _ _ _ _ _ h1 => ?_) fun _ _ _ q => q⟩
  obtain ⟨M1, dx, S1, e1, s1, rx, h1⟩ := h1
  exact hf x dx H1 M1 S1 _ Q s1 rx h1
/-- a test's reading from a value's -/
theorem rt_tt {f : D → Sto → Rs Bool} {r : V → Hp → (Bool → Hp → Prop) → Prop} {a : SemE} {σ : L2.St} {H : Hp} {Q : Bool → Hp → Prop}
    (hf : ∀ (x : V) (dx : D) (H : Hp) (M : Mp) (S : Sto) (W : XK) (Q : Bool → Hp → Prop), SRep X.K J.fbs H M S → RV X.K H M dx x → RP X.K J.ca J.fbs RB H M W Q (f dx S) → r x H Q)
    (h : RT X.K J W (tt f a) σ H Q) : RE X.K J W a σ H (fun x H1 => r x H1 Q) := by
  obtain ⟨M, ρ, S, s, e, h⟩ := h
  refine ⟨M, ρ, S, s, e, (RP.bind h).mono (fun x H1 _ _ _ _ _ _ h1 => ?_) fun _ _ _ q => q⟩
  obtain ⟨M1, dx, S1, e1, s1, rx, h1⟩ := h1
  exact hf x dx H1 M1 S1 _ Q s1 rx h1
theorem rt_bind {k : Bool → SemT} {g : SemT} {σ : L2.St} {H : Hp} {Q : Bool → Hp → Prop}
    (h : RT X.K J W (fun c b ρ S => (g c b ρ S).bind fun x S1 => k x c b ρ S1) σ H Q) : RT X.K J W g σ H (fun x H1 => RT X.K J W (k x) σ H1 Q) := by
  obtain ⟨M, ρ, S, s, e, h⟩ := h
  refine ⟨M, ρ, S, s, e, (RP.bind h).mono (fun x H1 _ _ _ _ _ _ h1 => ?_) fun _ _ _ q => q⟩
  obtain ⟨M1, dx, S1, e1, s1, rx, h1⟩ := h1
  cases rx
  exact ⟨M1, ρ, S1, s1, e.ext e1, h1⟩
theorem re_bindT {k : Bool → SemE} {g : SemT} {σ : L2.St} {H : Hp} {Q : VK}
    (h : RE X.K J W (fun c b ρ S => (g c b ρ S).bind fun x S1 => k x c b ρ S1) σ H Q) : RT X.K J W g σ H (fun x H1 => RE X.K J W (k x) σ H1 Q) := by
  obtain ⟨M, ρ, S, s, e, h⟩ := h
  refine ⟨M, ρ, S, s, e, (RP.bind h).mono (fun x H1 _ _ _ _ _ _ h1 => ?_) fun _ _ _ q => q⟩
  obtain ⟨M1, dx, S1, e1, s1, rx, h1⟩ := h1
  cases rx
  exact ⟨M1, ρ, S1, s1, e.ext e1, h1⟩
theorem rt_ok {k : Bool} {σ : L2.St} {H : Hp} {Q : Bool → Hp → Prop} (h : RT X.K J W (fun _ _ _ S => .ok k S) σ H Q) : Q k H := by
  obtain ⟨M, ρ, S, s, e, h⟩ := h
  exact h.fin s rfl

variable {a b c : Expr} {fa fb : SemE} {ga gb : SemT} {pos : Pos} {rest : List Expr}
theorem pt_and1 (ha : PT X a (RT X.K J W ga)) : PW X (.BoolOp .And [a] pos) (RT X.K J W ga) := pw_and1 ha
theorem pw_andT (ha : PT X a (RT X.K J W ga)) (hb : PW X (.BoolOp .And (b :: rest) pos) (RT X.K J W gb)) : PW X (.BoolOp .And (a :: b :: rest) pos) (RT X.K J W (tAndT ga gb)) := by
  refine ⟨fun wh pins s σ H Q I h => (pw_and ha hb).run wh pins s σ H Q I ?_⟩
  have h := rt_bind (g := ga) (k := fun k c g ρ S1 => bif k then gb c g ρ S1 else .ok false S1) h
  obtain ⟨M, ρ, S, s, e, h⟩ := h
  refine ⟨M, ρ, S, s, e, h.mono (fun x H1 _ _ _ _ _ _ h1 => ?_) fun _ _ _ q => q⟩
  cases x with
  | true => rw [if_pos rfl]; exact h1
  | false => rw [if_neg Bool.false_ne_true]; exact rt_ok h1
theorem pw_orT (ha : PT X a (RT X.K J W ga)) (hb : PW X (.BoolOp .Or (b :: rest) pos) (RT X.K J W gb)) : PW X (.BoolOp .Or (a :: b :: rest) pos) (RT X.K J W (tOrT ga gb)) := by
  refine ⟨fun wh pins s σ H Q I h => (pw_or ha hb).run wh pins s σ H Q I ?_⟩
  have h := rt_bind (g := ga) (k := fun k c g ρ S1 => bif k then .ok true S1 else gb c g ρ S1) h
  obtain ⟨M, ρ, S, s, e, h⟩ := h
  refine ⟨M, ρ, S, s, e, h.mono (fun x H1 _ _ _ _ _ _ h1 => ?_) fun _ _ _ q => q⟩
  cases x with
  | false => rw [if_neg Bool.false_ne_true]; exact h1
  | true => rw [if_pos rfl]; exact rt_ok h1
theorem pt_notT (ha : PT X a (RT X.K J W ga)) : PT X (.UnaryOp .Not a pos) (RT X.K J W (tNotT ga)) := by
  refine PT.imp (pt_not ha) fun σ H Q h => ?_
  have h := rt_bind (g := ga) (k := fun k c g ρ S1 => .ok (!k) S1) h
  obtain ⟨M, ρ, S, s, e, h⟩ := h
  exact ⟨M, ρ, S, s, e, h.mono (fun x H1 _ _ _ _ _ _ h1 => rt_ok h1) fun _ _ _ q => q⟩
theorem pe_if (hc : PT X c (RT X.K J W ga)) (ha : PE X a (RE X.K J W fa)) (hb : PE X b (RE X.K J W fb)) : PE X (.IfExp c a b pos) (RE X.K J W (eIf ga fa fb)) := by
  refine PE.imp (pe_ifExp hc ha hb) fun σ H Q h => ?_
  have h := re_bindT (g := ga) (k := fun k c g ρ S1 => bif k then fa c g ρ S1 else fb c g ρ S1) h
  obtain ⟨M, ρ, S, s, e, h⟩ := h
  refine ⟨M, ρ, S, s, e, h.mono (fun x H1 _ _ _ _ _ _ h1 => ?_) fun _ _ _ q => q⟩
  cases x with
  | true => rw [if_pos rfl]; exact h1
  | false => rw [if_neg Bool.false_ne_true]; exact h1
/-- a value that is a bool, as a test -/
theorem pt_valB (ha : PE X a (RE X.K J W fa)) (he : ∀ whole, isTrue a X.env whole = (do let v ← whole; standAt a.pos; holding [v] (truthy v))) : PT X a (RT X.K J W (tt asB fa)) := by
  refine PT.imp (pt_val ha he) fun σ H Q h => rt_tt (r := fun x H Q => ∃ c, x = .bl c ∧ Q c H) (fun x dx H M S W Q s r h => ?_) h
  cases dx with
  | bl k =>
    unfold RV at r
    subst r
    exact ⟨k, rfl, h.fin s rfl⟩
  | non => exact h.elim
  | int _ => exact h.elim
  | str _ => exact h.elim
  | tup _ => exact h.elim
  | lst _ => exact h.elim
  | fix _ => exact h.elim
  | ref _ => exact h.elim
end
end Lk

namespace Lk
open PySem PySem.Spec PyProof.Rows L2

/-! ### a mutable list made still -/
def frz : D → Sto → Res
  | .ref n, S => match S[n]? with
    | some (.lst ds) => .ok (.lst ds) (S.set n .dead)
    | _ => .bad
  | _, _ => .bad
section
variable {K : PySem.W.Frag} {ca : Nat → Option Addr} {fbs : List Nat} {H H1 : Hp} {M M1 : Mp} {W : XK} {Q Q' : VK} {S : Sto}
theorem frz_ok {d : D} {v : V} (s : SRep K fbs H M S) (r : RV K H M d v) (h : RPost K ca fbs H M W Q (frz d S)) : Q v H := by
  cases d with
  | ref n =>
    unfold frz at h
    cases hc : S[n]? with
    | none => simp only [hc] at h; exact h.elim
    | some c =>
      cases c with
      | dead => simp only [hc] at h; exact h.elim
      | lst ds =>
        simp only [hc] at h
        unfold RV at r
        obtain ⟨a, o, ev, h1, h2⟩ := r
        obtain ⟨b, vs, eo, hb, rs⟩ := s.cell n _ _ hc h1
        subst eo
        have hba := h2 b rfl
        subst hba
        subst ev
        have hn : n < M.ids.length := (List.getElem?_eq_some_iff.mp h1).1
        have e : Ext H M H ⟨M.ids.set n none, M.z⟩ := {
          keep := fun _ _ h _ => h
          ids := fun i o hi => by
            by_cases q : n = i
            · subst q; exact .inr (by rw [List.getElem?_set_self hn])
            · exact .inl (by rw [List.getElem?_set_ne q]; exact hi)
          fresh := fun c hc => by
            rcases List.mem_or_eq_of_mem_set hc with q | q
            · exact .inl q
            · cases q
          z := fun _ h => .inl h
          zs := fun _ h => h
          there := fun _ h => h
          frz := fun _ _ _ h => h }
        have out : some b ∉ M.ids.set n none := fun q => by
          obtain ⟨i, hi, ei⟩ := List.getElem_of_mem q
          have ei' : (M.ids.set n none)[i]? = some (some b) := by rw [List.getElem?_eq_getElem hi, ei]
          by_cases z : n = i
          · subst z; rw [List.getElem?_set_self hn] at ei'; cases ei'
          · rw [List.getElem?_set_ne z] at ei'
            exact z (s.inj n i b h1 ei')
        refine h (.ref b) H ⟨M.ids.set n none, M.z⟩ e ⟨by simp [s.len], fun i c o hi ho => ?_, fun i j c hi hj => ?_, fun c hc => ⟨(s.zz c hc).1, fun q => ?_⟩, fun b' hb' => ?_⟩ ?_
        · by_cases z : n = i
          · subst z
            rw [List.getElem?_set_self (by rw [← s.len]; exact hn)] at hi
            have ho' : (M.ids.set n none)[n]? = some o := ho
            rw [List.getElem?_set_self hn] at ho'
            cases hi; cases ho'
            rfl
          · rw [List.getElem?_set_ne z] at hi
            have ho' : (M.ids.set n none)[i]? = some o := ho
            rw [List.getElem?_set_ne z] at ho'
            exact (s.cell i c o hi ho').ext e fun _ _ _ h => h
        · have go : ∀ i, (M.ids.set n none)[i]? = some (some c) → M.ids[i]? = some (some c) := fun i hi => by
            by_cases z : n = i
            · subst z; rw [List.getElem?_set_self hn] at hi; cases hi
            · rw [List.getElem?_set_ne z] at hi; exact hi
          exact s.inj i j c (go i hi) (go j hj)
        · rcases List.mem_or_eq_of_mem_set q with q | q
          · exact (s.zz c hc).2 q
          · cases q
        · obtain ⟨q1, q2⟩ := s.cl b' hb'
          refine ⟨by simpa using q1, fun i c hi hc => ?_⟩
          by_cases z : n = i
          · subst z
            rw [List.getElem?_set_self (by rw [← s.len]; exact hn)] at hc
            cases hc; rfl
          · rw [List.getElem?_set_ne z] at hc
            exact q2 i c hi hc
        · unfold RV
          exact ⟨b, vs, rfl, hb, out, fun q => (s.zz b q).2 (List.mem_of_getElem? h1), RVs.ext e ds vs rs⟩
  | non => exact h.elim
  | bl _ => exact h.elim
  | int _ => exact h.elim
  | str _ => exact h.elim
  | tup _ => exact h.elim
  | lst _ => exact h.elim
  | fix _ => exact h.elim
theorem pe_frz {X : Cx} {J : Inf} {W : WX} {e : Expr} {f : SemE} (he : PE X e (RE X.K J W f)) : PE X e (RE X.K J W (e1 frz f)) :=
  PE.imp he fun σ H Q h => by
    have h' := re_1 (r := fun x H Q => Q x H) (fun x dx H M S W Q s r q => frz_ok s r q) h
    exact h'
end

/-! ### statements -/
inductive RS where
  | nx (ρ : Env) (S : Sto) | rt (d : D) (S : Sto) | bk (ρ : Env) (S : Sto) | ct (ρ : Env) (S : Sto) | exc (x : Ex) (ρ : Env) (S : Sto) | bad
abbrev SemS := CallF → List Nat → Env → Sto → RS
def Rs.bindS {α : Type} (r : Rs α) (ρ : Env) (k : α → Sto → RS) : RS := match r with
  | .ok d S => k d S
  | .exc x S => .exc x ρ S
  | .bad => .bad
def RS.seq (r : RS) (k : Env → Sto → RS) : RS := match r with
  | .nx ρ S => k ρ S
  | r => r
def SPost (K : PySem.W.Frag) (ca : Nat → Option Addr) (fbs : List Nat) (H : Hp) (M : Mp) (W : WX) (D : Ends) : RS → Prop
  | .nx ρ S => ∀ σ' H' M', Ext H M H' M' → SRep K fbs H' M' S → ERep K H' M' σ' ρ → D.nx σ' H'
  | .rt d S => ∀ v H' M', Ext H M H' M' → SRep K fbs H' M' S → RV K H' M' d v → D.rt v H'
  | .bk ρ S => ∀ σ' H' M', Ext H M H' M' → SRep K fbs H' M' S → ERep K H' M' σ' ρ → D.bk σ' H'
  | .ct ρ S => ∀ σ' H' M', Ext H M H' M' → SRep K fbs H' M' S → ERep K H' M' σ' ρ → D.ct σ' H'
  | .exc x ρ S => ∀ cls dd σ' H' M', Ext H M H' M' → SRep K fbs H' M' S → ERep K H' M' σ' ρ → XRep K ca H' M' x cls dd → W cls dd σ' H'
  | .bad => False
def RSt (K : PySem.W.Frag) (J : Inf) (W : WX) (f : SemS) : TS := fun D σ H => ∃ M ρ S, SRep K J.fbs H M S ∧ ERep K H M σ ρ ∧ SPost K J.ca J.fbs H M W D (f J.cf J.fbs ρ S)
section
variable {K : PySem.W.Frag} {ca : Nat → Option Addr} {fbs : List Nat} {H H1 : Hp} {M M1 : Mp} {W : WX} {D D' : Ends} {S : Sto} {r : RS}
theorem SPost.ext (h : SPost K ca fbs H M W D r) (e : Ext H M H1 M1) : SPost K ca fbs H1 M1 W D r := by
  cases r with
  | nx ρ S => exact fun v H' M' e' s q => h v H' M' (e.trans e') s q
  | rt ρ S => exact fun v H' M' e' s q => h v H' M' (e.trans e') s q
  | bk ρ S => exact fun v H' M' e' s q => h v H' M' (e.trans e') s q
  | ct ρ S => exact fun v H' M' e' s q => h v H' M' (e.trans e') s q
  | exc x ρ S => exact fun c d σ H' M' e' s q => h c d σ H' M' (e.trans e') s q
  | bad => exact h
/-- the result's ends, all but the next -/
theorem SPost.seq {k : Env → Sto → RS} (h : SPost K ca fbs H M W D (r.seq k)) :
    SPost K ca fbs H M W { D with nx := fun σ1 H1 => ∃ M1 ρ1 S1, Ext H M H1 M1 ∧ SRep K fbs H1 M1 S1 ∧ ERep K H1 M1 σ1 ρ1 ∧ SPost K ca fbs H1 M1 W D (k ρ1 S1) } r := by
  cases r with
  | nx ρ S => exact fun σ' H' M' e s q => ⟨M', ρ, S, e, s, q, SPost.ext h e⟩
  | rt ρ S => exact h
  | bk ρ S => exact h
  | ct ρ S => exact h
  | exc x ρ S => exact h
  | bad => exact h
theorem RP.bindS {α β : Type} {R : Rel α β} {r : Rs α} {ρ : Env} {σ : L2.St} {k : α → Sto → RS} (e0 : ERep K H M σ ρ) (h : SPost K ca fbs H M W D (r.bindS ρ k)) :
    RP K ca fbs R H M (fun c d H' => W c d σ H') (fun v H1 => ∃ M1 d S1, Ext H M H1 M1 ∧ SRep K fbs H1 M1 S1 ∧ R H1 M1 d v ∧ SPost K ca fbs H1 M1 W D (k d S1)) r := by
  cases r with
  | ok d S => exact fun v H' M' e s q => ⟨M', d, S, e, s, q, SPost.ext h e⟩
  | exc x S => exact fun c d H' M' e s q => h c d σ H' M' e s (e0.ext e) q
  | bad => exact h
end

def sPass : SemS := fun _ _ ρ S => .nx ρ S
def sBreak : SemS := fun _ _ ρ S => .bk ρ S
def sCont : SemS := fun _ _ ρ S => .ct ρ S
def sSeq (a b : SemS) : SemS := fun c g ρ S => (a c g ρ S).seq fun ρ1 S1 => b c g ρ1 S1
def sExpr (a : SemE) : SemS := fun c g ρ S => (a c g ρ S).bindS ρ fun _ S1 => .nx ρ S1
def sRet (a : SemE) : SemS := fun c g ρ S => (a c g ρ S).bindS ρ fun d S1 => .rt d S1
def sIf (t : SemT) (a b : SemS) : SemS := fun c g ρ S => (t c g ρ S).bindS ρ fun k S1 => bif k then a c g ρ S1 else b c g ρ S1
/-- targets of names -/
abbrev SemG := D → Env → Option Env
def gSet (i : Nat) : SemG := fun d ρ => some (ρ.set i (some d))
def gsNil : List D → Env → Option Env
  | [], ρ => some ρ
  | _, _ => none
def gsCons (g : SemG) (r : List D → Env → Option Env) : List D → Env → Option Env
  | d :: ds, ρ => match g d ρ with
    | some ρ1 => r ds ρ1
    | none => none
  | [], _ => none
def gTupD (n : Nat) (g : List D → Env → Option Env) : SemG
  | .tup ds, ρ => bif Nat.beq ds.length n then g ds ρ else none
  | _, _ => none
def sAsg (g : SemG) (a : SemE) : SemS := fun c b ρ S => (a c b ρ S).bindS ρ fun d S1 => match g d ρ with
  | some ρ1 => .nx ρ1 S1
  | none => .bad
def RG (K : PySem.W.Frag) (fbs vs : List Nat) (g : SemG) : TG := fun v σ H Q => ∃ M ρ S d, SRep K fbs H M S ∧ ERep K H M σ ρ ∧ RV K H M d v ∧ ∃ ρ1, g d ρ = some ρ1 ∧ ∀ σ1, ERep K H M σ1 ρ1 → wipe σ1 vs = wipe σ vs → Q σ1 H
def RGs (K : PySem.W.Frag) (fbs ws : List Nat) (g : List D → Env → Option Env) : TGs := fun vs σ H Q => ∃ M ρ S ds, SRep K fbs H M S ∧ ERep K H M σ ρ ∧ RVs K H M ds vs ∧ ∃ ρ1, g ds ρ = some ρ1 ∧ ∀ σ1, ERep K H M σ1 ρ1 → wipe σ1 ws = wipe σ ws → Q σ1 H
theorem wipe_set {σ : L2.St} {i : Nat} {x : Option V} : ∀ {vs : List Nat}, i ∈ vs → wipe (σ.set i x) vs = wipe σ vs
  | [], h => nomatch h
  | v :: vs, h => by
    unfold wipe
    by_cases q : i ∈ vs
    · rw [wipe_set q]
    · rcases List.mem_cons.mp h with e | e
      · subst e
        have key : ∀ (ws : List Nat) (τ : L2.St), i ∉ ws → wipe (τ.set i x) ws = (wipe τ ws).set i x := by
          intro ws
          induction ws with
          | nil => intro τ _; rfl
          | cons w ws ih =>
            intro τ hn
            unfold wipe
            rw [ih τ fun z => hn (List.mem_cons_of_mem _ z)]
            exact List.set_comm _ _ fun z => hn (by rw [z]; exact List.mem_cons_self)
        rw [key vs σ q, List.set_set]
      · exact absurd e q

theorem ERep.set {K : PySem.W.Frag} {H : Hp} {M : Mp} {σ : L2.St} {ρ : Env} {d : D} {v : V} (e : ERep K H M σ ρ) (i : Nat) (r : RV K H M d v) : ERep K H M (σ.set i (some v)) (ρ.set i (some d)) := by
  refine ⟨by simp [e.len], fun j d' h => ?_⟩
  by_cases q : i = j
  · subst q
    have hl : i < ρ.length := by
      have := (List.getElem?_eq_some_iff.mp h).1
      simpa using this
    rw [List.getElem?_set_self hl] at h
    cases h
    exact ⟨v, by rw [List.getElem?_set_self (by rw [e.len]; exact hl)], r⟩
  · rw [List.getElem?_set_ne q] at h
    obtain ⟨v', h1, h2⟩ := e.at_ j d' h
    exact ⟨v', by rw [List.getElem?_set_ne q]; exact h1, h2⟩

theorem PS.imp {X : Cx} {e : Stmt} {t t' : TS} (h : PS X e t) (i : ∀ D σ H, t' D σ H → t D σ H) : PS X e t' := ⟨fun pins s σ H D I q => h.run pins s σ H D I (i _ _ _ q)⟩
theorem PSs.imp {X : Cx} {e : List Stmt} {t t' : TS} (h : PSs X e t) (i : ∀ D σ H, t' D σ H → t D σ H) : PSs X e t' := ⟨fun pins s σ H D I q => h.run pins s σ H D I (i _ _ _ q)⟩
theorem PG.imp {X : Cx} {e : Expr} {t t' : TG} (h : PG X e t) (i : ∀ v σ H Q, t' v σ H Q → t v σ H Q) : PG X e t' := ⟨fun pins s σ H v u Q I r q => h.run pins s σ H v u Q I r (i _ _ _ _ q)⟩
theorem PGs.imp {X : Cx} {e : List Expr} {t t' : TGs} (h : PGs X e t) (i : ∀ v σ H Q, t' v σ H Q → t v σ H Q) : PGs X e t' := ⟨fun pins s σ H v u Q I r q => h.run pins s σ H v u Q I r (i _ _ _ _ q)⟩

section
variable {X : Cx} {J : Inf} {W : WX} {pos : Pos} {st : Stmt} {rest : List Stmt} {e : Expr} {f g : SemS} {a : SemE} {t : SemT}
theorem rs_nx {D : Ends} {σ : L2.St} {H : Hp} (h : RSt X.K J W sPass D σ H) : tNext D σ H := by
  obtain ⟨M, ρ, S, s, e, h⟩ := h
  exact h σ H M .refl s e
theorem ps_passR : PS X (.Pass pos) (RSt X.K J W sPass) := PS.imp ps_pass fun D σ H h => rs_nx h
theorem pss_nilR : PSs X [] (RSt X.K J W sPass) := PSs.imp pss_nil fun D σ H h => rs_nx h
theorem ps_breakR : PS X (.Break pos) (RSt X.K J W sBreak) := PS.imp ps_break fun D σ H ⟨M, ρ, S, s, e, h⟩ => h σ H M .refl s e
theorem ps_contR : PS X (.Continue pos) (RSt X.K J W sCont) := PS.imp ps_continue fun D σ H ⟨M, ρ, S, s, e, h⟩ => h σ H M .refl s e
theorem pss_oneR (h : PS X st (RSt X.K J W f)) : PSs X [st] (RSt X.K J W f) := pss_one h
theorem pss_consR (h1 : PS X st (RSt X.K J W f)) (h2 : PSs X rest (RSt X.K J W g)) : PSs X (st :: rest) (RSt X.K J W (sSeq f g)) := by
  refine PSs.imp (pss_cons h1 h2) fun D σ H h => ?_
  obtain ⟨M, ρ, S, s, e, h⟩ := h
  have q := SPost.seq (k := fun ρ1 S1 => g J.cf J.fbs ρ1 S1) h
  refine ⟨M, ρ, S, s, e, ?_⟩
  cases hr : f J.cf J.fbs ρ S with
  | nx ρ1 S1 =>
    rw [hr] at q
    exact fun σ' H' M' e1 s1 q1 => by
      obtain ⟨M2, ρ2, S2, e2, s2, q2, q3⟩ := q σ' H' M' e1 s1 q1
      exact ⟨M2, ρ2, S2, s2, q2, q3⟩
  | rt _ _ => rw [hr] at q; exact q
  | bk _ _ => rw [hr] at q; exact q
  | ct _ _ => rw [hr] at q; exact q
  | exc _ _ _ => rw [hr] at q; exact q
  | bad => rw [hr] at q; exact q
theorem re_bindS {k : Env → D → Sto → RS} {D : Ends} {σ : L2.St} {H : Hp} {T : V → Hp → Prop} (hk : ∀ v H1 M1 d S1 ρ, SRep X.K J.fbs H1 M1 S1 → ERep X.K H1 M1 σ ρ → RV X.K H1 M1 d v → SPost X.K J.ca J.fbs H1 M1 W D (k ρ d S1) → T v H1)
    (h : ∃ M ρ S, SRep X.K J.fbs H M S ∧ ERep X.K H M σ ρ ∧ SPost X.K J.ca J.fbs H M W D ((a J.cf J.fbs ρ S).bindS ρ (k ρ))) : RE X.K J W a σ H T := by
  obtain ⟨M, ρ, S, s, e, h⟩ := h
  refine ⟨M, ρ, S, s, e, (RP.bindS (R := RV X.K) e h).mono (fun v H1 _ _ _ _ _ _ h1 => ?_) fun _ _ _ q => q⟩
  obtain ⟨M1, d, S1, e1, s1, r1, h1⟩ := h1
  exact hk v H1 M1 d S1 ρ s1 (e.ext e1) r1 h1
theorem rt_bindS {k : Env → Bool → Sto → RS} {D : Ends} {σ : L2.St} {H : Hp} {T : Bool → Hp → Prop} (hk : ∀ v H1 M1 S1 ρ, SRep X.K J.fbs H1 M1 S1 → ERep X.K H1 M1 σ ρ → SPost X.K J.ca J.fbs H1 M1 W D (k ρ v S1) → T v H1)
    (h : ∃ M ρ S, SRep X.K J.fbs H M S ∧ ERep X.K H M σ ρ ∧ SPost X.K J.ca J.fbs H M W D ((t J.cf J.fbs ρ S).bindS ρ (k ρ))) : RT X.K J W t σ H T := by
  obtain ⟨M, ρ, S, s, e, h⟩ := h
  refine ⟨M, ρ, S, s, e, (RP.bindS (R := RB) e h).mono (fun v H1 _ _ _ _ _ _ h1 => ?_) fun _ _ _ q => q⟩
  obtain ⟨M1, d, S1, e1, s1, r1, h1⟩ := h1
  cases r1
  exact hk v H1 M1 S1 ρ s1 (e.ext e1) h1
theorem ps_exprR (he : PE X e (RE X.K J W a)) (hs : swapsWith e none pos.line X.env = pure false) : PS X (.Expr e pos) (RSt X.K J W (sExpr a)) :=
  PS.imp (ps_expr he hs) fun D σ H h => re_bindS (k := fun ρ _ S1 => .nx ρ S1) (fun v H1 M1 d S1 ρ s1 e1 r1 h1 => h1 σ H1 M1 .refl s1 e1) h
theorem ps_retR (he : PE X e (RE X.K J W a)) : PS X (.Return (some e) pos) (RSt X.K J W (sRet a)) :=
  PS.imp (ps_ret he) fun D σ H h => re_bindS (k := fun ρ d S1 => .rt d S1) (fun v H1 M1 d S1 ρ s1 e1 r1 h1 => h1 v H1 M1 .refl s1 r1) h
theorem ps_ifR {c : Expr} {bo el : List Stmt} (hc : PT X c (RT X.K J W t)) (ha : PSs X bo (RSt X.K J W f)) (hb : PSs X el (RSt X.K J W g)) : PS X (.If c bo el pos) (RSt X.K J W (sIf t f g)) :=
  PS.imp (ps_if hc ha hb) fun D σ H h => rt_bindS (k := fun ρ k S1 => bif k then f J.cf J.fbs ρ S1 else g J.cf J.fbs ρ S1) (fun v H1 M1 S1 ρ s1 e1 h1 => by
    cases v with
    | true => rw [if_pos rfl]; exact ⟨M1, ρ, S1, s1, e1, h1⟩
    | false => rw [if_neg Bool.false_ne_true]; exact ⟨M1, ρ, S1, s1, e1, h1⟩) h
/-! targets -/
theorem pg_nameR {i : Nat} {vs : List Nat} {x : Str} (hv : i ∈ vs) (hN : X.N.Nodup) (hi : X.N[i]? = some x) (hx : Loc X.env.scope x) (hf : X.fn x = true ∨ X.env.scope.names.lookup x = some .local) : PG X (.Name x pos) (RG X.K J.fbs vs (gSet i)) :=
  PG.imp (pg_name hN hi hx hf) fun v σ H Q h => by
    obtain ⟨M, ρ, S, d, s, e, r, ρ1, e1, h⟩ := h
    cases e1
    exact h _ (e.set i r) (wipe_set hv)
theorem pgs_nilR {vs : List Nat} : PGs X [] (RGs X.K J.fbs vs gsNil) :=
  PGs.imp pgs_nil fun v σ H Q h => by
    obtain ⟨M, ρ, S, ds, s, e, r, ρ1, e1, h⟩ := h
    cases ds with
    | nil =>
      cases e1
      unfold RVs at r
      exact ⟨r, h σ e rfl⟩
    | cons d ds => cases e1
theorem pgs_consR {vs : List Nat} {es : List Expr} {g1 : SemG} {gs : List D → Env → Option Env} (h1 : PG X e (RG X.K J.fbs vs g1)) (h2 : PGs X es (RGs X.K J.fbs vs gs))
    (hs : (assignEach (e :: es) X.env).map (·.2) = assign e X.env :: (assignEach es X.env).map (·.2)) : PGs X (e :: es) (RGs X.K J.fbs vs (gsCons g1 gs)) :=
  PGs.imp (pgs_cons h1 h2 hs) fun v σ H Q h => by
    obtain ⟨M, ρ, S, ds, s, e, r, ρ1, e1, h⟩ := h
    cases ds with
    | nil => cases e1
    | cons d ds =>
      unfold RVs at r
      obtain ⟨x, xs, rfl, rx, rxs⟩ := r
      unfold gsCons at e1
      cases q : g1 d ρ with
      | none => simp only [q] at e1; cases e1
      | some ρ2 =>
        simp only [q] at e1
        exact ⟨x, xs, rfl, M, ρ, S, d, s, e, rx, ρ2, q, fun σ2 e2 w2 => ⟨M, ρ2, S, ds, s, e2, rxs, ρ1, e1, fun σ3 e3 w3 => h σ3 e3 (w3.trans w2)⟩⟩
theorem pg_tupR {vs : List Nat} {es : List Expr} {k n : Nat} {gs : List D → Env → Option Env} (hc : X.calm = true) (h : PGs X es (RGs X.K J.fbs vs gs)) (hn : (assignEach es X.env).length = n) (hst : (assignEach es X.env).findIdx? (·.1) = none) :
    PG X (.Tuple es k pos) (RG X.K J.fbs vs (gTupD n gs)) :=
  PG.imp (pg_tup hc h hn hst) fun v σ H Q h => by
    obtain ⟨M, ρ, S, d, s, e, r, ρ1, e1, h⟩ := h
    cases d with
    | tup ds =>
      unfold gTupD at e1
      cases q : Nat.beq ds.length n with
      | false => simp only [q, cond_false] at e1; cases e1
      | true =>
        simp only [q, cond_true] at e1
        unfold RV at r
        obtain ⟨a, vs, rfl, hq, rs⟩ := r
        have hl : ∀ (ds : List D) (vs : List V), RVs X.K H M ds vs → vs.length = ds.length := by
          intro ds
          induction ds with
          | nil => intro vs h; unfold RVs at h; subst h; rfl
          | cons d ds ih => intro vs h; unfold RVs at h; obtain ⟨x, xs, rfl, _, h⟩ := h; simp [ih xs h]
        exact ⟨a, vs, rfl, hq.seq, by rw [hl ds vs rs]; exact Nat.eq_of_beq_eq_true q, M, ρ, S, ds, s, e, rs, ρ1, e1, h⟩
    | non => cases e1
    | bl _ => cases e1
    | int _ => cases e1
    | str _ => cases e1
    | lst _ => cases e1
    | fix _ => cases e1
    | ref _ => cases e1
theorem asg_post {vs : List Nat} {g : SemG} {D : Ends} {σ : L2.St} {H1 : Hp} {M1 : Mp} {v : V} {d : Lk.D} {S1 : Sto} {ρ : Env} (s1 : SRep X.K J.fbs H1 M1 S1) (e1 : ERep X.K H1 M1 σ ρ) (r1 : RV X.K H1 M1 d v)
    (h1 : SPost X.K J.ca J.fbs H1 M1 W D (match g d ρ with | some ρ1 => .nx ρ1 S1 | none => .bad)) : RG X.K J.fbs vs g v σ H1 D.nx := by
  refine ⟨M1, ρ, S1, d, s1, e1, r1, ?_⟩
  cases q : g d ρ with
  | none => rw [q] at h1; exact h1.elim
  | some ρ1 =>
    rw [q] at h1
    exact ⟨ρ1, rfl, fun σ1 e2 _ => h1 σ1 H1 M1 .refl s1 e2⟩
theorem ps_asgR {vs : List Nat} {tg : Expr} {g : SemG} (he : PE X e (RE X.K J W a)) (hg : PG X tg (RG X.K J.fbs vs g)) (hs : swapsWithSole [tg] e pos.line X.env = pure false) (hw : swappedStores [tg] e X.env = pure none)
    (h1 : (assignEach [tg] X.env).map (·.2) = [assign tg X.env]) : PS X (.Assign [tg] e pos) (RSt X.K J W (sAsg g a)) :=
  PS.imp (ps_asg he hg hs hw h1) fun D σ H h => re_bindS (k := fun ρ d S1 => match g d ρ with | some ρ1 => .nx ρ1 S1 | none => .bad) (fun v H1 M1 d S1 ρ s1 e1 r1 h1 => asg_post s1 e1 r1 h1) h
theorem ps_setR {i : Nat} {x : Str} {pos' : Pos} (hN : X.N.Nodup) (hi : X.N[i]? = some x) (hx : Loc X.env.scope x) (he : PE X e (RE X.K J W a)) (hs : swapsWith e (some (.Name x pos')) pos.line X.env = pure false) (hf : X.fn x = true ∨ X.env.scope.names.lookup x = some .local) :
    PS X (.Assign [.Name x pos'] e pos) (RSt X.K J W (sAsg (gSet i) a)) :=
  PS.imp (ps_set hN hi hx he hs hf) fun D σ H h => re_bindS (k := fun ρ d S1 => match gSet i d ρ with | some ρ1 => .nx ρ1 S1 | none => .bad) (fun v H1 M1 d S1 ρ s1 e1 r1 h1 => h1 _ H1 M1 .refl s1 (e1.set i r1)) h
end
end Lk

namespace Lk
open PySem PySem.Spec PyProof.Rows L2

def sPar (i j : Nat) (a : SemEs) : SemS := fun c b ρ S => (a c b ρ S).bindS ρ fun ds S1 => match ds with
  | [x, y] => .nx ((ρ.set i (some x)).set j (some y)) S1
  | _ => .bad
def sAug (i : Nat) (f : D → D → Sto → Res) (a : SemE) : SemS := fun c b ρ S => match ρ[i]? with
  | some (some x) => (a c b ρ S).bindS ρ fun y S1 => (f x y S1).bindS ρ fun z S2 => .nx (ρ.set i (some z)) S2
  | _ => .bad
/-- o[i] = e, by values -/
def sSub (f : List Nat → D → D → D → Sto → Res) (a o i : SemE) : SemS := fun c b ρ S => (a c b ρ S).bindS ρ fun v S1 => (o c b ρ S1).bindS ρ fun ov S2 => (i c b ρ S2).bindS ρ fun iv S3 => (f b ov iv v S3).bindS ρ fun _ S4 => .nx ρ S4
abbrev SemI := CallF → List Nat → Env → Sto → Rs (List D)
def forL (g : SemG) (body : SemS) (c : CallF) (b : List Nat) : List D → Env → Sto → RS
  | [], ρ, S => .nx ρ S
  | d :: ds, ρ, S => match g d ρ with
    | none => .bad
    | some ρ1 => match body c b ρ1 S with
      | .nx ρ2 S2 => forL g body c b ds ρ2 S2
      | .ct ρ2 S2 => forL g body c b ds ρ2 S2
      | .bk ρ2 S2 => .nx ρ2 S2
      | .rt d S2 => .rt d S2
      | .exc x ρ2 S2 => .exc x ρ2 S2
      | .bad => .bad
def sFor (it : SemI) (g : SemG) (body : SemS) : SemS := fun c b ρ S => (it c b ρ S).bindS ρ fun ds S1 => forL g body c b ds ρ S1
def whileL (t : SemT) (body : SemS) (c : CallF) (b : List Nat) : Nat → Env → Sto → RS
  | 0, _, _ => .bad
  | n + 1, ρ, S => (t c b ρ S).bindS ρ fun k S1 => bif k then
      match body c b ρ S1 with
      | .nx ρ2 S2 => whileL t body c b n ρ2 S2
      | .ct ρ2 S2 => whileL t body c b n ρ2 S2
      | .bk ρ2 S2 => .nx ρ2 S2
      | .rt d S2 => .rt d S2
      | .exc x ρ2 S2 => .exc x ρ2 S2
      | .bad => .bad
    else .nx ρ S1
def fuelW : Nat := 1048576
def sWhile (t : SemT) (body : SemS) : SemS := fun c b ρ S => whileL t body c b fuelW ρ S

/-- what is walked -/
def Itms (K : PySem.W.Frag) (J : It) (H : Hp) (M : Mp) (ds : List D) : Prop := ∃ (G : Hp → Prop) (Y : Nat → Hp → V → Hp → Prop), Walk J ds.length G Y ∧ (∀ H1 M1, Ext H M H1 M1 → G H1) ∧
  ∀ i H1 M1 x H2, Ext H M H1 M1 → i < ds.length → Y i H1 x H2 → (H2 = H1 ∨ ∃ T o, H1 T = none ∧ H2 = upd H1 T o) ∧ ∃ d, ds[i]? = some d ∧ RV K H2 M1 d x
def RI (K : PySem.W.Frag) (J : Inf) (W : WX) (f : SemI) : TI := fun σ H R => ∃ M ρ S, SRep K J.fbs H M S ∧ ERep K H M σ ρ ∧ RP K J.ca J.fbs (fun H' M' (ds : List D) It => Itms K It H' M' ds) H M (fun c d H' => W c d σ H') (fun It H' => R It H') (f J.cf J.fbs ρ S)

theorem drop_get {α : Type} {l : List α} {i : Nat} {x : α} (h : l[i]? = some x) : l.drop i = x :: l.drop (i + 1) := by
  obtain ⟨hi, e⟩ := List.getElem?_eq_some_iff.mp h
  rw [List.drop_eq_getElem_cons hi, e]

section
variable {X : Cx} {J : Inf} {W : WX} {pos : Pos} {e : Expr} {f g : SemS} {a : SemE} {t : SemT}
theorem ps_parR {i j : Nat} {x y : Str} {a1 a2 : Expr} {ta : SemEs} {px py pt : Pos} {kt k2 pt2} (hc : X.calm = true) (hN : X.N.Nodup) (hi : X.N[i]? = some x) (hj : X.N[j]? = some y) (hij : i ≠ j)
    (hx : X.env.scope.names.lookup x = some .local) (hy : X.env.scope.names.lookup y = some .local) (ha : PA X [a1, a2] (REs X.K J W ta))
    (hw : swappedStores [.Tuple [.Name x px, .Name y py] kt pt] (.Tuple [a1, a2] k2 pt2) X.env = pure (some [x, y])) :
    PS X (.Assign [.Tuple [.Name x px, .Name y py] kt pt] (.Tuple [a1, a2] k2 pt2) pos) (RSt X.K J W (sPar i j ta)) :=
  PS.imp (ps_par hc hN hi hj hij hx hy ha hw) fun D σ H h => by
    obtain ⟨M, ρ, S, s, e, h⟩ := h
    refine ⟨M, ρ, S, s, e, (RP.bindS (R := RVs X.K) e h).mono (fun v H1 _ _ _ _ _ _ h1 => ?_) fun _ _ _ q => q⟩
    obtain ⟨M1, ds, S1, e1, s1, r1, h1⟩ := h1
    match ds, r1, h1 with
    | [], r1, h1 => exact h1.elim
    | [_], r1, h1 => exact h1.elim
    | [d1, d2], q1, h1 =>
      unfold RVs at q1
      obtain ⟨v1, vr, ev, q2, q3⟩ := q1
      unfold RVs at q3
      obtain ⟨v2, vr2, ev2, q4, q5⟩ := q3
      unfold RVs at q5
      subst q5
      subst ev2
      exact ⟨v1, v2, ev, h1 _ H1 M1 .refl s1 (((e.ext e1).set i q2).set j q4)⟩
    | _ :: _ :: _ :: _, r1, h1 => exact h1.elim
/-- two values' operation -/
def OpOk (X : Cx) (J : Inf) (op : Value → Value → Sem Value) (f : Lk.D → Lk.D → Sto → Res) : Prop := ∃ r : R2, OpR X op r ∧
  ∀ (x y : V) (dx dy : Lk.D) (H : Hp) (M : Mp) (S : Sto) (W : XK) (Q : VK), SRep X.K J.fbs H M S → RV X.K H M dx x → RV X.K H M dy y → RPost X.K J.ca J.fbs H M W Q (f dx dy S) → r x y H Q
theorem pe_2 {op : Operator} {f : Lk.D → Lk.D → Sto → Res} {a b : Expr} {fa fb : SemE} (ho : OpOk X J (binaryOp op) f) (ha : PE X a (RE X.K J W fa)) (hb : PE X b (RE X.K J W fb)) : PE X (.BinOp a op b pos) (RE X.K J W (e2 f fa fb)) := by
  obtain ⟨r, h1, h2⟩ := ho
  exact PE.imp (pe_op h1 ha hb) fun σ H Q h => re_2 h2 h
theorem ps_augR {i : Nat} {x : Str} {op : Operator} {f : Lk.D → Lk.D → Sto → Res} {pos' : Pos} (ho : OpOk X J (inplaceOp op) f) (hN : X.N.Nodup) (hi : X.N[i]? = some x) (hx : Loc X.env.scope x) (he : PE X e (RE X.K J W a)) (hf : X.fn x = true ∨ X.env.scope.names.lookup x = some .local) :
    PS X (.AugAssign (.Name x pos') op e pos) (RSt X.K J W (sAug i f a)) := by
  obtain ⟨r, h1, h2⟩ := ho
  refine PS.imp (ps_aug (ti := r) hN hi hx he (fun pins s σ H x y v u Q I rx ry q => h1 pins s σ H x y v u Q I rx ry q) hf) fun D σ H h => ?_
  obtain ⟨M, ρ, S, s, e, h⟩ := h
  unfold sAug at h
  cases q : ρ[i]? with
  | none => rw [q] at h; exact h.elim
  | some o =>
    rw [q] at h
    cases o with
    | none => exact h.elim
    | some d =>
      obtain ⟨v, hv, rv⟩ := e.at_ i d q
      refine ⟨v, hv, M, ρ, S, s, e, (RP.bindS (R := RV X.K) e h).mono (fun y H1 _ _ _ _ _ _ h1 => ?_) fun _ _ _ q => q⟩
      obtain ⟨M1, d1, S1, e1, s1, r1, h1⟩ := h1
      refine h2 v y d d1 H1 M1 S1 (fun c d H' => W c d σ H') _ s1 (rv.ext e1) r1 ((RP.bindS (R := RV X.K) (e.ext e1) h1).mono (fun z H2 _ _ _ _ _ _ h2 => ?_) fun _ _ _ q => q)
      obtain ⟨M2, d2, S2, e2, s2, r2, h2⟩ := h2
      exact h2 _ H2 M2 .refl s2 (((e.ext e1).ext e2).set i r2)
/-- a store by values -/
def SetOk (X : Cx) (J : Inf) (f : List Nat → Lk.D → Lk.D → Lk.D → Sto → Res) : Prop := ∃ r : TSet, PSet X r ∧
  ∀ (o i v : V) (ov iv dv : Lk.D) (H : Hp) (M : Mp) (S : Sto) (W : XK) (Q : Hp → Prop), SRep X.K J.fbs H M S → RV X.K H M ov o → RV X.K H M iv i → RV X.K H M dv v → RPost X.K J.ca J.fbs H M W (fun _ H' => Q H') (f J.fbs ov iv dv S) → r o i v H Q
theorem ps_subR {f : List Nat → Lk.D → Lk.D → Lk.D → Sto → Res} {o i : Expr} {fo fi : SemE} {tpos : Pos} (hf : SetOk X J f) (he : PE X e (RE X.K J W a)) (ho : PE X o (RE X.K J W fo)) (hi : PE X i (RE X.K J W fi))
    (ha : ∀ v, assign (.Subscript o i tpos) X.env v = (do
      let ov ← holding [v] (eval o X.env)
      let iv ← holding [v, ov] (eval i X.env)
      standAt tpos
      holding [v, ov, iv] (setItem ov iv v)
      release [v, ov, iv] [])) (hs : swapsWithSole [.Subscript o i tpos] e pos.line X.env = pure false) (hw : swappedStores [.Subscript o i tpos] e X.env = pure none)
    (h1 : (assignEach [.Subscript o i tpos] X.env).map (·.2) = [assign (.Subscript o i tpos) X.env]) :
    PS X (.Assign [.Subscript o i tpos] e pos) (RSt X.K J W (sSub f a fo fi)) := by
  obtain ⟨r, q1, q2⟩ := hf
  refine PS.imp (ps_asg he (pg_sub ho hi q1 ha) hs hw h1) fun D σ H h => ?_
  obtain ⟨M, ρ, S, s, e, h⟩ := h
  refine ⟨M, ρ, S, s, e, (RP.bindS (R := RV X.K) e h).mono (fun v H1 _ _ _ _ _ _ h1 => ?_) fun _ _ _ q => q⟩
  obtain ⟨M1, d1, S1, e1, s1, r1, h1⟩ := h1
  refine ⟨M1, ρ, S1, s1, e.ext e1, (RP.bindS (R := RV X.K) (e.ext e1) h1).mono (fun ov H2 _ _ _ _ _ _ h2 => ?_) fun _ _ _ q => q⟩
  obtain ⟨M2, d2, S2, e2, s2, r2, h2⟩ := h2
  refine ⟨M2, ρ, S2, s2, (e.ext e1).ext e2, (RP.bindS (R := RV X.K) ((e.ext e1).ext e2) h2).mono (fun iv H3 _ _ _ _ _ _ h3 => ?_) fun _ _ _ q => q⟩
  obtain ⟨M3, d3, S3, e3, s3, r3, h3⟩ := h3
  refine q2 ov iv v d2 d3 d1 H3 M3 S3 (fun c d H' => W c d σ H') _ s3 (r2.ext e3) r3 ((r1.ext e2).ext e3) ((RP.bindS (R := RV X.K) (((e.ext e1).ext e2).ext e3) h3).mono (fun z H4 _ _ _ _ _ _ h4 => ?_) fun _ _ _ q => q)
  obtain ⟨M4, d4, S4, e4, s4, r4, h4⟩ := h4
  exact h4 σ H4 M4 .refl s4 ((((e.ext e1).ext e2).ext e3).ext e4)

theorem SRep.step {K : PySem.W.Frag} {fbs : List Nat} {H H2 : Hp} {M : Mp} {S : Sto} (s : SRep K fbs H M S) (h : H2 = H ∨ ∃ T o, H T = none ∧ H2 = upd H T o) : SRep K fbs H2 M S ∧ Ext H M H2 M := by
  rcases h with rfl | ⟨T, o, hT, rfl⟩
  · exact ⟨s, .refl⟩
  · exact ⟨s.new hT, Ext.new hT⟩

theorem ps_forR {tg iter : Expr} {body : List Stmt} {it : SemI} {g : SemG} {fb : SemS} {vs : List Nat} (hp : PassesOwn (model X.prog X.w) X.A X.env X.xe) (hc : X.calm = true) (hi : PI X tg iter (RI X.K J W it)) (hg : PG X tg (RG X.K J.fbs vs g)) (hb : PSs X body (RSt X.K J W fb))
    (hs : ∀ x, foldedSetIterable iter X.env x = pure x) : PS X (.For tg iter body [] pos) (RSt X.K J W (sFor it g fb)) := by
  refine PS.imp (ps_for hp hc hi hg hb hs) fun D σ H h => ?_
  obtain ⟨M, ρ, S, s, e, h⟩ := h
  refine ⟨M, ρ, S, s, e, (RP.bindS (R := fun H' M' (ds : List Lk.D) It => Itms X.K It H' M' ds) e h).mono (fun I H1 _ _ _ _ _ _ h1 => ?_) fun _ _ _ q => q⟩
  obtain ⟨M1, ds, S1, e1, s1, ⟨G, Y, w, hG, hY⟩, h1⟩ := h1
  refine for_it w (fun i σ' H' => ∃ M' ρ' S', Ext H1 M1 H' M' ∧ SRep X.K J.fbs H' M' S' ∧ ERep X.K H' M' σ' ρ' ∧ SPost X.K J.ca J.fbs H' M' W D (forL g fb J.cf J.fbs (ds.drop i) ρ' S')) ?_ ?_ ?_ ?_
  · exact ⟨M1, ρ, S1, .refl, s1, e.ext e1, h1⟩
  · rintro i σ' H' _ ⟨M', ρ', S', e', _⟩
    exact hG _ _ e'
  · rintro i x σ' H' H2 hi ⟨M', ρ', S', e', s', r', h'⟩ y
    obtain ⟨st, d, hd, rd⟩ := hY i H' M' x H2 e' hi y
    obtain ⟨s2, e2⟩ := s'.step st
    rw [drop_get hd] at h'
    unfold forL at h'
    refine ⟨M', ρ', S', d, s2, r'.ext e2, rd, ?_⟩
    cases q : g d ρ' with
    | none => rw [q] at h'; exact h'.elim
    | some ρ1 =>
      simp only [q] at h'
      refine ⟨ρ1, rfl, fun σ1 r1 _ => ⟨M', ρ1, S', s2, r1, ?_⟩⟩
      have h2 := SPost.ext h' e2
      cases hb : fb J.cf J.fbs ρ1 S' with
      | nx ρ2 S2 => rw [hb] at h2; exact fun σ3 H3 M3 e3 s3 r3 => ⟨M3, ρ2, S2, (e'.trans e2).trans e3, s3, r3, h2.ext e3⟩
      | ct ρ2 S2 => rw [hb] at h2; exact fun σ3 H3 M3 e3 s3 r3 => ⟨M3, ρ2, S2, (e'.trans e2).trans e3, s3, r3, h2.ext e3⟩
      | bk ρ2 S2 => rw [hb] at h2; exact h2
      | rt d S2 => rw [hb] at h2; exact h2
      | exc x ρ2 S2 => rw [hb] at h2; exact h2
      | bad => rw [hb] at h2; exact h2
  · rintro σ' H' ⟨M', ρ', S', e', s', r', h'⟩
    rw [List.drop_length] at h'
    exact h' σ' H' M' .refl s' r'

theorem ps_whileR {c : Expr} {body : List Stmt} {fb : SemS} (hp : PassesOwn (model X.prog X.w) X.A X.env X.xe) (hc : PT X c (RT X.K J W t)) (hb : PSs X body (RSt X.K J W fb)) : PS X (.While c body [] pos) (RSt X.K J W (sWhile t fb)) := by
  refine PS.imp (ps_while hp hc hb) fun D σ H h => ?_
  refine ⟨fun m σ' H' => ∃ M' ρ' S', SRep X.K J.fbs H' M' S' ∧ ERep X.K H' M' σ' ρ' ∧ SPost X.K J.ca J.fbs H' M' W D (whileL t fb J.cf J.fbs m ρ' S'), ⟨fuelW, h⟩, fun m σ' H' h' => ?_⟩
  obtain ⟨M', ρ', S', s', r', h'⟩ := h'
  cases m with
  | zero => exact h'.elim
  | succ m =>
    unfold whileL at h'
    refine ⟨M', ρ', S', s', r', (RP.bindS (R := RB) r' h').mono (fun k H1 _ _ _ _ _ _ h1 => ?_) fun _ _ _ q => q⟩
    obtain ⟨M1, d1, S1, e1, s1, r1, h1⟩ := h1
    cases r1
    cases k with
    | false => rw [if_neg Bool.false_ne_true]; exact h1 σ' H1 M1 .refl s1 (r'.ext e1)
    | true =>
      rw [if_pos rfl]
      refine ⟨fun σ3 H3 => ∃ M3 ρ3 S3, SRep X.K J.fbs H3 M3 S3 ∧ ERep X.K H3 M3 σ3 ρ3 ∧ SPost X.K J.ca J.fbs H3 M3 W D (whileL t fb J.cf J.fbs m ρ3 S3), fun σ3 H3 h3 => ⟨m, Nat.lt_succ_self _, h3⟩, M1, ρ', S1, s1, r'.ext e1, ?_⟩
      simp only [cond_true] at h1
      cases hb : fb J.cf J.fbs ρ' S1 with
      | nx ρ2 S2 => rw [hb] at h1; exact fun σ3 H3 M3 e3 s3 r3 => ⟨M3, ρ2, S2, s3, r3, h1.ext e3⟩
      | ct ρ2 S2 => rw [hb] at h1; exact fun σ3 H3 M3 e3 s3 r3 => ⟨M3, ρ2, S2, s3, r3, h1.ext e3⟩
      | bk ρ2 S2 => rw [hb] at h1; exact h1
      | rt d S2 => rw [hb] at h1; exact h1
      | exc x ρ2 S2 => rw [hb] at h1; exact h1
      | bad => rw [hb] at h1; exact h1
end
end Lk

namespace Lk
open PySem PySem.Spec PyProof.Rows L2

def Rs.noexc {α : Type} : Rs α → Rs α
  | .exc _ _ => .bad
  | r => r
theorem Rs.bind_assoc {α β γ : Type} (r : Rs α) (k : α → Sto → Rs β) (l : β → Sto → Rs γ) : (r.bind k).bind l = r.bind fun x S => (k x S).bind l := by cases r <;> rfl
section
variable {K : PySem.W.Frag} {ca : Nat → Option Addr} {fbs : List Nat} {H H1 : Hp} {M M1 : Mp} {W W' : XK} {α β γ δ : Type} {R : Rel α β} {R' : Rel γ δ} {Q Q1 : β → Hp → Prop} {Q' : δ → Hp → Prop} {r : Rs α} {k : α → Sto → Rs γ}
theorem RP.bindN (h : RP K ca fbs R' H M W Q' (r.noexc.bind k)) :
    RP K ca fbs R H M W' (fun v H1 => ∃ M1 d S1, Ext H M H1 M1 ∧ SRep K fbs H1 M1 S1 ∧ R H1 M1 d v ∧ RP K ca fbs R' H1 M1 W Q' (k d S1)) r := by
  cases r with
  | ok d S => exact fun v H' M' e s q => ⟨M', d, S, e, s, q, RP.ext h e⟩
  | exc x S => exact h.elim
  | bad => exact h
theorem RP.bindB {H2 : Hp} {M2 : Mp} (h : RP K ca fbs R' H1 M1 W Q' (r.noexc.bind k)) :
    RP K ca fbs R H2 M2 W' (fun v H3 => ∃ M3 d S3, Ext H2 M2 H3 M3 ∧ SRep K fbs H3 M3 S3 ∧ R H3 M3 d v ∧ RP K ca fbs R' H1 M1 W Q' (k d S3)) r := by
  cases r with
  | ok d S => exact fun v H' M' e s q => ⟨M', d, S, e, s, q, h⟩
  | exc x S => exact h.elim
  | bad => exact h
end

def compL (g : SemG) (t : SemT) (el : SemE) (c : CallF) (b : List Nat) (ρ : Env) : List D → Sto → Rs (List D)
  | [], S => .ok [] S
  | d :: ds, S => match g d ρ with
    | none => .bad
    | some ρ1 => (t c b ρ1 S).noexc.bind fun k S1 => bif k then (el c b ρ1 S1).noexc.bind fun x S2 => (compL g t el c b ρ ds S2).bind fun xs S3 => .ok (x :: xs) S3
      else compL g t el c b ρ ds S1
def wipeE (ρ : Env) : List Nat → Env
  | [] => ρ
  | v :: vs => (wipeE ρ vs).set v none
def eComp (mu : Bool) (vs : List Nat) (it : SemI) (g : SemG) (t : SemT) (el : SemE) : SemE := fun c b ρ S =>
  (it c b ρ S).bind fun ds S1 => bif Nat.ble ds.length sizeLine then (compL g t el c b (wipeE ρ vs) ds S1).bind fun xs S2 => mkL mu xs S2 else .bad
def tYesT : SemT := fun _ _ _ S => .ok true S

theorem ERep.wipe {K : PySem.W.Frag} {H : Hp} {M : Mp} {σ : L2.St} {ρ : Env} (e : ERep K H M σ ρ) : ∀ vs : List Nat, ERep K H M (L2.wipe σ vs) (wipeE ρ vs)
  | [] => e
  | v :: vs => by
    have ih := e.wipe vs
    unfold L2.wipe wipeE
    refine ⟨by simp [ih.len], fun j d h => ?_⟩
    by_cases q : v = j
    · subst q
      have hl : v < (wipeE ρ vs).length := by
        have := (List.getElem?_eq_some_iff.mp h).1
        simpa using this
      rw [List.getElem?_set_self hl] at h
      cases h
    · rw [List.getElem?_set_ne q] at h
      obtain ⟨x, h1, h2⟩ := ih.at_ j d h
      exact ⟨x, by rw [List.getElem?_set_ne q]; exact h1, h2⟩
theorem wipe_wipe (σ : L2.St) (vs : List Nat) : wipe (wipe σ vs) vs = wipe σ vs := by
  have key : ∀ (ws : List Nat), (∀ w ∈ ws, w ∈ vs) → wipe (wipe σ ws) vs = wipe σ vs := by
    intro ws
    induction ws with
    | nil => intro _; rfl
    | cons w ws ih =>
      intro h
      have e : wipe σ (w :: ws) = (wipe σ ws).set w none := rfl
      rw [e, wipe_set (h w List.mem_cons_self)]
      exact ih fun x hx => h x (List.mem_cons_of_mem _ hx)
  exact key vs fun _ h => h

section
variable {K : PySem.W.Frag}
mutual
/-- values through another heap and another place of the cells -/
theorem RV.map {H H' : Hp} {M M' : Mp} (hl : ∀ b xs, H b = some (.lst xs) → some b ∉ M.ids → b ∉ M.z → H' b = some (.lst xs) ∧ some b ∉ M'.ids ∧ b ∉ M'.z)
    (hz : ∀ b o u, H b = some (.frz o u) → H' b = some (.frz o u)) (hi : ∀ (n : Nat) o, M.ids[n]? = some o → M'.ids[n]? = some o ∨ M'.ids[n]? = some none) : ∀ (d : D) (v : V), RV K H M d v → RV K H' M' d v
  | .non, v, h => by unfold RV at h ⊢; exact h
  | .bl b, v, h => by unfold RV at h ⊢; exact h
  | .int i, v, h => by unfold RV at h ⊢; exact h
  | .str x, v, h => by unfold RV at h ⊢; exact h
  | .tup ds, v, h => by
    unfold RV at h ⊢
    obtain ⟨a, vs, e1, h1, h2⟩ := h
    exact ⟨a, vs, e1, h1.mono hz, RVs.map hl hz hi ds vs h2⟩
  | .lst ds, v, h => by
    unfold RV at h ⊢
    obtain ⟨a, vs, e1, h1, h2, h3, h4⟩ := h
    obtain ⟨q1, q2, q3⟩ := hl a vs h1 h2 h3
    exact ⟨a, vs, e1, q1, q2, q3, RVs.map hl hz hi ds vs h4⟩
  | .fix ds, v, h => by
    unfold RV at h ⊢
    obtain ⟨a, vs, e1, h1, h2⟩ := h
    exact ⟨a, vs, e1, h1.imp (fun ⟨o, q⟩ => ⟨o, hz _ _ _ q⟩) id, RVs.map hl hz hi ds vs h2⟩
  | .ref n, v, h => by
    unfold RV at h ⊢
    obtain ⟨a, o, e1, h1, h2⟩ := h
    rcases hi n o h1 with q | q
    · exact ⟨a, o, e1, q, h2⟩
    · exact ⟨a, none, e1, q, fun b z => nomatch z⟩
theorem RVs.map {H H' : Hp} {M M' : Mp} (hl : ∀ b xs, H b = some (.lst xs) → some b ∉ M.ids → b ∉ M.z → H' b = some (.lst xs) ∧ some b ∉ M'.ids ∧ b ∉ M'.z)
    (hz : ∀ b o u, H b = some (.frz o u) → H' b = some (.frz o u)) (hi : ∀ (n : Nat) o, M.ids[n]? = some o → M'.ids[n]? = some o ∨ M'.ids[n]? = some none) : ∀ (ds : List D) (vs : List V), RVs K H M ds vs → RVs K H' M' ds vs
  | [], vs, h => by unfold RVs at h ⊢; exact h
  | d :: r, vs, h => by
    unfold RVs at h ⊢
    obtain ⟨x, xs, e1, h1, h2⟩ := h
    exact ⟨x, xs, e1, RV.map hl hz hi d x h1, RVs.map hl hz hi r xs h2⟩
end
theorem ERep.map {H H' : Hp} {M M' : Mp} {σ : L2.St} {ρ : Env} (h : ∀ d v, RV K H M d v → RV K H' M' d v) (e : ERep K H M σ ρ) : ERep K H' M' σ ρ :=
  ⟨e.len, fun i d q => let ⟨v, h1, h2⟩ := e.at_ i d q; ⟨v, h1, h d v h2⟩⟩
theorem RVs.app {H : Hp} {M : Mp} {d : D} {v : V} : ∀ {ds : List D} {vs : List V}, RVs K H M ds vs → RV K H M d v → RVs K H M (ds ++ [d]) (vs ++ [v])
  | [], vs, h, r => by unfold RVs at h; subst h; show RVs K H M [d] [v]; unfold RVs; exact ⟨v, [], rfl, r, by unfold RVs; rfl⟩
  | x :: ds, vs, h, r => by
    unfold RVs at h
    obtain ⟨y, ys, rfl, h1, h2⟩ := h
    show RVs K H M (x :: (ds ++ [d])) (y :: (ys ++ [v]))
    unfold RVs
    exact ⟨y, ys ++ [v], rfl, h1, RVs.app h2 r⟩
theorem RVs.len {H : Hp} {M : Mp} : ∀ {ds : List D} {vs : List V}, RVs K H M ds vs → vs.length = ds.length
  | [], vs, h => by unfold RVs at h; subst h; rfl
  | x :: ds, vs, h => by unfold RVs at h; obtain ⟨y, ys, rfl, _, h2⟩ := h; simp [RVs.len h2]

variable {fbs : List Nat} {H : Hp} {S : Sto} {ids : List (Option Addr)} {z : List Addr} {a : Addr} {ds : List D} {vs : List V}
theorem rv_pop {d : D} {v : V} (h : RV K H ⟨ids, a :: z⟩ d v) : RV K H ⟨ids, z⟩ d v :=
  RV.map (M := ⟨ids, a :: z⟩) (M' := ⟨ids, z⟩) (fun b xs h1 h2 h3 => ⟨h1, h2, fun q => h3 (List.mem_cons_of_mem _ q)⟩) (fun _ _ _ h => h) (fun _ _ h => .inl h) d v h
/-- z' within z -/
theorem SRep.sub {z' : List Addr} (s : SRep K fbs H ⟨ids, z⟩ S) (h : ∀ b, b ∈ z' → b ∈ z) : SRep K fbs H ⟨ids, z'⟩ S where
  len := s.len
  cell := fun n c o h1 h2 => by
    have q := s.cell n c o h1 h2
    cases c with
    | lst ds => obtain ⟨a, vs, e, h3, h4⟩ := q; exact ⟨a, vs, e, h3, RVs.map (M := ⟨ids, z⟩) (M' := ⟨ids, z'⟩) (fun b xs h1 h2 h3 => ⟨h1, h2, fun q => h3 (h b q)⟩) (fun _ _ _ h => h) (fun _ _ h => .inl h) ds vs h4⟩
    | dead => exact q
  inj := s.inj
  zz := fun b hb => s.zz b (h b hb)
  cl := s.cl
/-- the list that was made becomes a cell -/
theorem SRep.add {z' : List Addr} (s : SRep K fbs H ⟨ids, z⟩ S) (ha : a ∈ z) (hz : ∀ b, b ∈ z' → b ∈ z) (hza : a ∉ z') (hH : H a = some (.lst vs)) (r : RVs K H ⟨ids, z⟩ ds vs) : SRep K fbs H ⟨ids ++ [some a], z'⟩ (S ++ [.lst ds]) := by
  have na : some a ∉ ids := (s.zz a ha).2
  have mv : ∀ b xs, H b = some (.lst xs) → some b ∉ (⟨ids, z⟩ : Mp).ids → b ∉ (⟨ids, z⟩ : Mp).z → H b = some (.lst xs) ∧ some b ∉ (⟨ids ++ [some a], z'⟩ : Mp).ids ∧ b ∉ (⟨ids ++ [some a], z'⟩ : Mp).z := fun b xs h1 h2 h3 => by
    refine ⟨h1, fun q => ?_, fun q => h3 (hz b q)⟩
    rcases List.mem_append.mp q with q | q
    · exact h2 q
    · have e : b = a := by simpa using q
      exact h3 (by rw [e]; exact ha)
  have ix : ∀ (n : Nat) o, ids[n]? = some o → (ids ++ [some a])[n]? = some o ∨ (ids ++ [some a])[n]? = some none := fun n o h => .inl (by rw [List.getElem?_append_left (List.getElem?_eq_some_iff.mp h).1]; exact h)
  have ln : ids.length = S.length := s.len
  have low : ∀ n : Nat, n < S.length → (ids ++ [some a])[n]? = ids[n]? := fun n hn => List.getElem?_append_left (by omega)
  have top : (ids ++ [some a])[S.length]? = some (some a) := by rw [List.getElem?_append_right (by omega), ln]; simp
  refine ⟨by simp [ln], fun n c o h1 h2 => ?_, fun i j b h1 h2 => ?_, fun b hb => ⟨(s.zz b (hz b hb)).1, fun q => ?_⟩, fun b hb => ?_⟩
  · by_cases hn : n < S.length
    · rw [List.getElem?_append_left hn] at h1
      have h2' : (ids ++ [some a])[n]? = some o := h2
      rw [low n hn] at h2'
      have q := s.cell n c o h1 h2'
      cases c with
      | lst ds => obtain ⟨b, vs, e, h3, h4⟩ := q; exact ⟨b, vs, e, h3, RVs.map mv (fun _ _ _ h => h) ix ds vs h4⟩
      | dead => exact q
    · have hn' : n = S.length := by
        have := (List.getElem?_eq_some_iff.mp h1).1
        simp at this; omega
      subst hn'
      rw [List.getElem?_append_right (Nat.le_refl _)] at h1
      simp at h1
      subst h1
      have h2' : (ids ++ [some a])[S.length]? = some o := h2
      rw [top] at h2'
      cases h2'
      exact ⟨a, vs, rfl, hH, RVs.map mv (fun _ _ _ h => h) ix ds vs r⟩
  · have go : ∀ i : Nat, (ids ++ [some a])[i]? = some (some b) → (i < S.length ∧ ids[i]? = some (some b)) ∨ (i = S.length ∧ b = a) := fun i h => by
      by_cases hn : i < S.length
      · exact .inl ⟨hn, by rw [← low i hn]; exact h⟩
      · have hn' : i = S.length := by
          have := (List.getElem?_eq_some_iff.mp h).1
          simp [ln] at this; omega
        subst hn'
        rw [top] at h
        cases h
        exact .inr ⟨rfl, rfl⟩
    rcases go i h1 with ⟨_, q1⟩ | ⟨e1, q1⟩
    · rcases go j h2 with ⟨_, q2⟩ | ⟨e2, q2⟩
      · exact s.inj i j b q1 q2
      · subst q2; exact absurd (List.mem_of_getElem? q1) na
    · rcases go j h2 with ⟨_, q2⟩ | ⟨e2, q2⟩
      · subst q1; exact absurd (List.mem_of_getElem? q2) na
      · rw [e1, e2]
  · rcases List.mem_append.mp q with q | q
    · exact (s.zz b (hz b hb)).2 q
    · have e : b = a := by simpa using q
      exact hza (by rw [← e]; exact hb)
  · obtain ⟨h1, h2⟩ := s.cl b hb
    refine ⟨by simp; omega, fun n c hn h => h2 n c hn ?_⟩
    rw [List.getElem?_append_left (by omega)] at h
    exact h
end

section
variable {X : Cx} {J : Inf} {W : WX} {pos : Pos}
abbrev W0 : WX := fun _ _ _ _ => False
theorem lc_R {mu : Bool} {vs : List Nat} {it : SemI} {g : SemG} {t : SemT} {el : SemE} {σ : L2.St} {H : Hp} {Q : VK} {K : PySem.W.Frag} (h : RE K J W (eComp mu vs it g t el) σ H Q) :
    tLc (RI K J W it) (RG K J.fbs vs g) (RT K J W0 t) (RE K J W0 el) vs σ H Q := by
  obtain ⟨M, ρ, S, s, e, h⟩ := h
  refine ⟨M, ρ, S, s, e, (RP.bind (R := fun H' M' (ds : List Lk.D) It => Itms K It H' M' ds) h).mono (fun I H1 _ _ _ _ _ _ h1 => ?_) fun _ _ _ q => q⟩
  obtain ⟨M1, ds, S1, e1, s1, ⟨G, Y, w, hG, hY⟩, h1⟩ := h1
  intro D hD
  cases hz : Nat.ble ds.length sizeLine with
  | false => rw [hz] at h1; exact h1.elim
  | true =>
    rw [hz, cond_true] at h1
    have hsz : ds.length ≤ sizeLine := Nat.le_of_ble_eq_true hz
    refine lc_it w (fun i H' => ∃ M' S' acc av, Ext H1 M1 H' M' ∧ D ∈ M'.z ∧ SRep K J.fbs H' M' S' ∧ ERep K H' M' (wipe σ vs) (wipeE ρ vs) ∧ H' D = some (.lst av) ∧ RVs K H' M' acc av ∧ av.length ≤ i ∧
      RPost K J.ca J.fbs H1 M1 (fun c d H' => W c d σ H') Q ((compL g t el J.cf J.fbs (wipeE ρ vs) (ds.drop i) S').bind fun xs S2 => mkL mu (acc ++ xs) S2)) ?_ ?_ ?_ ?_
    · have ez : Ext H1 M1 (upd H1 D (.lst [])) ⟨M1.ids, D :: M1.z⟩ := by
        have q := Ext.new (M := M1) (o := .lst []) hD
        exact ⟨q.keep, q.ids, q.fresh, fun a ha => by
          rcases List.mem_cons.mp ha with z | z
          · exact .inr (by rw [z]; exact hD)
          · exact .inl z, fun a ha => List.mem_cons_of_mem _ ha, q.there, q.frz⟩
      refine ⟨⟨M1.ids, D :: M1.z⟩, S1, [], [], ez, List.mem_cons_self, ?_, ((e.ext e1).wipe vs).ext ez, upd_same, by unfold RVs; rfl, Nat.le_refl _, h1⟩
      refine ⟨s1.len, fun n c o h1 h2 => (s1.cell n c o h1 h2).ext ez fun a xs _ h => by rw [upd_ne (ne_of_none h hD)]; exact h, s1.inj, fun a ha => ?_, s1.cl⟩
      rcases List.mem_cons.mp ha with z | z
      · rw [z]
        exact ⟨by rw [upd_same]; exact (fun z => nomatch z), s1.notid hD⟩
      · exact ⟨ez.there a (s1.zz a z).1, (s1.zz a z).2⟩
    · rintro i H' _ ⟨M', S', acc, av, e', _⟩
      exact hG _ _ e'
    · rintro i x H' H2 hi ⟨M', S', acc, av, e', dz, s', r', hd, ra, hl, h'⟩ y
      obtain ⟨st, d, hdi, rd⟩ := hY i H' M' x H2 e' hi y
      obtain ⟨s2, e2⟩ := s'.step st
      rw [drop_get hdi] at h'
      unfold compL at h'
      refine ⟨M', wipeE ρ vs, S', d, s2, r'.ext e2, rd, ?_⟩
      cases q : g d (wipeE ρ vs) with
      | none => rw [q] at h'; exact h'.elim
      | some ρ1 =>
        simp only [q] at h'
        refine ⟨ρ1, rfl, fun σ1 r1 w1 => ⟨w1.trans (wipe_wipe σ vs), ?_⟩⟩
        rw [Rs.bind_assoc] at h'
        refine ⟨M', ρ1, S', s2, r1, (RP.bindB (R := RB) h').mono (fun k H3 _ _ _ _ _ _ h3 => ?_) fun _ _ _ q => q⟩
        obtain ⟨M3, k', S3, e3, s3, rk, h3⟩ := h3
        cases rk
        have dz3 : D ∈ M3.z := e3.zs D dz
        have hd2 : H2 D = some (.lst av) := e2.keep _ _ hd (s'.zz D dz).2
        have hd3 : H3 D = some (.lst av) := e3.keep _ _ hd2 (s2.zz D dz).2
        have e13 : Ext H1 M1 H3 M3 := (e'.trans e2).trans e3
        have rw3 : ERep K H3 M3 (wipe σ vs) (wipeE ρ vs) := (r'.ext e2).ext e3
        cases k with
        | false =>
          rw [if_neg Bool.false_ne_true]
          exact ⟨M3, S3, acc, av, e13, dz3, s3, rw3, hd3, RVs.ext (e2.trans e3) acc av ra, Nat.le_succ_of_le hl, h3⟩
        | true =>
          rw [if_pos rfl]
          have h3 : RPost K J.ca J.fbs H1 M1 (fun c d H' => W c d σ H') Q (((el J.cf J.fbs ρ1 S3).noexc.bind fun x S2 => (compL g t el J.cf J.fbs (wipeE ρ vs) (ds.drop (i + 1)) S2).bind fun xs S3 => .ok (x :: xs) S3).bind fun xs S2 => mkL mu (acc ++ xs) S2) := h3
          rw [Rs.bind_assoc] at h3
          refine ⟨M3, ρ1, S3, s3, r1.ext e3, (RP.bindB (R := RV K) h3).mono (fun y H4 _ _ _ _ _ _ h4 => ?_) fun _ _ _ q => q⟩
          obtain ⟨M4, yd, S4, e4, s4, ry, h4⟩ := h4
          have dz4 : D ∈ M4.z := e4.zs D dz3
          have hd4 : H4 D = some (.lst av) := e4.keep _ _ hd3 (s3.zz D dz3).2
          refine ⟨av, hd4, by omega, ?_⟩
          have e14 : Ext H1 M1 H4 M4 := e13.trans e4
          have up : ∀ b, b ≠ D → (upd H4 D (.lst (av ++ [y]))) b = H4 b := fun b hb => upd_ne hb
          have rdm : ∀ b u, Rd H4 b u → b ≠ D → Rd (upd H4 D (.lst (av ++ [y]))) b u := fun b u h hb => h.imp (fun q => by rw [up b hb]; exact q) fun ⟨o, q⟩ => ⟨o, by rw [up b hb]; exact q⟩
          have mv : ∀ d v, RV K H4 M4 d v → RV K (upd H4 D (.lst (av ++ [y]))) M4 d v := RV.map (fun b xs h1 h2 h3 => ⟨(up b fun z => h3 (by rw [z]; exact dz4)).trans h1, h2, h3⟩) (fun b o u q => (up b fun z => by rw [z, hd4] at q; cases q).trans q) (fun _ _ h => .inl h)
          have mvs : ∀ d v, RVs K H4 M4 d v → RVs K (upd H4 D (.lst (av ++ [y]))) M4 d v := RVs.map (fun b xs h1 h2 h3 => ⟨(up b fun z => h3 (by rw [z]; exact dz4)).trans h1, h2, h3⟩) (fun b o u q => (up b fun z => by rw [z, hd4] at q; cases q).trans q) (fun _ _ h => .inl h)
          refine ⟨M4, S4, acc ++ [yd], av ++ [y], ⟨fun a o h1 h2 => ?_, e14.ids, e14.fresh, e14.z, e14.zs, fun a h => ?_, fun a o u q => (up a (ne_of_none q hD)).trans (e14.frz a o u q)⟩, dz4, ⟨s4.len, fun n c o h1 h2 => ?_, s4.inj, fun a ha => ⟨?_, (s4.zz a ha).2⟩, s4.cl⟩, ERep.map mv (rw3.ext e4), upd_same, RVs.app (mvs _ _ (RVs.ext ((e2.trans e3).trans e4) acc av ra)) (mv _ _ ry), by simp; omega, ?_⟩
          · have q := e14.keep a o h1 h2
            rw [up a (ne_of_none h1 hD)]; exact q
          · have q := e14.there a h
            unfold upd
            split
            · exact fun z => nomatch z
            · exact q
          · have q := s4.cell n c o h1 h2
            cases c with
            | lst ds =>
              obtain ⟨b, vs, e5, h5, h6⟩ := q
              subst e5
              refine ⟨b, vs, rfl, ?_, mvs _ _ h6⟩
              rw [up b fun z => (s4.zz D dz4).2 (by rw [← z]; exact List.mem_of_getElem? h2)]
              exact h5
            | dead => exact q
          · have q := (s4.zz a ha).1
            unfold upd
            split
            · exact fun z => nomatch z
            · exact q
          · rw [Rs.bind_assoc] at h4
            have e5 : (fun (xs : List Lk.D) S2 => mkL mu (acc ++ [yd] ++ xs) S2) = fun xs S2 => (Rs.ok (yd :: xs) S2).bind fun xs S2 => mkL mu (acc ++ xs) S2 := by
              funext xs S2
              show mkL mu (acc ++ [yd] ++ xs) S2 = mkL mu (acc ++ (yd :: xs)) S2
              rw [List.append_assoc]
              rfl
            rw [e5]
            exact h4
    · rintro H' ⟨M', S', acc, av, e', dz, s', r', hd, ra, hl, h'⟩
      rw [List.drop_length] at h'
      unfold compL at h'
      have h' : RPost K J.ca J.fbs H1 M1 (fun c d H' => W c d σ H') Q (mkL mu (acc ++ []) S') := h'
      rw [List.append_nil] at h'
      have nD : D ∉ M1.z := s1.notz hD
      have zsub : ∀ b, b ∈ M1.z → b ∈ M'.z := e'.zs
      cases mu with
      | false =>
        refine h' (.ref D) H' ⟨M'.ids, M1.z⟩ ⟨e'.keep, e'.ids, e'.fresh, fun a ha => .inl ha, fun a ha => ha, e'.there, e'.frz⟩ (SRep.sub (z := M'.z) s' zsub) ?_
        unfold RV
        exact ⟨D, av, rfl, hd, (s'.zz D dz).2, nD, RVs.map (M := M') (M' := ⟨M'.ids, M1.z⟩) (fun b xs h1 h2 h3 => ⟨h1, h2, fun q => h3 (zsub b q)⟩) (fun _ _ _ h => h) (fun _ _ h => .inl h) acc av ra⟩
      | true =>
        refine h' (.ref D) H' ⟨M'.ids ++ [some D], M1.z⟩ ⟨e'.keep, fun n o hn => ?_, fun a ha => ?_, fun a ha => .inl ha, fun a ha => ha, e'.there, e'.frz⟩ (SRep.add (z := M'.z) s' dz zsub nD hd ra) ?_
        · have ap : ∀ {o : Option Addr}, M'.ids[n]? = some o → (M'.ids ++ [some D])[n]? = some o := fun h => by rw [List.getElem?_append_left (List.getElem?_eq_some_iff.mp h).1]; exact h
          rcases e'.ids n o hn with q | q
          · exact .inl (ap q)
          · exact .inr (ap q)
        · rcases List.mem_append.mp ha with q | q
          · exact e'.fresh a q
          · have z : a = D := by simpa using q
            exact .inr (by rw [z]; exact hD)
        · unfold RV
          refine ⟨D, some D, rfl, ?_, fun b z => (Option.some.inj z).symm⟩
          show (M'.ids ++ [some D])[S'.length]? = _
          have ln : M'.ids.length = S'.length := s'.len
          rw [List.getElem?_append_right (by omega), ln]
          simp
end
end Lk

namespace Lk
open PySem PySem.Spec PyProof.Rows L2

/-! ### the static context -/
/-- the text's own names: defs (name, number, how many arguments), constants, classes of errors, built-ins that stand -/
structure Gx where
  fns : List (Str × Nat × Nat)
  csts : List (Str × D)
  excs : List (Str × Nat)
  /-- those of them that have no __init__ of their own -/
  plain : List (Str × Nat)
  blts : List Str
  /-- where lists are made that are written later; where such lists are made still -/
  mus : List Pos
  fzs : List Pos
  /-- whether a clause that names the class takes the class -/
  sub : Nat → Nat → Bool
structure SC where
  N : List Str
  sc : Scope
  fnok : Str → Bool
  hot : Bool

/-- what a call's promise is -/
def spRun (K : PySem.W.Frag) (ca : Nat → Option Addr) (cf : CallF) (i ar : Nat) : Sp := fun vs H Q E => ∃ M ds S fbs, SRep K fbs H M S ∧ RVs K H M ds vs ∧ RPost K ca fbs H M E Q (cf fbs i ds S)

/-- a def's promise where no repr is under way -/
structure FnG (P : Program) (w : World) (K : PySem.W.Frag) (mg : Str → Option Value) (base : Heap) (k : Nat) (f : Addr) (fd : FuncData) (ps : List Str) (sp : Sp) : Prop where
  len : ∀ vs H Q E, sp vs H Q E → vs.length = ps.length
  run : ∀ (A : Around) (outer : List PySem.Env) (s : Shared) (H : Hp) (us : List Value) (vs : List V) (Q : VK) (E : XK), Room k A → A.guards = some [] → Env0 P w K mg base A outer s H →
    BindsTo s fd ⟨us, []⟩ (ps.zip us) → Vals vs us → sp vs H Q E → codeAny (model P w) A (.call (.ref f) ⟨us, []⟩) (CR (L2.CX P w) outer P w H s Q E) s
theorem callG {X : Cx} {k : Nat} {f : Addr} {fd : FuncData} {ps : List Str} {sp : Sp} {W : WX} {pins : List (Addr × Obj)} {σ : L2.St} {H : Hp} {s : Shared} {Q : VK} {us : List Value} {vs : List V}
    (F : FnG X.prog X.w X.K X.mg X.base k f fd ps sp) (hr : Room k X.A) (hg : X.A.guards = some []) (hb : Binds X.K fd ps []) (tk : Takes X W) (I : Inv X pins σ H s) (r : Vals vs us) (h : sp vs H Q (WE W σ)) :
    wpAny (model X.prog X.w) X.A (call (.ref f) us) (EP X pins σ Q) X.xe s := by
  have bnd := hb s us I.kIn (by rw [List.append_nil, ← r.length]; exact F.len _ _ _ _ h)
  rw [List.append_nil] at bnd
  apply wpAny_call
  refine codeAny_mono (F.run X.A X.stack s H us vs Q (WE W σ) hr hg I.env0 bnd r h) ?_
  intro res s' hq
  match res, hq with
  | .ok (.ret u), hq => exact I.after hq
  | .ok .next, hq => exact absurd hq id
  | .ok .brk, hq => exact absurd hq id
  | .ok .cont, hq => exact absurd hq id
  | .error e, hq => exact passAt tk σ pins H s e s' I hq

structure FnAt (P : Program) (w : World) (K : PySem.W.Frag) (mg : Str → Option Value) (base : Heap) (ca : Nat → Option Addr) (cf : CallF) (lv : Nat) (x : Str) (i ar : Nat) : Prop where
  ex : ∃ f fd ps, mg x = some (.ref f) ∧ PySem.W.keepIn K (.ref f) = true ∧ Binds K fd ps [] ∧ ps.length = ar ∧ FnG P w K mg base lv f fd ps (spRun K ca cf i ar)
structure ExcAt (K : PySem.W.Frag) (mg : Str → Option Value) (ca : Nat → Option Addr) (x : Str) (i : Nat) : Prop where
  ex : ∃ C, mg x = some (.ref C) ∧ ca i = some C ∧ PySem.W.keepIn K (.ref C) = true ∧ PySem.W.excIn K C [.type "ValueError", .type "Exception", .type "BaseException", .type "object"] "ValueError.__new__" = true ∧
    PySem.W.subIn K (.ref C) (.type "BaseException") = some true ∧ PySem.W.typeIn K (.ref C) = some (.type "type")
structure Facts (P : Program) (w : World) (K : PySem.W.Frag) (mg : Str → Option Value) (base : Heap) (G : Gx) (ca : Nat → Option Addr) (cf : CallF) (lv : Nat) : Prop where
  fn : ∀ x i ar, G.fns.lookup x = some (i, ar) → FnAt P w K mg base ca cf lv x i ar
  cst : ∀ x d, G.csts.lookup x = some d → ∃ u v, mg x = some u ∧ RelV v u ∧ ∀ H M, RV K H M d v
  exc : ∀ x i, G.excs.lookup x = some i → ∃ C, mg x = some (.ref C) ∧ ca i = some C
  plain : ∀ x i, G.plain.lookup x = some i → ExcAt K mg ca x i
  sub : ∀ i j C D, ca i = some C → ca j = some D → PySem.W.exmOne K (.ref C) (.ref D) = some (G.sub i j)
  blt : ∀ x, x ∈ G.blts → mg x = none

structure Good (X : Cx) (W : WX) (G : Gx) (J : Inf) (lv : Nat) (C : SC) : Prop where
  hN : X.N = C.N
  sc : X.env.scope = C.sc
  nd : C.N.Nodup
  fnok : ∀ x, C.fnok x = true → X.fn x = true
  facts : Facts X.prog X.w X.K X.mg X.base G J.ca J.cf lv
  units : X.A.units + 64 < cLine
  guards : X.A.guards = some []
  cool : C.hot = false → X.calm = true ∧ Room lv X.A ∧ Takes X W ∧ PassesOwn (model X.prog X.w) X.A X.env X.xe

def blkSc (sc scope : Scope) : Scope := { scope with names := scope.names.map fun (n, k) => if (k == .free && sc.kind == .function && sc.names.lookup n == some .cell) then (n, .cell) else (n, k) }
def SC.blk (C : SC) (scope : Scope) : SC := ⟨C.N, blkSc C.sc scope, fun x => scope.names.lookup x == some .cell, false⟩

section
variable {X : Cx} {W : WX} {G : Gx} {J : Inf} {lv : Nat} {C : SC}
theorem Good.cc (g : Good X W G J lv C) (h : C.hot = false) : X.calm = true := (g.cool h).1
theorem Good.room (g : Good X W G J lv C) (h : C.hot = false) : Room lv X.A := (g.cool h).2.1
theorem Good.blk (g : Good X W G J lv C) (hh : C.hot = false) (scope : Scope) (s : Shared) (H : Hp) (Ca : Addr) (cl : List (Str × Addr)) (fp : List Addr) :
    Good (X.blk s H scope (compEnvC scope cl Ca X.env) fp) W0 G J lv (C.blk scope) where
  hN := g.hN
  sc := by
    show relabel scope X.env = blkSc C.sc scope
    rw [← g.sc]
    rfl
  nd := g.nd
  fnok := fun x h => h
  facts := g.facts
  units := g.units
  guards := g.guards
  cool := fun _ => ⟨g.cc hh, g.room hh, fun u s' ⟨_, _, _, _, _, _, _, _, _, _, _, _, _, _, _, _, h⟩ => h, PassesOwn.never⟩

/-! ### comprehensions -/
theorem pe_lcR {elt tg iter : Expr} {ifs : List Expr} {scope : Scope} {own : List (Str × Nat)} {pos : Pos} {it : SemI} {gt : SemG} {t : SemT} {el : SemE} (mu : Bool) (g : Good X W G J lv C) (hh : C.hot = false) (ok : blkC C.N C.sc scope own = true)
    (hi : PI X tg iter (RI X.K J W it)) (hg : ∀ (s : Shared) (H : Hp) (Ca : Addr) (cl : List (Str × Addr)) (fp : List Addr), PG (X.blk s H scope (compEnvC scope cl Ca X.env) fp) tg (RG X.K J.fbs (own.map (·.2)) gt))
    (ht : ∀ (s : Shared) (H : Hp) (Ca : Addr) (cl : List (Str × Addr)) (fp : List Addr), PTs (X.blk s H scope (compEnvC scope cl Ca X.env) fp) ifs (RT X.K J W0 t))
    (he : ∀ (s : Shared) (H : Hp) (Ca : Addr) (cl : List (Str × Addr)) (fp : List Addr), PE (X.blk s H scope (compEnvC scope cl Ca X.env) fp) elt (RE X.K J W0 el)) (hs : ∀ x, foldedSetIterable iter X.env x = pure x) :
    PE X (.ListComp elt [⟨tg, iter, ifs, 0⟩] scope pos) (RE X.K J W (eComp mu (own.map (·.2)) it gt t el)) :=
  PE.imp (pe_lc (g.cc hh) (by rw [g.hN]; exact g.nd) hi (by rw [g.hN, g.sc]; exact blkOk_by ok) hg ht he hs) fun σ H Q h => lc_R h
theorem ps_setLcR {i : Nat} {y : Str} {py : Pos} {elt tg iter : Expr} {ifs : List Expr} {scope : Scope} {own : List (Str × Nat)} {pos spos : Pos} {it : SemI} {gt : SemG} {t : SemT} {el : SemE} (mu : Bool) (g : Good X W G J lv C) (hh : C.hot = false) (ok : blkC C.N C.sc scope own = true)
    (hy : C.N[i]? = some y) (hyl : C.sc.names.lookup y = some .local) (hsw : swapsWith (.ListComp elt [⟨tg, iter, ifs, 0⟩] scope pos) (some (.Name y py)) spos.line X.env = pure true)
    (hi : PI X tg iter (RI X.K J W it)) (hg : ∀ (s : Shared) (H : Hp) (Ca : Addr) (cl : List (Str × Addr)) (fp : List Addr), PG (X.blk s H scope (compEnvC scope cl Ca X.env) fp) tg (RG X.K J.fbs (own.map (·.2)) gt))
    (ht : ∀ (s : Shared) (H : Hp) (Ca : Addr) (cl : List (Str × Addr)) (fp : List Addr), PTs (X.blk s H scope (compEnvC scope cl Ca X.env) fp) ifs (RT X.K J W0 t))
    (he : ∀ (s : Shared) (H : Hp) (Ca : Addr) (cl : List (Str × Addr)) (fp : List Addr), PE (X.blk s H scope (compEnvC scope cl Ca X.env) fp) elt (RE X.K J W0 el)) (hs : ∀ x, foldedSetIterable iter X.env x = pure x) :
    PS X (.Assign [.Name y py] (.ListComp elt [⟨tg, iter, ifs, 0⟩] scope pos) spos) (RSt X.K J W (sAsg (gSet i) (eComp mu (own.map (·.2)) it gt t el))) :=
  PS.imp (ps_setLc (g.cc hh) (by rw [g.hN]; exact g.nd) (by rw [g.hN]; exact hy) (by rw [g.sc]; exact hyl) hsw hi (by rw [g.hN, g.sc]; exact blkOk_by ok) hg ht he hs) fun D σ H h =>
    lc_R (re_bindS (k := fun ρ d S1 => match gSet i d ρ with | some ρ1 => .nx ρ1 S1 | none => .bad) (fun v H1 M1 d S1 ρ s1 e1 r1 h1 => h1 _ H1 M1 .refl s1 (e1.set i r1)) h)

/-! ### calls -/
def eCall (i : Nat) (a : SemEs) : SemE := fun c b ρ S => (a c b ρ S).bind fun ds S1 => c b i ds S1
theorem re_call {K : PySem.W.Frag} {i ar : Nat} {fa : SemEs} {σ : L2.St} {H : Hp} {Q : VK} (h : RE K J W (eCall i fa) σ H Q) : tCallS (spRun K J.ca J.cf i ar) (WE W) (REs K J W fa) σ H Q := by
  obtain ⟨M, ρ, S, s, e, h⟩ := h
  refine ⟨M, ρ, S, s, e, (RP.bind (R := RVs K) h).mono (fun vs H1 _ _ _ _ _ _ h1 => ?_) fun _ _ _ q => q⟩
  obtain ⟨M1, ds, S1, e1, s1, r1, h1⟩ := h1
  exact ⟨M1, ds, S1, J.fbs, s1, r1, h1⟩
theorem re_call0 {K : PySem.W.Frag} {i ar : Nat} {σ : L2.St} {H : Hp} {Q : VK} (h : RE K J W (eCall i esNil) σ H Q) : spRun K J.ca J.cf i ar [] H Q (WE W σ) := by
  obtain ⟨M, ρ, S, s, e, h⟩ := h
  exact ⟨M, [], S, J.fbs, s, by unfold RVs; rfl, h⟩
theorem pe_callR {x : Str} {i ar : Nat} {e : Expr} {es : List Expr} {fa : SemEs} {p pos : Pos} (g : Good X W G J lv C) (hh : C.hot = false) (hf : G.fns.lookup x = some (i, ar)) (hg : Gl X x) (hdb : (x == ("__debug__" : Str)) = false)
    (ha : PA X (e :: es) (REs X.K J W fa)) (he : starEach (e :: es) X.env = (false, eval e X.env) :: starEach es X.env) (hpl : (backTo pos (starEach es X.env)).any (·.1) = false) : PE X (.Call (.Name x p) (e :: es) [] pos) (RE X.K J W (eCall i fa)) := by
  obtain ⟨f, fd, ps, m1, m2, m3, m4, m5⟩ := (g.facts.fn x i ar hf).ex
  refine ⟨fun pins s σ H Q I h => wpAny_Call_Name_kw (ld_glob I hg m1 ?_ hdb)⟩
  have hq := re_call (ar := ar) h
  refine PySem.W.callWith_K (h₀ := X.base) I.ok.mod.kin m2 (thn (ha.run pos pins s σ H _ I hq) ?_) he hpl
  rintro us s1 ⟨vs, H1, I1, r, q⟩
  exact ⟨I1.kIn, callG m5 (g.room hh) g.guards m3 (g.cool hh).2.2.1 I1 r q⟩
theorem pe_callR0 {x : Str} {i ar : Nat} {p pos : Pos} (g : Good X W G J lv C) (hh : C.hot = false) (hf : G.fns.lookup x = some (i, ar)) (hg : Gl X x) (hdb : (x == ("__debug__" : Str)) = false) :
    PE X (.Call (.Name x p) [] [] pos) (RE X.K J W (eCall i esNil)) := by
  obtain ⟨f, fd, ps, m1, m2, m3, m4, m5⟩ := (g.facts.fn x i ar hf).ex
  refine ⟨fun pins s σ H Q I h => ?_⟩
  refine wpAny_Call_Name_kw (ld_glob I hg m1 ?_ hdb)
  exact PySem.W.callWith_K0 I.kIn m2 (callG (us := []) m5 (g.room hh) g.guards m3 (g.cool hh).2.2.1 I .nil (re_call0 h))

/-! ### errors -/
def sRaise (i : Nat) : SemS := fun _ _ ρ S => .exc ⟨i, []⟩ ρ S
theorem ps_raiseR {x m : Str} {i j : Nat} {p p2 pos pos2 : Pos} (g : Good X W G J lv C) (hh : C.hot = false) (hx : G.plain.lookup x = some i) (hg : Gl X x) (hdb : (x == ("__debug__" : Str)) = false) :
    PS X (.Raise (some (.Call (.Name x p) [.Constant (.str m) j p2] [] pos)) none pos2) (RSt X.K J W (sRaise i)) := by
  obtain ⟨Ca, m1, m2, m3, m4, m5, m6⟩ := (g.facts.plain x i hx).ex
  refine PS.imp (ps_raise (g.cc hh) (g.cool hh).2.2.1 (pmk_own PySem.F.excBase_ValueError m4 m1 m3 (raises_own m5 m6) hg hdb)) fun D σ H h => ?_
  obtain ⟨M, ρ, S, s, e, h⟩ := h
  exact h (.ref Ca) none σ H M .refl s e ⟨⟨Ca, m2, rfl⟩, .inl ⟨rfl, rfl⟩⟩
def RS.noexc : RS → RS
  | .exc _ _ _ => .bad
  | r => r
theorem SPost.noexc {K : PySem.W.Frag} {ca : Nat → Option Addr} {fbs : List Nat} {H : Hp} {M : Mp} {W W' : WX} {D : Ends} {r : RS} (h : SPost K ca fbs H M W D r.noexc) : SPost K ca fbs H M W' D r := by
  cases r with
  | exc _ _ _ => exact h.elim
  | nx _ _ => exact h
  | rt _ _ => exact h
  | bk _ _ => exact h
  | ct _ _ => exact h
  | bad => exact h
def sTry (body : SemS) (m : Nat → Bool) (suite : SemS) : SemS := fun c b ρ S => match body c b ρ S with
  | .exc x ρ1 S1 => bif m x.c then (suite c b ρ1 S1).noexc else .exc x ρ1 S1
  | r => r
theorem re_try {K : PySem.W.Frag} {cl : Value} {body suite : SemS} {m : Nat → Bool} {D : Ends} {σ : L2.St} {H : Hp} (hm : ∀ i Ca, J.ca i = some Ca → PySem.W.exmOne K (.ref Ca) cl = some (m i)) (h : RSt K J W (sTry body m suite) D σ H) :
    RSt K J (wOnly K cl (fun _ _ _ => RSt K J W0 suite) W D) body D σ H := by
  obtain ⟨M, ρ, S, s, e, h⟩ := h
  refine ⟨M, ρ, S, s, e, ?_⟩
  unfold sTry at h
  cases hb : body J.cf J.fbs ρ S with
  | exc x ρ1 S1 =>
    simp only [hb] at h
    intro cls dd σ1 H1 M1 e1 s1 r1 xr
    obtain ⟨⟨Ca, hC, rfl⟩, xr2⟩ := id xr
    refine ⟨m x.c, hm _ _ hC, fun hb a _ => ?_, fun hb => ?_⟩
    · rw [hb, cond_true] at h
      refine ⟨M1, ρ1, S1, s1, r1, ?_⟩
      exact SPost.noexc (SPost.ext h e1)
    · rw [hb, cond_false] at h
      exact h _ _ _ _ _ e1 s1 r1 xr
  | nx _ _ => simp only [hb] at h; exact h
  | rt _ _ => simp only [hb] at h; exact h
  | bk _ _ => simp only [hb] at h; exact h
  | ct _ _ => simp only [hb] at h; exact h
  | bad => simp only [hb] at h; exact h
theorem Good.tr (g : Good X W G J lv C) {W' : WX} (pn : List (Addr × Obj)) (xe : Value → Shared → Prop) (tk : Takes (X.tr pn xe) W') (po : PassesOwn (model X.prog X.w) X.A X.env xe) : Good (X.tr pn xe) W' G J lv C where
  hN := g.hN
  sc := g.sc
  nd := g.nd
  fnok := g.fnok
  facts := g.facts
  units := g.units
  guards := g.guards
  cool := fun h => ⟨g.cc h, g.room h, tk, po⟩
def SC.warm (C : SC) : SC := ⟨C.N, C.sc, C.fnok, true⟩
theorem Good.suite (g : Good X W G J lv C) (a : Addr) (pn : List (Addr × Obj)) : Good (X.suite a pn) W0 G J lv C.warm where
  hN := g.hN
  sc := g.sc
  nd := g.nd
  fnok := g.fnok
  facts := g.facts
  units := g.units
  guards := g.guards
  cool := fun h => nomatch h
theorem ps_tryR {x : Str} {i : Nat} {b0 : Stmt} {body suite : List Stmt} {np pos pos' : Pos} {fb fs : SemS} (g : Good X W G J lv C) (hh : C.hot = false) (hs : X.stack = X.env :: X.outer) (hfr : X.env.frame = some X.env.locals) (hx : G.excs.lookup x = some i) (hg : Gl X x) (hdb : (x == ("__debug__" : Str)) = false)
    (hb : ∀ (W' : WX) (pn : List (Addr × Obj)) (xe : Value → Shared → Prop), Good (X.tr pn xe) W' G J lv C → PSs (X.tr pn xe) body (RSt X.K J W' fb))
    (hsu : ∀ (a : Addr) (pn : List (Addr × Obj)), Good (X.suite a pn) W0 G J lv C.warm → PSs (X.suite a pn) (b0 :: suite) (RSt X.K J W0 fs)) :
    PS X (.Try body [.ExceptHandler (some (.Name x np)) none (b0 :: suite) pos'] [] [] pos) (RSt X.K J W (sTry fb (fun j => G.sub j i) fs)) := by
  obtain ⟨Ca, m1, m2⟩ := g.facts.exc x i hx
  refine PS.imp (ps_try_only (tb := fun W' => RSt X.K J W' fb) (ts := fun _ _ _ => RSt X.K J W0 fs) hs hfr ⟨hg, hdb, .inl m1⟩ (g.cool hh).2.2.1 (fun W' pn xe tk po => hb W' pn xe (g.tr pn xe tk po)) fun a oe cls d pn _ _ => hsu a _ (g.suite a _)) fun D σ H h => ?_
  exact re_try (fun j Cj hj => g.facts.sub j i Cj Ca hj m2) h
end
end Lk

namespace Lk
open PySem PySem.Spec PyProof.Rows L2

/-! ### the run of a program's defs -/
structure Dfn where
  ar : Nat
  n : Nat
  body : SemS
def start0 (n : Nat) (ds : List D) : Env := ds.map some ++ List.replicate (n - ds.length) none
def fsFit (b : Nat) (fs : List (Str × D)) : Bool := fs.all fun p => p.2.fit b
def fin (fb : Nat) : RS → Res
  | .nx _ S => .ok .non (S.take fb)
  | .rt d S => bif d.fit fb then .ok d (S.take fb) else .ok d S
  | .exc x _ S => bif fsFit fb x.fs then .exc x (S.take fb) else .exc x S
  | _ => .bad
def run (prog : Nat → Option Dfn) : Nat → CallF
  | 0 => fun _ _ _ _ => .bad
  | k + 1 => fun fbs i ds S => match prog i with
    | some d => bif Nat.beq ds.length d.ar then fin S.length (d.body (run prog k) (S.length :: fbs) (start0 d.n ds) S) else .bad
    | none => .bad

section
variable {K : PySem.W.Frag} {H : Hp}
mutual
theorem RV.fit {M : Mp} : ∀ (d : D) (v : V), RV K H M d v → d.fit M.ids.length = true
  | .non, v, h => by unfold D.fit; rfl
  | .bl b, v, h => by unfold D.fit; rfl
  | .int i, v, h => by unfold D.fit; rfl
  | .str x, v, h => by unfold D.fit; rfl
  | .tup ds, v, h => by
    unfold RV at h
    unfold D.fit
    obtain ⟨a, vs, _, _, h2⟩ := h
    exact RVs.fit ds vs h2
  | .lst ds, v, h => by
    unfold RV at h
    unfold D.fit
    obtain ⟨a, vs, _, _, _, _, h2⟩ := h
    exact RVs.fit ds vs h2
  | .fix ds, v, h => by
    unfold RV at h
    unfold D.fit
    obtain ⟨a, vs, _, _, h2⟩ := h
    exact RVs.fit ds vs h2
  | .ref n, v, h => by
    unfold RV at h
    unfold D.fit
    obtain ⟨a, o, _, h1, _⟩ := h
    have := (List.getElem?_eq_some_iff.mp h1).1
    show Nat.ble (n + 1) _ = true
    exact Nat.ble_eq_true_of_le this
theorem RVs.fit {M : Mp} : ∀ (ds : List D) (vs : List V), RVs K H M ds vs → fitL M.ids.length ds = true
  | [], vs, h => by unfold fitL; rfl
  | d :: r, vs, h => by
    unfold RVs at h
    unfold fitL
    obtain ⟨x, xs, _, h1, h2⟩ := h
    rw [RV.fit d x h1, RVs.fit r xs h2]; rfl
end
mutual
theorem RV.take {ids : List (Option Addr)} {z : List Addr} {b : Nat} : ∀ (d : D) (v : V), d.fit b = true → RV K H ⟨ids, z⟩ d v → RV K H ⟨ids.take b, z⟩ d v
  | .non, v, _, h => by unfold RV at h ⊢; exact h
  | .bl _, v, _, h => by unfold RV at h ⊢; exact h
  | .int i, v, _, h => by unfold RV at h ⊢; exact h
  | .str x, v, _, h => by unfold RV at h ⊢; exact h
  | .tup ds, v, f, h => by
    unfold RV at h ⊢
    unfold D.fit at f
    obtain ⟨a, vs, e, h1, h2⟩ := h
    exact ⟨a, vs, e, h1, RVs.take ds vs f h2⟩
  | .lst ds, v, f, h => by
    unfold RV at h ⊢
    unfold D.fit at f
    obtain ⟨a, vs, e, h1, h2, h3, h4⟩ := h
    exact ⟨a, vs, e, h1, fun q => h2 (List.mem_of_mem_take q), h3, RVs.take ds vs f h4⟩
  | .fix ds, v, f, h => by
    unfold RV at h ⊢
    unfold D.fit at f
    obtain ⟨a, vs, e, h1, h2⟩ := h
    exact ⟨a, vs, e, h1, RVs.take ds vs f h2⟩
  | .ref n, v, f, h => by
    unfold RV at h ⊢
    unfold D.fit at f
    obtain ⟨a, o, e, h1, h2⟩ := h
    refine ⟨a, o, e, ?_, h2⟩
    have hn : n < b := Nat.le_of_ble_eq_true f
    show (ids.take b)[n]? = some o
    rw [List.getElem?_take_of_lt hn]
    exact h1
theorem RVs.take {ids : List (Option Addr)} {z : List Addr} {b : Nat} : ∀ (ds : List D) (vs : List V), fitL b ds = true → RVs K H ⟨ids, z⟩ ds vs → RVs K H ⟨ids.take b, z⟩ ds vs
  | [], vs, _, h => by unfold RVs at h ⊢; exact h
  | d :: r, vs, f, h => by
    unfold RVs at h ⊢
    unfold fitL at f
    rw [Bool.and_eq_true] at f
    obtain ⟨x, xs, e, h1, h2⟩ := h
    exact ⟨x, xs, e, RV.take d x f.1 h1, RVs.take r xs f.2 h2⟩
end
theorem RFs.take {ids : List (Option Addr)} {z : List Addr} {b : Nat} : ∀ (fs : List (Str × D)) (gs : List (Str × V)), fsFit b fs = true → RFs K H ⟨ids, z⟩ fs gs → RFs K H ⟨ids.take b, z⟩ fs gs
  | [], gs, _, h => h
  | (n, d) :: r, gs, f, h => by
    obtain ⟨v, gr, e, h1, h2⟩ := h
    unfold fsFit at f
    rw [List.all_cons, Bool.and_eq_true] at f
    exact ⟨v, gr, e, RV.take d v f.1 h1, RFs.take r gr f.2 h2⟩
/-- the cells of a call are dropped at its end -/
theorem SRep.take {fbs : List Nat} {ids : List (Option Addr)} {z : List Addr} {S : Sto} {b : Nat} (s : SRep K (b :: fbs) H ⟨ids, z⟩ S) (hb : ∀ c ∈ fbs, c ≤ b) : SRep K fbs H ⟨ids.take b, z⟩ (S.take b) where
  len := by
    have := s.len
    show (ids.take b).length = (S.take b).length
    rw [List.length_take, List.length_take, show ids.length = S.length from this]
  cell := fun n c o h1 h2 => by
    have hn : n < b := by
      have := (List.getElem?_eq_some_iff.mp h1).1
      rw [List.length_take] at this
      omega
    rw [List.getElem?_take_of_lt hn] at h1
    have h2' : (ids.take b)[n]? = some o := h2
    rw [List.getElem?_take_of_lt hn] at h2'
    have q := s.cell n c o h1 h2'
    have f := (s.cl b List.mem_cons_self).2 n c hn h1
    cases c with
    | lst ds => obtain ⟨a, vs, e, h3, h4⟩ := q; exact ⟨a, vs, e, h3, RVs.take ds vs f h4⟩
    | dead => exact q
  inj := fun i j a h1 h2 => by
    have go : ∀ i : Nat, (ids.take b)[i]? = some (some a) → ids[i]? = some (some a) := fun i h => by
      have hn : i < b := by
        have := (List.getElem?_eq_some_iff.mp h).1
        rw [List.length_take] at this
        omega
      rw [List.getElem?_take_of_lt hn] at h
      exact h
    exact s.inj i j a (go i h1) (go j h2)
  zz := fun a h => ⟨(s.zz a h).1, fun q => (s.zz a h).2 (List.mem_of_mem_take q)⟩
  cl := fun c hc => by
    obtain ⟨h1, h2⟩ := s.cl c (List.mem_cons_of_mem _ hc)
    have h3 := (s.cl b List.mem_cons_self).1
    have h4 := hb c hc
    refine ⟨by rw [List.length_take]; omega, fun n x hn h => h2 n x hn ?_⟩
    rw [List.getElem?_take_of_lt (by omega)] at h
    exact h
theorem SRep.tail {fbs : List Nat} {M : Mp} {S : Sto} {b : Nat} (s : SRep K (b :: fbs) H M S) : SRep K fbs H M S := ⟨s.len, s.cell, s.inj, s.zz, fun c hc => s.cl c (List.mem_cons_of_mem _ hc)⟩
theorem SRep.push {fbs : List Nat} {M : Mp} {S : Sto} (s : SRep K fbs H M S) : SRep K (S.length :: fbs) H M S := by
  refine ⟨s.len, s.cell, s.inj, s.zz, fun c hc => ?_⟩
  rcases List.mem_cons.mp hc with e | e
  · subst e
    refine ⟨Nat.le_refl _, fun n x hn h => ?_⟩
    have hi : n < M.ids.length := by rw [s.len]; exact hn
    have q := s.cell n x _ h (List.getElem?_eq_getElem hi)
    cases x with
    | lst ds =>
      obtain ⟨a, vs, _, _, h4⟩ := q
      have f := RVs.fit ds vs h4
      rw [s.len] at f
      exact f
    | dead => rfl
  · exact s.cl c e
theorem Ext.take {H1 : Hp} {M : Mp} {ids : List (Option Addr)} {z : List Addr} {b : Nat} (e : Ext H M H1 ⟨ids, z⟩) (hb : M.ids.length = b) : Ext H M H1 ⟨ids.take b, z⟩ where
  keep := e.keep
  ids := fun n o h => by
    have hn : n < b := by rw [← hb]; exact (List.getElem?_eq_some_iff.mp h).1
    have q := e.ids n o h
    show (ids.take b)[n]? = some o ∨ (ids.take b)[n]? = some none
    rw [List.getElem?_take_of_lt hn]
    exact q
  fresh := fun a h => e.fresh a (List.mem_of_mem_take h)
  z := e.z
  zs := e.zs
  there := e.there
  frz := e.frz
end

section
variable {P : Program} {w : World} {K : PySem.W.Frag} {mg : Str → Option Value} {base : Heap} {G : Gx} {ca : Nat → Option Addr} {lv k : Nat} {prog : Nat → Option Dfn}
theorem start_rep {H : Hp} {M : Mp} {N : List Str} : ∀ {ds : List D} {vs : List V}, RVs K H M ds vs → ERep K H M (L2.start N vs) (start0 N.length ds) := fun {ds vs} r => by
  have hl := RVs.len r
  unfold L2.start start0
  refine ⟨by simp [hl], fun i d h => ?_⟩
  have hi : i < ds.length := by
    by_cases hi : i < ds.length
    · exact hi
    · rw [List.getElem?_append_right (by simpa using hi), List.getElem?_replicate] at h
      split at h <;> cases h
  rw [List.getElem?_append_left (by simpa using hi), List.getElem?_map] at h
  have key : ∀ {ds : List D} {vs : List V} {i : Nat} {d : D}, RVs K H M ds vs → ds[i]? = some d → ∃ v, vs[i]? = some v ∧ RV K H M d v := by
    intro ds
    induction ds with
    | nil => intro vs i d _ h; simp at h
    | cons x ds ih =>
      intro vs i d r h
      unfold RVs at r
      obtain ⟨y, ys, rfl, r1, r2⟩ := r
      cases i with
      | zero => simp at h; subst h; exact ⟨y, rfl, r1⟩
      | succ i => simp at h; obtain ⟨v, h1, h2⟩ := ih r2 h; exact ⟨v, by simpa using h1, h2⟩
  cases q : ds[i]? with
  | none => rw [q] at h; cases h
  | some d' =>
    rw [q] at h
    cases h
    obtain ⟨v, h1, h2⟩ := key r q
    exact ⟨v, by rw [List.getElem?_append_left (by rw [List.length_map, hl]; exact hi), List.getElem?_map, h1]; rfl, h2⟩

/-- a def's body, shown once for all -/
def BodyOk (G : Gx) (C : SC) (body : List Stmt) (fb : SemS) : Prop := ∀ (X : Cx) (W : WX) (J : Inf) (lv : Nat), Good X W G J lv C → X.stack = X.env :: X.outer → X.env.frame = some X.env.locals → PSs X body (RSt X.K J W fb)
def defSC (N : List Str) (st : Stmt) : SC := ⟨N, defScope st, fun _ => true, false⟩

theorem fin_post {fbs : List Nat} {H : Hp} {M : Mp} {S : Sto} {E : XK} {Q : VK} {r : RS} (s : SRep K fbs H M S) (h : RPost K ca fbs H M E Q (fin S.length r)) :
    SPost K ca (S.length :: fbs) H M (fun cls d _ H => E cls d H) { nx := fun _ H' => Q .non H', rt := Q } r := by
  have hle : ∀ c ∈ fbs, c ≤ S.length := fun c hc => (s.cl c hc).1
  cases r with
  | nx ρ S1 =>
    intro σ' H' M' e s' _
    obtain ⟨ids, z⟩ := M'
    exact h .non H' ⟨ids.take S.length, z⟩ (e.take s.len) (s'.take hle) (by unfold RV; rfl)
  | rt d S1 =>
    intro v H' M' e s' r'
    obtain ⟨ids, z⟩ := M'
    unfold fin at h
    cases q : d.fit S.length with
    | true =>
      simp only [q, cond_true] at h
      exact h v H' ⟨ids.take S.length, z⟩ (e.take s.len) (s'.take hle) (RV.take d v q r')
    | false =>
      simp only [q, cond_false] at h
      exact h v H' ⟨ids, z⟩ e s'.tail r'
  | exc x ρ S1 =>
    intro cls dd σ' H' M' e s' r' xr
    obtain ⟨ids, z⟩ := M'
    unfold fin at h
    cases q : fsFit S.length x.fs with
    | true =>
      simp only [q, cond_true] at h
      refine h cls dd H' ⟨ids.take S.length, z⟩ (e.take s.len) (s'.take hle) ⟨xr.1, xr.2.imp id fun ⟨d, gs, h1, h2, h3⟩ => ⟨d, gs, h1, h2, RFs.take _ gs q h3⟩⟩
    | false =>
      simp only [q, cond_false] at h
      exact h cls dd H' ⟨ids, z⟩ e s'.tail xr
  | bk _ _ => exact h.elim
  | ct _ _ => exact h.elim
  | bad => exact h.elim

/-- a def by its body, where no repr is under way -/
theorem fn_ofG {k : Nat} {f : Addr} {name qual : Str} {params : Arguments} {body : List Stmt} {scope : Scope} {dV kV doc pm cdv ct oc : Value} {an od : Option Addr} {osl : Array (Option Value)} {N ps : List Str} {sp : Sp}
    (lk : K.lookup f = some ⟨oc, od, .func (PySem.W.fnOf name qual params body scope dV kV doc pm an cdv ct), osl⟩) (hcd : PySem.W.codeIn K cdv qual = true) (S : FnScope N ps scope) (len : ∀ vs H Q E, sp vs H Q E → vs.length = ps.length)
    (hbody : ∀ (A : Around) (outer : List PySem.Env) (s : Shared) (H : Hp) (vs : List V) (Q : VK) (E : XK), Room k (A.deeper (envOfC qual scope s.heap.objs.size f cdv)) → A.guards = some [] → sp vs H Q E →
      ∃ t, PSs (cxOf (L2.CX P w) P w K mg base N qual scope f cdv A outer s H E) body t ∧ t { nx := fun _ H' => Q .non H', rt := Q } (L2.start N vs) H) :
    FnG P w K mg base (k + 1) f (PySem.W.fnOf name qual params body scope dV kV doc pm an cdv ct) ps sp where
  len := len
  run := by
    intro A outer s H us vs Q E hr hg e0 hb r hsp
    have keepB : ∀ b o, base.get? b = some o → s.heap.get? b = some o := fun b o e => (e0.bs b o e).1
    have inK := e0.mod.kin.keeps keepB
    have nolim := e0.mod.nolimit.keeps keepB
    have kinds : ∀ y ∈ ps.zip us, scope.names.lookup y.1 = some .local ∨ (scope.names.lookup y.1 = some .cell ∧ ((cellsFrom (s.heap.objs.size + 1) scope.names []).lookup y.1).isSome = true) := by
      intro y hy
      have hm : y.1 ∈ ps := by
        obtain ⟨n, v⟩ := y
        exact (List.of_mem_zip hy).1
      exact (S.par y.1 hm).imp id fun q => ⟨q, PySem.W.cellsFrom_some _ _ _ (.inl q)⟩
    refine codeAny_call_function hr.depth (inK _ _ lk) rfl S.co S.gen rfl (PySem.W.codeRec_of inK hcd) (hb _ _ _ _ (wpAny_newFunctionEnv_cells S.kind kinds ?_))
    intro env he s1 x
    subst he
    refine ⟨nolim.keeps x.toInCall.keep, codeAny_func ?_⟩
    obtain ⟨t, ht, hq⟩ := hbody A outer s H vs Q E (hr.deeper _) hg hsp
    have I0 := inv_start (CX := L2.CX P w) (E := E) S hr.hd e0 (len _ _ _ _ hsp) r x
    refine wpAny_mono (ht.run [] s1 (L2.start N vs) H _ I0 hq) ?_ fun _ _ z => z
    intro fl s' hs
    match fl, hs with
    | .ret u, ⟨v, _, H', J, rv, q⟩ => exact ⟨v, H', J.os, J.bare, J.base, J.hok, rv, q⟩
    | .next, ⟨_, H', J, q⟩ => exact ⟨V.non, H', J.os, J.bare, J.base, J.hok, rfl, q⟩
    | .brk, ⟨_, _, _, q⟩ => exact absurd q id
    | .cont, ⟨_, _, _, q⟩ => exact absurd q id

theorem fn_run {x qual : Str} {st : Stmt} {f : Addr} {fd : FuncData} {N ps : List Str} {i ar : Nat} {fb : SemS} (F : Fun K x qual st f fd) (S : FnScope N ps (defScope st)) (hp : prog i = some ⟨ar, N.length, fb⟩) (har : ps.length = ar)
    (hfacts : Facts P w K mg base G ca (run prog k) lv) (hb : BodyOk G (defSC N st) (defBody st) fb) : FnG P w K mg base (lv + 1) f fd ps (spRun K ca (run prog (k + 1)) i ar) := by
  have hlen : ∀ {fbs : List Nat} {ds : List D} {S : Sto} {H : Hp} {M : Mp} {E : XK} {Q : VK}, RPost K ca fbs H M E Q (run prog (k + 1) fbs i ds S) → ds.length = ar ∧ RPost K ca fbs H M E Q (fin S.length (fb (run prog k) (S.length :: fbs) (start0 N.length ds) S)) := fun {fbs ds S H M E Q} h => by
    unfold run at h
    rw [hp] at h
    cases q : Nat.beq ds.length ar with
    | false => simp only [q, cond_false] at h; exact h.elim
    | true => simp only [q, cond_true] at h; exact ⟨Nat.eq_of_beq_eq_true q, h⟩
  obtain ⟨oc, od, kV, doc, pm, an, cdv, ct, osl, rfl, lk, hcd⟩ := F.ex
  refine fn_ofG lk hcd S (fun vs H Q E ⟨M, ds, S0, fbs, s, r, h⟩ => by rw [RVs.len r, har]; exact (hlen h).1) fun A outer s H vs Q E hr hgd hsp => ?_
  obtain ⟨M, ds, S0, fbs, sr, r, h⟩ := hsp
  obtain ⟨hl, h⟩ := hlen h
  have good : Good (cxOf (L2.CX P w) P w K mg base N qual (defScope st) f cdv A outer s H E) (fun cls d _ H => E cls d H) G ⟨ca, run prog k, S0.length :: fbs⟩ lv (defSC N st) := {
    hN := rfl
    sc := rfl
    nd := S.nd
    fnok := fun _ _ => rfl
    facts := hfacts
    units := hr.units
    guards := hgd
    cool := fun _ => ⟨rfl, hr, takes_of rfl rfl rfl rfl, passes_of rfl⟩ }
  refine ⟨_, hb _ _ _ lv good rfl rfl, ?_⟩
  exact ⟨M, start0 N.length ds, S0, sr.push, start_rep r, fin_post sr h⟩
end
end Lk

namespace Lk
open PySem PySem.Spec PyProof.Rows L2

/-! ### reading a list or a tuple -/
def lstS (S : Sto) : D → Option (List D)
  | .lst ds => some ds
  | .ref n => match S[n]? with
    | some (.lst ds) => some ds
    | _ => none
  | _ => none
def seqS (S : Sto) : D → Option (List D)
  | .tup ds => some ds
  | .fix ds => some ds
  | d => lstS S d
section
variable {K : PySem.W.Frag} {ca : Nat → Option Addr} {fbs : List Nat} {H : Hp} {M : Mp} {S : Sto} {W : XK}
theorem lstS_ok {d : D} {v : V} {ds : List D} (s : SRep K fbs H M S) (r : RV K H M d v) (h : lstS S d = some ds) : ∃ a vs, v = .ref a ∧ H a = some (.lst vs) ∧ RVs K H M ds vs := by
  cases d with
  | lst xs =>
    cases h
    unfold RV at r
    obtain ⟨a, vs, e, h1, _, _, h4⟩ := r
    exact ⟨a, vs, e, h1, h4⟩
  | ref n =>
    unfold RV at r
    obtain ⟨a, o, e, h1, h2⟩ := r
    unfold lstS at h
    cases hc : S[n]? with
    | none => simp only [hc] at h; cases h
    | some c =>
      cases c with
      | dead => simp only [hc] at h; cases h
      | lst xs =>
        simp only [hc] at h
        cases h
        obtain ⟨b, vs, eo, hb, rs⟩ := s.cell n _ _ hc h1
        have hba := h2 b eo
        subst hba
        exact ⟨b, vs, e, hb, rs⟩
  | non => cases h
  | bl _ => cases h
  | int _ => cases h
  | str _ => cases h
  | tup _ => cases h
  | fix _ => cases h
theorem seqS_ok {d : D} {v : V} {ds : List D} (s : SRep K fbs H M S) (r : RV K H M d v) (h : seqS S d = some ds) : ∃ a vs, v = .ref a ∧ (SqL K H a vs ∨ SqT K H a vs) ∧ RVs K H M ds vs := by
  cases d with
  | tup xs =>
    cases h
    unfold RV at r
    obtain ⟨a, vs, e, h1, h2⟩ := r
    exact ⟨a, vs, e, .inr h1.seq, h2⟩
  | fix xs =>
    cases h
    unfold RV at r
    obtain ⟨a, vs, e, h1, h2⟩ := r
    exact ⟨a, vs, e, .inl h1.seq, h2⟩
  | lst xs => obtain ⟨a, vs, e, h1, h2⟩ := lstS_ok s r h; exact ⟨a, vs, e, .inl (.of h1), h2⟩
  | ref n => obtain ⟨a, vs, e, h1, h2⟩ := lstS_ok s r h; exact ⟨a, vs, e, .inl (.of h1), h2⟩
  | non => cases h
  | bl _ => cases h
  | int _ => cases h
  | str _ => cases h
theorem RVs.app2 : ∀ {ds es : List D} {vs ws : List V}, RVs K H M ds vs → RVs K H M es ws → RVs K H M (ds ++ es) (vs ++ ws)
  | [], es, vs, ws, h, r => by unfold RVs at h; subst h; exact r
  | x :: ds, es, vs, ws, h, r => by
    unfold RVs at h
    obtain ⟨y, ys, rfl, h1, h2⟩ := h
    show RVs K H M (x :: (ds ++ es)) (y :: (ys ++ ws))
    unfold RVs
    exact ⟨y, ys ++ ws, rfl, h1, RVs.app2 h2 r⟩
theorem RVs.get : ∀ {ds : List D} {vs : List V} {i : Nat} {d : D}, RVs K H M ds vs → ds[i]? = some d → ∃ v, vs[i]? = some v ∧ RV K H M d v
  | [], _, _, _, _, h => by simp at h
  | x :: ds, vs, i, d, r, h => by
    unfold RVs at r
    obtain ⟨y, ys, rfl, r1, r2⟩ := r
    cases i with
    | zero => simp at h; subst h; exact ⟨y, rfl, r1⟩
    | succ i => simp at h; obtain ⟨v, h1, h2⟩ := RVs.get r2 h; exact ⟨v, by simpa using h1, h2⟩
theorem RVs.get' : ∀ {ds : List D} {vs : List V} {i : Nat} {v : V}, RVs K H M ds vs → vs[i]? = some v → ∃ d, ds[i]? = some d ∧ RV K H M d v := fun {ds vs i v} r h => by
  have hi : i < ds.length := by
    rw [← RVs.len r]
    exact (List.getElem?_eq_some_iff.mp h).1
  obtain ⟨v', h1, h2⟩ := RVs.get r (List.getElem?_eq_getElem hi)
  rw [h] at h1
  cases h1
  exact ⟨_, List.getElem?_eq_getElem hi, h2⟩
theorem RVs.drop : ∀ {ds : List D} {vs : List V} (n : Nat), RVs K H M ds vs → RVs K H M (ds.drop n) (vs.drop n)
  | ds, vs, 0, h => h
  | [], vs, n + 1, h => by unfold RVs at h; subst h; simp; unfold RVs; rfl
  | x :: ds, vs, n + 1, h => by unfold RVs at h; obtain ⟨y, ys, rfl, _, h2⟩ := h; simpa using RVs.drop n h2
theorem RVs.tk : ∀ {ds : List D} {vs : List V} (n : Nat), RVs K H M ds vs → RVs K H M (ds.take n) (vs.take n)
  | ds, vs, 0, h => by simp; unfold RVs; rfl
  | [], vs, n + 1, h => by unfold RVs at h; subst h; simp; unfold RVs; rfl
  | x :: ds, vs, n + 1, h => by
    unfold RVs at h
    obtain ⟨y, ys, rfl, h1, h2⟩ := h
    simp only [List.take_succ_cons]
    unfold RVs
    exact ⟨y, _, rfl, h1, RVs.tk n h2⟩
theorem RVs.rep {ds : List D} {vs : List V} (h : RVs K H M ds vs) : ∀ n : Nat, RVs K H M (List.replicate n ds).flatten (List.replicate n vs).flatten
  | 0 => by simp; unfold RVs; rfl
  | n + 1 => by rw [List.replicate_succ, List.replicate_succ, List.flatten_cons, List.flatten_cons]; exact RVs.app2 h (RVs.rep h n)
theorem rv_int {i : Int} {v : V} (h : RV K H M (.int i) v) : v = .int i := by unfold RV at h; exact h
theorem rv_bl {i : Bool} {v : V} (h : RV K H M (.bl i) v) : v = .bl i := by unfold RV at h; exact h
theorem rv_str {i : Str} {v : V} (h : RV K H M (.str i) v) : v = .str i := by unfold RV at h; exact h
theorem rv_non {v : V} (h : RV K H M .non v) : v = .non := by unfold RV at h; exact h
theorem rv_tup {ds : List D} {v : V} (h : RV K H M (.tup ds) v) : ∃ a vs, v = .ref a ∧ Tp K H a vs ∧ RVs K H M ds vs := by unfold RV at h; exact h
theorem mk_int {i : Int} : RV K H M (.int i) (.int i) := by unfold RV; rfl
theorem mk_bl {i : Bool} : RV K H M (.bl i) (.bl i) := by unfold RV; rfl
theorem mk_str {i : Str} : RV K H M (.str i) (.str i) := by unfold RV; rfl
theorem mk_non : RV K H M .non .non := by unfold RV; rfl
end

/-! ### operators on ints -/
def op2I (c : Int → Int → Bool) (g : Int → Int → D) : D → D → Sto → Res
  | .int i, .int j, S => bif c i j then .ok (g i j) S else .bad
  | _, _, _ => .bad
section
variable {X : Cx} {J : Inf}
theorem OpOk.or {op : Value → Value → Sem Value} {f g h : D → D → Sto → Res} (h1 : OpOk X J op f) (h2 : OpOk X J op g) (hd : ∀ x y S, h x y S = f x y S ∨ h x y S = g x y S) : OpOk X J op h := by
  obtain ⟨r, a1, a2⟩ := h1
  obtain ⟨r', b1, b2⟩ := h2
  refine ⟨_, OpR.or a1 b1, fun x y dx dy H M S W Q s rx ry hp => ?_⟩
  rcases hd dx dy S with e | e
  · rw [e] at hp; exact .inl (a2 x y dx dy H M S W Q s rx ry hp)
  · rw [e] at hp; exact .inr (b2 x y dx dy H M S W Q s rx ry hp)
theorem ok_2I {op : Value → Value → Sem Value} {C : Int → Int → Prop} {c : Int → Int → Bool} {g : Int → Int → V} {g' : Int → Int → D} (h : OpR X op (rI C g)) (hc : ∀ i j, c i j = true → C i j) (hg : ∀ i j H M, RV X.K H M (g' i j) (g i j)) : OpOk X J op (op2I c g') := by
  refine ⟨_, h, fun x y dx dy H M S W Q s rx ry hp => ?_⟩
  cases dx with
  | int i =>
    cases dy with
    | int j =>
      cases q : c i j with
      | false => simp only [op2I, q, cond_false] at hp; exact hp.elim
      | true =>
        simp only [op2I, q, cond_true] at hp
        exact ⟨i, j, rv_int rx, rv_int ry, hc i j q, hp.fin s (hg i j H M)⟩
    | non => exact hp.elim
    | bl _ => exact hp.elim
    | str _ => exact hp.elim
    | tup _ => exact hp.elim
    | lst _ => exact hp.elim
    | fix _ => exact hp.elim
    | ref _ => exact hp.elim
  | non => exact hp.elim
  | bl _ => exact hp.elim
  | str _ => exact hp.elim
  | tup _ => exact hp.elim
  | lst _ => exact hp.elim
  | fix _ => exact hp.elim
  | ref _ => exact hp.elim
theorem opr_imp {op : Value → Value → Sem Value} {r r' : R2} (h : OpR X op r) (i : ∀ x y H Q, r' x y H Q → r x y H Q) : OpR X op r' := fun pins s σ H x y v u Q I rx ry q => h pins s σ H x y v u Q I rx ry (i _ _ _ _ q)
theorem rI0_of {op : Value → Value → Sem Value} {g : Int → Int → V} (h : OpR X op (rI0 g)) : OpR X op (rI (fun _ _ => True) g) := opr_imp h fun x y H Q ⟨i, j, h1, h2, _, h3⟩ => ⟨i, j, h1, h2, h3⟩
def cTrue : Int → Int → Bool := fun _ _ => true
def fSub : D → D → Sto → Res := op2I cTrue fun i j => .int (i - j)
def cDiv : Int → Int → Bool := fun i j => decide (0 < j) && (decide (j < 1073741824) || decide (j.natAbs.log2 < 9000))
def fDiv : D → D → Sto → Res := op2I cDiv fun i j => .int (i / j)
def fMod : D → D → Sto → Res := op2I (fun _ j => decide (0 < j)) fun i j => .int (i % j)
def cPow : Int → Int → Bool := fun i j => decide (0 ≤ j) && decide (j ≤ 1000000) && decide (i.natAbs < 2 ^ 64)
def fShl : D → D → Sto → Res := op2I cPow fun i j => .int (i * 2 ^ j.toNat)
def fPow : D → D → Sto → Res := op2I cPow fun i j => .int (i ^ j.toNat)
def fShr : D → D → Sto → Res := op2I (fun _ j => decide (0 ≤ j)) fun i j => .int (i / 2 ^ j.toNat)
def fAnd : D → D → Sto → Res := op2I cTrue fun i j => .int (Builtin.bitAnd i j)
def fOr : D → D → Sto → Res := op2I cTrue fun i j => .int (Builtin.bitOr i j)
def fXor : D → D → Sto → Res := op2I cTrue fun i j => .int (Builtin.bitXor i j)
theorem ok_sub : OpOk X J (binaryOp .Sub) fSub := ok_2I (rI0_of op_sub) (fun _ _ _ => trivial) fun _ _ _ _ => mk_int
theorem ok_isub : OpOk X J (inplaceOp .Sub) fSub := ok_2I (rI0_of iop_sub) (fun _ _ _ => trivial) fun _ _ _ _ => mk_int
theorem cDiv_ok {i j : Int} (h : cDiv i j = true) : CDiv i j ∨ CDivW i j := by
  unfold cDiv at h
  simp only [Bool.and_eq_true, Bool.or_eq_true, decide_eq_true_eq] at h
  rcases h with ⟨h1, h2 | h2⟩
  · exact .inl ⟨h1, h2⟩
  · exact .inr ⟨h1, h2⟩
theorem ok_div : OpOk X J (binaryOp .FloorDiv) fDiv := ok_2I (C := fun i j => CDiv i j ∨ CDivW i j) (opr_imp (OpR.or op_fdiv op_fdivW) fun x y H Q ⟨i, j, h1, h2, hc, h3⟩ => hc.imp (fun c => ⟨i, j, h1, h2, c, h3⟩) fun c => ⟨i, j, h1, h2, c, h3⟩) (fun _ _ h => cDiv_ok h) fun _ _ _ _ => mk_int
theorem ok_mod : OpOk X J (binaryOp .Mod) fMod := ok_2I op_mod (fun _ _ h => of_decide_eq_true h) fun _ _ _ _ => mk_int
theorem cPow_ok {i j : Int} (h : cPow i j = true) : CPow i j := by
  unfold cPow at h
  simp only [Bool.and_eq_true, decide_eq_true_eq] at h
  exact ⟨h.1.1, h.1.2, h.2⟩
theorem ok_shl : OpOk X J (binaryOp .LShift) fShl := ok_2I op_shl (fun _ _ h => cPow_ok h) fun _ _ _ _ => mk_int
theorem ok_ishl : OpOk X J (inplaceOp .LShift) fShl := ok_2I iop_shl (fun _ _ h => cPow_ok h) fun _ _ _ _ => mk_int
theorem ok_pow : OpOk X J (binaryOp .Pow) fPow := ok_2I op_pow (fun _ _ h => cPow_ok h) fun _ _ _ _ => mk_int
theorem ok_shr : OpOk X J (binaryOp .RShift) fShr := ok_2I op_shr (fun _ _ h => of_decide_eq_true h) fun _ _ _ _ => mk_int
theorem ok_ishr : OpOk X J (inplaceOp .RShift) fShr := ok_2I iop_shr (fun _ _ h => of_decide_eq_true h) fun _ _ _ _ => mk_int
theorem ok_and : OpOk X J (binaryOp .BitAnd) fAnd := ok_2I (rI0_of op_and) (fun _ _ _ => trivial) fun _ _ _ _ => mk_int
theorem ok_or : OpOk X J (binaryOp .BitOr) fOr := ok_2I (rI0_of op_or) (fun _ _ _ => trivial) fun _ _ _ _ => mk_int
theorem ok_xor : OpOk X J (binaryOp .BitXor) fXor := ok_2I (rI0_of op_xor) (fun _ _ _ => trivial) fun _ _ _ _ => mk_int
theorem ok_iand : OpOk X J (inplaceOp .BitAnd) fAnd := ok_2I (rI0_of iop_and) (fun _ _ _ => trivial) fun _ _ _ _ => mk_int
theorem ok_ior : OpOk X J (inplaceOp .BitOr) fOr := ok_2I (rI0_of iop_or) (fun _ _ _ => trivial) fun _ _ _ _ => mk_int
theorem ok_ixor : OpOk X J (inplaceOp .BitXor) fXor := ok_2I (rI0_of iop_xor) (fun _ _ _ => trivial) fun _ _ _ _ => mk_int
def cMul : Int → Int → Bool := fun i j => (decide (-(2 ^ 64) < i) && decide (i < 2 ^ 64)) || (decide (-(2 ^ 64) < j) && decide (j < 2 ^ 64)) || decide (i.natAbs.log2 + j.natAbs.log2 < 1000000)
theorem cMul_ok {i j : Int} (h : cMul i j = true) : CMul i j ∨ CMulW i j := by
  unfold cMul at h
  simp only [Bool.and_eq_true, Bool.or_eq_true, decide_eq_true_eq] at h
  rcases h with (h | h) | h
  · exact .inl (.inl h)
  · exact .inl (.inr h)
  · exact .inr h
def fMulI : D → D → Sto → Res := op2I cMul fun i j => .int (i * j)
theorem ok_mulI : OpOk X J (binaryOp .Mult) fMulI := ok_2I (C := fun i j => CMul i j ∨ CMulW i j) (opr_imp (OpR.or op_mul op_mulW) fun x y H Q ⟨i, j, h1, h2, hc, h3⟩ => hc.imp (fun c => ⟨i, j, h1, h2, c, h3⟩) fun c => ⟨i, j, h1, h2, c, h3⟩) (fun _ _ h => cMul_ok h) fun _ _ _ _ => mk_int
def fRep (mu : Bool) (x y : D) (S : Sto) : Res := match lstS S x, y with
  | some ds, .int k => bif decide (-(2 ^ 63) ≤ k) && decide (k < 2 ^ 63) && Nat.ble (ds.length * k.toNat) sizeLine then mkL mu (List.replicate k.toNat ds).flatten S else .bad
  | _, _ => .bad
theorem ok_rep {mu : Bool} : OpOk X J (binaryOp .Mult) (fRep mu) := by
  refine ⟨rRep, op_rep, fun x y dx dy H M S W Q s rx ry hp => ?_⟩
  unfold fRep at hp
  cases q : lstS S dx with
  | none => rw [q] at hp; exact hp.elim
  | some ds =>
    rw [q] at hp
    cases dy with
    | int k =>
      obtain ⟨a, vs, e, h1, h2⟩ := lstS_ok s rx q
      cases c : (decide (-(2 ^ 63) ≤ k) && decide (k < 2 ^ 63) && Nat.ble (ds.length * k.toNat) sizeLine) with
      | false => simp only [c, cond_false] at hp; exact hp.elim
      | true =>
        simp only [c, cond_true] at hp
        simp only [Bool.and_eq_true, decide_eq_true_eq] at c
        refine ⟨a, k, vs, e, rv_int ry, h1, c.1.1, c.1.2, by rw [RVs.len h2]; exact Nat.le_of_ble_eq_true c.2, fun p hpn => new_lst s hp (h2.rep _) hpn⟩
    | non => exact hp.elim
    | bl _ => exact hp.elim
    | str _ => exact hp.elim
    | tup _ => exact hp.elim
    | lst _ => exact hp.elim
    | fix _ => exact hp.elim
    | ref _ => exact hp.elim
def fMul (mu : Bool) (x y : D) (S : Sto) : Res := match x with
  | .int _ => fMulI x y S
  | _ => fRep mu x y S
theorem ok_mul {mu : Bool} : OpOk X J (binaryOp .Mult) (fMul mu) := OpOk.or ok_mulI (ok_rep (mu := mu)) fun x y S => by
  cases x with
  | int _ => exact .inl rfl
  | non => exact .inr rfl
  | bl _ => exact .inr rfl
  | str _ => exact .inr rfl
  | tup _ => exact .inr rfl
  | lst _ => exact .inr rfl
  | fix _ => exact .inr rfl
  | ref _ => exact .inr rfl

/-! ### + -/
def fAddI : D → D → Sto → Res := op2I cTrue fun i j => .int (i + j)
def fAddS : D → D → Sto → Res
  | .str i, .str j, S => bif Nat.ble (i.length + j.length) sizeLine then .ok (.str (i ++ j)) S else .bad
  | _, _, _ => .bad
def fAddT : D → D → Sto → Res
  | .tup i, .tup j, S => bif Nat.ble (i.length + j.length) sizeLine then .ok (.tup (i ++ j)) S else .bad
  | _, _, _ => .bad
def fAddL (mu : Bool) (x y : D) (S : Sto) : Res := match lstS S x, lstS S y with
  | some i, some j => bif Nat.ble (i.length + j.length) sizeLine then mkL mu (i ++ j) S else .bad
  | _, _ => .bad
def fAdd (mu : Bool) (x y : D) (S : Sto) : Res := match x with
  | .int _ => fAddI x y S
  | .str _ => fAddS x y S
  | .tup _ => fAddT x y S
  | _ => fAddL mu x y S
theorem ok_addS {op : Value → Value → Sem Value} (h : OpR X op fun x y H Q => ∃ i j, x = .str i ∧ y = .str j ∧ i.length + j.length ≤ sizeLine ∧ Q (.str (i ++ j)) H) : OpOk X J op fAddS := by
  refine ⟨_, h, fun x y dx dy H M S W Q s rx ry hp => ?_⟩
  cases dx <;> cases dy <;> first | exact hp.elim | skip
  rename_i i j
  unfold fAddS at hp
  cases c : Nat.ble (i.length + j.length) sizeLine with
  | false => simp only [c, cond_false] at hp; exact hp.elim
  | true =>
    simp only [c, cond_true] at hp
    exact ⟨i, j, rv_str rx, rv_str ry, Nat.le_of_ble_eq_true c, hp.fin s mk_str⟩
theorem ok_addT : OpOk X J (binaryOp .Add) fAddT := by
  refine ⟨_, op_catF, fun x y dx dy H M S W Q s rx ry hp => ?_⟩
  cases dx <;> cases dy <;> first | exact hp.elim | skip
  rename_i i j
  unfold fAddT at hp
  cases c : Nat.ble (i.length + j.length) sizeLine with
  | false => simp only [c, cond_false] at hp; exact hp.elim
  | true =>
    simp only [c, cond_true] at hp
    obtain ⟨a, vs, e1, h1, h2⟩ := rv_tup rx
    obtain ⟨b, ws, e2, h3, h4⟩ := rv_tup ry
    refine ⟨a, b, vs, ws, e1, e2, h1, h3, by rw [RVs.len h2, RVs.len h4]; exact Nat.le_of_ble_eq_true c, fun e => ?_, fun _ e => ?_, fun _ _ => new_tup s hp (h2.app2 h4)⟩
    · have : i = [] := by
        have := RVs.len h2
        rw [e] at this
        exact List.length_eq_zero_iff.mp this.symm
      subst this
      exact hp.fin s (by unfold RV; exact ⟨b, ws, rfl, h3, h4⟩)
    · have : j = [] := by
        have := RVs.len h4
        rw [e] at this
        exact List.length_eq_zero_iff.mp this.symm
      subst this
      rw [List.append_nil] at hp
      exact hp.fin s (by unfold RV; exact ⟨a, vs, rfl, h1, h2⟩)
theorem ok_addL {mu : Bool} : OpOk X J (binaryOp .Add) (fAddL mu) := by
  refine ⟨_, op_cat, fun x y dx dy H M S W Q s rx ry hp => ?_⟩
  unfold fAddL at hp
  cases q : lstS S dx with
  | none => rw [q] at hp; exact hp.elim
  | some i =>
    rw [q] at hp
    cases q2 : lstS S dy with
    | none => rw [q2] at hp; exact hp.elim
    | some j =>
      rw [q2] at hp
      cases c : Nat.ble (i.length + j.length) sizeLine with
      | false => simp only [c, cond_false] at hp; exact hp.elim
      | true =>
        simp only [c, cond_true] at hp
        obtain ⟨a, vs, e1, h1, h2⟩ := lstS_ok s rx q
        obtain ⟨b, ws, e2, h3, h4⟩ := lstS_ok s ry q2
        exact ⟨a, b, vs, ws, e1, e2, h1, h3, by rw [RVs.len h2, RVs.len h4]; exact Nat.le_of_ble_eq_true c, fun p hpn => new_lst s hp (h2.app2 h4) hpn⟩
theorem ok_add {mu : Bool} : OpOk X J (binaryOp .Add) (fAdd mu) := by
  refine OpOk.or (OpOk.or (h := fun x y S => match x with | .int _ => fAddI x y S | _ => fAddS x y S) (ok_2I (c := cTrue) (g' := fun i j => .int (i + j)) (rI0_of op_add) (fun _ _ _ => trivial) fun _ _ _ _ => mk_int) (ok_addS op_add_str) fun x y S => ?_)
    (OpOk.or (h := fun x y S => match x with | .tup _ => fAddT x y S | _ => fAddL mu x y S) ok_addT (ok_addL (mu := mu)) fun x y S => ?_) fun x y S => ?_
  · cases x <;> first | exact .inl rfl | exact .inr rfl
  · cases x <;> first | exact .inl rfl | exact .inr rfl
  · cases x <;> first | exact .inl rfl | exact .inr rfl
def fIAdd : D → D → Sto → Res := fun x y S => match x with
  | .int _ => fAddI x y S
  | _ => fAddS x y S
theorem ok_iadd : OpOk X J (inplaceOp .Add) fIAdd := OpOk.or (ok_2I (c := cTrue) (g' := fun i j => .int (i + j)) (rI0_of iop_add) (fun _ _ _ => trivial) fun _ _ _ _ => mk_int) (ok_addS iop_add_str) fun x y S => by
  cases x <;> first | exact .inl rfl | exact .inr rfl
end
end Lk

namespace Lk
open PySem PySem.Spec PyProof.Rows L2

/-! ### data as a whole -/
mutual
def toP : D → Option PyData
  | .non => some .none
  | .bl b => some (.bool b)
  | .int i => some (.int i)
  | .str x => some (.str x)
  | .tup ds => (toPs ds).map .tuple
  | .lst ds => (toPs ds).map .list
  | .fix ds => (toPs ds).map .list
  | .ref _ => none
def toPs : List D → Option (List PyData)
  | [] => some []
  | d :: r => match toP d, toPs r with
    | some p, some q => some (p :: q)
    | _, _ => none
end
def toPT (S : Sto) : D → Option PyData
  | .ref n => match lstS S (.ref n) with
    | some ds => (toPs ds).map .list
    | none => none
  | d => toP d
section
variable {K : PySem.W.Frag} {ca : Nat → Option Addr} {fbs : List Nat} {H : Hp} {M : Mp} {S : Sto} {W : XK}
mutual
theorem toP_ok : ∀ (d : D) (v : V) (p : PyData), RV K H M d v → toP d = some p → Dp K H v p
  | .non, v, p, r, h => by cases h; rw [rv_non r]; exact .non
  | .bl b, v, p, r, h => by cases h; rw [rv_bl r]; exact .bl b
  | .int i, v, p, r, h => by cases h; rw [rv_int r]; exact .int i
  | .str x, v, p, r, h => by cases h; rw [rv_str r]; exact .str x
  | .tup ds, v, p, r, h => by
    obtain ⟨a, vs, rfl, h1, h2⟩ := rv_tup r
    unfold toP at h
    cases q : toPs ds with
    | none => rw [q] at h; cases h
    | some ps => rw [q] at h; cases h; exact .tup h1.seq (toPs_ok ds vs ps h2 q)
  | .lst ds, v, p, r, h => by
    unfold RV at r
    obtain ⟨a, vs, rfl, h1, _, _, h2⟩ := r
    unfold toP at h
    cases q : toPs ds with
    | none => rw [q] at h; cases h
    | some ps => rw [q] at h; cases h; exact .lst (.of h1) (toPs_ok ds vs ps h2 q)
  | .fix ds, v, p, r, h => by
    unfold RV at r
    obtain ⟨a, vs, rfl, h1, h2⟩ := r
    unfold toP at h
    cases q : toPs ds with
    | none => rw [q] at h; cases h
    | some ps => rw [q] at h; cases h; exact .lst h1.seq (toPs_ok ds vs ps h2 q)
  | .ref n, v, p, r, h => by cases h
theorem toPs_ok : ∀ (ds : List D) (vs : List V) (ps : List PyData), RVs K H M ds vs → toPs ds = some ps → DpAll K H vs ps
  | [], vs, ps, r, h => by unfold RVs at r; subst r; cases h; exact .nil
  | d :: ds, vs, ps, r, h => by
    unfold RVs at r
    obtain ⟨x, xs, rfl, r1, r2⟩ := r
    unfold toPs at h
    cases q : toP d with
    | none => rw [q] at h; cases h
    | some p =>
      cases q2 : toPs ds with
      | none => rw [q, q2] at h; cases h
      | some qs => rw [q, q2] at h; cases h; exact .cons (toP_ok d x p r1 q) (toPs_ok ds xs qs r2 q2)
end
theorem toPT_ok {d : D} {v : V} {p : PyData} (s : SRep K fbs H M S) (r : RV K H M d v) (h : toPT S d = some p) : Dp K H v p := by
  cases d with
  | ref n =>
    unfold toPT at h
    cases q : lstS S (.ref n) with
    | none => simp only [q] at h; cases h
    | some ds =>
      simp only [q] at h
      obtain ⟨a, vs, rfl, h1, h2⟩ := lstS_ok s r q
      cases q2 : toPs ds with
      | none => rw [q2] at h; cases h
      | some ps => rw [q2] at h; cases h; exact .lst (.of h1) (toPs_ok ds vs ps h2 q2)
  | non => exact toP_ok _ _ _ r h
  | bl _ => exact toP_ok _ _ _ r h
  | int _ => exact toP_ok _ _ _ r h
  | str _ => exact toP_ok _ _ _ r h
  | tup _ => exact toP_ok _ _ _ r h
  | lst _ => exact toP_ok _ _ _ r h
  | fix _ => exact toP_ok _ _ _ r h
end

/-! ### comparisons -/
def t2 (f : D → D → Sto → Rs Bool) (a b : SemE) : SemT := fun c g ρ S => (a c g ρ S).bind fun x S1 => (b c g ρ S1).bind fun y S2 => f x y S2
/-- a op b op' c, b asked once -/
def t3 (f g : D → D → Sto → Rs Bool) (a b c : SemE) : SemT := fun cf fb ρ S => (a cf fb ρ S).bind fun x S1 => (b cf fb ρ S1).bind fun y S2 => (f x y S2).bind fun k S3 => bif k then (c cf fb ρ S3).bind fun z S4 => g y z S4 else .ok false S3
section
variable {X : Cx} {J : Inf} {W : WX} {pos : Pos} {a b c : Expr} {fa fb fc : SemE}
def CmpOk (X : Cx) (J : Inf) (op : CmpOp) (f : D → D → Sto → Rs Bool) : Prop := ∃ r : R2, OpR X (compareOp op) r ∧
  ∀ (x y : V) (dx dy : D) (H : Hp) (M : Mp) (S : Sto) (W : XK) (Q : VK), SRep X.K J.fbs H M S → RV X.K H M dx x → RV X.K H M dy y → RP X.K J.ca J.fbs RB H M W (fun k H' => Q (.bl k) H') (f dx dy S) → r x y H Q
theorem re_t2 {f : D → D → Sto → Rs Bool} {r : R2} {σ : L2.St} {H : Hp} {Q : VK}
    (hf : ∀ (x y : V) (dx dy : D) (H : Hp) (M : Mp) (S : Sto) (W : XK) (Q : VK), SRep X.K J.fbs H M S → RV X.K H M dx x → RV X.K H M dy y → RP X.K J.ca J.fbs RB H M W (fun k H' => Q (.bl k) H') (f dx dy S) → r x y H Q)
    (h : RT X.K J W (t2 f fa fb) σ H fun k H' => Q (.bl k) H') : tOp r (RE X.K J W fa) (RE X.K J W fb) σ H Q := by
  obtain ⟨M, ρ, S, s, e, h⟩ := h
  refine ⟨M, ρ, S, s, e, (RP.bind (R := RV X.K) h).mono (fun x H1 _ _ _ _ _ _ h1 => ?_) fun _ _ _ q => q⟩
  obtain ⟨M1, dx, S1, e1, s1, rx, h1⟩ := h1
  refine ⟨M1, ρ, S1, s1, e.ext e1, (RP.bind (R := RV X.K) h1).mono (fun y H2 _ _ _ _ _ _ h2 => ?_) fun _ _ _ q => q⟩
  obtain ⟨M2, dy, S2, e2, s2, ry, h2⟩ := h2
  exact hf x y dx dy H2 M2 S2 _ Q s2 (rx.ext e2) ry h2
theorem re_eT {t : SemT} {σ : L2.St} {H : Hp} {Q : VK} (h : RE X.K J W (eT t) σ H Q) : RT X.K J W t σ H fun k H' => Q (.bl k) H' := by
  obtain ⟨M, ρ, S, s, e, h⟩ := h
  refine ⟨M, ρ, S, s, e, (RP.bind (R := RB) h).mono (fun x H1 _ _ _ _ _ _ h1 => ?_) fun _ _ _ q => q⟩
  obtain ⟨M1, dx, S1, e1, s1, rx, h1⟩ := h1
  cases rx
  exact h1.fin s1 mk_bl
theorem pe_t2 {op : CmpOp} {f : D → D → Sto → Rs Bool} (ho : CmpOk X J op f) (ha : PE X a (RE X.K J W fa)) (hb : PE X b (RE X.K J W fb)) (hm : behindInMarks op b = false) : PE X (.Compare a [op] [b] pos) (RE X.K J W (eT (t2 f fa fb))) := by
  obtain ⟨r, h1, h2⟩ := ho
  exact PE.imp (pe_cmpR h1 ha hb hm) fun σ H Q h => re_t2 h2 (re_eT h)
theorem pt_t2 {op : CmpOp} {f : D → D → Sto → Rs Bool} (ho : CmpOk X J op f) (ha : PE X a (RE X.K J W fa)) (hb : PE X b (RE X.K J W fb)) (hm : behindInMarks op b = false) : PT X (.Compare a [op] [b] pos) (RT X.K J W (t2 f fa fb)) := by
  obtain ⟨r, h1, h2⟩ := ho
  refine PT.imp (pt_cmpR h1 ha hb hm) fun σ H Q h => re_t2 (Q := fun x H' => ∃ k, x = .bl k ∧ Q k H') h2 ?_
  obtain ⟨M, ρ, S, s, e, h⟩ := h
  exact ⟨M, ρ, S, s, e, h.mono (fun k H1 _ _ _ _ _ _ h1 => ⟨k, rfl, h1⟩) fun _ _ _ q => q⟩
theorem re_t3 {f g : D → D → Sto → Rs Bool} {r r' : R2} {σ : L2.St} {H : Hp} {Q : VK}
    (hf : ∀ (x y : V) (dx dy : D) (H : Hp) (M : Mp) (S : Sto) (W : XK) (Q : VK), SRep X.K J.fbs H M S → RV X.K H M dx x → RV X.K H M dy y → RP X.K J.ca J.fbs RB H M W (fun k H' => Q (.bl k) H') (f dx dy S) → r x y H Q)
    (hg : ∀ (x y : V) (dx dy : D) (H : Hp) (M : Mp) (S : Sto) (W : XK) (Q : VK), SRep X.K J.fbs H M S → RV X.K H M dx x → RV X.K H M dy y → RP X.K J.ca J.fbs RB H M W (fun k H' => Q (.bl k) H') (g dx dy S) → r' x y H Q)
    (h : RT X.K J W (t3 f g fa fb fc) σ H fun k H' => Q (.bl k) H') : tChain r r' (RE X.K J W fa) (RE X.K J W fb) (RE X.K J W fc) σ H Q := by
  obtain ⟨M, ρ, S, s, e, h⟩ := h
  refine ⟨M, ρ, S, s, e, (RP.bind (R := RV X.K) h).mono (fun x H1 _ _ _ _ _ _ h1 => ?_) fun _ _ _ q => q⟩
  obtain ⟨M1, dx, S1, e1, s1, rx, h1⟩ := h1
  refine ⟨M1, ρ, S1, s1, e.ext e1, (RP.bind (R := RV X.K) h1).mono (fun y H2 _ _ _ _ _ _ h2 => ?_) fun _ _ _ q => q⟩
  obtain ⟨M2, dy, S2, e2, s2, ry, h2⟩ := h2
  refine hf x y dx dy H2 M2 S2 (fun c d H' => W c d σ H') _ s2 (rx.ext e2) ry ((RP.bind (R := RB) h2).mono (fun k H3 _ _ _ _ _ _ h3 => ?_) fun _ _ _ q => q)
  obtain ⟨M3, k', S3, e3, s3, rk, h3⟩ := h3
  cases rk
  refine ⟨k, rfl, ?_⟩
  cases k with
  | false => rw [if_neg Bool.false_ne_true]; exact h3.fin s3 rfl
  | true =>
    rw [if_pos rfl]
    refine ⟨M3, ρ, S3, s3, ((e.ext e1).ext e2).ext e3, (RP.bind (R := RV X.K) h3).mono (fun z H4 _ _ _ _ _ _ h4 => ?_) fun _ _ _ q => q⟩
    obtain ⟨M4, dz, S4, e4, s4, rz, h4⟩ := h4
    exact hg y z dy dz H4 M4 S4 (fun c d H' => W c d σ H') Q s4 ((ry.ext e3).ext e4) rz h4
theorem pe_t3 {op op' : CmpOp} {f g : D → D → Sto → Rs Bool} (ho : CmpOk X J op f) (ho' : CmpOk X J op' g) (ha : PE X a (RE X.K J W fa)) (hb : PE X b (RE X.K J W fb)) (hc : PE X c (RE X.K J W fc)) (hm : lastMarks [op, op'] [b, c] = false) :
    PE X (.Compare a [op, op'] [b, c] pos) (RE X.K J W (eT (t3 f g fa fb fc))) := by
  obtain ⟨r, h1, h2⟩ := ho
  obtain ⟨r', h3, h4⟩ := ho'
  exact PE.imp (pe_chain h1 h3 ha hb hc hm) fun σ H Q h => re_t3 h2 h4 (re_eT h)
theorem pt_t3 {op op' : CmpOp} {f g : D → D → Sto → Rs Bool} (ho : CmpOk X J op f) (ho' : CmpOk X J op' g) (ha : PE X a (RE X.K J W fa)) (hb : PE X b (RE X.K J W fb)) (hc : PE X c (RE X.K J W fc)) (hm : lastMarks [op, op'] [b, c] = false) :
    PT X (.Compare a [op, op'] [b, c] pos) (RT X.K J W (t3 f g fa fb fc)) := by
  obtain ⟨r, h1, h2⟩ := ho
  obtain ⟨r', h3, h4⟩ := ho'
  refine PT.imp (pt_chain h1 h3 ha hb hc hm) fun σ H Q h => re_t3 (Q := fun x H' => ∃ k, x = .bl k ∧ Q k H') h2 h4 ?_
  obtain ⟨M, ρ, S, s, e, h⟩ := h
  exact ⟨M, ρ, S, s, e, h.mono (fun k H1 _ _ _ _ _ _ h1 => ⟨k, rfl, h1⟩) fun _ _ _ q => q⟩

/-! == -/
def sEq : D → D → Option Bool
  | .int i, .int j => some (i == j)
  | .str i, .str j => some (decide (i = j))
  | .bl i, .bl j => some (i == j)
  | .non, .non => some true
  | .non, .int _ => some false
  | .non, .str _ => some false
  | .non, .bl _ => some false
  | .int _, .non => some false
  | .str _, .non => some false
  | .bl _, .non => some false
  | .int _, .str _ => some false
  | .str _, .int _ => some false
  | .bl _, .str _ => some false
  | .str _, .bl _ => some false
  | _, _ => none
def fEq (neg : Bool) (x y : D) (S : Sto) : Rs Bool := match sEq x y with
  | some k => .ok (neg ^^ k) S
  | none => match toPT S x, toPT S y with
    | some p, some q => bif SeqAt.shaped p && SeqAt.shaped q then .ok (neg ^^ PyData.eqv p q) S else .bad
    | _, _ => .bad
theorem sEq_ok {x y : V} {dx dy : D} {H : Hp} {M : Mp} {k : Bool} (rx : RV X.K H M dx x) (ry : RV X.K H M dy y) (h : sEq dx dy = some k) : scal x y = true ∧ decide (x = y) = k := by
  cases dx <;> cases dy <;> first | (cases h; done) | skip
  all_goals (cases h)
  all_goals first
    | rw [rv_int rx] | rw [rv_str rx] | rw [rv_bl rx] | rw [rv_non rx]
  all_goals first
    | rw [rv_int ry] | rw [rv_str ry] | rw [rv_bl ry] | rw [rv_non ry]
  all_goals refine ⟨rfl, ?_⟩
  all_goals first
    | rfl
    | exact dec_int
    | exact dec_bl
    | (simp; done)
theorem ok_eq (hu : X.A.units + 64 < cLine) : CmpOk X J .Eq (fEq false) := by
  refine ⟨_, OpR.or op_eq (op_eqD hu), fun x y dx dy H M S W Q s rx ry hp => ?_⟩
  unfold fEq at hp
  cases q : sEq dx dy with
  | some k =>
    rw [q] at hp
    obtain ⟨h1, h2⟩ := sEq_ok rx ry q
    refine .inl ⟨h1, ?_⟩
    rw [h2]
    have := hp.fin s rfl
    simpa using this
  | none =>
    rw [q] at hp
    cases qx : toPT S dx with
    | none => rw [qx] at hp; exact hp.elim
    | some p =>
      cases qy : toPT S dy with
      | none => rw [qx, qy] at hp; exact hp.elim
      | some p2 =>
        rw [qx, qy] at hp
        cases c : (SeqAt.shaped p && SeqAt.shaped p2) with
        | false => simp only [c, cond_false] at hp; exact hp.elim
        | true =>
          simp only [c, cond_true] at hp
          rw [Bool.and_eq_true] at c
          refine .inr ⟨p, p2, toPT_ok s rx qx, toPT_ok s ry qy, c.1, c.2, ?_⟩
          have := hp.fin s rfl
          simpa using this
theorem ok_ne (hu : X.A.units + 64 < cLine) : CmpOk X J .NotEq (fEq true) := by
  refine ⟨_, OpR.or op_ne (op_neD hu), fun x y dx dy H M S W Q s rx ry hp => ?_⟩
  unfold fEq at hp
  cases q : sEq dx dy with
  | some k =>
    rw [q] at hp
    obtain ⟨h1, h2⟩ := sEq_ok rx ry q
    refine .inl ⟨h1, ?_⟩
    rw [h2]
    have := hp.fin s rfl
    simpa using this
  | none =>
    rw [q] at hp
    cases qx : toPT S dx with
    | none => rw [qx] at hp; exact hp.elim
    | some p =>
      cases qy : toPT S dy with
      | none => rw [qx, qy] at hp; exact hp.elim
      | some p2 =>
        rw [qx, qy] at hp
        cases c : (SeqAt.shaped p && SeqAt.shaped p2) with
        | false => simp only [c, cond_false] at hp; exact hp.elim
        | true =>
          simp only [c, cond_true] at hp
          rw [Bool.and_eq_true] at c
          refine .inr ⟨p, p2, toPT_ok s rx qx, toPT_ok s ry qy, c.1, c.2, ?_⟩
          have := hp.fin s rfl
          simpa using this

/-! order -/
def fCmp (p : Int → Int → Bool) (q : List Nat → List Nat → Bool) : D → D → Sto → Rs Bool
  | .int i, .int j, S => .ok (p i j) S
  | .str i, .str j, S => .ok (q i.cps.toList j.cps.toList) S
  | _, _, _ => .bad
theorem ok_cmp {op : CmpOp} {p : Int → Int → Bool} {q : List Nat → List Nat → Bool} (h1 : OpR X (compareOp op) (rI0 fun i j => .bl (p i j))) (h2 : OpR X (compareOp op) (fun x y H Q => ∃ i j, x = .str i ∧ y = .str j ∧ Q (.bl (q i.cps.toList j.cps.toList)) H)) : CmpOk X J op (fCmp p q) := by
  refine ⟨_, OpR.or h1 h2, fun x y dx dy H M S W Q s rx ry hp => ?_⟩
  cases dx <;> cases dy <;> first | exact hp.elim | skip
  · exact .inl ⟨_, _, rv_int rx, rv_int ry, hp.fin s rfl⟩
  · exact .inr ⟨_, _, rv_str rx, rv_str ry, hp.fin s rfl⟩
def fLt : D → D → Sto → Rs Bool := fCmp (fun i j => decide (i < j)) fun i j => decide (i < j)
def fLe : D → D → Sto → Rs Bool := fCmp (fun i j => decide (i ≤ j)) fun i j => !decide (j < i)
def fGt : D → D → Sto → Rs Bool := fCmp (fun i j => decide (j < i)) fun i j => decide (j < i)
def fGe : D → D → Sto → Rs Bool := fCmp (fun i j => decide (j ≤ i)) fun i j => !decide (i < j)
theorem ok_lt : CmpOk X J .Lt fLt := ok_cmp op_lt op_lt_str
theorem ok_le : CmpOk X J .LtE fLe := ok_cmp op_le op_le_str
theorem ok_gt : CmpOk X J .Gt fGt := ok_cmp op_gt op_gt_str
theorem ok_ge : CmpOk X J .GtE fGe := ok_cmp op_ge op_ge_str

/-! in -/
def eqF : D → D → Bool
  | .non, .non => true
  | .bl a, .bl b => a == b
  | .bl a, .int b => (if a then 1 else 0) == b
  | .int a, .bl b => a == (if b then 1 else 0)
  | .int a, .int b => a == b
  | .str a, .str b => a == b
  | _, _ => false
def flatD : D → Bool
  | .non => true
  | .bl _ => true
  | .int _ => true
  | .str _ => true
  | _ => false
theorem flat_ok {K : PySem.W.Frag} {d e : D} {x y : V} {H : Hp} {M : Mp} (rx : RV K H M d x) (fx : flatD d = true) (ry : RV K H M e y) (fy : flatD e = true) : flatV x = true ∧ eqV x y = eqF d e := by
  cases d <;> first | (cases fx; done) | skip
  all_goals cases e <;> first | (cases fy; done) | skip
  all_goals first
    | rw [rv_int rx] | rw [rv_str rx] | rw [rv_bl rx] | rw [rv_non rx]
  all_goals first
    | rw [rv_int ry] | rw [rv_str ry] | rw [rv_bl ry] | rw [rv_non ry]
  all_goals exact ⟨rfl, rfl⟩
theorem inV_ok {K : PySem.W.Frag} {H : Hp} {M : Mp} {d : D} {x : V} (rx : RV K H M d x) (fx : flatD d = true) : ∀ {ds : List D} {vs : List V}, RVs K H M ds vs → ds.all flatD = true → vs.all flatV = true ∧ inV x vs = ds.any fun y => eqF y d
  | [], vs, r, f => by unfold RVs at r; subst r; exact ⟨rfl, rfl⟩
  | e :: ds, vs, r, f => by
    unfold RVs at r
    obtain ⟨y, ys, rfl, r1, r2⟩ := r
    rw [List.all_cons, Bool.and_eq_true] at f
    obtain ⟨h1, h2⟩ := inV_ok rx fx r2 f.2
    obtain ⟨h3, h4⟩ := flat_ok r1 f.1 rx fx
    refine ⟨by rw [List.all_cons, h3, h1]; rfl, ?_⟩
    unfold inV at h2 ⊢
    rw [List.any_cons, List.any_cons, h2, h4]
def subS (x z : Str) : Bool := match x.cps.toList with
  | [c] => decide (c ∈ z.cps.toList)
  | _ => !(Builtin.Str.occurrences z x 0 z.length 1).isEmpty
def fInStr (neg : Bool) : D → D → Sto → Rs Bool
  | .str x, .str z, S => .ok (neg ^^ subS x z) S
  | _, _, _ => .bad
def fInSeq (neg : Bool) (x y : D) (S : Sto) : Rs Bool := match seqS S y with
  | some ds => bif flatD x && ds.all flatD then .ok (neg ^^ ds.any fun e => eqF e x) S else .bad
  | none => .bad
def fIn (neg : Bool) (x y : D) (S : Sto) : Rs Bool := match y with
  | .str _ => fInStr neg x y S
  | _ => fInSeq neg x y S
theorem str_one {x : Str} {c : Nat} (h : x.cps.toList = [c]) : x = ⟨#[c]⟩ := by
  obtain ⟨a⟩ := x
  congr 1
  apply Array.toList_inj.mp
  exact h
theorem ok_in : CmpOk X J .In (fIn false) := by
  refine ⟨_, OpR.or op_in_str (OpR.or op_in_sign op_in_seq), fun x y dx dy H M S W Q s rx ry hp => ?_⟩
  have seq : RP X.K J.ca J.fbs RB H M W (fun k H' => Q (.bl k) H') (fInSeq false dx dy S) → rIn X.K false x y H Q := fun hp => by
    unfold fInSeq at hp
    cases q : seqS S dy with
    | none => rw [q] at hp; exact hp.elim
    | some ds =>
      rw [q] at hp
      cases c : (flatD dx && ds.all flatD) with
      | false => simp only [c, cond_false] at hp; exact hp.elim
      | true =>
        simp only [c, cond_true] at hp
        rw [Bool.and_eq_true] at c
        obtain ⟨p, vs, e, h1, h2⟩ := seqS_ok s ry q
        obtain ⟨h3, h4⟩ := inV_ok rx c.1 h2 c.2
        refine ⟨p, vs, e, h1, (flat_ok rx c.1 rx c.1).1, h3, ?_⟩
        rw [if_neg Bool.false_ne_true, h4]
        have := hp.fin s rfl
        simpa using this
  cases dy with
  | str z =>
    cases dx <;> first | exact hp.elim | skip
    rename_i x0
    have this := RP.fin (d := false ^^ subS x0 z) hp s rfl
    rw [rv_str rx, rv_str ry]
    unfold subS at this
    split at this
    · rename_i c hc
      rw [str_one hc]
      exact .inr (.inl ⟨c, z, rfl, rfl, by simpa using this⟩)
    · exact .inl ⟨x0, z, rfl, rfl, by simpa using this⟩
  | non => exact .inr (.inr (seq hp))
  | bl _ => exact .inr (.inr (seq hp))
  | int _ => exact .inr (.inr (seq hp))
  | tup _ => exact .inr (.inr (seq hp))
  | lst _ => exact .inr (.inr (seq hp))
  | fix _ => exact .inr (.inr (seq hp))
  | ref _ => exact .inr (.inr (seq hp))
theorem ok_notin : CmpOk X J .NotIn (fIn true) := by
  refine ⟨_, OpR.or L2.op_notIn_str (OpR.or op_notIn_sign op_notIn_seq), fun x y dx dy H M S W Q s rx ry hp => ?_⟩
  have seq : RP X.K J.ca J.fbs RB H M W (fun k H' => Q (.bl k) H') (fInSeq true dx dy S) → rIn X.K true x y H Q := fun hp => by
    unfold fInSeq at hp
    cases q : seqS S dy with
    | none => rw [q] at hp; exact hp.elim
    | some ds =>
      rw [q] at hp
      cases c : (flatD dx && ds.all flatD) with
      | false => simp only [c, cond_false] at hp; exact hp.elim
      | true =>
        simp only [c, cond_true] at hp
        rw [Bool.and_eq_true] at c
        obtain ⟨p, vs, e, h1, h2⟩ := seqS_ok s ry q
        obtain ⟨h3, h4⟩ := inV_ok rx c.1 h2 c.2
        refine ⟨p, vs, e, h1, (flat_ok rx c.1 rx c.1).1, h3, ?_⟩
        rw [if_pos rfl, h4]
        have := hp.fin s rfl
        simpa using this
  cases dy with
  | str z =>
    cases dx <;> first | exact hp.elim | skip
    rename_i x0
    have this := RP.fin (d := true ^^ subS x0 z) hp s rfl
    rw [rv_str rx, rv_str ry]
    unfold subS at this
    split at this
    · rename_i c hc
      rw [str_one hc]
      exact .inr (.inl ⟨c, z, rfl, rfl, by simpa using this⟩)
    · exact .inl ⟨x0, z, rfl, rfl, by simpa using this⟩
  | non => exact .inr (.inr (seq hp))
  | bl _ => exact .inr (.inr (seq hp))
  | int _ => exact .inr (.inr (seq hp))
  | tup _ => exact .inr (.inr (seq hp))
  | lst _ => exact .inr (.inr (seq hp))
  | fix _ => exact .inr (.inr (seq hp))
  | ref _ => exact .inr (.inr (seq hp))

/-! is None -/
def isNon (neg : Bool) : D → Sto → Rs Bool
  | .non, S => .ok (!neg) S
  | _, S => .ok neg S
theorem isNon_ok {d : D} {v : V} {H : Hp} {M : Mp} (r : RV X.K H M d v) (neg : Bool) (S : Sto) : isNon neg d S = .ok (neg ^^ decide (v = .non)) S := by
  cases d with
  | non => rw [rv_non r]; cases neg <;> rfl
  | bl _ => rw [rv_bl r]; cases neg <;> rfl
  | int _ => rw [rv_int r]; cases neg <;> rfl
  | str _ => rw [rv_str r]; cases neg <;> rfl
  | tup _ => obtain ⟨a, _, rfl, _⟩ := rv_tup r; cases neg <;> rfl
  | lst _ => unfold RV at r; obtain ⟨a, _, rfl, _⟩ := r; cases neg <;> rfl
  | fix _ => unfold RV at r; obtain ⟨a, _, rfl, _⟩ := r; cases neg <;> rfl
  | ref _ => unfold RV at r; obtain ⟨a, _, rfl, _⟩ := r; cases neg <;> rfl
theorem re_tt {f : D → Sto → Rs Bool} {σ : L2.St} {H : Hp} {Q : VK} {T : V → Hp → Prop}
    (hf : ∀ (x : V) (dx : D) (H : Hp) (M : Mp) (S : Sto) (W : XK), SRep X.K J.fbs H M S → RV X.K H M dx x → RP X.K J.ca J.fbs RB H M W (fun k H' => Q (.bl k) H') (f dx S) → T x H)
    (h : RT X.K J W (tt f fa) σ H fun k H' => Q (.bl k) H') : RE X.K J W fa σ H T := by
  obtain ⟨M, ρ, S, s, e, h⟩ := h
  refine ⟨M, ρ, S, s, e, (RP.bind (R := RV X.K) h).mono (fun x H1 _ _ _ _ _ _ h1 => ?_) fun _ _ _ q => q⟩
  obtain ⟨M1, dx, S1, e1, s1, rx, h1⟩ := h1
  exact hf x dx H1 M1 S1 _ s1 rx h1
theorem pe_isNon {j : Nat} {pos' : Pos} (ha : PE X a (RE X.K J W fa)) : PE X (.Compare a [.Is] [.Constant .none j pos'] pos) (RE X.K J W (eT (tt (isNon false) fa))) :=
  PE.imp (pe_cmp (pc_isN ha) rfl) fun σ H Q h => re_tt (fun x dx H M S W s r hp => by
    rw [isNon_ok r] at hp
    have := hp.fin s rfl
    simpa using this) (re_eT h)
theorem pe_notNon {j : Nat} {pos' : Pos} (ha : PE X a (RE X.K J W fa)) : PE X (.Compare a [.IsNot] [.Constant .none j pos'] pos) (RE X.K J W (eT (tt (isNon true) fa))) :=
  PE.imp (pe_cmp (pc_notN ha) rfl) fun σ H Q h => re_tt (fun x dx H M S W s r hp => by
    rw [isNon_ok r] at hp
    have := hp.fin s rfl
    simpa using this) (re_eT h)
theorem pt_isNon {j : Nat} {pos' : Pos} (ha : PE X a (RE X.K J W fa)) : PT X (.Compare a [.Is] [.Constant .none j pos'] pos) (RT X.K J W (tt (isNon false) fa)) :=
  PT.imp (pt_cmp (pc_isN ha) rfl) fun σ H Q h => rt_tt (r := fun x H Q => ∃ c, V.bl (decide (x = .non)) = .bl c ∧ Q c H) (fun x dx H M S W Q s r hp => by
    rw [isNon_ok r] at hp
    have := hp.fin s rfl
    exact ⟨_, rfl, by simpa using this⟩) h
theorem pt_notNon {j : Nat} {pos' : Pos} (ha : PE X a (RE X.K J W fa)) : PT X (.Compare a [.IsNot] [.Constant .none j pos'] pos) (RT X.K J W (tt (isNon true) fa)) :=
  PT.imp (pt_cmp (pc_notN ha) rfl) fun σ H Q h => rt_tt (r := fun x H Q => ∃ c, V.bl (!decide (x = .non)) = .bl c ∧ Q c H) (fun x dx H M S W Q s r hp => by
    rw [isNon_ok r] at hp
    have := hp.fin s rfl
    exact ⟨_, rfl, by simpa using this⟩) h

/-! truth -/
def fTru (d : D) (S : Sto) : Rs Bool := match d with
  | .bl b => .ok b S
  | .int i => .ok (i != 0) S
  | .non => .ok false S
  | .str x => bif Nat.ble x.length sizeLine then .ok ((x.length : Int) != 0) S else .bad
  | d => match seqS S d with
    | some ds => .ok (!ds.isEmpty) S
    | none => .bad
theorem pt_tru (ha : PE X a (RE X.K J W fa)) (he : ∀ whole, isTrue a X.env whole = (do let v ← whole; standAt a.pos; holding [v] (truthy v))) : PT X a (RT X.K J W (tt fTru fa)) := by
  refine PT.imp (pt_truth ha he) fun σ H Q h => rt_tt (r := fun x H Q => ∃ k, TruV X.K x H k ∧ Q k H) (fun x dx H M S W Q s r h => ?_) h
  have seq : RP X.K J.ca J.fbs RB H M W Q (match seqS S dx with | some ds => .ok (!ds.isEmpty) S | none => .bad) → ∃ k, TruV X.K x H k ∧ Q k H := fun h => by
    cases q : seqS S dx with
    | none => rw [q] at h; exact h.elim
    | some ds =>
      rw [q] at h
      obtain ⟨p, vs, e, h1, h2⟩ := seqS_ok s r q
      have hem : vs.isEmpty = ds.isEmpty := by
        have := RVs.len h2
        cases vs <;> cases ds <;> first | rfl | (simp at this)
      refine ⟨_, ?_, h.fin s rfl⟩
      rw [e, ← hem]
      rcases h1 with h1 | h1
      · exact .inl ⟨vs, h1, rfl⟩
      · exact .inr (.inl ⟨vs, h1, rfl⟩)
  cases dx with
  | bl k => rw [rv_bl r]; exact ⟨k, rfl, h.fin s rfl⟩
  | int i => rw [rv_int r]; exact ⟨_, rfl, h.fin s rfl⟩
  | non => rw [rv_non r]; exact ⟨_, rfl, h.fin s rfl⟩
  | str z =>
    unfold fTru at h
    cases c : Nat.ble z.length sizeLine with
    | false => simp only [c, cond_false] at h; exact h.elim
    | true => simp only [c, cond_true] at h; rw [rv_str r]; exact ⟨_, ⟨Nat.le_of_ble_eq_true c, rfl⟩, h.fin s rfl⟩
  | tup _ => exact seq h
  | lst _ => exact seq h
  | fix _ => exact seq h
  | ref _ => exact seq h
end
end Lk

namespace Lk
open PySem PySem.Spec PyProof.Rows L2

/-! ### enumerate(tuple) -/
theorem meets_enum1 {v : Value} {o : Obj} {HH : Heap → Prop} (B : Begins v o HH) :
    Meets (Builtin.«enumerate.__new__» ⟨[.type "enumerate", v], []⟩) (fun _ R s => HH s.heap ∧
      R (.ok (.ret (.ref (s.heap.push o).objs.size))) { s with heap := (s.heap.push o).push { cls := .type "enumerate", data := .fields #[.none, .bool false, .ref s.heap.objs.size, rawInt 0, .none, .none] } }) :=
  .of_wp fun prog w A R s h => by
    obtain ⟨hp, g, d, tk, os⟩ := s
    obtain ⟨h1, h⟩ := h
    have hs := sub_enumerate
    have step : ∀ {A' : Around} {E : Value → Shared → Prop} {Q : Value → Shared → Prop}, Q (.ref hp.objs.size) ⟨hp.push o, g, d, tk, os⟩ → wpAny (model prog w) A' (pyIter v) Q E ⟨hp, g, d, tk, os⟩ :=
      fun q => B.iter prog w _ _ ⟨hp, g, d, tk, os⟩ _ h1 q
    wp_walk
    refine wpAny_stack_any fun st => wpAny_pure ?_
    split
    · rename_i c _ _ _ _ _
      cases (c == Value.type "enumerate") <;> (wp_walk using step; exact ⟨_, rfl, h⟩)
    · wp_walk using step
      exact ⟨_, rfl, h⟩
section
variable {prog : Program} {w : World} {A : Around} {E : Value → Shared → Prop} {s : Shared}
theorem enum1 {v : Value} {o : Obj} {HH : Heap → Prop} {Q : Value → Shared → Prop} (B : Begins v o HH) (h1 : HH s.heap)
    (h : ∀ h', IsEnum h' (s.heap.objs.size + 1) s.heap.objs.size 0 .none → h'.get? s.heap.objs.size = some o → (∀ b u, s.heap.get? b = some u → h'.get? b = some u) → Q (.ref (s.heap.objs.size + 1)) { s with heap := h' }) :
    wpAny (model prog w) A (call (.type "enumerate") [v]) Q E s := by
  refine callType_new F.called_enumerate (by decide) (F.typeCall_enumerate_1 _) (F.newCall_enumerate_1 _) (fun obj => F.args_object_init_2 obj _) F.entry_enumerate_new (meets_enum1 B) ⟨h1, ?_⟩
  have hz : (s.heap.push o).objs.size = s.heap.objs.size + 1 := Heap.size_push ..
  have he : IsEnum ((s.heap.push o).push { cls := .type "enumerate", data := .fields #[.none, .bool false, .ref s.heap.objs.size, rawInt 0, .none, .none] }) (s.heap.objs.size + 1) s.heap.objs.size 0 .none := by
    have q := Heap.get?_push_size (s.heap.push o) (o := { cls := .type "enumerate", data := .fields #[.none, .bool false, .ref s.heap.objs.size, rawInt 0, .none, .none] }) rfl
    rw [hz] at q
    exact q
  show _ ∧ _
  rw [hz]
  exact ⟨⟨_, he, rfl⟩, h _ he (Heap.get?_push_of_some _ (Heap.get?_push_size _ B.free)) fun b u x => Heap.get?_push_of_some _ (Heap.get?_push_of_some _ x)⟩
end
/-- a tuple's items with their numbers, each time a new pair -/
def Itet (K : PySem.W.Frag) (a : Addr) : It :=
  ⟨fun i H => ∃ (xs : List V) (x : V), SqT K H a xs ∧ xs[i]? = some x, fun i H v H' => ∃ T x o, v = .ref T ∧ H T = none ∧ o.dict = none ∧ H' = upd H T (.frz o (.tup [.int (i : Nat), x])) ∧ ∀ xs, SqT K H a xs → xs[i]? = some x, fun i H => ∃ xs : List V, SqT K H a xs ∧ xs.length = i⟩
theorem turn_enumT {P : Program} {w : World} {K : PySem.W.Frag} {elts : List Expr} {kk : Nat} {tpos : Pos} (a e it : Addr) :
    Turn P w K (.Tuple elts kk tpos) (Itet K a) [e, it] e (fun i h => (∃ old, IsEnum h e it ((i : Nat) : Int) old) ∧ h.IsTupleIter it a i ∧ e ≠ it) where
  mem := by simp
  obj := fun i h ⟨⟨old, he⟩, ⟨o, ho, hc, hd⟩, _⟩ b hb => by
    rcases (show b = e ∨ b = it by simpa using hb) with z | z
    · subst z; exact ⟨_, he, fun v q => nomatch q⟩
    · subst z; exact ⟨o, ho, fun v q => by rw [hd] at q; cases q⟩
  keep := fun i h h' ⟨⟨old, he⟩, hi, hne⟩ k => ⟨⟨old, k e (by simp) _ he⟩, hi.at fun o q => k it (by simp) o q, hne⟩
  item := by
    intro X hP hw hK hc i pins s σ H E I hf st hg
    subst hP hw hK
    obtain ⟨⟨old, he⟩, hit, hne⟩ := st
    obtain ⟨xs, x, hq, hx⟩ := hg
    obtain ⟨its, rv, p, hz⟩ := I.tuple hq
    obtain ⟨u, hu, ru⟩ := rv.get hx
    have p' : s.heap.IsTuple a its.toArray := p
    have hel : e < s.heap.objs.size := Heap.lt_size he
    have hil : it < s.heap.objs.size := by obtain ⟨_, q, _⟩ := hit; exact Heap.lt_size q
    obtain ⟨ot, hot, hct, _⟩ := id p
    have nai : a ≠ it := fun z => by
      obtain ⟨o2, ho2, hc2, _⟩ := id hit
      rw [← z, hot] at ho2
      cases ho2
      rw [hct] at hc2
      exact absurd hc2 (by decide)
    have nae : a ≠ e := fun z => by
      have he2 : s.heap.get? e = some _ := he
      rw [← z, hot] at he2
      cases he2
      exact absurd (show Value.type "enumerate" = Value.type "tuple" from hct) (by decide)
    have hi : i < its.toArray.size := by
      have := (List.getElem?_eq_some_iff.mp hu).1
      simpa using this
    refine wpAny_pyNext_enum_itemD (Draws.tuple (A := X.A.in1) (I.ok.hd hc) it a nai its.toArray) he ⟨hit, p'⟩ hi hne (by simp [hne, Ne.symm nae]) fun y h' tk hy ho st' hT hsz hk => ?_
    have hyu : y = u := by
      have hy' : its[i]? = some y := by simpa using hy
      rw [hu] at hy'
      exact (Option.some.inj hy').symm
    subst hyu
    refine ⟨_, rfl, wpAny_letOwnedTupleGo_enum (s := { s with heap := h', toks := tk + 1 }) ho fun h2 he2 sb => ?_⟩
    have hT2 : h2.get? s.heap.objs.size = some { cls := .type "tuple", data := .seq #[.int i tk, y] } := (sb.2 _ (Nat.ne_of_gt hel)).trans hT
    have new : ObjOk X.prog X.w (upd H s.heap.objs.size (.frz { cls := .type "tuple", data := .seq #[.int i tk, y] } (.tup [.int (i : Nat), x]))) h2 s.heap.objs.size (.frz { cls := .type "tuple", data := .seq #[.int i tk, y] } (.tup [.int (i : Nat), x])) :=
      ⟨hT2, by show 2 ≤ sizeLine; decide, [.int i tk, y], .cons ⟨_, rfl⟩ (.cons ru .nil), ⟨_, hT2, rfl, _, rfl⟩⟩
    have I1 : Inv X pins σ (upd H s.heap.objs.size (.frz { cls := .type "tuple", data := .seq #[.int i tk, y] } (.tup [.int (i : Nat), x]))) { s with heap := h2, toks := tk + 1 } :=
      I.turnedNew (ch := [e, it]) (fun b ob hb q => by
        have b1 : b ≠ e := fun z => hb (by simp [z])
        have b2 : b ≠ it := fun z => hb (by simp [z])
        exact (sb.2 b b1).trans (hk b ob b1 b2 q)) hf (Nat.le_refl _) new
    refine ⟨.ref s.heap.objs.size, _, I1, rfl, ⟨_, x, _, rfl, I.hok.fresh (Nat.le_refl _), rfl, rfl, fun ys hy => by rw [I.tuple_inj hy hq]; exact hx⟩, ⟨⟨y, ?_⟩, st'.1.at fun o q => (sb.2 it (Ne.symm hne)).trans q, hne⟩, fun b hb => ?_⟩
    · rw [show ((i + 1 : Nat) : Int) = (i : Int) + 1 by omega]
      exact he2
    · have hb' : b < s.heap.objs.size := by
        rcases (show b = e ∨ b = it by simpa using hb) with z | z
        · rw [z]; exact hel
        · rw [z]; exact hil
      rw [upd_ne (Nat.ne_of_lt hb')]
      exact (hf b hb).1
  done := by
    intro X hP hw hK hc i pins s σ H E I hf st hg
    subst hP hw hK
    obtain ⟨⟨old, he⟩, hit, hne⟩ := st
    obtain ⟨xs, hq, hx⟩ := hg
    obtain ⟨its, rv, p, hz⟩ := I.tuple hq
    have p' : s.heap.IsTuple a its.toArray := p
    obtain ⟨ot, hot, hct, _⟩ := id p
    have nai : a ≠ it := fun z => by
      obtain ⟨o2, ho2, hc2, _⟩ := id hit
      rw [← z, hot] at ho2
      cases ho2
      rw [hct] at hc2
      exact absurd hc2 (by decide)
    have hn : i = its.toArray.size := by
      have := rv.length
      simp
      omega
    obtain ⟨f0, f1, f2, f3, f4, f5⟩ := hf it (by simp)
    refine wpAny_pyNext_enum_endD (Draws.tuple (A := X.A.in1) (I.ok.hd hc) it a nai its.toArray) he ⟨by rw [← hn]; exact hit, p'⟩ fun h' eb => ⟨rfl, I.turned (t' := s.toks) (fun b o hb q => eb b o hb q) f0 f1 f3 f4 f5⟩
  self := fun A i s Q E st h => let ⟨⟨_, he⟩, _⟩ := st; wpAny_pyIter_enum he h
/-- a list's items with their numbers, each time a new pair -/
def Itel (K : PySem.W.Frag) (a : Addr) : It :=
  ⟨fun i H => ∃ (xs : List V) (x : V), SqL K H a xs ∧ xs[i]? = some x, fun i H v H' => ∃ T x o, v = .ref T ∧ H T = none ∧ o.dict = none ∧ H' = upd H T (.frz o (.tup [.int (i : Nat), x])) ∧ ∀ xs, SqL K H a xs → xs[i]? = some x, fun i H => ∃ xs : List V, SqL K H a xs ∧ xs.length = i⟩
theorem turn_enumL {P : Program} {w : World} {K : PySem.W.Frag} {elts : List Expr} {kk : Nat} {tpos : Pos} (a e it : Addr) :
    Turn P w K (.Tuple elts kk tpos) (Itel K a) [e, it] e (fun i h => (∃ old, IsEnum h e it ((i : Nat) : Int) old) ∧ h.IsListIter it a i ∧ e ≠ it) where
  mem := by simp
  obj := fun i h ⟨⟨old, he⟩, ⟨o, ho, hc, hd⟩, _⟩ b hb => by
    rcases (show b = e ∨ b = it by simpa using hb) with z | z
    · subst z; exact ⟨_, he, fun v q => nomatch q⟩
    · subst z; exact ⟨o, ho, fun v q => by rw [hd] at q; cases q⟩
  keep := fun i h h' ⟨⟨old, he⟩, hi, hne⟩ k => ⟨⟨old, k e (by simp) _ he⟩, hi.at fun o q => k it (by simp) o q, hne⟩
  item := by
    intro X hP hw hK hc i pins s σ H E I hf st hg
    subst hP hw hK
    obtain ⟨⟨old, he⟩, hit, hne⟩ := st
    obtain ⟨xs, x, hq, hx⟩ := hg
    obtain ⟨its, rv, p, hz⟩ := I.list hq
    obtain ⟨u, hu, ru⟩ := rv.get hx
    have p' : s.heap.IsList a its.toArray := p.isList
    have hel : e < s.heap.objs.size := Heap.lt_size he
    have hil : it < s.heap.objs.size := by obtain ⟨_, q, _⟩ := hit; exact Heap.lt_size q
    obtain ⟨ot, hot, hct, _⟩ := id p'
    have nai : a ≠ it := fun z => by
      obtain ⟨o2, ho2, hc2, _⟩ := id hit
      rw [← z, hot] at ho2
      cases ho2
      rw [hct] at hc2
      exact absurd hc2 (by decide)
    have nae : a ≠ e := fun z => by
      have he2 : s.heap.get? e = some _ := he
      rw [← z, hot] at he2
      cases he2
      exact absurd (show Value.type "enumerate" = Value.type "list" from hct) (by decide)
    have hi : i < its.toArray.size := by
      have := (List.getElem?_eq_some_iff.mp hu).1
      simpa using this
    refine wpAny_pyNext_enum_itemD (Draws.list (A := X.A.in1) (I.ok.hd hc) it a nai its.toArray) he ⟨hit, p'⟩ hi hne (by simp [hne, Ne.symm nae]) fun y h' tk hy ho st' hT hsz hk => ?_
    have hyu : y = u := by
      have hy' : its[i]? = some y := by simpa using hy
      rw [hu] at hy'
      exact (Option.some.inj hy').symm
    subst hyu
    refine ⟨_, rfl, wpAny_letOwnedTupleGo_enum (s := { s with heap := h', toks := tk + 1 }) ho fun h2 he2 sb => ?_⟩
    have hT2 : h2.get? s.heap.objs.size = some { cls := .type "tuple", data := .seq #[.int i tk, y] } := (sb.2 _ (Nat.ne_of_gt hel)).trans hT
    have new : ObjOk X.prog X.w (upd H s.heap.objs.size (.frz { cls := .type "tuple", data := .seq #[.int i tk, y] } (.tup [.int (i : Nat), x]))) h2 s.heap.objs.size (.frz { cls := .type "tuple", data := .seq #[.int i tk, y] } (.tup [.int (i : Nat), x])) :=
      ⟨hT2, by show 2 ≤ sizeLine; decide, [.int i tk, y], .cons ⟨_, rfl⟩ (.cons ru .nil), ⟨_, hT2, rfl, _, rfl⟩⟩
    have I1 : Inv X pins σ (upd H s.heap.objs.size (.frz { cls := .type "tuple", data := .seq #[.int i tk, y] } (.tup [.int (i : Nat), x]))) { s with heap := h2, toks := tk + 1 } :=
      I.turnedNew (ch := [e, it]) (fun b ob hb q => by
        have b1 : b ≠ e := fun z => hb (by simp [z])
        have b2 : b ≠ it := fun z => hb (by simp [z])
        exact (sb.2 b b1).trans (hk b ob b1 b2 q)) hf (Nat.le_refl _) new
    refine ⟨.ref s.heap.objs.size, _, I1, rfl, ⟨_, x, _, rfl, I.hok.fresh (Nat.le_refl _), rfl, rfl, fun ys hy => by rw [I.list_inj hy hq]; exact hx⟩, ⟨⟨y, ?_⟩, st'.1.at fun o q => (sb.2 it (Ne.symm hne)).trans q, hne⟩, fun b hb => ?_⟩
    · rw [show ((i + 1 : Nat) : Int) = (i : Int) + 1 by omega]
      exact he2
    · have hb' : b < s.heap.objs.size := by
        rcases (show b = e ∨ b = it by simpa using hb) with z | z
        · rw [z]; exact hel
        · rw [z]; exact hil
      rw [upd_ne (Nat.ne_of_lt hb')]
      exact (hf b hb).1
  done := by
    intro X hP hw hK hc i pins s σ H E I hf st hg
    subst hP hw hK
    obtain ⟨⟨old, he⟩, hit, hne⟩ := st
    obtain ⟨xs, hq, hx⟩ := hg
    obtain ⟨its, rv, p, hz⟩ := I.list hq
    have p' : s.heap.IsList a its.toArray := p.isList
    obtain ⟨ot, hot, hct, _⟩ := id p'
    have nai : a ≠ it := fun z => by
      obtain ⟨o2, ho2, hc2, _⟩ := id hit
      rw [← z, hot] at ho2
      cases ho2
      rw [hct] at hc2
      exact absurd hc2 (by decide)
    have hn : i = its.toArray.size := by
      have := rv.length
      simp
      omega
    obtain ⟨f0, f1, f2, f3, f4, f5⟩ := hf it (by simp)
    refine wpAny_pyNext_enum_endD (Draws.list (A := X.A.in1) (I.ok.hd hc) it a nai its.toArray) he ⟨by rw [← hn]; exact hit, p'⟩ fun h' eb => ⟨rfl, I.turned (t' := s.toks) (fun b o hb q => eb b o hb q) f0 f1 f3 f4 f5⟩
  self := fun A i s Q E st h => let ⟨⟨_, he⟩, _⟩ := st; wpAny_pyIter_enum he h
/-- a new pair of the i-th of both, its object known -/
def YPairF (xs ys : Nat → Option V) : Nat → Hp → V → Hp → Prop := fun i H v H' => ∃ T x y o, v = .ref T ∧ H T = none ∧ o.dict = none ∧ H' = upd H T (.frz o (.tup [x, y])) ∧ xs i = some x ∧ ys i = some y
theorem walk_enumT {K : PySem.W.Frag} {a : Addr} {xs : List V} : Walk (Itet K a) xs.length (fun H => SqT K H a xs) (YPairF (fun i => some (.int (i : Nat))) (fun i => xs[i]?)) := by
  refine ⟨fun i _ hi q => ⟨xs, xs[i], q, by simp [hi]⟩, fun _ q => ⟨xs, q, rfl⟩, ?_⟩
  intro i H v H' _ q y
  obtain ⟨T, x, o, h1, h2, h3, h4, h5⟩ := y
  exact ⟨T, _, x, o, h1, h2, h3, h4, rfl, h5 xs q⟩
theorem walk_enumL {K : PySem.W.Frag} {a : Addr} {xs : List V} : Walk (Itel K a) xs.length (fun H => SqL K H a xs) (YPairF (fun i => some (.int (i : Nat))) (fun i => xs[i]?)) := by
  refine ⟨fun i _ hi q => ⟨xs, xs[i], q, by simp [hi]⟩, fun _ q => ⟨xs, q, rfl⟩, ?_⟩
  intro i H v H' _ q y
  obtain ⟨T, x, o, h1, h2, h3, h4, h5⟩ := y
  exact ⟨T, _, x, o, h1, h2, h3, h4, rfl, h5 xs q⟩
/-- enumerate of a list or a tuple -/
def iEnumA (K : PySem.W.Frag) (ta : TA) : TI := fun σ H R => ta σ H fun vs H1 => ∃ a xs, vs = [.ref a] ∧ ((SqL K H1 a xs ∧ R (Itel K a) H1) ∨ (SqT K H1 a xs ∧ R (Itet K a) H1))
theorem pi_enumA {X : Cx} {e : Expr} {ta : TA} {p pos tpos : Pos} {elts : List Expr} {kk : Nat} (hg : Gl X "enumerate") (hm : X.mg "enumerate" = none) (ha : PA X [e] ta) (hs : starEach [e] X.env = [(false, eval e X.env)]) :
    PI X (.Tuple elts kk tpos) (.Call (.Name "enumerate" p) [e] [] pos) (iEnumA X.K ta) := by
  refine ⟨fun pins s σ H R I h => Call_ (ld_blt I hg hm boot_enumerate (PyProof.Rows.callWith_type1 (thn (ha.run pos pins s σ H _ I h) ?_) hs rfl))⟩
  rintro us s1 ⟨vs, H1, I1, r1, a, xs, ex, q⟩
  subst ex
  cases r1 with
  | cons r rr =>
    cases rr
    cases r
    have fresh : ∀ b : Addr, b = s1.heap.objs.size + 1 ∨ b = s1.heap.objs.size → FpOk X pins H1 b := fun b hb => by
      have hle : s1.heap.objs.size ≤ b := by
        rcases hb with z | z
        · rw [z]; exact Nat.le_succ _
        · rw [z]; exact Nat.le_refl _
      exact I1.fpOk hle (I1.hok.fresh hle)
    rcases q with ⟨hq, q⟩ | ⟨hq, q⟩
    · obtain ⟨its, rv, pl, hz⟩ := I1.list hq
      refine call_enumerate_list pl.isList fun h' he hit _ hk => wpAny_pyIter_enum he ?_
      exact ⟨s1.heap.objs.size + 1, [s1.heap.objs.size + 1, s1.heap.objs.size], _, _, H1, rfl, I1.kept (t' := s1.toks) hk, turn_enumL a _ s1.heap.objs.size, ⟨⟨.none, he⟩, hit, Nat.succ_ne_self _⟩, fun b hb => fresh b (by simpa using hb), q⟩
    · obtain ⟨its, rv, pt, hz⟩ := I1.tuple hq
      refine enum1 (begins_tuple a its.toArray) (show s1.heap.IsTuple a its.toArray from pt) fun h' he hit hk => wpAny_pyIter_enum he ?_
      exact ⟨s1.heap.objs.size + 1, [s1.heap.objs.size + 1, s1.heap.objs.size], _, _, H1, rfl, I1.kept (t' := s1.toks) hk, turn_enumT a _ s1.heap.objs.size, ⟨⟨.none, he⟩, ⟨_, hit, rfl, rfl⟩, Nat.succ_ne_self _⟩, fun b hb => fresh b (by simpa using hb), q⟩

/-! ### sorted of a tuple of ints -/
section
variable {X : Cx}
theorem cr_sortedT : CallR X (.builtin "sorted") (fun vs H Q => ∃ (a : Addr) (ns : List Int), vs = [V.ref a] ∧ SqT X.K H a (ns.map V.int) ∧ ns.length < 64 ∧
    ∀ (ns' : List Int) (p : Addr), ns'.Perm ns → ns'.Pairwise (· ≤ ·) → H p = none → Q (.ref p) (upd H p (.lst (ns'.map V.int)))) := by
  intro pins s σ H vs us Q I r h
  obtain ⟨a, ns, rfl, hs, h64, q⟩ := h
  obtain ⟨its, rv, ht, hz⟩ := I.tuple hs
  rw [Vals.ref1 r]
  have hi := rv.ints
  have l64 : its.length < 64 := by rw [hi.length]; exact h64
  obtain ⟨o, ho, hc, n, hd⟩ := ht
  refine Calls.call_function_entry kind_sorted plain_sorted entry_sorted (args_sorted1 _) ?_
  unfold Builtin.«sorted»
  refine wpAny_bind (m := checkCount "sorted" 1 1 _) (wpAny_pure ?_)
  refine wpAny_bind (wpAny_collect_seq a (.inr rfl) ho hc hd (fun h1 hk => ?_) (by rw [List.size_toArray]; exact Nat.le_of_lt (Nat.lt_of_lt_of_le l64 (by decide))))
  refine wpAny_bind (wpAny_newList ?_)
  have hoL : (h1.push (seqObj "list" its.toArray 0)).get? h1.objs.size = some (seqObj "list" its.toArray 0) := Heap.get?_push_size _ rfl
  have hoL' : ({ s with heap := h1.push (seqObj "list" its.toArray 0) } : Shared).heap.get? h1.objs.size = some (seqObj "list" its.toArray 0) := hoL
  refine wpAny_bind (wpAny_holding (wpAny_call_entry slot_list_sort ⟨_, hoL', rfl⟩ entry_list_sort (list_sort_tree hoL' hi l64 fun out ns' a1 a2 a3 => ⟨_, rfl, ?_⟩) (args_list_sort _)))
  have I1 : Inv X pins σ H { s with heap := h1 } := I.kept (t' := s.toks) hk
  obtain ⟨ep, he'⟩ := sortedHeap_at (vs := its) (out := out) hoL'
  have hlen : (ns'.map V.int).length ≤ sizeLine := by rw [List.length_map, a2.length_eq]; exact Nat.le_of_lt (Nat.lt_of_lt_of_le h64 (by decide))
  have I2 : Inv X pins σ (upd H h1.objs.size (.lst (ns'.map V.int))) { s with heap := sortedHeap (h1.push (seqObj "list" its.toArray 0)) h1.objs.size its out } :=
    I1.laid (t' := s.toks) (fun b u e => by
      rw [sortedHeap_old (Nat.ne_of_lt (Heap.lt_size e)) (by rw [Heap.size_push]; exact Nat.lt_succ_of_lt (Heap.lt_size e))]
      exact Heap.get?_push_of_some _ e) (Nat.le_refl _) ⟨hlen, out.toList, ep, vals_of_ints a1, he'⟩
  exact wpAny_pure ⟨_, rfl, .ref h1.objs.size, _, I2, rfl, q ns' _ a2 a3 (I1.hok.fresh (Nat.le_refl _))⟩
end
end Lk

namespace Lk
open PySem PySem.Spec PyProof.Rows L2

/-! ### t[::-1] -/
section
variable {prog : Program} {w : World} {A : Around} {E : Value → Shared → Prop} {s : Shared}
theorem rev_places (n : Nat) : Builtin.Slice.slicePlaces ((n : Int) - 1) (-1) (-1) = n := by
  unfold Builtin.Slice.slicePlaces
  rw [if_neg (by decide : ¬ ((-1 : Int) > 0))]
  by_cases h : (n : Int) - 1 > -1
  · rw [if_pos h]
    rw [show -(-1 : Int) = 1 from rfl, Int.ediv_one]
    omega
  · rw [if_neg h]
    omega
theorem fm_congr {α β : Type} {f g : α → Option β} : ∀ {l : List α}, (∀ x ∈ l, f x = g x) → l.filterMap f = l.filterMap g
  | [], _ => rfl
  | x :: l, h => by
    rw [List.filterMap_cons, List.filterMap_cons, h x List.mem_cons_self, fm_congr fun y hy => h y (List.mem_cons_of_mem _ hy)]
theorem rev_pick (xs : Array Value) : (List.range xs.size).filterMap (fun (k : Nat) => xs[((xs.size : Int) - 1 + (k : Int) * (-1)).toNat]?) = xs.toList.reverse := by
  have e : ∀ k ∈ List.range xs.size, (fun (k : Nat) => xs[((xs.size : Int) - 1 + (k : Int) * (-1)).toNat]?) k = (fun k => xs[k]?) (xs.size - 1 - k) := by
    intro k hk
    have : k < xs.size := List.mem_range.mp hk
    have e1 : ((xs.size : Int) - 1 + (k : Int) * (-1)).toNat = xs.size - 1 - k := by omega
    show xs[((xs.size : Int) - 1 + (k : Int) * (-1)).toNat]? = xs[xs.size - 1 - k]?
    rw [e1]
  rw [fm_congr e]
  have q : (List.range xs.size).filterMap (fun k => (fun k => xs[k]?) (xs.size - 1 - k)) = ((List.range xs.size).map fun k => xs.size - 1 - k).filterMap fun k => xs[k]? := by rw [List.filterMap_map]; rfl
  rw [q, PySem.W.krv_range, List.filterMap_reverse, PySem.W.krv_all]
theorem getItem_tuple_rev {t sl : Addr} {items : Array Value} {tk : Tok} {Q : Value → Shared → Prop} (ht : IsTup s.heap t items) (hs : s.heap.IsSliceOf sl .none .none (.int (-1) tk))
    (h : Q (.ref s.heap.objs.size) { s with heap := s.heap.push { cls := .type "tuple", data := .seq items.toList.reverse.toArray } }) (hsz : items.size ≤ sizeLine) : wpAny (model prog w) A (getItem (.ref t) (.ref sl)) Q E s := by
  have hfit : sizeOk (.seq items.toList.reverse.toArray) := by
    show items.toList.reverse.toArray.size ≤ sizeLine
    rw [List.size_toArray, List.length_reverse, Array.length_toList]
    exact hsz
  obtain ⟨os, hos, hcs, hds⟩ := id hs
  have hTs : s.TypeIs (.ref sl) "slice" := ⟨os, hos, hcs⟩
  unfold getItem
  try with_reducible refine wpAny_holding ?_
  refine wpAny_bind (wpAny_sequenceKey ht.typeIs (by decide) ?_)
  refine wpAny_bind (wpAny_callSpecial?_slot (name := Str.ofString "__getitem__") ht.typeIs PyProof.Rows.slot_tuple_getitem (wpAny_call_entry PyProof.Rows.slot_tuple_getitem ht.typeIs entry_tuple_getitem ?_ (args_tuple_getitem _ _)))
  show wpAny _ _ (Builtin.Tuple.tupleItemsOf (.ref t) >>= _) _ _ s
  refine wpAny_bind (tupleItemsOf_ ht ?_)
  refine wpAny_bind (wpAny_typeOf hTs ?_)
  rw [if_pos (by decide)]
  have app : ∀ {Q : Int × Int × Nat → Shared → Prop} {E : Value → Shared → Prop} {A : Around}, Q ((items.size : Int) - 1, -1, items.size) s → wpAny (model prog w) A (Builtin.Slice.sliceApplied (.ref sl) (pure (items.size : Int))) Q E s := fun {Q E A} h => by
    unfold Builtin.Slice.sliceApplied Builtin.Slice.sliceFields
    refine wpAny_bind (wpAny_bind (wpAny_field hos hds (x := .none) rfl (wpAny_bind (wpAny_field hos hds (x := .none) rfl (wpAny_bind (wpAny_field hos hds (x := .int (-1) tk) rfl (wpAny_pure ?_)))))))
    refine wpAny_bind (HT.slicePart_ (.int (-1) tk) ?_)
    show wpAny _ _ (if ((-1 : Int) == 0) = true then _ else _) _ _ s
    rw [if_neg (by decide)]
    refine wpAny_bind (HT.slicePart_ .none (wpAny_bind (HT.slicePart_ .none (wpAny_bind (wpAny_pure ?_)))))
    show wpAny _ _ (match Builtin.Slice.sliceAdjust none none (-1) (items.size : Int) with | (lo, hi) => pure (lo, (-1 : Int), Builtin.Slice.slicePlaces lo hi (-1))) _ _ s
    show wpAny _ _ (pure ((items.size : Int) - 1, (-1 : Int), Builtin.Slice.slicePlaces ((items.size : Int) - 1) (-1) (-1))) _ _ s
    rw [rev_places]
    exact wpAny_pure h
  refine wpAny_bind (app ?_)
  show wpAny _ _ (if (((items.size : Int) - 1) == 0 && (-1 : Int) == 1 && items.size == items.size) = true then _ else _) _ _ s
  rw [if_neg (by rw [show ((-1 : Int) == 1) = false from rfl, Bool.and_false, Bool.false_and]; exact Bool.false_ne_true)]
  rw [rev_pick]
  first
    | exact wpAny_bind (m := Builtin.Tuple.tupleExact _) (wpAny_newObj_type (wpAny_pure ⟨_, rfl, wpAny_pure h⟩) hfit)
    | exact wpAny_bind (m := Builtin.Tuple.tupleExact _) (wpAny_newObj_type (wpAny_bind (wpAny_pure (wpAny_pure ⟨_, rfl, wpAny_pure h⟩))) hfit)
    | exact wpAny_bind (wpAny_bind (m := Builtin.Tuple.tupleExact _) (wpAny_newObj_type (wpAny_pure (wpAny_pure ⟨_, rfl, wpAny_pure h⟩)) hfit))
    | exact wpAny_bind (wpAny_bind (m := Builtin.Tuple.tupleExact _) (wpAny_newObj_type (wpAny_pure ⟨_, rfl, wpAny_pure h⟩) hfit))
end
section
variable {X : Cx}
def tRevA (K : PySem.W.Frag) (te : TE) : TE := fun σ H Q => te σ H fun x H1 => ∃ a xs, x = .ref a ∧ ((SqL K H1 a xs ∧ ∀ p, H1 p = none → Q (.ref p) (upd H1 p (.lst xs.reverse))) ∨ (Tp K H1 a xs ∧ NewT H1 Q xs.reverse))
/-- e[::-1], a list or a tuple -/
theorem pe_revA {e : Expr} {te : TE} {k : Nat} {p1 p2 p3 pos : Pos} (he : PE X e te) : PE X (.Subscript e (.Slice none none (some (.UnaryOp .USub (.Constant (.int 1) k p1) p2)) p3) pos) (tRevA X.K te) := by
  refine ⟨fun pins s σ H Q I h => Subscript_ (thn (he.run pins s σ H _ I h) ?_)⟩
  rintro v s1 ⟨x, H1, I1, r1, a, xs, ex, q⟩
  subst ex
  cases r1
  have hst : PO X (some (.UnaryOp .USub (.Constant (.int 1) k p1) p2)) (tPart (tUn (rU fun i => .int (-i)) (tC (.int 1)))) := po_some (pe_un un_neg pe_int)
  refine wpAny_Slice (thn (po_none.run pins s1 σ H1 (fun o H2 => o = none ∧ H2 = H1) I1 ⟨rfl, rfl⟩) ?_)
  rintro vl s2 ⟨l, H2, I2, pl, el, e2⟩
  subst el e2
  refine thn (po_none.run pins s2 σ H2 (fun o H3 => o = none ∧ H3 = H2) I2 ⟨rfl, rfl⟩) ?_
  rintro vu s3 ⟨u, H3, I3, pu, eu, e3⟩
  subst eu e3
  refine thn (hst.run pins s3 σ H3 (fun o H4 => o = some (-1) ∧ H4 = H3) I3 ⟨1, rfl, -1, rfl, rfl, rfl⟩) ?_
  rintro vs s4 ⟨o, H4, I4, ps, eo, e4⟩
  subst eo e4
  cases pl
  cases pu
  cases ps with
  | int _ tk =>
    have I5 : Inv X pins σ H4 { s4 with heap := s4.heap.push { cls := .type "slice", data := .fields #[.none, .none, .int (-1) tk] } } := I4.kept (t' := s4.toks) fun b ob q => Heap.get?_push_of_some _ q
    have sl := Heap.IsSliceOf.new s4.heap .none .none (.int (-1) tk)
    show wpAny (model X.prog X.w) X.A (subscriptTail e (.Slice none none (some (.UnaryOp .USub (.Constant (.int 1) k p1) p2)) p3) (.ref a) (.ref s4.heap.objs.size)) (EP X pins σ Q) X.xe { s4 with heap := s4.heap.push { cls := .type "slice", data := .fields #[.none, .none, .int (-1) tk] } }
    rcases q with ⟨hx, q⟩ | ⟨hx, q⟩
    · obtain ⟨its, r, ht, hz⟩ := I5.list hx
      have hlen := r.length
      refine tail_any (ops := [.ref a, .ref s4.heap.objs.size]) ht.isList.typeIs (PySem.slot_list_getitem.lookup) ?_ (by with_unfolding_all rfl)
      refine wpAny_getItem_list_slice ht.isList sl .none .none (.int (-1) tk) (by decide) ?_ (by rw [List.size_toArray]; omega)
      rw [PySem.W.krv_pick]
      refine ⟨.ref _, _, I5.laid (t' := s4.toks) (o := .lst xs.reverse) (fun b ob q => Heap.get?_push_of_some _ q) (Nat.le_refl _) ?_, rfl, q _ (I5.hok.fresh (Nat.le_refl _))⟩
      exact ⟨by rw [List.length_reverse]; exact hz, _, 0, r.reverse, Heap.get?_push_size _ rfl⟩
    · obtain ⟨its, r, ht, hz⟩ := I5.tuple hx.seq
      have hlen := r.length
      refine tail_any (ops := [.ref a, .ref s4.heap.objs.size]) ht.typeIs (PyProof.Rows.slot_tuple_getitem.lookup) ?_ (by with_unfolding_all rfl)
      refine getItem_tuple_rev ht sl ?_ (by rw [List.size_toArray]; omega)
      exact Lk.Inv.tupEP (t' := s4.toks) I5 r.reverse (by rw [List.length_reverse]; exact hz) q

/-! ### t.index(y) of a tuple of flat things -/
def rIndexT (K : PySem.W.Frag) : V → List V → Hp → VK → Prop := fun x xs H Q => ∃ (a : Addr) (ys : List V) (y : V) (j : Nat) (z : V), x = V.ref a ∧ xs = [y] ∧ SqT K H a ys ∧ flatV y = true ∧ ys.all flatV = true ∧ ys[j]? = some z ∧ eqV z y = true ∧
  (∀ (m : Nat) (z' : V), m < j → ys[m]? = some z' → eqV z' y = false) ∧ Q (.int (j : Nat)) H
theorem mt_indexT : MtR X "tuple.index" (rIndexT X.K) := by
  intro pins s σ H x xs v us Q I rx rxs h
  obtain ⟨a, ys, y, j, z, rfl, rfl, hs, fy, fys, hz, hzj, hno, q⟩ := h
  cases rx
  cases rxs with
  | cons ry rt =>
    rename_i uy ut
    cases rt
    obtain ⟨its, rv, ⟨⟨cls, dd, data, sl⟩, ho, hc, n, hd⟩, hlen⟩ := I.tuple hs
    simp only at hc hd
    subst hc hd
    obtain ⟨u, hu, ru⟩ := rv.get hz
    obtain ⟨hjl, hje⟩ := List.getElem?_eq_some_iff.mp hu
    have hvl := rv.length
    have hj : j < its.toArray.size := by simpa using hjl
    have at_ : ∀ m (hm : m < its.toArray.size), ∃ z', ys[m]? = some z' ∧ eqU y its.toArray[m] = eqV z' y := by
      intro m hm
      have hml : m < its.length := by simpa using hm
      have hy' : ys[m]? = some ys[m] := List.getElem?_eq_getElem (by omega)
      obtain ⟨u2, hu2, ru2⟩ := rv.get hy'
      obtain ⟨_, hme⟩ := List.getElem?_eq_some_iff.mp hu2
      exact ⟨_, hy', by rw [show its.toArray[m] = u2 by simpa using hme, eqU_of ru2 (flat_at fys hy')]⟩
    refine call_meets PySem.F.slot_tuple_index ⟨_, ho, rfl⟩ PySem.F.entry_tuple_index (PySem.F.args_tuple_index_2 _ _)
      (PySem.SeqAt.tuple_index2_found a its.toArray n dd sl uy (fun m => if hm : m < its.toArray.size then eqU y its.toArray[m] else false) j hj (Nat.zero_le _) hj ?_ ?_) ⟨ho, fun m hm => ?_, ?_⟩
    · obtain ⟨z', h1, h2⟩ := at_ j hj
      rw [hz] at h1
      cases h1
      rw [dif_pos hj, h2]
      exact hzj
    · intro m hm _ hmj
      obtain ⟨z', h1, h2⟩ := at_ m hm
      rw [dif_pos hm, h2]
      exact hno m z' hmj h1
    · rw [dif_pos hm]
      exact mem_eqAt ry fy rv fys _ (by
        have : its.toArray[m] ∈ its.toArray := Array.getElem_mem hm
        simpa using this)
    · exact ⟨.int (j : Nat), H, I.tok _, ⟨_, rfl⟩, q⟩

/-! ### repr of data -/
theorem call_reprD (hg : X.A.guards = some []) (hu : X.A.units + 128 < cLine) : CallR X (.builtin "repr") (fun xs H Q => ∃ x d, xs = [x] ∧ Dp X.K H x d ∧ isDisplay d = true ∧ d.showable = true ∧ d.hasDict = false ∧ d.depth ≤ 64 ∧ d.shown.length ≤ sizeLine ∧ Q (.str d.shown) H) := by
  intro pins s σ H xs us Q I r h
  obtain ⟨x, d, rfl, hd, h1, h2, h3, h4, h5, q⟩ := h
  obtain ⟨u, rfl, ru⟩ := vals1 r
  obtain ⟨as, rd⟩ := Dp.reads I d x u hd ru
  obtain ⟨a, rfl⟩ := isRef_of_reads rd h1
  refine repr_of_reads' rd h2 (fun z => by rw [h3] at z; cases z) hg (by omega) (fun _ _ e => e) (fun h' u' tk hk => ?_) h5
  exact ⟨.str d.shown, H, I.kept hk, ⟨_, rfl⟩, q⟩
end
end Lk

namespace Lk
open PySem PySem.Spec PyProof.Rows L2

section
variable {X : Cx} {J : Inf} {W : WX} {G : Gx} {lv : Nat} {C : SC} {pos : Pos} {e e' : Expr} {fa fb : SemE} {x : Str} {p : Pos} {id T : String}
/-- a call of one value, of two -/
def C1Ok (X : Cx) (J : Inf) (v : Value) (f : D → Sto → Res) : Prop := ∃ r : List V → Hp → VK → Prop, CallR X v r ∧
  ∀ (x : V) (dx : D) (H : Hp) (M : Mp) (S : Sto) (W : XK) (Q : VK), SRep X.K J.fbs H M S → RV X.K H M dx x → RPost X.K J.ca J.fbs H M W Q (f dx S) → r [x] H Q
def C2Ok (X : Cx) (J : Inf) (v : Value) (f : D → D → Sto → Res) : Prop := ∃ r : List V → Hp → VK → Prop, CallR X v r ∧
  ∀ (x y : V) (dx dy : D) (H : Hp) (M : Mp) (S : Sto) (W : XK) (Q : VK), SRep X.K J.fbs H M S → RV X.K H M dx x → RV X.K H M dy y → RPost X.K J.ca J.fbs H M W Q (f dx dy S) → r [x, y] H Q
theorem pe_c1B {f : D → Sto → Res} (h : C1Ok X J (.builtin id) f) (hg : Gl X x) (hm : X.mg x = none) (hv : bootBuiltins x = some (.builtin id)) (ha : PE X e (RE X.K J W fa)) (hn : x ≠ "__name__") (hdb : (x == ("__debug__" : Str)) = false)
    (he : starEach [e] X.env = (false, eval e X.env) :: starEach [] X.env) : PE X (.Call (.Name x p) [e] [] pos) (RE X.K J W (e1 f fa)) := by
  obtain ⟨r, h1, h2⟩ := h
  refine PE.imp (pe_callB h1 hg hm hv (pa_cons ha pa_nil he) hn hdb he rfl) fun σ H Q h => ?_
  exact re_1 (r := fun x H Q => r [x] H Q) (fun x dx H M S W Q s rx hp => h2 x dx H M S W Q s rx hp) h
theorem pe_c1T {f : D → Sto → Res} (h : C1Ok X J (.type T) f) (hg : Gl X x) (hm : X.mg x = none) (hv : bootBuiltins x = some (.type T)) (ha : PE X e (RE X.K J W fa)) (hn : x ≠ "__name__") (hdb : (x == ("__debug__" : Str)) = false)
    (he : starEach [e] X.env = (false, eval e X.env) :: starEach [] X.env) : PE X (.Call (.Name x p) [e] [] pos) (RE X.K J W (e1 f fa)) := by
  obtain ⟨r, h1, h2⟩ := h
  refine PE.imp (pe_callTy h1 hg hm hv (pa_cons ha pa_nil he) hn hdb he rfl) fun σ H Q h => ?_
  exact re_1 (r := fun x H Q => r [x] H Q) (fun x dx H M S W Q s rx hp => h2 x dx H M S W Q s rx hp) h
theorem pe_c2B {f : D → D → Sto → Res} (h : C2Ok X J (.builtin id) f) (hg : Gl X x) (hm : X.mg x = none) (hv : bootBuiltins x = some (.builtin id)) (ha : PE X e (RE X.K J W fa)) (hb : PE X e' (RE X.K J W fb)) (hn : x ≠ "__name__") (hdb : (x == ("__debug__" : Str)) = false)
    (he : starEach [e, e'] X.env = (false, eval e X.env) :: starEach [e'] X.env) (he' : starEach [e'] X.env = (false, eval e' X.env) :: starEach [] X.env) : PE X (.Call (.Name x p) [e, e'] [] pos) (RE X.K J W (e2 f fa fb)) := by
  obtain ⟨r, h1, h2⟩ := h
  refine PE.imp (pe_callB h1 hg hm hv (pa_cons ha (pa_cons hb pa_nil he') he) hn hdb he (by rw [he']; rfl)) fun σ H Q h => ?_
  exact re_2 (r := fun x y H Q => r [x, y] H Q) (fun x y dx dy H M S W Q s rx ry hp => h2 x y dx dy H M S W Q s rx ry hp) h

/-! len, abs, int, max, min -/
def fLen (d : D) (S : Sto) : Res := match d with
  | .str x => bif Nat.ble x.length sizeLine then .ok (.int x.length) S else .bad
  | d => match seqS S d with
    | some ds => .ok (.int ds.length) S
    | none => .bad
theorem ok_len : C1Ok X J (.builtin "len") fLen := by
  refine ⟨_, CallR.or call_len_seq call_len_str, fun x dx H M S W Q s r h => ?_⟩
  have seq : RPost X.K J.ca J.fbs H M W Q (match seqS S dx with | some ds => .ok (.int ds.length) S | none => .bad) → ∃ p ys, [x] = [V.ref p] ∧ (SqL X.K H p ys ∨ SqT X.K H p ys) ∧ Q (.int ys.length) H := fun h => by
    cases q : seqS S dx with
    | none => rw [q] at h; exact h.elim
    | some ds =>
      rw [q] at h
      obtain ⟨p, vs, rfl, h1, h2⟩ := seqS_ok s r q
      refine ⟨p, vs, rfl, h1, ?_⟩
      rw [RVs.len h2]
      exact h.fin s mk_int
  cases dx with
  | str z =>
    unfold fLen at h
    cases c : Nat.ble z.length sizeLine with
    | false => simp only [c, cond_false] at h; exact h.elim
    | true =>
      simp only [c, cond_true] at h
      rw [rv_str r]
      exact .inr ⟨z, rfl, Nat.le_of_ble_eq_true c, h.fin s mk_int⟩
  | non => exact .inl (seq h)
  | bl _ => exact .inl (seq h)
  | int _ => exact .inl (seq h)
  | tup _ => exact .inl (seq h)
  | lst _ => exact .inl (seq h)
  | fix _ => exact .inl (seq h)
  | ref _ => exact .inl (seq h)
def fAbs : D → Sto → Res
  | .int i, S => .ok (.int (if i < 0 then -i else i)) S
  | _, _ => .bad
theorem ok_abs : C1Ok X J (.builtin "abs") fAbs := by
  refine ⟨_, call_abs, fun x dx H M S W Q s r h => ?_⟩
  cases dx <;> first | exact h.elim | skip
  rw [rv_int r]
  exact ⟨_, rfl, h.fin s mk_int⟩
def fInt : D → Sto → Res
  | .int i, S => .ok (.int i) S
  | .bl b, S => .ok (.int (if b then 1 else 0)) S
  | _, _ => .bad
theorem ok_int : C1Ok X J (.type "int") fInt := by
  refine ⟨_, call_int1, fun x dx H M S W Q s r h => ?_⟩
  cases dx <;> first | exact h.elim | skip
  · rw [rv_bl r]; exact .inr ⟨_, rfl, h.fin s mk_int⟩
  · rw [rv_int r]; exact .inl ⟨_, rfl, h.fin s mk_int⟩
def fMax2 : D → D → Sto → Res
  | .int i, .int j, S => .ok (.int (if j > i then j else i)) S
  | _, _, _ => .bad
def fMin2 : D → D → Sto → Res
  | .int i, .int j, S => .ok (.int (if j < i then j else i)) S
  | _, _, _ => .bad
theorem ok_max2 (hc : X.calm = true) : C2Ok X J (.builtin "max") fMax2 := by
  refine ⟨_, call_max2 hc, fun x y dx dy H M S W Q s rx ry h => ?_⟩
  cases dx <;> cases dy <;> first | exact h.elim | skip
  rw [rv_int rx, rv_int ry]
  exact ⟨_, _, rfl, h.fin s mk_int⟩
theorem ok_min2 (hc : X.calm = true) : C2Ok X J (.builtin "min") fMin2 := by
  refine ⟨_, call_min2 hc, fun x y dx dy H M S W Q s rx ry h => ?_⟩
  cases dx <;> cases dy <;> first | exact h.elim | skip
  rw [rv_int rx, rv_int ry]
  exact ⟨_, _, rfl, h.fin s mk_int⟩

/-- lists alone (cells, still ones, locked ones) -/
def lisS (S : Sto) : D → Option (List D)
  | .fix ds => some ds
  | d => lstS S d
theorem lisS_ok {K : PySem.W.Frag} {fbs : List Nat} {H : Hp} {M : Mp} {S : Sto} {d : D} {v : V} {ds : List D} (s : SRep K fbs H M S) (r : RV K H M d v) (h : lisS S d = some ds) : ∃ a vs, v = .ref a ∧ SqL K H a vs ∧ RVs K H M ds vs := by
  cases d with
  | fix xs =>
    cases h
    unfold RV at r
    obtain ⟨a, vs, e, h1, h2⟩ := r
    exact ⟨a, vs, e, h1.seq, h2⟩
  | lst xs => obtain ⟨a, vs, e, h1, h2⟩ := lstS_ok s r h; exact ⟨a, vs, e, .of h1, h2⟩
  | ref n => obtain ⟨a, vs, e, h1, h2⟩ := lstS_ok s r h; exact ⟨a, vs, e, .of h1, h2⟩
  | tup _ => cases h
  | non => cases h
  | bl _ => cases h
  | int _ => cases h
  | str _ => cases h
/-! tuple, list -/
def fTup (d : D) (S : Sto) : Res := match seqS S d with
  | some ds => .ok (.tup ds) S
  | none => .bad
theorem ok_tup : C1Ok X J (.type "tuple") fTup := by
  refine ⟨_, call_tupF, fun x dx H M S W Q s r h => ?_⟩
  unfold fTup at h
  cases q : seqS S dx with
  | none => rw [q] at h; exact h.elim
  | some ds =>
    rw [q] at h
    have lis : lisS S dx = some ds → ∃ p ys, [x] = [V.ref p] ∧ ((SqL X.K H p ys ∧ NewT H Q ys) ∨ (Tp X.K H p ys ∧ Q (.ref p) H)) := fun q => by
      obtain ⟨p, vs, rfl, h1, h2⟩ := lisS_ok s r q
      exact ⟨p, vs, rfl, .inl ⟨h1, new_tup s h h2⟩⟩
    cases dx with
    | tup xs =>
      cases q
      obtain ⟨p, vs, rfl, h1, h2⟩ := rv_tup r
      exact ⟨p, vs, rfl, .inr ⟨h1, h.fin s r⟩⟩
    | non => cases q
    | bl _ => cases q
    | int _ => cases q
    | str _ => cases q
    | lst _ => exact lis q
    | fix _ => exact lis q
    | ref _ => exact lis q
def fList (mu : Bool) (d : D) (S : Sto) : Res := match seqS S d with
  | some ds => mkL mu ds S
  | none => .bad
theorem ok_list {mu : Bool} : C1Ok X J (.type "list") (fList mu) := by
  refine ⟨_, call_list_of, fun x dx H M S W Q s r h => ?_⟩
  unfold fList at h
  cases q : seqS S dx with
  | none => rw [q] at h; exact h.elim
  | some ds =>
    rw [q] at h
    obtain ⟨p, vs, rfl, h1, h2⟩ := seqS_ok s r q
    exact ⟨p, vs, rfl, h1, fun l hl => new_lst s h h2 hl⟩

/-! lists of ints, of bools -/
def asInts : List D → Option (List Int)
  | [] => some []
  | .int i :: r => (asInts r).map (i :: ·)
  | _ :: _ => none
def asBools : List D → Option (List Bool)
  | [] => some []
  | .bl i :: r => (asBools r).map (i :: ·)
  | _ :: _ => none
theorem asInts_ok {K : PySem.W.Frag} {H : Hp} {M : Mp} : ∀ {ds : List D} {vs : List V} {ns : List Int}, RVs K H M ds vs → asInts ds = some ns → vs = ns.map V.int
  | [], vs, ns, r, h => by unfold RVs at r; subst r; cases h; rfl
  | .int i :: ds, vs, ns, r, h => by
    unfold RVs at r
    obtain ⟨y, ys, rfl, r1, r2⟩ := r
    unfold asInts at h
    cases q : asInts ds with
    | none => rw [q] at h; cases h
    | some ms => rw [q] at h; cases h; rw [rv_int r1, asInts_ok r2 q]; rfl
  | .non :: _, _, _, _, h => by cases h
  | .bl _ :: _, _, _, _, h => by cases h
  | .str _ :: _, _, _, _, h => by cases h
  | .tup _ :: _, _, _, _, h => by cases h
  | .lst _ :: _, _, _, _, h => by cases h
  | .fix _ :: _, _, _, _, h => by cases h
  | .ref _ :: _, _, _, _, h => by cases h
theorem asBools_ok {K : PySem.W.Frag} {H : Hp} {M : Mp} : ∀ {ds : List D} {vs : List V} {ns : List Bool}, RVs K H M ds vs → asBools ds = some ns → vs = ns.map V.bl
  | [], vs, ns, r, h => by unfold RVs at r; subst r; cases h; rfl
  | .bl i :: ds, vs, ns, r, h => by
    unfold RVs at r
    obtain ⟨y, ys, rfl, r1, r2⟩ := r
    unfold asBools at h
    cases q : asBools ds with
    | none => rw [q] at h; cases h
    | some ms => rw [q] at h; cases h; rw [rv_bl r1, asBools_ok r2 q]; rfl
  | .non :: _, _, _, _, h => by cases h
  | .int _ :: _, _, _, _, h => by cases h
  | .str _ :: _, _, _, _, h => by cases h
  | .tup _ :: _, _, _, _, h => by cases h
  | .lst _ :: _, _, _, _, h => by cases h
  | .fix _ :: _, _, _, _, h => by cases h
  | .ref _ :: _, _, _, _, h => by cases h
theorem asInts_map : ∀ ns : List Int, asInts (ns.map D.int) = some ns
  | [] => rfl
  | n :: r => by
    show (asInts (r.map D.int)).map (n :: ·) = _
    rw [asInts_map r]; rfl
theorem asBools_map : ∀ ns : List Bool, asBools (ns.map D.bl) = some ns
  | [] => rfl
  | n :: r => by
    show (asBools (r.map D.bl)).map (n :: ·) = _
    rw [asBools_map r]; rfl
theorem RVs.ints {K : PySem.W.Frag} {H : Hp} {M : Mp} : ∀ ns : List Int, RVs K H M (ns.map D.int) (ns.map V.int)
  | [] => by unfold RVs; rfl
  | n :: r => by
    show RVs K H M (D.int n :: r.map D.int) (V.int n :: r.map V.int)
    unfold RVs
    exact ⟨_, _, rfl, mk_int, RVs.ints r⟩
def fSum (d : D) (S : Sto) : Res := match (lisS S d).bind asInts with
  | some ns => .ok (.int ns.sum) S
  | none => .bad
theorem lisB_ok {α : Type} {S : Sto} {d : D} {g : List D → Option α} {a : α} (h : (lisS S d).bind g = some a) : ∃ ds, lisS S d = some ds ∧ g ds = some a := by
  cases q : lisS S d with
  | none => rw [q] at h; cases h
  | some ds => rw [q] at h; exact ⟨ds, rfl, h⟩
theorem ok_sum (hc : X.calm = true) : C1Ok X J (.builtin "sum") fSum := by
  refine ⟨_, cr_sum hc, fun x dx H M S W Q s r h => ?_⟩
  unfold fSum at h
  cases q : (lisS S dx).bind asInts with
  | none => rw [q] at h; exact h.elim
  | some ns =>
    rw [q] at h
    obtain ⟨ds, h1, h2⟩ := lisB_ok q
    obtain ⟨a, vs, rfl, h3, h4⟩ := lisS_ok s r h1
    rw [asInts_ok h4 h2] at h3
    exact ⟨a, ns, rfl, h3, h.fin s mk_int⟩
def fAny (d : D) (S : Sto) : Res := match (lisS S d).bind asBools with
  | some ns => .ok (.bl (ns.any _root_.id)) S
  | none => .bad
def fAll (d : D) (S : Sto) : Res := match (lisS S d).bind asBools with
  | some ns => .ok (.bl (ns.all _root_.id)) S
  | none => .bad
theorem ok_any (hc : X.calm = true) : C1Ok X J (.builtin "any") fAny := by
  refine ⟨_, cr_any hc, fun x dx H M S W Q s r h => ?_⟩
  unfold fAny at h
  cases q : (lisS S dx).bind asBools with
  | none => rw [q] at h; exact h.elim
  | some ns =>
    rw [q] at h
    obtain ⟨ds, h1, h2⟩ := lisB_ok q
    obtain ⟨a, vs, rfl, h3, h4⟩ := lisS_ok s r h1
    rw [asBools_ok h4 h2] at h3
    exact ⟨a, ns, rfl, h3, h.fin s mk_bl⟩
theorem ok_all (hc : X.calm = true) : C1Ok X J (.builtin "all") fAll := by
  refine ⟨_, cr_all hc, fun x dx H M S W Q s r h => ?_⟩
  unfold fAll at h
  cases q : (lisS S dx).bind asBools with
  | none => rw [q] at h; exact h.elim
  | some ns =>
    rw [q] at h
    obtain ⟨ds, h1, h2⟩ := lisB_ok q
    obtain ⟨a, vs, rfl, h3, h4⟩ := lisS_ok s r h1
    rw [asBools_ok h4 h2] at h3
    exact ⟨a, ns, rfl, h3, h.fin s mk_bl⟩

/-! sorted, of ints -/
def insI (a : Int) : List Int → List Int
  | [] => [a]
  | b :: r => if a ≤ b then a :: b :: r else b :: insI a r
def isort : List Int → List Int
  | [] => []
  | a :: r => insI a (isort r)
theorem insI_perm (a : Int) : ∀ l, (insI a l).Perm (a :: l)
  | [] => .refl _
  | b :: r => by
    unfold insI
    split
    · exact .refl _
    · exact ((insI_perm a r).cons b).trans (.swap a b r)
theorem isort_perm : ∀ l, (isort l).Perm l
  | [] => .refl _
  | a :: r => (insI_perm a _).trans ((isort_perm r).cons a)
theorem insI_sorted (a : Int) : ∀ l, l.Pairwise (· ≤ ·) → (insI a l).Pairwise (· ≤ ·)
  | [], _ => by unfold insI; simp
  | b :: r, h => by
    unfold insI
    rw [List.pairwise_cons] at h
    split
    · rename_i hab
      refine List.pairwise_cons.mpr ⟨fun c hc => ?_, List.pairwise_cons.mpr h⟩
      rcases List.mem_cons.mp hc with e | e
      · omega
      · have := h.1 c e; omega
    · rename_i hab
      refine List.pairwise_cons.mpr ⟨fun c hc => ?_, insI_sorted a r h.2⟩
      rcases List.mem_cons.mp ((insI_perm a r).mem_iff.mp hc) with e | e
      · omega
      · exact h.1 c e
theorem isort_sorted : ∀ l, (isort l).Pairwise (· ≤ ·)
  | [] => .nil
  | a :: r => insI_sorted a _ (isort_sorted r)
theorem isort_uniq {ns ns' : List Int} (h : ns'.Perm ns) (p : ns'.Pairwise (· ≤ ·)) : ns' = isort ns := PySem.W.ksm_same (h.trans (isort_perm ns).symm) p (isort_sorted ns)
def fSorted (mu : Bool) (d : D) (S : Sto) : Res := match (seqS S d).bind asInts with
  | some ns => bif Nat.ble ns.length 63 then mkL mu ((isort ns).map D.int) S else .bad
  | none => .bad
theorem ok_sorted {mu : Bool} : C1Ok X J (.builtin "sorted") (fSorted mu) := by
  refine ⟨_, CallR.or cr_sorted cr_sortedT, fun x dx H M S W Q s r h => ?_⟩
  unfold fSorted at h
  cases q : (seqS S dx).bind asInts with
  | none => rw [q] at h; exact h.elim
  | some ns =>
    rw [q] at h
    obtain ⟨ds, h1, h2⟩ : ∃ ds, seqS S dx = some ds ∧ asInts ds = some ns := by
      cases q2 : seqS S dx with
      | none => rw [q2] at q; cases q
      | some ds => rw [q2] at q; exact ⟨ds, rfl, q⟩
    cases c : Nat.ble ns.length 63 with
    | false => simp only [c, cond_false] at h; exact h.elim
    | true =>
      simp only [c, cond_true] at h
      have hl : ns.length < 64 := Nat.lt_succ_of_le (Nat.le_of_ble_eq_true c)
      obtain ⟨a, vs, rfl, h3, h4⟩ := seqS_ok s r h1
      rw [asInts_ok h4 h2] at h3
      have go : ∀ (ns' : List Int) (p : Addr), ns'.Perm ns → ns'.Pairwise (· ≤ ·) → H p = none → Q (.ref p) (upd H p (.lst (ns'.map V.int))) := fun ns' p hp hw hn => by
        rw [isort_uniq hp hw]
        exact new_lst s h (RVs.ints _) hn
      rcases h3 with h3 | h3
      · exact .inl ⟨a, ns, rfl, h3, hl, go⟩
      · exact .inr ⟨a, ns, rfl, h3, hl, go⟩

/-! isinstance -/
def tyN (S : Sto) : D → Option String
  | .non => some "NoneType"
  | .bl _ => some "bool"
  | .int _ => some "int"
  | .str _ => some "str"
  | .tup _ => some "tuple"
  | .lst _ => some "list"
  | .fix _ => some "list"
  | .ref n => match S[n]? with
    | some (.lst _) => some "list"
    | _ => none
def isiN : String → String → Option Bool
  | "int", t => some (t == "int" || t == "bool")
  | "bool", t => some (t == "bool")
  | "str", t => some (t == "str")
  | "tuple", t => some (t == "tuple")
  | "list", t => some (t == "list")
  | "dict", t => some (t == "dict")
  | _, _ => none
def fIsi (T : String) (d : D) (S : Sto) : Rs Bool := match tyN S d with
  | some t => match isiN T t with
    | some b => .ok b S
    | none => .bad
  | none => .bad
theorem tyN_ok {K : PySem.W.Frag} {fbs : List Nat} {H : Hp} {M : Mp} {S : Sto} {d : D} {v : V} {t : String} (s : SRep K fbs H M S) (r : RV K H M d v) (h : tyN S d = some t) : TyX K H v (.type t) := by
  cases d with
  | non => cases h; rw [rv_non r]; exact .base .non
  | bl b => cases h; rw [rv_bl r]; exact .base (.bl b)
  | int i => cases h; rw [rv_int r]; exact .base (.int i)
  | str z => cases h; rw [rv_str r]; exact .base (.str z)
  | tup ds =>
    cases h
    obtain ⟨a, vs, rfl, h1, _⟩ := rv_tup r
    rcases h1 with ⟨o, h1, _⟩ | ⟨o, its, n, h1, h2, _⟩
    · exact .fTuple h1
    · exact .kTuple h1 h2
  | lst ds =>
    cases h
    unfold RV at r
    obtain ⟨a, vs, rfl, h1, _⟩ := r
    exact .base (.lst h1)
  | fix ds =>
    cases h
    unfold RV at r
    obtain ⟨a, vs, rfl, h1, _⟩ := r
    rcases h1 with ⟨o, h1⟩ | ⟨o, its, n, h1, h2, _⟩
    · exact .base (.frz h1)
    · exact .kList h1 h2
  | ref n =>
    unfold tyN at h
    cases hc : S[n]? with
    | none => simp only [hc] at h; cases h
    | some c =>
      cases c with
      | dead => simp only [hc] at h; cases h
      | lst ds =>
        simp only [hc] at h
        cases h
        obtain ⟨a, vs, rfl, h1, _⟩ := lstS_ok s r (show lstS S (.ref n) = some ds by unfold lstS; simp only [hc])
        exact .base (.lst h1)
theorem isiN_ok {K : PySem.W.Frag} {T t : String} {b : Bool} (ht : t = "NoneType" ∨ t = "bool" ∨ t = "int" ∨ t = "str" ∨ t = "tuple" ∨ t = "list") (h : isiN T t = some b) : PySem.W.kitOne K (.type t) (.type T) = some b := by
  unfold isiN at h
  split at h
  all_goals first
    | (cases h; done)
    | (rcases ht with e | e | e | e | e | e <;> subst e <;> (cases h; rfl))
theorem tyN_mem {S : Sto} {d : D} {t : String} (h : tyN S d = some t) : t = "NoneType" ∨ t = "bool" ∨ t = "int" ∨ t = "str" ∨ t = "tuple" ∨ t = "list" := by
  cases d with
  | ref n =>
    unfold tyN at h
    cases hc : S[n]? with
    | none => simp only [hc] at h; cases h
    | some c =>
      cases c with
      | dead => simp only [hc] at h; cases h
      | lst ds => simp only [hc] at h; cases h; simp
  | non => cases h; simp
  | bl _ => cases h; simp
  | int _ => cases h; simp
  | str _ => cases h; simp
  | tup _ => cases h; simp
  | lst _ => cases h; simp
  | fix _ => cases h; simp
theorem pe_isi {y : Str} {p2 : Pos} (hg : Gl X "isinstance") (hm : X.mg "isinstance" = none) (ha : PE X e (RE X.K J W fa)) (hg2 : Gl X y) (hm2 : X.mg y = none) (hv2 : bootBuiltins y = some (.type T)) (hn2 : y ≠ "__name__") (hd2 : (y == ("__debug__" : Str)) = false)
    (he : starEach [e, .Name y p2] X.env = (false, eval e X.env) :: starEach [.Name y p2] X.env) : PE X (.Call (.Name "isinstance" p) [e, .Name y p2] [] pos) (RE X.K J W (eT (tt (fIsi T) fa))) := by
  refine PE.imp (pe_callB call_isi hg hm boot_isinstance (pa_cons ha (pa_cons (pe_bltn hg2 hm2 hv2 (v := .ty T) rfl hn2 hd2) pa_nil rfl) he) (by decide) (by decide) he rfl) fun σ H Q h => ?_
  refine re_tt (fun x dx H M S W s r hp => ?_) (re_eT h)
  unfold fIsi at hp
  cases q : tyN S dx with
  | none => rw [q] at hp; exact hp.elim
  | some t =>
    rw [q] at hp
    cases q2 : isiN T t with
    | none => simp only [q2] at hp; exact hp.elim
    | some b =>
      simp only [q2] at hp
      exact ⟨x, .ty T, .type t, .type T, b, rfl, .ty T, tyN_ok s r q, isiN_ok (tyN_mem q) q2, hp.fin s rfl⟩

/-! repr -/
def isDisp : PyData → Bool
  | .list _ => true
  | .tuple _ => true
  | _ => false
def fRepr (d : D) (S : Sto) : Res := match toPT S d with
  | some p => bif isDisp p && p.showable && !p.hasDict && Nat.ble p.depth 64 && Nat.ble p.shown.length sizeLine then .ok (.str p.shown) S else .bad
  | none => .bad
theorem ok_repr (hg : X.A.guards = some []) (hu : X.A.units + 128 < cLine) : C1Ok X J (.builtin "repr") fRepr := by
  refine ⟨_, call_reprD hg hu, fun x dx H M S W Q s r h => ?_⟩
  unfold fRepr at h
  cases q : toPT S dx with
  | none => rw [q] at h; exact h.elim
  | some d =>
    rw [q] at h
    cases c : (isDisp d && d.showable && !d.hasDict && Nat.ble d.depth 64 && Nat.ble d.shown.length sizeLine) with
    | false => simp only [c, cond_false] at h; exact h.elim
    | true =>
      simp only [c, cond_true] at h
      simp only [Bool.and_eq_true, Bool.not_eq_true'] at c
      obtain ⟨⟨⟨⟨c1, c2⟩, c3⟩, c4⟩, c5⟩ := c
      refine ⟨x, d, rfl, toPT_ok s r q, ?_, c2, c3, Nat.le_of_ble_eq_true c4, Nat.le_of_ble_eq_true c5, h.fin s mk_str⟩
      cases d <;> first | rfl | (exact absurd c1 Bool.false_ne_true)

/-! list(range(n)) -/
theorem cr_range1 : CallR X (.type "range") (fun vs H Q => ∃ j, vs = [V.int j] ∧ ∀ p, H p = none → Q (.ref p) (upd H p (.rng 0 j))) := by
  intro pins s σ H vs us Q I r h
  obtain ⟨j, rfl, q⟩ := h
  obtain ⟨u1, rfl, ri⟩ := vals1 r
  obtain ⟨t, rfl⟩ := ri
  refine call_range_1 ⟨.ref s.heap.objs.size, upd H s.heap.objs.size (.rng 0 j), I.laid (t' := s.toks + 1 + 1) (fun b o e => Heap.get?_push_of_some _ e) (Nat.le_refl _) ?_, rfl, q _ (I.hok.fresh (Nat.le_refl _))⟩
  exact ⟨s.toks, t, s.toks + 1, Heap.get?_push_size _ rfl⟩
theorem itemsOf_ints {lo : Int} {n : Nat} {acc : Array Value} (h : ItemsOf (fun i v => ∃ t, v = .int (lo + i * 1) t) acc n) : Vals ((List.range n).map fun (i : Nat) => V.int (lo + (i : Nat))) acc.toList := by
  obtain ⟨h1, h2⟩ := h
  have key : ∀ (l : List Value) (k : Nat), (∀ j v, l[j]? = some v → ∃ t, v = Value.int (lo + ((k + j : Nat) : Int) * 1) t) → Vals ((List.range' k l.length).map fun (i : Nat) => V.int (lo + (i : Nat))) l := by
    intro l
    induction l with
    | nil => intro k _; exact .nil
    | cons v l ih =>
      intro k h
      rw [List.length_cons, List.range'_succ, List.map_cons]
      refine .cons ?_ (ih (k + 1) fun j v hj => ?_)
      · obtain ⟨t, e⟩ := h 0 v rfl
        exact ⟨t, by rw [e]; simp⟩
      · obtain ⟨t, e⟩ := h (j + 1) v (by simpa using hj)
        exact ⟨t, by rw [e]; congr 2; congr 1; omega⟩
  have q := key acc.toList 0 (fun j v hj => by
    obtain ⟨t, e⟩ := h2 j v (by simpa using hj)
    exact ⟨t, by simpa using e⟩)
  rw [Array.length_toList, h1, ← List.range_eq_range'] at q
  exact q
theorem cr_listRng (hc : X.calm = true) : CallR X (.type "list") (fun vs H Q => ∃ (r : Addr) (lo hi : Int), vs = [V.ref r] ∧ H r = some (.rng lo hi) ∧ -(2 ^ 24) ≤ lo ∧ hi ≤ 2 ^ 24 ∧ (hi - lo).toNat ≤ 2 ^ 24 ∧ lo ≤ 2 ^ 24 ∧ -(2 ^ 24) ≤ hi ∧
    ∀ p, H p = none → Q (.ref p) (upd H p (.lst ((List.range (hi - lo).toNat).map fun (i : Nat) => V.int (lo + (i : Nat)))))) := by
  intro pins s σ H vs us Q I r h
  obtain ⟨ra, lo, hi, rfl, hr, b1, b2, b3, b4, b5, q⟩ := h
  rw [Vals.ref1 r]
  obtain ⟨t, u, v, e⟩ := I.hok ra _ hr
  have hn : Builtin.Range.rangeSize lo hi 1 = (hi - lo).toNat := by rw [rangeSize_one]; split <;> omega
  refine call_list_range (I.ok.hd hc) e (small_one (by omega) (by omega) (by omega) (by omega)) hn b3 fun h' tk acc c hk ho hi' => ?_
  have I1 : Inv X pins σ H { s with heap := h', toks := tk } := I.kept hk
  have hv := itemsOf_ints hi'
  have hlen : ((List.range (hi - lo).toNat).map fun (i : Nat) => V.int (lo + (i : Nat))).length ≤ sizeLine := by
    rw [List.length_map, List.length_range]
    exact Nat.le_trans b3 (by rw [sizeLine_eq]; decide)
  exact ⟨.ref s.heap.objs.size, _, I.laid (t' := tk) (o := .lst ((List.range (hi - lo).toNat).map fun (i : Nat) => V.int (lo + (i : Nat)))) hk (Nat.le_refl _) ⟨hlen, acc.toList, c, hv, by simpa using ho⟩, rfl, q _ (I.hok.fresh (Nat.le_refl _))⟩
def rngD (lo hi : Int) : List D := (List.range (hi - lo).toNat).map fun (i : Nat) => D.int (lo + (i : Nat))
def small24 (i : Int) : Bool := decide (-(2 ^ 24) ≤ i) && decide (i ≤ 2 ^ 24)
def fListRng (mu : Bool) : D → Sto → Res
  | .int j, S => bif small24 j then mkL mu (rngD 0 j) S else .bad
  | _, _ => .bad
theorem RVs.rng {K : PySem.W.Frag} {H : Hp} {M : Mp} (lo : Int) : ∀ l : List Nat, RVs K H M (l.map fun (i : Nat) => D.int (lo + (i : Nat))) (l.map fun (i : Nat) => V.int (lo + (i : Nat)))
  | [] => by unfold RVs; rfl
  | n :: r => by
    rw [List.map_cons, List.map_cons]
    unfold RVs
    exact ⟨_, _, rfl, mk_int, RVs.rng lo r⟩
theorem pe_listRng {mu : Bool} {p2 pos2 : Pos} (hc : X.calm = true) (hg : Gl X "list") (hm : X.mg "list" = none) (hg2 : Gl X "range") (hm2 : X.mg "range" = none) (ha : PE X e (RE X.K J W fa)) (he : starEach [e] X.env = (false, eval e X.env) :: starEach [] X.env) :
    PE X (.Call (.Name "list" p) [.Call (.Name "range" p2) [e] [] pos2] [] pos) (RE X.K J W (e1 (fListRng mu) fa)) := by
  refine PE.imp (pe_callTy (cr_listRng hc) hg hm boot_list (pa_cons (pe_callTy cr_range1 hg2 hm2 boot_range (pa_cons ha pa_nil he) (by decide) (by decide) he rfl) pa_nil rfl) (by decide) (by decide) rfl rfl) fun σ H Q h => ?_
  refine re_1 (r := fun x H Q => ∃ j, [x] = [V.int j] ∧ ∀ p, H p = none → ∃ (r : Addr) (lo hi : Int), [V.ref p] = [V.ref r] ∧ (upd H p (.rng 0 j)) r = some (.rng lo hi) ∧ -(2 ^ 24) ≤ lo ∧ hi ≤ 2 ^ 24 ∧ (hi - lo).toNat ≤ 2 ^ 24 ∧ lo ≤ 2 ^ 24 ∧ -(2 ^ 24) ≤ hi ∧
    ∀ q, (upd H p (.rng 0 j)) q = none → Q (.ref q) (upd (upd H p (.rng 0 j)) q (.lst ((List.range (hi - lo).toNat).map fun (i : Nat) => V.int (lo + (i : Nat)))))) (fun x dx H M S W Q s r hp => ?_) h
  cases dx <;> first | exact hp.elim | skip
  rename_i j
  unfold fListRng at hp
  cases c : small24 j with
  | false => simp only [c, cond_false] at hp; exact hp.elim
  | true =>
    simp only [c, cond_true] at hp
    unfold small24 at c
    rw [Bool.and_eq_true] at c
    have c1 := of_decide_eq_true c.1
    have c2 := of_decide_eq_true c.2
    rw [rv_int r]
    refine ⟨j, rfl, fun q hq => ⟨q, 0, j, rfl, upd_same, by decide, c2, by omega, by decide, c1, fun l hl => ?_⟩⟩
    exact new_lst (s.new hq) (RP.ext hp (Ext.new hq)) (RVs.rng 0 _) hl
end
end Lk

namespace Lk
open PySem PySem.Spec PyProof.Rows L2

/-! ### a cell written -/
section
variable {K : PySem.W.Frag} {ca : Nat → Option Addr} {fbs : List Nat} {H : Hp} {M : Mp} {S : Sto} {W : XK}
/-- a value that may be written into the cell n -/
def okW (fbs : List Nat) (n : Nat) : D → Bool
  | .int _ => true
  | .bl _ => true
  | .non => true
  | .str _ => true
  | d => fbs.all fun b => Nat.ble b n || d.fit b
theorem okW_fit {n : Nat} {d : D} (h : okW fbs n d = true) {b : Nat} (hb : b ∈ fbs) (hn : n < b) : d.fit b = true := by
  have go : (fbs.all fun b => Nat.ble b n || d.fit b) = true → d.fit b = true := fun h => by
    have := List.all_eq_true.mp h b hb
    rw [Bool.or_eq_true] at this
    rcases this with q | q
    · have := Nat.le_of_ble_eq_true q; omega
    · exact q
  cases d with
  | int _ => rfl
  | bl _ => rfl
  | non => rfl
  | str _ => rfl
  | tup _ => exact go h
  | lst _ => exact go h
  | fix _ => exact go h
  | ref _ => exact go h
theorem fitL_all {b : Nat} : ∀ {ds : List D}, fitL b ds = true ↔ ∀ d ∈ ds, d.fit b = true
  | [] => ⟨(fun _ _ h => nomatch h), fun _ => by unfold fitL; rfl⟩
  | x :: ds => by
    unfold fitL
    rw [Bool.and_eq_true, fitL_all]
    exact ⟨fun ⟨h1, h2⟩ d hd => (List.mem_cons.mp hd).elim (fun e => by rw [e]; exact h1) (h2 d), fun h => ⟨h x List.mem_cons_self, fun d hd => h d (List.mem_cons_of_mem _ hd)⟩⟩
theorem SRep.write {n : Nat} {a : Addr} {ds ds' : List D} {vs' : List V} (s : SRep K fbs H M S) (hc : S[n]? = some (.lst ds)) (ha : M.ids[n]? = some (some a)) (r : RVs K H M ds' vs')
    (hf : ∀ b ∈ fbs, n < b → fitL b ds' = true) : Ext H M (upd H a (.lst vs')) M ∧ SRep K fbs (upd H a (.lst vs')) M (S.set n (.lst ds')) := by
  obtain ⟨_, vs, _, hH, _⟩ := s.live ha
  have hmem : some a ∈ M.ids := List.mem_of_getElem? ha
  have up : ∀ b, b ≠ a → upd H a (.lst vs') b = H b := fun b hb => upd_ne hb
  have e : Ext H M (upd H a (.lst vs')) M := {
    keep := fun b o h hb => by rw [up b fun z => hb (by rw [z]; exact hmem)]; exact h
    ids := fun _ _ h => .inl h
    fresh := fun _ h => .inl h
    z := fun _ h => .inl h
    zs := fun _ h => h
    there := fun b h => by
      unfold upd
      split
      · exact fun z => nomatch z
      · exact h
    frz := fun b o u h => by rw [up b fun z => by subst z; rw [hH] at h; cases h]; exact h }
  have hn : n < S.length := (List.getElem?_eq_some_iff.mp hc).1
  refine ⟨e, by rw [List.length_set]; exact s.len, fun i c o h1 h2 => ?_, s.inj, fun b hb => ⟨e.there b (s.zz b hb).1, (s.zz b hb).2⟩, fun b hb => ?_⟩
  · by_cases q : n = i
    · subst q
      rw [List.getElem?_set_self hn] at h1
      cases h1
      rw [ha] at h2
      cases h2
      exact ⟨a, vs', rfl, upd_same, RVs.ext e ds' vs' r⟩
    · rw [List.getElem?_set_ne q] at h1
      refine (s.cell i c o h1 h2).ext e fun b xs eo hb => ?_
      subst eo
      rw [up b fun z => q (s.inj n i a ha (by rw [← z]; exact h2))]
      exact hb
  · obtain ⟨h1, h2⟩ := s.cl b hb
    refine ⟨by rw [List.length_set]; exact h1, fun i c hi h => ?_⟩
    by_cases q : n = i
    · subst q
      rw [List.getElem?_set_self hn] at h
      cases h
      exact hf b hb hi
    · rw [List.getElem?_set_ne q] at h
      exact h2 i c hi h
end
def refN : D → Option Nat
  | .ref n => some n
  | _ => none
/-- a cell that holds a list -/
def celS (S : Sto) : D → Option (Nat × List D)
  | .ref n => match S[n]? with
    | some (.lst ds) => some (n, ds)
    | _ => none
  | _ => none
theorem celS_ok {K : PySem.W.Frag} {fbs : List Nat} {H : Hp} {M : Mp} {S : Sto} {d : D} {v : V} {n : Nat} {ds : List D} (s : SRep K fbs H M S) (r : RV K H M d v) (h : celS S d = some (n, ds)) :
    ∃ a vs, v = .ref a ∧ M.ids[n]? = some (some a) ∧ S[n]? = some (.lst ds) ∧ H a = some (.lst vs) ∧ RVs K H M ds vs := by
  cases d with
  | ref m =>
    unfold RV at r
    obtain ⟨a, o, e, h1, h2⟩ := r
    unfold celS at h
    cases hc : S[m]? with
    | none => simp only [hc] at h; cases h
    | some c =>
      cases c with
      | dead => simp only [hc] at h; cases h
      | lst xs =>
        simp only [hc] at h
        cases h
        obtain ⟨b, vs, eo, hb, rs⟩ := s.cell _ _ _ hc h1
        have hba := h2 b eo
        subst hba
        subst eo
        exact ⟨b, vs, e, h1, hc, hb, rs⟩
  | non => cases h
  | bl _ => cases h
  | int _ => cases h
  | str _ => cases h
  | tup _ => cases h
  | lst _ => cases h
  | fix _ => cases h

section
variable {X : Cx} {J : Inf} {W : WX} {pos : Pos} {a b e : Expr} {fa fb fc : SemE}
/-! ### displays -/
def eTup (a : SemEs) : SemE := fun c g ρ S => (a c g ρ S).bind fun ds S1 => bif Nat.ble ds.length sizeLine then .ok (.tup ds) S1 else .bad
def eLst (mu : Bool) (a : SemEs) : SemE := fun c g ρ S => (a c g ρ S).bind fun ds S1 => bif Nat.ble ds.length sizeLine then mkL mu ds S1 else .bad
theorem pe_tupR {es : List Expr} {x1 : Nat} {f : SemEs} (h : PA X es (REs X.K J W f)) : PE X (.Tuple es x1 pos) (RE X.K J W (eTup f)) :=
  PE.imp (pe_tupF h) fun σ H Q h => by
    have q := re_L (f := fun ds S1 => bif Nat.ble ds.length sizeLine then .ok (.tup ds) S1 else .bad) (r := fun xs H Q => xs.length ≤ sizeLine ∧ NewT H Q xs) (fun xs ds H M S W Q s r hp => by
      cases c : Nat.ble ds.length sizeLine with
      | false => simp only [c, cond_false] at hp; exact hp.elim
      | true =>
        simp only [c, cond_true] at hp
        exact ⟨by rw [RVs.len r]; exact Nat.le_of_ble_eq_true c, new_tup s hp r⟩) h
    exact q
theorem pe_lstR {mu : Bool} {es : List Expr} {f : SemEs} (h : PA X es (REs X.K J W f)) : PE X (.List es pos) (RE X.K J W (eLst mu f)) :=
  PE.imp (pe_lst h) fun σ H Q h => by
    have q := re_L (f := fun ds S1 => bif Nat.ble ds.length sizeLine then mkL mu ds S1 else .bad) (r := fun xs H Q => xs.length ≤ sizeLine ∧ ∀ p, H p = none → Q (.ref p) (upd H p (.lst xs))) (fun xs ds H M S W Q s r hp => by
      cases c : Nat.ble ds.length sizeLine with
      | false => simp only [c, cond_false] at hp; exact hp.elim
      | true =>
        simp only [c, cond_true] at hp
        exact ⟨by rw [RVs.len r]; exact Nat.le_of_ble_eq_true c, fun p hn => new_lst s hp r hn⟩) h
    exact q

/-! ### a[i] -/
def fIdxS : D → D → Sto → Res
  | .str z, .int i, S => bif Nat.ble z.length sizeLine then match atI z.cps.toList i with
    | some c => .ok (.str ⟨#[c]⟩) S
    | none => .bad else .bad
  | _, _, _ => .bad
def fIdxL (d i : D) (S : Sto) : Res := match seqS S d, i with
  | some ds, .int k => match atI ds k with
    | some x => .ok x S
    | none => .bad
  | _, _ => .bad
def fIdx (d i : D) (S : Sto) : Res := match d with
  | .str _ => fIdxS d i S
  | _ => fIdxL d i S
theorem atI_rv {K : PySem.W.Frag} {H : Hp} {M : Mp} {ds : List D} {vs : List V} {k : Int} {x : D} (r : RVs K H M ds vs) (h : atI ds k = some x) : ∃ v, atI vs k = some v ∧ RV K H M x v := by
  unfold atI at h ⊢
  rw [RVs.len r]
  cases q : ixN ds.length k with
  | none => rw [q] at h; cases h
  | some j => rw [q] at h; exact RVs.get r h
theorem idx_ok {x y : V} {dx dy : D} {H : Hp} {M : Mp} {S : Sto} {W : XK} {Q : VK} (s : SRep X.K J.fbs H M S) (rx : RV X.K H M dx x) (ry : RV X.K H M dy y) (h : RPost X.K J.ca J.fbs H M W Q (fIdx dx dy S)) : rIx X.K x y H Q := by
  have seq : RPost X.K J.ca J.fbs H M W Q (fIdxL dx dy S) → rIxL X.K x y H Q ∨ rIxT X.K x y H Q := fun h => by
    unfold fIdxL at h
    cases q : seqS S dx with
    | none => rw [q] at h; exact h.elim
    | some ds =>
      rw [q] at h
      cases dy with
      | int k =>
        cases q2 : atI ds k with
        | none => simp only [q2] at h; exact h.elim
        | some d =>
          simp only [q2] at h
          obtain ⟨p, vs, e, h1, h2⟩ := seqS_ok s rx q
          obtain ⟨v, h3, h4⟩ := atI_rv h2 q2
          rcases h1 with h1 | h1
          · exact .inl ⟨p, vs, k, v, e, rv_int ry, h1, h3, h.fin s h4⟩
          · exact .inr ⟨p, vs, k, v, e, rv_int ry, h1, h3, h.fin s h4⟩
      | _ => exact h.elim
  have two : rIxL X.K x y H Q ∨ rIxT X.K x y H Q → rIx X.K x y H Q := fun h => h.elim .inl fun h => .inr (.inl h)
  cases dx with
  | str z =>
    cases dy <;> first | exact h.elim | skip
    rename_i k
    unfold fIdx fIdxS at h
    cases c : Nat.ble z.length sizeLine with
    | false => simp only [c, cond_false] at h; exact h.elim
    | true =>
      simp only [c, cond_true] at h
      cases q : atI z.cps.toList k with
      | none => simp only [q] at h; exact h.elim
      | some d =>
        simp only [q] at h
        exact .inr (.inr ⟨z, k, d, rv_str rx, rv_int ry, Nat.le_of_ble_eq_true c, q, h.fin s mk_str⟩)
  | non => exact two (seq h)
  | bl _ => exact two (seq h)
  | int _ => exact two (seq h)
  | tup _ => exact two (seq h)
  | lst _ => exact two (seq h)
  | fix _ => exact two (seq h)
  | ref _ => exact two (seq h)
theorem pe_idxR (ha : PE X a (RE X.K J W fa)) (hb : PE X b (RE X.K J W fb)) (hs : PlainIx b) : PE X (.Subscript a b pos) (RE X.K J W (e2 fIdx fa fb)) :=
  PE.imp (pe_ix ix_seq ha hb hs) fun σ H Q h => re_2 (fun x y dx dy H M S W Q s rx ry hp => idx_ok s rx ry hp) h

/-! ### a[lo:hi] -/
abbrev SemO := CallF → List Nat → Env → Sto → Rs (Option Int)
abbrev RO : Rel (Option Int) (Option Int) := fun _ _ a b => a = b
def oNone : SemO := fun _ _ _ S => .ok none S
def oSome (a : SemE) : SemO := fun c g ρ S => (a c g ρ S).bind fun d S1 => match d with
  | .int i => .ok (some i) S1
  | _ => .bad
def ROp (K : PySem.W.Frag) (J : Inf) (W : WX) (f : SemO) : TO := fun σ H Q => ∃ M ρ S, SRep K J.fbs H M S ∧ ERep K H M σ ρ ∧ RP K J.ca J.fbs RO H M (fun c d H' => W c d σ H') Q (f J.cf J.fbs ρ S)
theorem PO.imp {o : Option Expr} {t t' : TO} (h : PO X o t) (i : ∀ σ H Q, t' σ H Q → t σ H Q) : PO X o t' := ⟨fun pins s σ H Q I q => h.run pins s σ H Q I (i _ _ _ q)⟩
theorem po_noneR : PO X none (ROp X.K J W oNone) := PO.imp po_none fun σ H Q ⟨M, ρ, S, s, e, h⟩ => h.fin s rfl
theorem po_someR (ha : PE X a (RE X.K J W fa)) : PO X (some a) (ROp X.K J W (oSome fa)) := PO.imp (po_some ha) fun σ H Q h => by
  obtain ⟨M, ρ, S, s, e, h⟩ := h
  refine ⟨M, ρ, S, s, e, (RP.bind (R := RV X.K) h).mono (fun x H1 _ _ _ _ _ _ h1 => ?_) fun _ _ _ q => q⟩
  obtain ⟨M1, dx, S1, e1, s1, rx, h1⟩ := h1
  cases dx <;> first | exact h1.elim | skip
  exact ⟨_, rv_int rx, h1.fin s1 rfl⟩
def cutD (xs : List D) (lo hi : Option Int) : List D := (xs.drop (HT.sIx xs.length 0 lo)).take (HT.sIx xs.length xs.length hi - HT.sIx xs.length 0 lo)
def fSl (mu : Bool) (d : D) (lo hi : Option Int) (S : Sto) : Res := match d with
  | .str z => bif Nat.ble z.length sizeLine then .ok (.str (cutS z lo hi)) S else .bad
  | .tup ds => .ok (.tup (cutD ds lo hi)) S
  | d => match lisS S d with
    | some ds => mkL mu (cutD ds lo hi) S
    | none => .bad
def eSl (mu : Bool) (a : SemE) (lo hi : SemO) : SemE := fun c g ρ S => (a c g ρ S).bind fun d S1 => (lo c g ρ S1).bind fun l S2 => (hi c g ρ S2).bind fun u S3 => fSl mu d l u S3
theorem SlR.or {r r' : V → Option Int → Option Int → Hp → VK → Prop} (h : SlR X r) (h' : SlR X r') : SlR X fun x l u H Q => r x l u H Q ∨ r' x l u H Q := by
  intro pins s σ H x v vl vu lo hi sl Q I rx hs pl pu q
  exact q.elim (fun q => h pins s σ H x v vl vu lo hi sl Q I rx hs pl pu q) fun q => h' pins s σ H x v vl vu lo hi sl Q I rx hs pl pu q
theorem cut_rv {K : PySem.W.Frag} {H : Hp} {M : Mp} {ds : List D} {vs : List V} {lo hi : Option Int} (r : RVs K H M ds vs) : RVs K H M (cutD ds lo hi) (cutV vs lo hi) := by
  unfold cutD cutV
  rw [RVs.len r]
  exact RVs.tk _ (RVs.drop _ r)
theorem pe_slR {mu : Bool} {lo hi : Option Expr} {fl fh : SemO} {p2 : Pos} (ha : PE X a (RE X.K J W fa)) (hl : PO X lo (ROp X.K J W fl)) (hh : PO X hi (ROp X.K J W fh)) : PE X (.Subscript a (.Slice lo hi none p2) pos) (RE X.K J W (eSl mu fa fl fh)) := by
  refine PE.imp (pe_slice (SlR.or sl_str (SlR.or sl_tupF sl_list)) ha hl hh) fun σ H Q h => ?_
  obtain ⟨M, ρ, S, s, e, h⟩ := h
  refine ⟨M, ρ, S, s, e, (RP.bind (R := RV X.K) h).mono (fun x H1 _ _ _ _ _ _ h1 => ?_) fun _ _ _ q => q⟩
  obtain ⟨M1, dx, S1, e1, s1, rx, h1⟩ := h1
  refine ⟨M1, ρ, S1, s1, e.ext e1, (RP.bind (R := RO) h1).mono (fun l H2 _ _ _ _ _ _ h2 => ?_) fun _ _ _ q => q⟩
  obtain ⟨M2, l', S2, e2, s2, rl, h2⟩ := h2
  cases rl
  refine ⟨M2, ρ, S2, s2, (e.ext e1).ext e2, (RP.bind (R := RO) h2).mono (fun u H3 _ _ _ _ _ _ h3 => ?_) fun _ _ _ q => q⟩
  obtain ⟨M3, u', S3, e3, s3, ru, h3⟩ := h3
  cases ru
  have rx3 := (rx.ext e2).ext e3
  have lis : RPost X.K J.ca J.fbs H3 M3 (fun c d H' => W c d σ H') Q (match lisS S3 dx with | some ds => mkL mu (cutD ds l u) S3 | none => .bad) → rSlL X.K x l u H3 Q := fun h => by
    cases q : lisS S3 dx with
    | none => rw [q] at h; exact h.elim
    | some ds =>
      rw [q] at h
      obtain ⟨p, vs, ev, q1, q2⟩ := lisS_ok s3 rx3 q
      exact ⟨p, vs, ev, q1, fun t ht => new_lst s3 h (cut_rv q2) ht⟩
  cases dx with
  | str z =>
    unfold fSl at h3
    cases c : Nat.ble z.length sizeLine with
    | false => simp only [c, cond_false] at h3; exact h3.elim
    | true =>
      simp only [c, cond_true] at h3
      exact .inl ⟨z, rv_str rx, Nat.le_of_ble_eq_true c, h3.fin s3 mk_str⟩
  | tup ds =>
    obtain ⟨p, vs, ev, q1, q2⟩ := rv_tup rx3
    refine .inr (.inl ⟨p, vs, ev, q1, fun hw => ?_, fun _ => new_tup s3 h3 (cut_rv q2)⟩)
    have : cutD ds l u = ds := by
      unfold cutD
      rw [RVs.len q2] at hw
      rw [hw.1, hw.2, List.drop_zero, Nat.sub_zero, List.take_length]
    have h3 : RPost X.K J.ca J.fbs H3 M3 (fun c d H' => W c d σ H') Q (.ok (.tup (cutD ds l u)) S3) := h3
    rw [this] at h3
    exact h3.fin s3 (by unfold RV; exact ⟨p, vs, rfl, q1, q2⟩)
  | non => exact .inr (.inr (lis h3))
  | bl _ => exact .inr (.inr (lis h3))
  | int _ => exact .inr (.inr (lis h3))
  | lst _ => exact .inr (.inr (lis h3))
  | fix _ => exact .inr (.inr (lis h3))
  | ref _ => exact .inr (.inr (lis h3))
/-- a[::-1] -/
def fRev (mu : Bool) (d : D) (S : Sto) : Res := match d with
  | .tup ds => .ok (.tup ds.reverse) S
  | d => match lisS S d with
    | some ds => mkL mu ds.reverse S
    | none => .bad
theorem RVs.rev {K : PySem.W.Frag} {H : Hp} {M : Mp} : ∀ {ds : List D} {vs : List V}, RVs K H M ds vs → RVs K H M ds.reverse vs.reverse
  | [], vs, h => by unfold RVs at h; subst h; simp; unfold RVs; rfl
  | x :: ds, vs, h => by
    unfold RVs at h
    obtain ⟨y, ys, rfl, h1, h2⟩ := h
    rw [List.reverse_cons, List.reverse_cons]
    exact RVs.app (RVs.rev h2) h1
theorem pe_revR {mu : Bool} {k : Nat} {p1 p2 p3 : Pos} (ha : PE X a (RE X.K J W fa)) : PE X (.Subscript a (.Slice none none (some (.UnaryOp .USub (.Constant (.int 1) k p1) p2)) p3) pos) (RE X.K J W (e1 (fRev mu) fa)) := by
  refine PE.imp (pe_revA ha) fun σ H Q h => re_1 (r := fun x H1 Q => ∃ a xs, x = V.ref a ∧ ((SqL X.K H1 a xs ∧ ∀ p, H1 p = none → Q (.ref p) (upd H1 p (.lst xs.reverse))) ∨ (Tp X.K H1 a xs ∧ NewT H1 Q xs.reverse))) (fun x dx H M S W Q s r h => ?_) h
  have lis : RPost X.K J.ca J.fbs H M W Q (match lisS S dx with | some ds => mkL mu ds.reverse S | none => .bad) → ∃ a xs, x = V.ref a ∧ ((SqL X.K H a xs ∧ ∀ p, H p = none → Q (.ref p) (upd H p (.lst xs.reverse))) ∨ (Tp X.K H a xs ∧ NewT H Q xs.reverse)) := fun h => by
    cases q : lisS S dx with
    | none => rw [q] at h; exact h.elim
    | some ds =>
      rw [q] at h
      obtain ⟨p, vs, ev, q1, q2⟩ := lisS_ok s r q
      exact ⟨p, vs, ev, .inl ⟨q1, fun t ht => new_lst s h q2.rev ht⟩⟩
  cases dx with
  | tup ds =>
    obtain ⟨p, vs, ev, q1, q2⟩ := rv_tup r
    exact ⟨p, vs, ev, .inr ⟨q1, new_tup s h q2.rev⟩⟩
  | non => exact lis h
  | bl _ => exact lis h
  | int _ => exact lis h
  | str _ => exact lis h
  | lst _ => exact lis h
  | fix _ => exact lis h
  | ref _ => exact lis h

/-! ### methods of lists and tuples -/
def tyW (K : PySem.W.Frag) (T : String) (x : V) (H : Hp) : Prop := tyV K T x H ∨ (T = "tuple" ∧ ∃ a vs, x = .ref a ∧ Tp K H a vs)
theorem tyW_is {pins : List (Addr × Obj)} {σ : L2.St} {H : Hp} {s : Shared} {T : String} {x : V} {v : Value} (I : Inv X pins σ H s) (r : RelV x v) (ty : tyW X.K T x H) :
    s.TypeIs v T ∧ ∀ a, v = .ref a → ∃ ob, s.heap.get? a = some ob ∧ ob.dict = none := by
  rcases ty with ty | ⟨rfl, a, vs, rfl, ty⟩
  · exact tyV_is I r ty
  · cases r
    rcases ty with ⟨o, h1, h2⟩ | ⟨o, its, n, h1, h2, h3, _⟩
    · obtain ⟨e, _, its, _, o', e', hc, _⟩ := I.hok a _ h1
      rw [e] at e'
      cases e'
      exact ⟨⟨o, e, hc⟩, fun b z => by cases z; exact ⟨o, e, h2⟩⟩
    · exact ⟨⟨o, I.kIn a o h1, h2⟩, fun b z => by cases z; exact ⟨o, I.kIn a o h1, h3⟩⟩
def tBMW (K : PySem.W.Frag) (T : String) (r : V → List V → Hp → VK → Prop) (to : TE) (t : TA) : TE := fun σ H Q => to σ H fun x H1 => tyW K T x H1 ∧ t σ H1 fun xs H2 => r x xs H2 Q
theorem pe_bmW0 {T id : String} {name : Str} {o : Expr} {to : TE} {r : V → List V → Hp → VK → Prop} {apos cpos : Pos} (pa : PlainAttrs T) (slot : Slot T name id) (hty : typeOf (.builtin id) = pure (.type "method_descriptor")) (hm : MtR X id r) (ho : PE X o to)
    (hbase : attributeBase o name X.env (eval o X.env) = eval o X.env) (hline : (apos.endLine == cpos.line) = true) : PE X (.Call (.Attribute o name apos) [] [] cpos) (tBMW X.K T r to tNil) := by
  refine ⟨fun pins s σ H Q I h => wpAny_Call_method0_late hbase hline (thn (ho.run pins s σ H _ I h) ?_)⟩
  rintro v s1 ⟨x, H1, I1, r1, ty, q1⟩
  obtain ⟨h1, h2⟩ := tyW_is I1 r1 ty
  exact ⟨T, id, pa, slot, hty, h1, h2, Calls.callWith_builtin rfl (PySem.evalArgs_none (hm pins s1 σ H1 x [] v [] Q I1 r1 .nil q1))⟩
theorem pe_bmW {T id : String} {name : Str} {o : Expr} {es : List Expr} {to : TE} {t : TA} {r : V → List V → Hp → VK → Prop} {apos cpos : Pos} (pa : PlainAttrs T) (slot : Slot T name id) (hty : typeOf (.builtin id) = pure (.type "method_descriptor")) (hm : MtR X id r) (ho : PE X o to) (ha : PA X (e :: es) t)
    (hbase : attributeBase o name X.env (eval o X.env) = eval o X.env)
    (hfew : ((backTo cpos (starEach (e :: es) X.env)).all (fun x => !x.1) && (backToKw cpos (keywordEach [] X.env)).all (fun x => x.1.isSome) && decide ((e :: es).length + ([] : List Keyword).length + (if ([] : List Keyword).isEmpty then 0 else 1) < 30)) = true)
    (hline : (apos.endLine == cpos.line) = true) (hs : starEach (e :: es) X.env = (false, eval e X.env) :: starEach es X.env) (hplain : (backTo cpos (starEach es X.env)).any (·.1) = false) :
    PE X (.Call (.Attribute o name apos) (e :: es) [] cpos) (tBMW X.K T r to t) := by
  refine ⟨fun pins s σ H Q I h => wpAny_Call_method_late hbase hfew hline rfl (thn (ho.run pins s σ H _ I h) ?_)⟩
  rintro v s1 ⟨x, H1, I1, r1, ty, q1⟩
  obtain ⟨h1, h2⟩ := tyW_is I1 r1 ty
  refine ⟨T, id, pa, slot, hty, h1, h2, ?_⟩
  have run := ha.run cpos pins s1 σ H1 _ I1 q1
  rw [hs] at run ⊢
  refine Calls.callWith_builtin (by show (false || (backTo cpos (starEach es X.env)).any (·.1)) = false; rw [hplain]; rfl) (Calls.evalArgs_plain (thn run ?_))
  rintro us s2 ⟨vs, H2, I2, r2, q2⟩
  exact hm pins s2 σ H2 x vs v us Q I2 r1 r2 q2
/-- o.m(args): o first (is it of the type?), then the arguments -/
def eMt (ty : D → Sto → Bool) (f : List Nat → D → List D → Sto → Res) (o : SemE) (a : SemEs) : SemE := fun c g ρ S => (o c g ρ S).bind fun d S1 => bif ty d S1 then (a c g ρ S1).bind fun ds S2 => f g d ds S2 else .bad
def MtOk (X : Cx) (J : Inf) (T id : String) (ty : D → Sto → Bool) (f : List Nat → D → List D → Sto → Res) : Prop := ∃ r : V → List V → Hp → VK → Prop, MtR X id r ∧
  (∀ (x : V) (dx : D) (H : Hp) (M : Mp) (S : Sto), SRep X.K J.fbs H M S → RV X.K H M dx x → ty dx S = true → tyW X.K T x H) ∧
  ∀ (x : V) (xs : List V) (dx : D) (ds : List D) (H : Hp) (M : Mp) (S : Sto) (W : XK) (Q : VK), SRep X.K J.fbs H M S → RV X.K H M dx x → RVs X.K H M ds xs → RPost X.K J.ca J.fbs H M W Q (f J.fbs dx ds S) → r x xs H Q
theorem re_mt {T : String} {r : V → List V → Hp → VK → Prop} {ty : D → Sto → Bool} {f : List Nat → D → List D → Sto → Res} {fs : SemEs} {σ : L2.St} {H : Hp} {Q : VK}
    (h1 : ∀ (x : V) (dx : D) (H : Hp) (M : Mp) (S : Sto), SRep X.K J.fbs H M S → RV X.K H M dx x → ty dx S = true → tyW X.K T x H)
    (h2 : ∀ (x : V) (xs : List V) (dx : D) (ds : List D) (H : Hp) (M : Mp) (S : Sto) (W : XK) (Q : VK), SRep X.K J.fbs H M S → RV X.K H M dx x → RVs X.K H M ds xs → RPost X.K J.ca J.fbs H M W Q (f J.fbs dx ds S) → r x xs H Q)
    (h : RE X.K J W (eMt ty f fa fs) σ H Q) : tBMW X.K T r (RE X.K J W fa) (REs X.K J W fs) σ H Q := by
  obtain ⟨M, ρ, S, s, e, h⟩ := h
  refine ⟨M, ρ, S, s, e, (RP.bind (R := RV X.K) h).mono (fun x H1 _ _ _ _ _ _ q1 => ?_) fun _ _ _ q => q⟩
  obtain ⟨M1, dx, S1, e1, s1, rx, q1⟩ := q1
  cases c : ty dx S1 with
  | false => simp only [c, cond_false] at q1; exact q1.elim
  | true =>
    simp only [c, cond_true] at q1
    refine ⟨h1 x dx H1 M1 S1 s1 rx c, M1, ρ, S1, s1, e.ext e1, (RP.bind (R := RVs X.K) q1).mono (fun xs H2 _ _ _ _ _ _ q2 => ?_) fun _ _ _ q => q⟩
    obtain ⟨M2, ds, S2, e2, s2, rs, q2⟩ := q2
    exact h2 x xs dx ds H2 M2 S2 _ Q s2 (rx.ext e2) rs q2
theorem pe_mtR {T id : String} {name : Str} {ty : D → Sto → Bool} {f : List Nat → D → List D → Sto → Res} {o : Expr} {es : List Expr} {fs : SemEs} {apos cpos : Pos} (h : MtOk X J T id ty f) (pa : PlainAttrs T) (slot : Slot T name id) (hty : typeOf (.builtin id) = pure (.type "method_descriptor"))
    (ho : PE X o (RE X.K J W fa)) (ha : PA X (e :: es) (REs X.K J W fs)) (hbase : attributeBase o name X.env (eval o X.env) = eval o X.env)
    (hfew : ((backTo cpos (starEach (e :: es) X.env)).all (fun x => !x.1) && (backToKw cpos (keywordEach [] X.env)).all (fun x => x.1.isSome) && decide ((e :: es).length + ([] : List Keyword).length + (if ([] : List Keyword).isEmpty then 0 else 1) < 30)) = true)
    (hline : (apos.endLine == cpos.line) = true) (hs : starEach (e :: es) X.env = (false, eval e X.env) :: starEach es X.env) (hplain : (backTo cpos (starEach es X.env)).any (·.1) = false) :
    PE X (.Call (.Attribute o name apos) (e :: es) [] cpos) (RE X.K J W (eMt ty f fa fs)) := by
  obtain ⟨r, h1, h2, h3⟩ := h
  exact PE.imp (pe_bmW pa slot hty h1 ho ha hbase hfew hline hs hplain) fun σ H Q h => re_mt h2 h3 h
theorem pe_mtR0 {T id : String} {name : Str} {ty : D → Sto → Bool} {f : List Nat → D → List D → Sto → Res} {o : Expr} {apos cpos : Pos} (h : MtOk X J T id ty f) (pa : PlainAttrs T) (slot : Slot T name id) (hty : typeOf (.builtin id) = pure (.type "method_descriptor"))
    (ho : PE X o (RE X.K J W fa)) (hbase : attributeBase o name X.env (eval o X.env) = eval o X.env) (hline : (apos.endLine == cpos.line) = true) : PE X (.Call (.Attribute o name apos) [] [] cpos) (RE X.K J W (eMt ty f fa esNil)) := by
  obtain ⟨r, h1, h2, h3⟩ := h
  refine PE.imp (pe_bmW0 pa slot hty h1 ho hbase hline) fun σ H Q h => ?_
  obtain ⟨M, ρ, S, s, e, h⟩ := h
  refine ⟨M, ρ, S, s, e, (RP.bind (R := RV X.K) h).mono (fun x H1 _ _ _ _ _ _ q1 => ?_) fun _ _ _ q => q⟩
  obtain ⟨M1, dx, S1, e1, s1, rx, q1⟩ := q1
  cases c : ty dx S1 with
  | false => simp only [c, cond_false] at q1; exact q1.elim
  | true =>
    simp only [c, cond_true] at q1
    exact ⟨h2 x dx H1 M1 S1 s1 rx c, h3 x [] dx [] H1 M1 S1 _ Q s1 rx (by unfold RVs; rfl) q1⟩
def isCel (d : D) (S : Sto) : Bool := (celS S d).isSome
def isTupD (d : D) (_ : Sto) : Bool := match d with
  | .tup _ => true
  | _ => false
theorem isCel_ok {x : V} {dx : D} {H : Hp} {M : Mp} {S : Sto} (s : SRep X.K J.fbs H M S) (r : RV X.K H M dx x) (h : isCel dx S = true) : tyW X.K "list" x H := by
  unfold isCel at h
  obtain ⟨⟨n, ds⟩, h⟩ := Option.isSome_iff_exists.mp h
  obtain ⟨a, vs, rfl, _, _, h1, _⟩ := celS_ok s r h
  exact .inl (.inl ⟨rfl, vs, .of h1⟩)
def fAppend (g : List Nat) (d : D) (ds : List D) (S : Sto) : Res := match celS S d, ds with
  | some (n, xs), [x] => bif Nat.blt xs.length sizeLine && okW g n x then .ok .non (S.set n (.lst (xs ++ [x]))) else .bad
  | _, _ => .bad
theorem ok_append : MtOk X J "list" "list.append" isCel fAppend := by
  refine ⟨_, mt_append, fun x dx H M S s r h => isCel_ok s r h, fun x xs dx ds H M S W Q s rx rs h => ?_⟩
  unfold fAppend at h
  cases q : celS S dx with
  | none => rw [q] at h; exact h.elim
  | some p =>
    obtain ⟨n, ys⟩ := p
    rw [q] at h
    match ds, rs, h with
    | [], _, h => exact h.elim
    | _ :: _ :: _, _, h => exact h.elim
    | [d], rs, h =>
      cases c : (Nat.blt ys.length sizeLine && okW J.fbs n d) with
      | false => simp only [c, cond_false] at h; exact h.elim
      | true =>
        simp only [c, cond_true] at h
        rw [Bool.and_eq_true] at c
        unfold RVs at rs
        obtain ⟨v, vr, rfl, r1, r2⟩ := rs
        unfold RVs at r2
        subst r2
        obtain ⟨a, vs, rfl, h1, h2, h3, h4⟩ := celS_ok s rx q
        have hl : ys.length < sizeLine := Nat.le_of_ble_eq_true c.1
        obtain ⟨e, s'⟩ := s.write h2 h1 (RVs.app h4 r1) fun b hb hn => fitL_all.mpr fun d' hd => by
          rcases List.mem_append.mp hd with z | z
          · exact fitL_all.mp ((s.cl b hb).2 n _ hn h2) d' z
          · have : d' = d := by simpa using z
            rw [this]
            exact okW_fit c.2 hb hn
        exact ⟨a, vs, v, rfl, rfl, h3, by rw [RVs.len h4]; exact hl, h .non _ M e s' mk_non⟩
def fPop (g : List Nat) (d : D) (ds : List D) (S : Sto) : Res := match celS S d, ds with
  | some (n, xs), [] => match xs[xs.length - 1]? with
    | some y => .ok y (S.set n (.lst xs.dropLast))
    | none => .bad
  | some (n, xs), [.int i] => match ixN xs.length i with
    | some k => match xs[k]? with
      | some y => bif small24 i then .ok y (S.set n (.lst (xs.eraseIdx k))) else .bad
      | none => .bad
    | none => .bad
  | _, _ => .bad
theorem RVs.erase {K : PySem.W.Frag} {H : Hp} {M : Mp} : ∀ {ds : List D} {vs : List V} (k : Nat), RVs K H M ds vs → RVs K H M (ds.eraseIdx k) (vs.eraseIdx k)
  | [], vs, k, h => by unfold RVs at h; subst h; simp; unfold RVs; rfl
  | x :: ds, vs, 0, h => by unfold RVs at h; obtain ⟨y, ys, rfl, h1, h2⟩ := h; simpa using h2
  | x :: ds, vs, k + 1, h => by
    unfold RVs at h
    obtain ⟨y, ys, rfl, h1, h2⟩ := h
    rw [List.eraseIdx_cons_succ, List.eraseIdx_cons_succ]
    unfold RVs
    exact ⟨y, _, rfl, h1, RVs.erase k h2⟩
theorem fit_sub {fbs : List Nat} {H : Hp} {M : Mp} {S : Sto} {n : Nat} {xs ys : List D} {K : PySem.W.Frag} (s : SRep K fbs H M S) (hc : S[n]? = some (.lst xs)) (h : ∀ d ∈ ys, d ∈ xs) : ∀ b ∈ fbs, n < b → fitL b ys = true := fun b hb hn =>
  fitL_all.mpr fun d hd => fitL_all.mp ((s.cl b hb).2 n _ hn hc) d (h d hd)
theorem ixN_bounds {n : Nat} {i : Int} {j : Nat} (h : ixN n i = some j) (hn : n ≤ sizeLine) : -(2 ^ 63) ≤ i ∧ i < 2 ^ 63 := by
  obtain ⟨_, _, h1, h2⟩ := ixN_seq h
  rw [sizeLine_eq] at hn
  omega
theorem ok_pop : MtOk X J "list" "list.pop" isCel fPop := by
  refine ⟨_, MtR.or mt_pop mt_popAt, fun x dx H M S s r h => isCel_ok s r h, fun x xs dx ds H M S W Q s rx rs h => ?_⟩
  unfold fPop at h
  cases q : celS S dx with
  | none => rw [q] at h; exact h.elim
  | some p =>
    obtain ⟨n, ys⟩ := p
    rw [q] at h
    obtain ⟨a, vs, rfl, h1, h2, h3, h4⟩ := celS_ok s rx q
    match ds, rs, h with
    | [], rs, h =>
      unfold RVs at rs
      subst rs
      cases q2 : ys[ys.length - 1]? with
      | none => simp only [q2] at h; exact h.elim
      | some y =>
        simp only [q2] at h
        obtain ⟨v, hv, rv⟩ := RVs.get h4 q2
        have hd : RVs X.K H M ys.dropLast vs.dropLast := by
          rw [List.dropLast_eq_take, List.dropLast_eq_take, RVs.len h4]
          exact RVs.tk _ h4
        obtain ⟨e, s'⟩ := s.write h2 h1 hd (fit_sub s h2 fun d hd => List.dropLast_subset _ hd)
        exact .inl ⟨a, vs, v, rfl, rfl, h3, by rw [RVs.len h4]; exact hv, h v _ M e s' (rv.ext e)⟩
    | [.int i], rs, h =>
      unfold RVs at rs
      obtain ⟨v, vr, rfl, r1, r2⟩ := rs
      unfold RVs at r2
      subst r2
      cases q2 : ixN ys.length i with
      | none => simp only [q2] at h; exact h.elim
      | some k =>
        simp only [q2] at h
        cases q3 : ys[k]? with
        | none => simp only [q3] at h; exact h.elim
        | some y =>
          simp only [q3] at h
          obtain ⟨u, hu, ru⟩ := RVs.get h4 q3
          obtain ⟨e, s'⟩ := s.write h2 h1 (RVs.erase k h4) (fit_sub s h2 fun d hd => List.mem_of_mem_eraseIdx hd)
          cases c : small24 i with
          | false => simp only [c, cond_false] at h; exact h.elim
          | true =>
            simp only [c, cond_true] at h
            unfold small24 at c
            rw [Bool.and_eq_true] at c
            have c1 := of_decide_eq_true c.1
            have c2 := of_decide_eq_true c.2
            exact .inr ⟨a, vs, i, k, u, rfl, by rw [rv_int r1], h3, by omega, by omega, by rw [RVs.len h4]; exact (ixN_seq q2).1, hu, h u _ M e s' (ru.ext e)⟩
    | .non :: _, _, h => exact h.elim
    | .bl _ :: _, _, h => exact h.elim
    | .str _ :: _, _, h => exact h.elim
    | .tup _ :: _, _, h => exact h.elim
    | .lst _ :: _, _, h => exact h.elim
    | .fix _ :: _, _, h => exact h.elim
    | .ref _ :: _, _, h => exact h.elim
    | .int _ :: _ :: _, _, h => exact h.elim
/-! xs[i] = v -/
def fSet (g : List Nat) (o i v : D) (S : Sto) : Res := match celS S o, i with
  | some (n, xs), .int k => match ixN xs.length k with
    | some j => bif okW g n v then .ok .non (S.set n (.lst (xs.set j v))) else .bad
    | none => .bad
  | _, _ => .bad
theorem RVs.set {K : PySem.W.Frag} {H : Hp} {M : Mp} {d : D} {v : V} (r : RV K H M d v) : ∀ {ds : List D} {vs : List V} (k : Nat), RVs K H M ds vs → RVs K H M (ds.set k d) (vs.set k v)
  | [], vs, k, h => by unfold RVs at h; subst h; simp; unfold RVs; rfl
  | x :: ds, vs, 0, h => by
    unfold RVs at h
    obtain ⟨y, ys, rfl, h1, h2⟩ := h
    rw [List.set_cons_zero, List.set_cons_zero]
    unfold RVs
    exact ⟨_, _, rfl, r, h2⟩
  | x :: ds, vs, k + 1, h => by
    unfold RVs at h
    obtain ⟨y, ys, rfl, h1, h2⟩ := h
    rw [List.set_cons_succ, List.set_cons_succ]
    unfold RVs
    exact ⟨y, _, rfl, h1, RVs.set r k h2⟩
theorem ok_set : SetOk X J fSet := by
  refine ⟨_, set_list, fun o i v ov iv dv H M S W Q s ro ri rv h => ?_⟩
  unfold fSet at h
  cases q : celS S ov with
  | none => rw [q] at h; exact h.elim
  | some p =>
    obtain ⟨n, xs⟩ := p
    rw [q] at h
    cases iv with
    | int k =>
      cases q2 : ixN xs.length k with
      | none => simp only [q2] at h; exact h.elim
      | some j =>
        simp only [q2] at h
        cases c : okW J.fbs n dv with
        | false => simp only [c, cond_false] at h; exact h.elim
        | true =>
          simp only [c, cond_true] at h
          obtain ⟨a, vs, rfl, h1, h2, h3, h4⟩ := celS_ok s ro q
          obtain ⟨e, s'⟩ := s.write h2 h1 (RVs.set rv j h4) fun b hb hn => fitL_all.mpr fun d hd => by
            rcases List.mem_or_eq_of_mem_set hd with z | z
            · exact fitL_all.mp ((s.cl b hb).2 n _ hn h2) d z
            · rw [z]; exact okW_fit c hb hn
          exact ⟨a, vs, k, j, rfl, rv_int ri, h3, by rw [RVs.len h4]; exact q2, h .non _ M e s' mk_non⟩
    | _ => exact h.elim

/-! t.index(y) -/
def findF (y : D) : List D → Option Nat
  | [] => none
  | x :: r => bif eqF x y then some 0 else (findF y r).map (· + 1)
def fIndexT (_ : List Nat) (d : D) (ds : List D) (S : Sto) : Res := match d, ds with
  | .tup xs, [y] => bif flatD y && xs.all flatD then match findF y xs with
    | some j => .ok (.int (j : Nat)) S
    | none => .bad else .bad
  | _, _ => .bad
theorem findF_ok {K : PySem.W.Frag} {H : Hp} {M : Mp} {y : D} {v : V} (ry : RV K H M y v) (fy : flatD y = true) : ∀ {ds : List D} {vs : List V} {j : Nat}, RVs K H M ds vs → ds.all flatD = true → findF y ds = some j →
    ∃ z, vs[j]? = some z ∧ eqV z v = true ∧ ∀ (m : Nat) (z' : V), m < j → vs[m]? = some z' → eqV z' v = false
  | [], _, _, _, _, h => by cases h
  | x :: ds, vs, j, r, f, h => by
    unfold RVs at r
    obtain ⟨u, us, rfl, r1, r2⟩ := r
    rw [List.all_cons, Bool.and_eq_true] at f
    have e := (flat_ok r1 f.1 ry fy).2
    unfold findF at h
    cases c : eqF x y with
    | true =>
      simp only [c, cond_true] at h
      cases h
      exact ⟨u, rfl, by rw [e, c], fun m z' hm => absurd hm (Nat.not_lt_zero _)⟩
    | false =>
      simp only [c, cond_false] at h
      cases q : findF y ds with
      | none => rw [q] at h; cases h
      | some k =>
        rw [q] at h
        cases h
        obtain ⟨z, h1, h2, h3⟩ := findF_ok ry fy r2 f.2 q
        refine ⟨z, by simpa using h1, h2, fun m z' hm hz => ?_⟩
        cases m with
        | zero => simp at hz; subst hz; rw [e, c]
        | succ m => exact h3 m z' (Nat.lt_of_succ_lt_succ hm) (by simpa using hz)
theorem ok_indexT : MtOk X J "tuple" "tuple.index" isTupD fIndexT := by
  refine ⟨_, mt_indexT, fun x dx H M S s r h => ?_, fun x xs dx ds H M S W Q s rx rs h => ?_⟩
  · cases dx with
    | tup ds =>
      obtain ⟨a, vs, e, h1, _⟩ := rv_tup r
      exact .inr ⟨rfl, a, vs, e, h1⟩
    | _ => cases h
  · cases dx with
    | tup ys =>
      match ds, rs, h with
      | [], _, h => exact h.elim
      | _ :: _ :: _, _, h => exact h.elim
      | [y], rs, h =>
        unfold RVs at rs
        obtain ⟨v, vr, rfl, r1, r2⟩ := rs
        unfold RVs at r2
        subst r2
        unfold fIndexT at h
        cases c : (flatD y && ys.all flatD) with
        | false => simp only [c, cond_false] at h; exact h.elim
        | true =>
          simp only [c, cond_true] at h
          rw [Bool.and_eq_true] at c
          cases q : findF y ys with
          | none => simp only [q] at h; exact h.elim
          | some j =>
            simp only [q] at h
            obtain ⟨a, vs, e, h1, h2⟩ := rv_tup rx
            obtain ⟨z, q1, q2, q3⟩ := findF_ok r1 c.1 h2 c.2 q
            exact ⟨a, vs, v, j, z, e, rfl, h1.seq, (flat_ok r1 c.1 r1 c.1).1, (inV_ok r1 c.1 h2 c.2).1, q1, q2, q3, h.fin s mk_int⟩
    | _ => exact h.elim

/-! ### what is walked -/
def iSeq (a : SemE) : SemI := fun c g ρ S => (a c g ρ S).bind fun d S1 => match d with
  | .tup ds => .ok ds S1
  | .lst ds => .ok ds S1
  | .fix ds => .ok ds S1
  | _ => .bad
theorem itms_tup {K : PySem.W.Frag} {H : Hp} {M : Mp} {a : Addr} {ds : List D} {vs : List V} (h : Tp K H a vs) (r : RVs K H M ds vs) : Itms K (Itt K a) H M ds := by
  have hl := RVs.len r
  refine ⟨fun H => SqT K H a vs, YAt vs, ?_, fun H1 M1 e => (h.mono e.frz).seq, ?_⟩
  · rw [← hl]; exact walk_tup
  · rintro i H1 M1 x H2 e hi ⟨rfl, hx⟩
    obtain ⟨d, h1, h2⟩ := RVs.get' (RVs.ext e ds vs r) hx
    exact ⟨.inl rfl, d, h1, h2⟩
theorem itms_lst {K : PySem.W.Frag} {H : Hp} {M : Mp} {a : Addr} {ds : List D} {vs : List V} (h : ∀ H1 M1, Ext H M H1 M1 → SqL K H1 a vs) (r : RVs K H M ds vs) : Itms K (Itl K a) H M ds := by
  have hl := RVs.len r
  refine ⟨fun H => SqL K H a vs, YAt vs, ?_, fun H1 M1 e => h H1 M1 e, ?_⟩
  · rw [← hl]; exact walk_list
  · rintro i H1 M1 x H2 e hi ⟨rfl, hx⟩
    obtain ⟨d, h1, h2⟩ := RVs.get' (RVs.ext e ds vs r) hx
    exact ⟨.inl rfl, d, h1, h2⟩
theorem itms_enum {K : PySem.W.Frag} {H : Hp} {M : Mp} {It : It} {G : Hp → Prop} {ds : List D} {vs : List V} (w : Walk It vs.length G (YPairF (fun i => some (.int (i : Nat))) (fun i => vs[i]?))) (h : ∀ H1 M1, Ext H M H1 M1 → G H1) (r : RVs K H M ds vs) :
    Itms K It H M (ds.zipIdx.map fun p => D.tup [.int (p.2 : Nat), p.1]) := by
  have hl := RVs.len r
  refine ⟨G, YPairF (fun i => some (.int (i : Nat))) (fun i => vs[i]?), ?_, h, ?_⟩
  · rw [List.length_map, List.length_zipIdx, ← hl]; exact w
  · rintro i H1 M1 x H2 e hi ⟨T, x0, y0, o, rfl, hT, ho, rfl, e1, e2⟩
    cases e1
    obtain ⟨d, h1, h2⟩ := RVs.get' (RVs.ext e ds vs r) e2
    refine ⟨.inr ⟨T, _, hT, rfl⟩, .tup [.int (i : Nat), d], ?_, ?_⟩
    · rw [List.getElem?_map, List.getElem?_zipIdx, h1]; simp
    · unfold RV
      refine ⟨T, _, rfl, .inl ⟨o, upd_same, ho⟩, ?_⟩
      unfold RVs
      refine ⟨_, _, rfl, mk_int, ?_⟩
      unfold RVs
      exact ⟨_, _, rfl, h2.ext (Ext.new hT), by unfold RVs; rfl⟩
/-- the walk of a tuple, or of a list -/
theorem PI.imp {tg iter : Expr} {t t' : TI} (h : PI X tg iter t) (i : ∀ σ H Q, t' σ H Q → t σ H Q) : PI X tg iter t' := ⟨fun pins s σ H R I q => h.run pins s σ H R I (i _ _ _ q)⟩
theorem PI.or {tg iter : Expr} {t t' : TI} (h : PI X tg iter t) (h' : PI X tg iter t') : PI X tg iter (fun σ H Q => t σ H Q ∨ t' σ H Q) :=
  ⟨fun pins s σ H R I q => q.elim (fun q => h.run pins s σ H R I q) fun q => h'.run pins s σ H R I q⟩
/-- a list or a tuple walked: which of both is known only behind its evaluation -/
def iSq (K : PySem.W.Frag) (tl : TE) : TI := fun σ H R => tl σ H fun x H1 => ∃ a, x = .ref a ∧ (((∃ xs, SqL K H1 a xs) ∧ R (Itl K a) H1) ∨ ((∃ xs, SqT K H1 a xs) ∧ R (Itt K a) H1))
theorem pi_sq {tg l : Expr} {tl : TE} (hl : PE X l tl) : PI X tg l (iSq X.K tl) := by
  refine ⟨fun pins s σ H R I h => thn (hl.run pins s σ H _ I h) ?_⟩
  rintro v s1 ⟨x, H1, I1, r1, a, e, q⟩
  subst e
  cases r1
  have fresh : ∀ b ∈ [s1.heap.objs.size], FpOk X pins H1 b := fun b hb => by
    have e : b = s1.heap.objs.size := by simpa using hb
    subst e
    exact I1.fpOk (Nat.le_refl _) (I1.hok.fresh (Nat.le_refl _))
  rcases q with ⟨⟨xs, hq⟩, q⟩ | ⟨⟨xs, hq⟩, q⟩
  · obtain ⟨its, rv, p, hz⟩ := I1.list hq
    exact wpAny_pyIter_list p.isList ⟨s1.heap.objs.size, [s1.heap.objs.size], _, _, H1, rfl, I1.kept (t' := s1.toks) fun b o e => Heap.get?_push_of_some _ e, turn_list a _, ⟨_, Heap.get?_push_size _ rfl, rfl, rfl⟩, fresh, q⟩
  · obtain ⟨its, rv, p, hz⟩ := I1.tuple hq
    exact wpAny_pyIter_tuple (show s1.heap.IsTuple a its.toArray from p) ⟨s1.heap.objs.size, [s1.heap.objs.size], _, _, H1, rfl, I1.kept (t' := s1.toks) fun b o e => Heap.get?_push_of_some _ e, turn_tuple a _, ⟨_, Heap.get?_push_size _ rfl, rfl, rfl⟩, fresh, q⟩
theorem pi_seqR {tg : Expr} (ha : PE X a (RE X.K J W fa)) : PI X tg a (RI X.K J W (iSeq fa)) := by
  refine PI.imp (pi_sq ha) fun σ H R h => ?_
  obtain ⟨M, ρ, S, s, e, h⟩ := h
  refine ⟨M, ρ, S, s, e, (RP.bind (R := RV X.K) h).mono (fun x H1 _ _ _ _ _ _ h1 => ?_) fun _ _ _ q => q⟩
  obtain ⟨M1, dx, S1, e1, s1, rx, h1⟩ := h1
  cases dx with
  | tup ds =>
    obtain ⟨p, vs, rfl, q1, q2⟩ := rv_tup rx
    exact ⟨p, rfl, .inr ⟨⟨vs, q1.seq⟩, h1.fin s1 (itms_tup q1 q2)⟩⟩
  | lst ds =>
    have rx' := rx
    unfold RV at rx'
    obtain ⟨p, vs, rfl, q1, q2, q3, q4⟩ := rx'
    exact ⟨p, rfl, .inl ⟨⟨vs, .of q1⟩, h1.fin s1 (itms_lst (fun H2 M2 e2 => .of (e2.keep _ _ q1 q2)) q4)⟩⟩
  | fix ds =>
    have rx' := rx
    unfold RV at rx'
    obtain ⟨p, vs, rfl, q1, q4⟩ := rx'
    exact ⟨p, rfl, .inl ⟨⟨vs, q1.seq⟩, h1.fin s1 (itms_lst (fun H2 M2 e2 => Fix.seq (q1.imp (fun ⟨o, q⟩ => ⟨o, e2.frz _ _ _ q⟩) id)) q4)⟩⟩
  | _ => exact h1.elim
/-- enumerate(a) -/
def iEnumR (a : SemE) : SemI := fun c g ρ S => (iSeq a c g ρ S).bind fun ds S1 => .ok (ds.zipIdx.map fun p => D.tup [.int (p.2 : Nat), p.1]) S1
theorem pi_enumR {elts : List Expr} {kk : Nat} {p tpos : Pos} (hg : Gl X "enumerate") (hm : X.mg "enumerate" = none) (ha : PE X a (RE X.K J W fa)) (hs : starEach [a] X.env = [(false, eval a X.env)]) :
    PI X (.Tuple elts kk tpos) (.Call (.Name "enumerate" p) [a] [] pos) (RI X.K J W (iEnumR fa)) := by
  refine PI.imp (pi_enumA hg hm (pa_cons ha pa_nil hs) hs) fun σ H R h => ?_
  obtain ⟨M, ρ, S, s, e, h⟩ := h
  unfold iEnumR iSeq at h
  rw [Rs.bind_assoc] at h
  refine ⟨M, ρ, S, s, e, (RP.bind (R := RV X.K) h).mono (fun x H1 _ _ _ _ _ _ h1 => ?_) fun _ _ _ q => q⟩
  obtain ⟨M1, dx, S1, e1, s1, rx, h1⟩ := h1
  cases dx with
  | tup ds =>
    obtain ⟨p, vs, rfl, q1, q2⟩ := rv_tup rx
    exact ⟨p, vs, rfl, .inr ⟨q1.seq, h1.fin s1 (itms_enum walk_enumT (fun H2 M2 e2 => (q1.mono e2.frz).seq) q2)⟩⟩
  | lst ds =>
    have rx' := rx
    unfold RV at rx'
    obtain ⟨p, vs, rfl, q1, q2, q3, q4⟩ := rx'
    exact ⟨p, vs, rfl, .inl ⟨.of q1, h1.fin s1 (itms_enum walk_enumL (fun H2 M2 e2 => .of (e2.keep _ _ q1 q2)) q4)⟩⟩
  | fix ds =>
    have rx' := rx
    unfold RV at rx'
    obtain ⟨p, vs, rfl, q1, q4⟩ := rx'
    exact ⟨p, vs, rfl, .inl ⟨q1.seq, h1.fin s1 (itms_enum walk_enumL (fun H2 M2 e2 => Fix.seq (q1.imp (fun ⟨o, q⟩ => ⟨o, e2.frz _ _ _ q⟩) id)) q4)⟩⟩
  | _ => exact h1.elim
/-- range(a), range(a, b) -/
def small62 (i : Int) : Bool := decide (-(2 ^ 62) ≤ i) && decide (i < 2 ^ 62)
def iRng1R (a : SemE) : SemI := fun c g ρ S => (a c g ρ S).bind fun d S1 => match d with
  | .int j => bif small62 j then .ok (rngD 0 j) S1 else .bad
  | _ => .bad
def iRng2R (a b : SemE) : SemI := fun c g ρ S => (a c g ρ S).bind fun d S1 => (b c g ρ S1).bind fun d' S2 => match d, d' with
  | .int i, .int j => bif small62 i && small62 j then .ok (rngD i j) S2 else .bad
  | _, _ => .bad
theorem itms_rng {K : PySem.W.Frag} {H : Hp} {M : Mp} {lo hi : Int} : Itms K (Itr lo (hi - lo).toNat) H M (rngD lo hi) := by
  refine ⟨fun _ => True, YFn fun i => .int (lo + i), ?_, fun _ _ _ => trivial, ?_⟩
  · unfold rngD; rw [List.length_map, List.length_range]; exact walk_range
  · rintro i H1 M1 x H2 e hi ⟨rfl, rfl⟩
    unfold rngD at hi ⊢
    rw [List.length_map, List.length_range] at hi
    refine ⟨.inl rfl, .int (lo + i), ?_, mk_int⟩
    rw [List.getElem?_map, List.getElem?_range hi]
    rfl
theorem pi_rng1R {tg : Expr} {p : Pos} (hg : Gl X "range") (hm : X.mg "range" = none) (ha : PE X a (RE X.K J W fa)) (hs : starEach [a] X.env = [(false, eval a X.env)]) : PI X tg (.Call (.Name "range" p) [a] [] pos) (RI X.K J W (iRng1R fa)) := by
  refine PI.imp (pi_range1 hg hm (pa_cons ha pa_nil hs) hs) fun σ H R h => ?_
  obtain ⟨M, ρ, S, s, e, h⟩ := h
  refine ⟨M, ρ, S, s, e, (RP.bind (R := RV X.K) h).mono (fun x H1 _ _ _ _ _ _ h1 => ?_) fun _ _ _ q => q⟩
  obtain ⟨M1, dx, S1, e1, s1, rx, h1⟩ := h1
  cases dx with
  | int j =>
    cases c : small62 j with
    | false => simp only [c, cond_false] at h1; exact h1.elim
    | true =>
      simp only [c, cond_true] at h1
      unfold small62 at c
      rw [Bool.and_eq_true] at c
      rw [rv_int rx]
      refine ⟨j, rfl, of_decide_eq_true c.1, of_decide_eq_true c.2, ?_⟩
      have q := h1.fin s1 (v := Itr 0 (j - 0).toNat) itms_rng
      rw [Int.sub_zero] at q
      exact q
  | _ => exact h1.elim
theorem pi_rng2R {tg : Expr} {p : Pos} (hg : Gl X "range") (hm : X.mg "range" = none) (ha : PE X a (RE X.K J W fa)) (hb : PE X b (RE X.K J W fb)) (hs : starEach [a, b] X.env = [(false, eval a X.env), (false, eval b X.env)]) (hs2 : starEach [b] X.env = [(false, eval b X.env)]) :
    PI X tg (.Call (.Name "range" p) [a, b] [] pos) (RI X.K J W (iRng2R fa fb)) := by
  refine PI.imp (pi_range2 hg hm (pa_cons ha (pa_cons hb pa_nil hs2) (by rw [hs, hs2])) hs hs2) fun σ H R h => ?_
  obtain ⟨M, ρ, S, s, e, h⟩ := h
  refine ⟨M, ρ, S, s, e, (RP.bind (R := RV X.K) h).mono (fun x H1 _ _ _ _ _ _ h1 => ?_) fun _ _ _ q => q⟩
  obtain ⟨M1, dx, S1, e1, s1, rx, h1⟩ := h1
  refine ⟨M1, ρ, S1, s1, e.ext e1, (RP.bind (R := RV X.K) h1).mono (fun y H2 _ _ _ _ _ _ h2 => ?_) fun _ _ _ q => q⟩
  obtain ⟨M2, dy, S2, e2, s2, ry, h2⟩ := h2
  cases dx with
  | int i =>
    cases dy with
    | int j =>
      cases c : (small62 i && small62 j) with
      | false => simp only [c, cond_false] at h2; exact h2.elim
      | true =>
        simp only [c, cond_true] at h2
        unfold small62 at c
        simp only [Bool.and_eq_true, decide_eq_true_eq] at c
        rw [rv_int rx, rv_int ry]
        exact ⟨i, j, rfl, ⟨c.1.1, c.1.2, c.2.1, c.2.2⟩, h2.fin s2 itms_rng⟩
    | _ => exact h2.elim
  | _ => exact h2.elim
end
end Lk

namespace Lk
open PySem PySem.Spec PyProof.Rows L2

/-! ### side conditions, by the form of the syntax -/
def notStar : Expr → Bool
  | .Starred .. => false
  | _ => true
def notSet : Expr → Bool
  | .Set .. => false
  | _ => true
def notComp : Expr → Bool
  | .ListComp .. => false
  | .SetComp .. => false
  | .DictComp .. => false
  | _ => true
def notSlice : Expr → Bool
  | .Slice .. => false
  | _ => true
def plainT : Expr → Bool
  | .UnaryOp .Not _ _ => false
  | .BoolOp .. => false
  | .IfExp .. => false
  | .Compare .. => false
  | _ => true
theorem star_cons {e : Expr} (h : notStar e = true) (es : List Expr) (env : PySem.Env) : starEach (e :: es) env = (false, eval e env) :: starEach es env := by
  cases e <;> first | rfl | (exact absurd h Bool.false_ne_true)
theorem star_all {es : List Expr} (h : es.all notStar = true) (pos : Pos) (env : PySem.Env) : (backTo pos (starEach es env)).any (·.1) = false := by
  induction es with
  | nil => rfl
  | cons e es ih =>
    rw [List.all_cons, Bool.and_eq_true] at h
    rw [star_cons h.1]
    exact ih h.2
theorem star_few {es : List Expr} (h : es.all notStar = true) (pos : Pos) (env : PySem.Env) : (backTo pos (starEach es env)).all (fun x => !x.1) = true := by
  induction es with
  | nil => rfl
  | cons e es ih =>
    rw [List.all_cons, Bool.and_eq_true] at h
    rw [star_cons h.1]
    exact ih h.2
theorem folded_of {e : Expr} (h : notSet e = true) (env : PySem.Env) (x : Value) : foldedSetIterable e env x = pure x := by
  cases e <;> first | rfl | (exact absurd h Bool.false_ne_true)
theorem behind_of {e : Expr} (h : notSet e = true) (op : CmpOp) : behindInMarks op e = false := by
  cases e <;> first | rfl | (exact absurd h Bool.false_ne_true)
theorem swaps_of {e : Expr} (h : notComp e = true) (t : Option Expr) (l : Nat) (env : PySem.Env) : swapsWith e t l env = pure false := by
  cases e <;> first | rfl | (exact absurd h Bool.false_ne_true)
theorem plainIx_of {e : Expr} (h : notSlice e = true) : PlainIx e := by
  intro o i
  cases e <;> first | rfl | (exact absurd h Bool.false_ne_true)
theorem isTrue_of {e : Expr} (h : plainT e = true) (env : PySem.Env) (whole : Sem Value) : isTrue e env whole = (do let v ← whole; standAt e.pos; holding [v] (truthy v)) := by
  cases e with
  | UnaryOp op _ _ => cases op <;> first | rfl | (exact absurd h Bool.false_ne_true)
  | BoolOp _ _ _ => exact absurd h Bool.false_ne_true
  | IfExp _ _ _ _ => exact absurd h Bool.false_ne_true
  | Compare _ _ _ _ => exact absurd h Bool.false_ne_true
  | _ => rfl
def plainO : Expr → Bool
  | .Call (.Name _ _) [] [] _ => false
  | _ => true
theorem attr_of' {o : Expr} (h : plainO o = true) (name : Str) (env : PySem.Env) : attributeBase o name env (eval o env) = eval o env := by
  unfold attributeBase
  split
  · exact absurd h Bool.false_ne_true
  · rfl
def nameOk (x : Str) : Bool := !(x == ("__debug__" : Str)) && !(x == ("__classdict__" : Str)) && !decide (x = ("__name__" : Str))
theorem nameOk_d {x : Str} (h : nameOk x = true) : (x == ("__debug__" : Str)) = false := by
  unfold nameOk at h
  simp only [Bool.and_eq_true, Bool.not_eq_true'] at h
  exact h.1.1
theorem nameOk_c {x : Str} (h : nameOk x = true) : (x == ("__classdict__" : Str)) = false := by
  unfold nameOk at h
  simp only [Bool.and_eq_true, Bool.not_eq_true'] at h
  exact h.1.2
theorem nameOk_n {x : Str} (h : nameOk x = true) : x ≠ "__name__" := by
  unfold nameOk at h
  simp only [Bool.and_eq_true, Bool.not_eq_true', decide_eq_false_iff_not] at h
  exact h.2
def ixOf : (N : List Str) → (x : Str) → Option { i : Nat // N[i]? = some x }
  | [], _ => none
  | y :: N, x => if h : y = x then some ⟨0, by rw [h]; rfl⟩ else match ixOf N x with
    | some ⟨i, e⟩ => some ⟨i + 1, by simpa using e⟩
    | none => none
def visB (sc : Scope) (x : Str) : Bool := decide (sc.names.lookup x = some .local) || decide (sc.names.lookup x = some .cell) || decide (sc.names.lookup x = some .free)
theorem vis_of {sc : Scope} {x : Str} (h : visB sc x = true) : Vis sc x := by
  unfold visB at h
  simp only [Bool.or_eq_true, decide_eq_true_eq] at h
  rcases h with (h | h) | h
  · exact .inl h
  · exact .inr (.inl h)
  · exact .inr (.inr h)
def locB (C : SC) (x : Str) : Bool := decide (C.sc.names.lookup x = some .local) || (decide (C.sc.names.lookup x = some .cell) && C.fnok x)
def glB (C : SC) (x : Str) : Bool := decide (C.sc.names.lookup x = some .globalImplicit) && nameOk x

section
variable {X : Cx} {W : WX} {G : Gx} {J : Inf} {lv : Nat} {C : SC}
theorem Good.vis (g : Good X W G J lv C) {x : Str} (h : visB C.sc x = true) : Vis X.env.scope x := by rw [g.sc]; exact vis_of h
theorem Good.gl (g : Good X W G J lv C) {x : Str} (h : glB C x = true) : Gl X x := by
  unfold glB at h
  rw [Bool.and_eq_true] at h
  show X.env.scope.names.lookup x = _
  rw [g.sc]
  exact of_decide_eq_true h.1
theorem glB_ok {x : Str} (h : glB C x = true) : nameOk x = true := by
  unfold glB at h
  rw [Bool.and_eq_true] at h
  exact h.2
theorem Good.loc (g : Good X W G J lv C) {x : Str} (h : locB C x = true) : Loc X.env.scope x ∧ (X.fn x = true ∨ X.env.scope.names.lookup x = some .local) := by
  unfold locB at h
  simp only [Bool.or_eq_true, Bool.and_eq_true, decide_eq_true_eq] at h
  rw [g.sc]
  rcases h with h | ⟨h1, h2⟩
  · exact ⟨.inl h, .inr h⟩
  · exact ⟨.inr h1, .inl (g.fnok x h2)⟩
theorem Good.ndX (g : Good X W G J lv C) : X.N.Nodup := by rw [g.hN]; exact g.nd
theorem Good.ix (g : Good X W G J lv C) {i : Nat} {x : Str} (h : C.N[i]? = some x) : X.N[i]? = some x := by rw [g.hN]; exact h
theorem Good.u128 (g : Good X W G J lv C) (h : C.hot = false) : X.A.units + 128 < cLine := by
  have := (g.room h).un
  omega
end

/-! ### certified forms -/
def TopX (X : Cx) : Prop := X.stack = X.env :: X.outer ∧ X.env.frame = some X.env.locals
structure SE (G : Gx) (C : SC) (e : Expr) where
  f : SemE
  ok : ∀ (X : Cx) (W : WX) (J : Inf) (lv : Nat), Good X W G J lv C → PE X e (RE X.K J W f)
structure ST (G : Gx) (C : SC) (e : Expr) where
  f : SemT
  ok : ∀ (X : Cx) (W : WX) (J : Inf) (lv : Nat), Good X W G J lv C → PT X e (RT X.K J W f)
structure SA (G : Gx) (C : SC) (es : List Expr) where
  f : SemEs
  st : es.all notStar = true
  ok : ∀ (X : Cx) (W : WX) (J : Inf) (lv : Nat), Good X W G J lv C → PA X es (REs X.K J W f)
structure SI (G : Gx) (C : SC) (tg iter : Expr) where
  f : SemI
  ok : ∀ (X : Cx) (W : WX) (J : Inf) (lv : Nat), Good X W G J lv C → PI X tg iter (RI X.K J W f)
structure SG (G : Gx) (C : SC) (vs : List Nat) (tg : Expr) where
  f : SemG
  ok : ∀ (X : Cx) (W : WX) (J : Inf) (lv : Nat), Good X W G J lv C → PG X tg (RG X.K J.fbs vs f)
structure SGs (G : Gx) (C : SC) (vs : List Nat) (tgs : List Expr) where
  f : List D → Env → Option Env
  len : ∀ env : PySem.Env, (assignEach tgs env).length = tgs.length ∧ (assignEach tgs env).findIdx? (·.1) = none
  ok : ∀ (X : Cx) (W : WX) (J : Inf) (lv : Nat), Good X W G J lv C → PGs X tgs (RGs X.K J.fbs vs f)
structure SS (G : Gx) (C : SC) (st : Stmt) where
  f : SemS
  ok : ∀ (X : Cx) (W : WX) (J : Inf) (lv : Nat), Good X W G J lv C → TopX X → PS X st (RSt X.K J W f)
structure SSs (G : Gx) (C : SC) (sts : List Stmt) where
  f : SemS
  ok : ∀ (X : Cx) (W : WX) (J : Inf) (lv : Nat), Good X W G J lv C → TopX X → PSs X sts (RSt X.K J W f)
abbrev FE (G : Gx) := (C : SC) → (e : Expr) → Option (SE G C e)
abbrev FT (G : Gx) := (C : SC) → (e : Expr) → Option (ST G C e)

section
variable {G : Gx} (rE : FE G) (rT : FT G)
def cA (C : SC) : (es : List Expr) → Option (SA G C es)
  | [] => some ⟨esNil, rfl, fun X W J lv g => PA.imp pa_nil fun σ H Q h => re_nil h⟩
  | e :: es => match rE C e, cA C es with
    | some a, some r => if h : notStar e = true then
        some ⟨esCons a.f r.f, by rw [List.all_cons, h, r.st]; rfl, fun X W J lv g => PA.imp (pa_cons (a.ok X W J lv g) (r.ok X W J lv g) (star_cons h es X.env)) fun σ H Q h => re_cons h⟩
      else none
    | _, _ => none
/-- a name -/
def cName (C : SC) (x : Str) (pos : Pos) : Option (SE G C (.Name x pos)) :=
  if hn : nameOk x = true then
    match ixOf C.N x with
    | some ⟨i, hi⟩ => if hv : visB C.sc x = true then
        some ⟨eVar i, fun X W J lv g => PE.imp (pe_var (g.ix hi) (g.vis hv) (nameOk_d hn) (nameOk_c hn)) fun σ H Q h => re_var h⟩ else none
    | none => match hd : G.csts.lookup x with
      | some d => if hg : glB C x = true then
          some ⟨eCst d, fun X W J lv g => by
            obtain ⟨u, v, h1, h2, h3⟩ := g.facts.cst x d hd
            exact PE.imp (pe_glob (g.gl hg) h1 h2 (nameOk_d hn)) fun σ H Q h => re_cst h3 h⟩ else none
      | none => none
  else none
def cConst (C : SC) (c : Const) (k : Nat) (pos : Pos) : Option (SE G C (.Constant c k pos)) := match c with
  | .int i => some ⟨eCst (.int i), fun X W J lv g => PE.imp pe_int fun σ H Q h => re_cst (fun _ _ => mk_int) h⟩
  | .bool i => some ⟨eCst (.bl i), fun X W J lv g => PE.imp pe_bl fun σ H Q h => re_cst (fun _ _ => mk_bl) h⟩
  | .str i => some ⟨eCst (.str i), fun X W J lv g => PE.imp pe_str fun σ H Q h => re_cst (fun _ _ => mk_str) h⟩
  | .none => some ⟨eCst .non, fun X W J lv g => PE.imp pe_non fun σ H Q h => re_cst (fun _ _ => mk_non) h⟩
  | _ => none
/-- the operators -/
def binF (mu : Bool) : (op : Operator) → Option { f : D → D → Sto → Res // ∀ X J, OpOk X J (binaryOp op) f }
  | .Add => some ⟨fAdd mu, fun _ _ => ok_add⟩
  | .Sub => some ⟨fSub, fun _ _ => ok_sub⟩
  | .Mult => some ⟨fMul mu, fun _ _ => ok_mul⟩
  | .FloorDiv => some ⟨fDiv, fun _ _ => ok_div⟩
  | .Mod => some ⟨fMod, fun _ _ => ok_mod⟩
  | .Pow => some ⟨fPow, fun _ _ => ok_pow⟩
  | .LShift => some ⟨fShl, fun _ _ => ok_shl⟩
  | .RShift => some ⟨fShr, fun _ _ => ok_shr⟩
  | .BitAnd => some ⟨fAnd, fun _ _ => ok_and⟩
  | .BitOr => some ⟨fOr, fun _ _ => ok_or⟩
  | .BitXor => some ⟨fXor, fun _ _ => ok_xor⟩
  | _ => none
def augF : (op : Operator) → Option { f : D → D → Sto → Res // ∀ X J, OpOk X J (inplaceOp op) f }
  | .Add => some ⟨fIAdd, fun _ _ => ok_iadd⟩
  | .Sub => some ⟨fSub, fun _ _ => ok_isub⟩
  | .LShift => some ⟨fShl, fun _ _ => ok_ishl⟩
  | .RShift => some ⟨fShr, fun _ _ => ok_ishr⟩
  | .BitAnd => some ⟨fAnd, fun _ _ => ok_iand⟩
  | .BitOr => some ⟨fOr, fun _ _ => ok_ior⟩
  | .BitXor => some ⟨fXor, fun _ _ => ok_ixor⟩
  | _ => none
def cmpF : (op : CmpOp) → Option { f : D → D → Sto → Rs Bool // ∀ X J, X.A.units + 64 < cLine → CmpOk X J op f }
  | .Eq => some ⟨fEq false, fun _ _ h => ok_eq h⟩
  | .NotEq => some ⟨fEq true, fun _ _ h => ok_ne h⟩
  | .Lt => some ⟨fLt, fun _ _ _ => ok_lt⟩
  | .LtE => some ⟨fLe, fun _ _ _ => ok_le⟩
  | .Gt => some ⟨fGt, fun _ _ _ => ok_gt⟩
  | .GtE => some ⟨fGe, fun _ _ _ => ok_ge⟩
  | .In => some ⟨fIn false, fun _ _ _ => ok_in⟩
  | .NotIn => some ⟨fIn true, fun _ _ _ => ok_notin⟩
  | _ => none
def isNoneC : Expr → Bool
  | .Constant .none _ _ => true
  | _ => false
structure SCm (G : Gx) (C : SC) (a : Expr) (ops : List CmpOp) (bs : List Expr) (pos : Pos) where
  f : SemT
  okE : ∀ (X : Cx) (W : WX) (J : Inf) (lv : Nat), Good X W G J lv C → PE X (.Compare a ops bs pos) (RE X.K J W (eT f))
  okT : ∀ (X : Cx) (W : WX) (J : Inf) (lv : Nat), Good X W G J lv C → PT X (.Compare a ops bs pos) (RT X.K J W f)
def cCmp1 (C : SC) (a : Expr) (op : CmpOp) (b : Expr) (pos : Pos) : Option (SCm G C a [op] [b] pos) := match rE C a, rE C b, cmpF op with
  | some fa, some fb, some o => if h : notSet b = true then
      some ⟨t2 o.1 fa.f fb.f, fun X W J lv g => pe_t2 (o.2 X J g.units) (fa.ok X W J lv g) (fb.ok X W J lv g) (behind_of h op), fun X W J lv g => pt_t2 (o.2 X J g.units) (fa.ok X W J lv g) (fb.ok X W J lv g) (behind_of h op)⟩ else none
  | _, _, _ => none
def cCmp (C : SC) (a : Expr) (pos : Pos) : (ops : List CmpOp) → (bs : List Expr) → Option (SCm G C a ops bs pos)
  | [.Is], [.Constant .none k p] => match rE C a with
    | some fa => some ⟨tt (isNon false) fa.f, fun X W J lv g => pe_isNon (fa.ok X W J lv g), fun X W J lv g => pt_isNon (fa.ok X W J lv g)⟩
    | none => none
  | [.IsNot], [.Constant .none k p] => match rE C a with
    | some fa => some ⟨tt (isNon true) fa.f, fun X W J lv g => pe_notNon (fa.ok X W J lv g), fun X W J lv g => pt_notNon (fa.ok X W J lv g)⟩
    | none => none
  | [op], [b] => cCmp1 rE C a op b pos
  | [op, op'], [b, c] => match rE C a, rE C b, rE C c, cmpF op, cmpF op' with
    | some fa, some fb, some fc, some o, some o' => if h : notSet c = true then
        some ⟨t3 o.1 o'.1 fa.f fb.f fc.f, fun X W J lv g => pe_t3 (o.2 X J g.units) (o'.2 X J g.units) (fa.ok X W J lv g) (fb.ok X W J lv g) (fc.ok X W J lv g) (behind_of h op'),
          fun X W J lv g => pt_t3 (o.2 X J g.units) (o'.2 X J g.units) (fa.ok X W J lv g) (fb.ok X W J lv g) (fc.ok X W J lv g) (behind_of h op')⟩ else none
    | _, _, _, _, _ => none
  | _, _ => none
end
end Lk

namespace Lk
open PySem PySem.Spec PyProof.Rows L2

def posIn (l : List Pos) (p : Pos) : Bool := l.any fun q => Nat.beq q.line p.line && Nat.beq q.col p.col && Nat.beq q.endLine p.endLine && Nat.beq q.endCol p.endCol
def fNeg : D → Sto → Res
  | .int i, S => .ok (.int (-i)) S
  | _, _ => .bad
def fNot : D → Sto → Res
  | .bl b, S => .ok (.bl (!b)) S
  | _, _ => .bad
def eAndV (a b : SemE) : SemE := fun c g ρ S => (a c g ρ S).bind fun x S1 => match x with
  | .bl k => bif k then b c g ρ S1 else .ok (.bl false) S1
  | _ => .bad
def eOrV (a b : SemE) : SemE := fun c g ρ S => (a c g ρ S).bind fun x S1 => match x with
  | .bl k => bif k then .ok (.bl true) S1 else b c g ρ S1
  | _ => .bad
section
variable {X : Cx} {J : Inf} {W : WX} {pos : Pos} {a b : Expr} {fa fb : SemE} {rest : List Expr}
theorem pe_negR (ha : PE X a (RE X.K J W fa)) : PE X (.UnaryOp .USub a pos) (RE X.K J W (e1 fNeg fa)) :=
  PE.imp (pe_un un_neg ha) fun σ H Q h => re_1 (r := fun x H Q => rU (fun i => .int (-i)) x H Q) (fun x dx H M S W Q s r hp => by
    cases dx with
    | int i => exact ⟨i, rv_int r, hp.fin s mk_int⟩
    | _ => exact hp.elim) h
theorem pe_notR (ha : PE X a (RE X.K J W fa)) : PE X (.UnaryOp .Not a pos) (RE X.K J W (e1 fNot fa)) :=
  PE.imp (pe_not ha) fun σ H Q h => re_1 (r := fun x H Q => ∃ c, x = .bl c ∧ Q (.bl (!c)) H) (fun x dx H M S W Q s r hp => by
    cases dx with
    | bl i => exact ⟨i, rv_bl r, hp.fin s mk_bl⟩
    | _ => exact hp.elim) h
theorem pe_andR (ha : PE X a (RE X.K J W fa)) (hb : PE X (.BoolOp .And (b :: rest) pos) (RE X.K J W fb)) : PE X (.BoolOp .And (a :: b :: rest) pos) (RE X.K J W (eAndV fa fb)) :=
  PE.imp (pe_and ha hb) fun σ H Q h => by
    obtain ⟨M, ρ, S, s, e, h⟩ := h
    refine ⟨M, ρ, S, s, e, (RP.bind (R := RV X.K) h).mono (fun x H1 _ _ _ _ _ _ h1 => ?_) fun _ _ _ q => q⟩
    obtain ⟨M1, dx, S1, e1, s1, rx, h1⟩ := h1
    cases dx with
    | bl k =>
      refine ⟨k, rv_bl rx, ?_⟩
      cases k with
      | true => rw [if_pos rfl]; exact ⟨M1, ρ, S1, s1, e.ext e1, h1⟩
      | false => rw [if_neg Bool.false_ne_true]; exact h1.fin s1 mk_bl
    | _ => exact h1.elim
theorem pe_orR (ha : PE X a (RE X.K J W fa)) (hb : PE X (.BoolOp .Or (b :: rest) pos) (RE X.K J W fb)) : PE X (.BoolOp .Or (a :: b :: rest) pos) (RE X.K J W (eOrV fa fb)) :=
  PE.imp (pe_or ha hb) fun σ H Q h => by
    obtain ⟨M, ρ, S, s, e, h⟩ := h
    refine ⟨M, ρ, S, s, e, (RP.bind (R := RV X.K) h).mono (fun x H1 _ _ _ _ _ _ h1 => ?_) fun _ _ _ q => q⟩
    obtain ⟨M1, dx, S1, e1, s1, rx, h1⟩ := h1
    cases dx with
    | bl k =>
      refine ⟨k, rv_bl rx, ?_⟩
      cases k with
      | false => rw [if_neg Bool.false_ne_true]; exact ⟨M1, ρ, S1, s1, e.ext e1, h1⟩
      | true => rw [if_pos rfl]; exact h1.fin s1 mk_bl
    | _ => exact h1.elim
end

section
variable {G : Gx} (rE : FE G) (rT : FT G)
def cAndE (C : SC) (pos : Pos) : (es : List Expr) → Option (SE G C (.BoolOp .And es pos))
  | [] => none
  | [a] => match rE C a with
    | some fa => some ⟨fa.f, fun X W J lv g => pe_one (fa.ok X W J lv g)⟩
    | none => none
  | a :: b :: r => match rE C a, cAndE C pos (b :: r) with
    | some fa, some fb => some ⟨eAndV fa.f fb.f, fun X W J lv g => pe_andR (fa.ok X W J lv g) (fb.ok X W J lv g)⟩
    | _, _ => none
def cOrE (C : SC) (pos : Pos) : (es : List Expr) → Option (SE G C (.BoolOp .Or es pos))
  | [] => none
  | [a] => match rE C a with
    | some fa => some ⟨fa.f, fun X W J lv g => pe_one (fa.ok X W J lv g)⟩
    | none => none
  | a :: b :: r => match rE C a, cOrE C pos (b :: r) with
    | some fa, some fb => some ⟨eOrV fa.f fb.f, fun X W J lv g => pe_orR (fa.ok X W J lv g) (fb.ok X W J lv g)⟩
    | _, _ => none
def cBoolE (C : SC) (op : BoolOp) (pos : Pos) (es : List Expr) : Option (SE G C (.BoolOp op es pos)) := match op with
  | .And => cAndE rE C pos es
  | .Or => cOrE rE C pos es
structure SW (G : Gx) (C : SC) (e : Expr) where
  f : SemT
  ok : ∀ (X : Cx) (W : WX) (J : Inf) (lv : Nat), Good X W G J lv C → PW X e (RT X.K J W f)
def cAndT (C : SC) (pos : Pos) : (es : List Expr) → Option (SW G C (.BoolOp .And es pos))
  | [] => none
  | [a] => match rT C a with
    | some fa => some ⟨fa.f, fun X W J lv g => pw_and1 (fa.ok X W J lv g)⟩
    | none => none
  | a :: b :: r => match rT C a, cAndT C pos (b :: r) with
    | some fa, some fb => some ⟨tAndT fa.f fb.f, fun X W J lv g => pw_andT (fa.ok X W J lv g) (fb.ok X W J lv g)⟩
    | _, _ => none
def cOrT (C : SC) (pos : Pos) : (es : List Expr) → Option (SW G C (.BoolOp .Or es pos))
  | [] => none
  | [a] => match rT C a with
    | some fa => some ⟨fa.f, fun X W J lv g => pw_or1 (fa.ok X W J lv g)⟩
    | none => none
  | a :: b :: r => match rT C a, cOrT C pos (b :: r) with
    | some fa, some fb => some ⟨tOrT fa.f fb.f, fun X W J lv g => pw_orT (fa.ok X W J lv g) (fb.ok X W J lv g)⟩
    | _, _ => none
def cBoolT (C : SC) (op : BoolOp) (pos : Pos) (es : List Expr) : Option (SW G C (.BoolOp op es pos)) := match op with
  | .And => cAndT rT C pos es
  | .Or => cOrT rT C pos es

/-! ### built-ins by name -/
structure B1 (x : Str) where
  f : D → Sto → Res
  v : Value
  bt : bootBuiltins x = some v
  kd : (∃ id, v = .builtin id) ∨ ∃ T, v = .type T
  ok : ∀ (X : Cx) (J : Inf), X.calm = true → X.A.guards = some [] → X.A.units + 128 < cLine → C1Ok X J v f
def blt1 (mu : Bool) (x : Str) : Option (B1 x) :=
  if h : x = ("len" : Str) then some ⟨fLen, .builtin "len", by rw [h]; exact boot_len, .inl ⟨_, rfl⟩, fun _ _ _ _ _ => ok_len⟩
  else if h : x = ("int" : Str) then some ⟨fInt, .type "int", by rw [h]; exact boot_int, .inr ⟨_, rfl⟩, fun _ _ _ _ _ => ok_int⟩
  else if h : x = ("abs" : Str) then some ⟨fAbs, .builtin "abs", by rw [h]; exact boot_abs, .inl ⟨_, rfl⟩, fun _ _ _ _ _ => ok_abs⟩
  else if h : x = ("tuple" : Str) then some ⟨fTup, .type "tuple", by rw [h]; exact boot_tuple, .inr ⟨_, rfl⟩, fun _ _ _ _ _ => ok_tup⟩
  else if h : x = ("list" : Str) then some ⟨fList mu, .type "list", by rw [h]; exact boot_list, .inr ⟨_, rfl⟩, fun _ _ _ _ _ => ok_list⟩
  else if h : x = ("sorted" : Str) then some ⟨fSorted mu, .builtin "sorted", by rw [h]; exact boot_sorted, .inl ⟨_, rfl⟩, fun _ _ _ _ _ => ok_sorted⟩
  else if h : x = ("sum" : Str) then some ⟨fSum, .builtin "sum", by rw [h]; exact boot_sum, .inl ⟨_, rfl⟩, fun _ _ c _ _ => ok_sum c⟩
  else if h : x = ("any" : Str) then some ⟨fAny, .builtin "any", by rw [h]; exact boot_any, .inl ⟨_, rfl⟩, fun _ _ c _ _ => ok_any c⟩
  else if h : x = ("all" : Str) then some ⟨fAll, .builtin "all", by rw [h]; exact boot_all, .inl ⟨_, rfl⟩, fun _ _ c _ _ => ok_all c⟩
  else if h : x = ("repr" : Str) then some ⟨fRepr, .builtin "repr", by rw [h]; exact boot_repr, .inl ⟨_, rfl⟩, fun _ _ _ g u => ok_repr g u⟩
  else none
structure B2 (x : Str) where
  f : D → D → Sto → Res
  id : String
  bt : bootBuiltins x = some (.builtin id)
  ok : ∀ (X : Cx) (J : Inf), X.calm = true → C2Ok X J (.builtin id) f
def blt2 (x : Str) : Option (B2 x) :=
  if h : x = ("max" : Str) then some ⟨fMax2, "max", by rw [h]; exact boot_max, fun _ _ c => ok_max2 c⟩
  else if h : x = ("min" : Str) then some ⟨fMin2, "min", by rw [h]; exact boot_min, fun _ _ c => ok_min2 c⟩
  else none
structure BT (x : Str) where
  T : String
  bt : bootBuiltins x = some (.type T)
def bltT (x : Str) : Option (BT x) :=
  if h : x = ("int" : Str) then some ⟨"int", by rw [h]; exact boot_int⟩
  else if h : x = ("str" : Str) then some ⟨"str", by rw [h]; exact boot_str⟩
  else if h : x = ("bool" : Str) then some ⟨"bool", by rw [h]; exact boot_bool⟩
  else if h : x = ("tuple" : Str) then some ⟨"tuple", by rw [h]; exact boot_tuple⟩
  else if h : x = ("list" : Str) then some ⟨"list", by rw [h]; exact boot_list⟩
  else if h : x = ("dict" : Str) then some ⟨"dict", by rw [h]; exact boot_dict⟩
  else none
def isBlt (G : Gx) (C : SC) (x : Str) : Bool := G.blts.contains x && glB C x
theorem isBlt_m {X : Cx} {W : WX} {J : Inf} {lv : Nat} {C : SC} (g : Good X W G J lv C) {x : Str} (h : isBlt G C x = true) : X.mg x = none := by
  unfold isBlt at h
  rw [Bool.and_eq_true] at h
  exact g.facts.blt x (by simpa using h.1)
theorem isBlt_g {C : SC} {x : Str} (h : isBlt G C x = true) : glB C x = true := by
  unfold isBlt at h
  rw [Bool.and_eq_true] at h
  exact h.2
def cB1 (C : SC) (x : Str) (p : Pos) (e : Expr) (pos : Pos) : Option (SE G C (.Call (.Name x p) [e] [] pos)) :=
  match blt1 (posIn G.mus pos) x, rE C e with
  | some b, some a => if h : (!C.hot && isBlt G C x && notStar e) = true then
      some ⟨e1 b.f a.f, fun X W J lv g => by
        simp only [Bool.and_eq_true, Bool.not_eq_true'] at h
        obtain ⟨⟨h1, h2⟩, h3⟩ := h
        have hn := glB_ok (isBlt_g h2)
        have ok := b.ok X J (g.cc h1) g.guards (g.u128 h1)
        rcases b.kd with ⟨id, hk⟩ | ⟨T, hk⟩
        · rw [hk] at ok
          exact pe_c1B ok (g.gl (isBlt_g h2)) (isBlt_m g h2) (by rw [← hk]; exact b.bt) (a.ok X W J lv g) (nameOk_n hn) (nameOk_d hn) (star_cons h3 [] _)
        · rw [hk] at ok
          exact pe_c1T ok (g.gl (isBlt_g h2)) (isBlt_m g h2) (by rw [← hk]; exact b.bt) (a.ok X W J lv g) (nameOk_n hn) (nameOk_d hn) (star_cons h3 [] _)⟩
    else none
  | _, _ => none
def cB2 (C : SC) (x : Str) (p : Pos) (e e' : Expr) (pos : Pos) : Option (SE G C (.Call (.Name x p) [e, e'] [] pos)) :=
  match blt2 x, rE C e, rE C e' with
  | some b, some a, some a' => if h : (!C.hot && isBlt G C x && notStar e && notStar e') = true then
      some ⟨e2 b.f a.f a'.f, fun X W J lv g => by
        simp only [Bool.and_eq_true, Bool.not_eq_true'] at h
        obtain ⟨⟨⟨h1, h2⟩, h3⟩, h4⟩ := h
        have hn := glB_ok (isBlt_g h2)
        exact pe_c2B (b.ok X J (g.cc h1)) (g.gl (isBlt_g h2)) (isBlt_m g h2) b.bt (a.ok X W J lv g) (a'.ok X W J lv g) (nameOk_n hn) (nameOk_d hn) (star_cons h3 _ _) (star_cons h4 _ _)⟩
    else none
  | _, _, _ => none
def cIsi (C : SC) (p : Pos) (e : Expr) (y : Str) (p2 : Pos) (pos : Pos) : Option (SE G C (.Call (.Name "isinstance" p) [e, .Name y p2] [] pos)) :=
  match bltT y, rE C e with
  | some b, some a => if h : (isBlt G C "isinstance" && isBlt G C y && notStar e) = true then
      some ⟨eT (tt (fIsi b.T) a.f), fun X W J lv g => by
        simp only [Bool.and_eq_true] at h
        obtain ⟨⟨h1, h2⟩, h3⟩ := h
        have hn := glB_ok (isBlt_g h2)
        exact pe_isi (g.gl (isBlt_g h1)) (isBlt_m g h1) (a.ok X W J lv g) (g.gl (isBlt_g h2)) (isBlt_m g h2) b.bt (nameOk_n hn) (nameOk_d hn) (star_cons h3 _ _)⟩
    else none
  | _, _ => none
def cListRng (C : SC) (p p2 : Pos) (e : Expr) (pos2 pos : Pos) : Option (SE G C (.Call (.Name "list" p) [.Call (.Name "range" p2) [e] [] pos2] [] pos)) :=
  match rE C e with
  | some a => if h : (!C.hot && isBlt G C "list" && isBlt G C "range" && notStar e) = true then
      some ⟨e1 (fListRng (posIn G.mus pos)) a.f, fun X W J lv g => by
        simp only [Bool.and_eq_true, Bool.not_eq_true'] at h
        obtain ⟨⟨⟨h1, h2⟩, h3⟩, h4⟩ := h
        exact pe_listRng (g.cc h1) (g.gl (isBlt_g h2)) (isBlt_m g h2) (g.gl (isBlt_g h3)) (isBlt_m g h3) (a.ok X W J lv g) (star_cons h4 _ _)⟩
    else none
  | none => none
/-- a def of the text -/
def cOwn (C : SC) (x : Str) (p : Pos) (es : List Expr) (pos : Pos) : Option (SE G C (.Call (.Name x p) es [] pos)) :=
  match hx : G.fns.lookup x with
  | some (i, ar) => if h : (!C.hot && glB C x) = true then
      match es, cA rE C es with
      | [], _ => some ⟨eCall i esNil, fun X W J lv g => by
          simp only [Bool.and_eq_true, Bool.not_eq_true'] at h
          exact pe_callR0 g h.1 hx (g.gl h.2) (nameOk_d (glB_ok h.2))⟩
      | e :: es, some a => some ⟨eCall i a.f, fun X W J lv g => by
          simp only [Bool.and_eq_true, Bool.not_eq_true'] at h
          have st := a.st
          rw [List.all_cons, Bool.and_eq_true] at st
          exact pe_callR g h.1 hx (g.gl h.2) (nameOk_d (glB_ok h.2)) (a.ok X W J lv g) (star_cons st.1 _ _) (star_all st.2 _ _)⟩
      | _ :: _, none => none
    else none
  | none => none
/-! ### methods by name -/
structure M1 (name : Str) where
  T : String
  id : String
  ty : D → Sto → Bool
  f : List Nat → D → List D → Sto → Res
  pa : PlainAttrs T
  slot : Slot T name id
  hty : typeOf (.builtin id) = pure (.type "method_descriptor")
  ok : ∀ (X : Cx) (J : Inf), MtOk X J T id ty f
def mth (x : Str) : Option (M1 x) :=
  if h : x = ("append" : Str) then some ⟨"list", "list.append", isCel, fAppend, PySem.F.plainAttrs_list, by rw [h]; exact PySem.F.slot_list_append, PySem.F.type_list_append, fun _ _ => ok_append⟩
  else if h : x = ("pop" : Str) then some ⟨"list", "list.pop", isCel, fPop, PySem.F.plainAttrs_list, by rw [h]; exact PySem.F.slot_list_pop, PySem.F.type_list_pop, fun _ _ => ok_pop⟩
  else if h : x = ("index" : Str) then some ⟨"tuple", "tuple.index", isTupD, fIndexT, PySem.F.plainAttrs_tuple, by rw [h]; exact PySem.F.slot_tuple_index, PySem.F.type_tuple_index, fun _ _ => ok_indexT⟩
  else none
def cMeth (C : SC) (o : Expr) (name : Str) (apos : Pos) (es : List Expr) (pos : Pos) : Option (SE G C (.Call (.Attribute o name apos) es [] pos)) :=
  match mth name, rE C o, es, cA rE C es with
  | some m, some fo, [], _ => if h : (plainO o && Nat.beq apos.endLine pos.line) = true then
      some ⟨eMt m.ty m.f fo.f esNil, fun X W J lv g => by
        rw [Bool.and_eq_true] at h
        exact pe_mtR0 (m.ok X J) m.pa m.slot m.hty (fo.ok X W J lv g) (attr_of' h.1 _ _) (by rw [Nat.eq_of_beq_eq_true h.2]; simp)⟩ else none
  | some m, some fo, e :: es, some a => if h : (plainO o && Nat.beq apos.endLine pos.line && Nat.blt (e :: es).length 30) = true then
      some ⟨eMt m.ty m.f fo.f a.f, fun X W J lv g => by
        simp only [Bool.and_eq_true] at h
        obtain ⟨⟨h1, h2⟩, h3⟩ := h
        have st := a.st
        rw [List.all_cons, Bool.and_eq_true] at st
        refine pe_mtR (m.ok X J) m.pa m.slot m.hty (fo.ok X W J lv g) (a.ok X W J lv g) (attr_of' h1 _ _) ?_ (by rw [Nat.eq_of_beq_eq_true h2]; simp) (star_cons st.1 _ _) (star_all st.2 _ _)
        rw [star_few a.st]
        show decide ((e :: es).length + 0 + 0 < 30) = true
        exact decide_eq_true (Nat.le_of_ble_eq_true h3)⟩ else none
  | _, _, _, _ => none
/-! ### what is walked -/
def cI (C : SC) (tg iter : Expr) : Option (SI G C tg iter) :=
  match iter, tg with
  | .Call (.Name x p) [a] [] pos, .Tuple elts kk tpos =>
    if hx : x = ("enumerate" : Str) then match rE C a with
      | some fa => if h : (isBlt G C "enumerate" && notStar a) = true then
          some ⟨iEnumR fa.f, fun X W J lv g => by
            rw [Bool.and_eq_true] at h
            rw [hx]
            exact pi_enumR (g.gl (isBlt_g h.1)) (isBlt_m g h.1) (fa.ok X W J lv g) (star_cons h.2 _ _)⟩ else none
      | none => none
    else match rE C (.Call (.Name x p) [a] [] pos) with
      | some fa => some ⟨iSeq fa.f, fun X W J lv g => pi_seqR (fa.ok X W J lv g)⟩
      | none => none
  | .Call (.Name x p) [a] [] pos, tg =>
    if hx : x = ("range" : Str) then match rE C a with
      | some fa => if h : (isBlt G C "range" && notStar a) = true then
          some ⟨iRng1R fa.f, fun X W J lv g => by
            rw [Bool.and_eq_true] at h
            rw [hx]
            exact pi_rng1R (g.gl (isBlt_g h.1)) (isBlt_m g h.1) (fa.ok X W J lv g) (star_cons h.2 _ _)⟩ else none
      | none => none
    else match rE C (.Call (.Name x p) [a] [] pos) with
      | some fa => some ⟨iSeq fa.f, fun X W J lv g => pi_seqR (fa.ok X W J lv g)⟩
      | none => none
  | .Call (.Name x p) [a, b] [] pos, tg =>
    if hx : x = ("range" : Str) then match rE C a, rE C b with
      | some fa, some fb => if h : (isBlt G C "range" && notStar a && notStar b) = true then
          some ⟨iRng2R fa.f fb.f, fun X W J lv g => by
            simp only [Bool.and_eq_true] at h
            rw [hx]
            exact pi_rng2R (g.gl (isBlt_g h.1.1)) (isBlt_m g h.1.1) (fa.ok X W J lv g) (fb.ok X W J lv g) (by rw [star_cons h.1.2, star_cons h.2]; rfl) (star_cons h.2 _ _)⟩ else none
      | _, _ => none
    else match rE C (.Call (.Name x p) [a, b] [] pos) with
      | some fa => some ⟨iSeq fa.f, fun X W J lv g => pi_seqR (fa.ok X W J lv g)⟩
      | none => none
  | iter, tg => match rE C iter with
    | some fa => some ⟨iSeq fa.f, fun X W J lv g => pi_seqR (fa.ok X W J lv g)⟩
    | none => none
/-! ### targets -/
def cGn (C : SC) (vs : List Nat) (x : Str) (pos : Pos) : Option (SG G C vs (.Name x pos)) := match ixOf C.N x with
  | some ⟨i, hi⟩ => if h : (locB C x && vs.contains i) = true then
      some ⟨gSet i, fun X W J lv g => by
        rw [Bool.and_eq_true] at h
        exact pg_nameR (by simpa using h.2) g.ndX (g.ix hi) (g.loc h.1).1 (g.loc h.1).2⟩ else none
  | none => none
theorem each_cons {e : Expr} (h : notStar e = true) (es : List Expr) (env : PySem.Env) : assignEach (e :: es) env = (false, assign e env) :: assignEach es env := by
  cases e <;> first | rfl | (exact absurd h Bool.false_ne_true)
def cGs (C : SC) (vs : List Nat) (cG : (tg : Expr) → Option (SG G C vs tg)) : (tgs : List Expr) → Option (SGs G C vs tgs)
  | [] => some ⟨gsNil, fun env => ⟨rfl, rfl⟩, fun X W J lv g => pgs_nilR⟩
  | t :: ts => match cG t, cGs C vs cG ts with
    | some a, some r => if h : notStar t = true then
        some ⟨gsCons a.f r.f, fun env => by
          obtain ⟨h1, h2⟩ := r.len env
          rw [each_cons h]
          refine ⟨by rw [List.length_cons, List.length_cons, h1], ?_⟩
          rw [List.findIdx?_cons]
          simp [h2], fun X W J lv g => pgs_consR (a.ok X W J lv g) (r.ok X W J lv g) (by rw [each_cons h]; rfl)⟩ else none
    | _, _ => none
def cG (C : SC) (vs : List Nat) : Nat → (tg : Expr) → Option (SG G C vs tg)
  | 0, _ => none
  | n + 1, tg => match tg with
    | .Name x pos => cGn C vs x pos
    | .Tuple es k pos => if h : C.hot = false then match cGs C vs (cG C vs n) es with
      | some gs => some ⟨gTupD es.length gs.f, fun X W J lv g => pg_tupR (g.cc h) (gs.ok X W J lv g) (gs.len X.env).1 (gs.len X.env).2⟩
      | none => none else none
    | _ => none
/-! ### comprehensions -/
def ownOf (C : SC) (scope : Scope) : List (Str × Nat) := scope.names.filterMap fun y => match y.2 with
  | .local => (ixOf C.N y.1).map fun i => (y.1, i.1)
  | .cell => (ixOf C.N y.1).map fun i => (y.1, i.1)
  | _ => none
structure STs (G : Gx) (C : SC) (es : List Expr) where
  f : SemT
  ok : ∀ (X : Cx) (W : WX) (J : Inf) (lv : Nat), Good X W G J lv C → PTs X es (RT X.K J W f)
theorem PTs.imp {X : Cx} {es : List Expr} {t t' : TT} (h : PTs X es t) (i : ∀ σ H Q, t' σ H Q → t σ H Q) : PTs X es t' := ⟨fun pins s σ H Q I q => h.run pins s σ H Q I (i _ _ _ q)⟩
def cTs (C : SC) : (es : List Expr) → Option (STs G C es)
  | [] => some ⟨tYesT, fun X W J lv g => PTs.imp pts_nil fun σ H Q ⟨M, ρ, S, s, e, h⟩ => h.fin s rfl⟩
  | [c] => match rT C c with
    | some a => some ⟨a.f, fun X W J lv g => pts_one (a.ok X W J lv g)⟩
    | none => none
  | _ => none
structure SLC (G : Gx) (C : SC) (elt tg iter : Expr) (ifs : List Expr) (scope : Scope) (pos : Pos) where
  f : SemE
  okE : ∀ (X : Cx) (W : WX) (J : Inf) (lv : Nat), Good X W G J lv C → PE X (.ListComp elt [⟨tg, iter, ifs, 0⟩] scope pos) (RE X.K J W f)
  okS : ∀ (X : Cx) (W : WX) (J : Inf) (lv : Nat), Good X W G J lv C → ∀ (i : Nat) (y : Str) (py spos : Pos), C.N[i]? = some y → C.sc.names.lookup y = some .local → swapsWith (.ListComp elt [⟨tg, iter, ifs, 0⟩] scope pos) (some (.Name y py)) spos.line X.env = pure true →
    PS X (.Assign [.Name y py] (.ListComp elt [⟨tg, iter, ifs, 0⟩] scope pos) spos) (RSt X.K J W (sAsg (gSet i) f))
def cLC (C : SC) (elt tg iter : Expr) (ifs : List Expr) (scope : Scope) (pos : Pos) : Option (SLC G C elt tg iter ifs scope pos) :=
  if h : (!C.hot && blkC C.N C.sc scope (ownOf C scope) && notSet iter) = true then
    match cI rE C tg iter, cG (C.blk scope) ((ownOf C scope).map (·.2)) 5 tg, cTs rT (C.blk scope) ifs, rE (C.blk scope) elt with
    | some fi, some fg, some ft, some fe =>
      have hh : C.hot = false := by simp only [Bool.and_eq_true, Bool.not_eq_true'] at h; exact h.1.1
      have hb : blkC C.N C.sc scope (ownOf C scope) = true := by simp only [Bool.and_eq_true, Bool.not_eq_true'] at h; exact h.1.2
      have hs : notSet iter = true := by simp only [Bool.and_eq_true, Bool.not_eq_true'] at h; exact h.2
      some ⟨eComp (posIn G.mus pos) ((ownOf C scope).map (·.2)) fi.f fg.f ft.f fe.f,
        fun X W J lv g => pe_lcR _ g hh hb (fi.ok X W J lv g) (fun s H Ca cl fp => fg.ok _ W0 J lv (g.blk hh scope s H Ca cl fp)) (fun s H Ca cl fp => ft.ok _ W0 J lv (g.blk hh scope s H Ca cl fp)) (fun s H Ca cl fp => fe.ok _ W0 J lv (g.blk hh scope s H Ca cl fp)) (folded_of hs _),
        fun X W J lv g i y py spos hi hl hw => ps_setLcR _ g hh hb hi hl hw (fi.ok X W J lv g) (fun s H Ca cl fp => fg.ok _ W0 J lv (g.blk hh scope s H Ca cl fp)) (fun s H Ca cl fp => ft.ok _ W0 J lv (g.blk hh scope s H Ca cl fp)) (fun s H Ca cl fp => fe.ok _ W0 J lv (g.blk hh scope s H Ca cl fp)) (folded_of hs _)⟩
    | _, _, _, _ => none
  else none
end
end Lk

namespace Lk
open PySem PySem.Spec PyProof.Rows L2

section
variable {G : Gx} (rE : FE G) (rT : FT G)
def cOpt (C : SC) : (o : Option Expr) → Option { f : SemO // ∀ (X : Cx) (W : WX) (J : Inf) (lv : Nat), Good X W G J lv C → PO X o (ROp X.K J W f) }
  | none => some ⟨oNone, fun _ _ _ _ _ => po_noneR⟩
  | some e => match rE C e with
    | some a => some ⟨oSome a.f, fun X W J lv g => po_someR (a.ok X W J lv g)⟩
    | none => none
def cSub (C : SC) (a i : Expr) (pos : Pos) : Option (SE G C (.Subscript a i pos)) := match i with
  | .Slice none none (some (.UnaryOp .USub (.Constant (.int 1) k p1) p2)) p3 => match rE C a with
    | some fa => some ⟨e1 (fRev (posIn G.mus pos)) fa.f, fun X W J lv g => pe_revR (fa.ok X W J lv g)⟩
    | none => none
  | .Slice lo hi none p2 => match rE C a, cOpt rE C lo, cOpt rE C hi with
    | some fa, some fl, some fh => some ⟨eSl (posIn G.mus pos) fa.f fl.1 fh.1, fun X W J lv g => pe_slR (fa.ok X W J lv g) (fl.2 X W J lv g) (fh.2 X W J lv g)⟩
    | _, _, _ => none
  | i => match rE C a, rE C i with
    | some fa, some fi => if h : notSlice i = true then some ⟨e2 fIdx fa.f fi.f, fun X W J lv g => pe_idxR (fa.ok X W J lv g) (fi.ok X W J lv g) (plainIx_of h)⟩ else none
    | _, _ => none
def cCall (C : SC) (f : Expr) (es : List Expr) (pos : Pos) : Option (SE G C (.Call f es [] pos)) := match f, es with
  | .Name x p, es => match G.fns.lookup x with
    | some _ => cOwn rE C x p es pos
    | none => match es with
      | [.Call (.Name z p2) [e] [] pos2] => if hx : x = ("list" : Str) ∧ z = ("range" : Str) then match cListRng rE C p p2 e pos2 pos with
          | some r => some ⟨r.f, by rw [hx.1, hx.2]; exact r.ok⟩
          | none => none
        else cB1 rE C x p (.Call (.Name z p2) [e] [] pos2) pos
      | [e] => cB1 rE C x p e pos
      | [e, .Name y p2] => if hx : x = ("isinstance" : Str) then match cIsi rE C p e y p2 pos with
          | some r => some ⟨r.f, by rw [hx]; exact r.ok⟩
          | none => none
        else cB2 rE C x p e (.Name y p2) pos
      | [e, e'] => cB2 rE C x p e e' pos
      | _ => none
  | .Attribute o name apos, es => cMeth rE C o name apos es pos
  | _, _ => none
def cE' (C : SC) (e : Expr) : Option (SE G C e) := match e with
  | .Name x p => cName C x p
  | .Constant c k p => cConst C c k p
  | .BinOp a op b p => match rE C a, rE C b, binF (posIn G.mus p) op with
    | some fa, some fb, some o => some ⟨e2 o.1 fa.f fb.f, fun X W J lv g => pe_2 (o.2 X J) (fa.ok X W J lv g) (fb.ok X W J lv g)⟩
    | _, _, _ => none
  | .UnaryOp .USub a p => match rE C a with
    | some fa => some ⟨e1 fNeg fa.f, fun X W J lv g => pe_negR (fa.ok X W J lv g)⟩
    | none => none
  | .UnaryOp .Not a p => match rE C a with
    | some fa => some ⟨e1 fNot fa.f, fun X W J lv g => pe_notR (fa.ok X W J lv g)⟩
    | none => none
  | .BoolOp op es p => cBoolE rE C op p es
  | .Compare a ops bs p => match cCmp rE C a p ops bs with
    | some r => some ⟨eT r.f, r.okE⟩
    | none => none
  | .IfExp c a b p => match rT C c, rE C a, rE C b with
    | some fc, some fa, some fb => some ⟨eIf fc.f fa.f fb.f, fun X W J lv g => pe_if (fc.ok X W J lv g) (fa.ok X W J lv g) (fb.ok X W J lv g)⟩
    | _, _, _ => none
  | .Tuple es k p => match cA rE C es with
    | some a => some ⟨eTup a.f, fun X W J lv g => pe_tupR (a.ok X W J lv g)⟩
    | none => none
  | .List es p => match cA rE C es with
    | some a => some ⟨eLst (posIn G.mus p) a.f, fun X W J lv g => pe_lstR (a.ok X W J lv g)⟩
    | none => none
  | .Subscript a i p => cSub rE C a i p
  | .Call f es [] p => cCall rE C f es p
  | .ListComp elt [⟨tg, iter, ifs, 0⟩] scope pos => match cLC rE rT C elt tg iter ifs scope pos with
    | some r => some ⟨r.f, r.okE⟩
    | none => none
  | _ => none
def cEz (C : SC) (e : Expr) : Option (SE G C e) := match cE' rE rT C e with
  | some r => match posIn G.fzs e.pos with
    | true => some ⟨e1 frz r.f, fun X W J lv g => pe_frz (r.ok X W J lv g)⟩
    | false => some r
  | none => none
def cTv (C : SC) (e : Expr) : Option (ST G C e) := match cEz rE rT C e with
  | some r => if h : plainT e = true then some ⟨tt fTru r.f, fun X W J lv g => pt_tru (r.ok X W J lv g) (isTrue_of h X.env)⟩ else none
  | none => none
def cT' (C : SC) (e : Expr) : Option (ST G C e) := match e with
  | .UnaryOp .Not a p => match rT C a with
    | some fa => some ⟨tNotT fa.f, fun X W J lv g => pt_notT (fa.ok X W J lv g)⟩
    | none => none
  | .BoolOp op es p => match cBoolT rT C op p es with
    | some r => some ⟨r.f, fun X W J lv g => (r.ok X W J lv g).pt⟩
    | none => none
  | .Compare a ops bs p => match cCmp rE C a p ops bs with
    | some r => some ⟨r.f, r.okT⟩
    | none => none
  | e => cTv rE rT C e
end
def cBoth (G : Gx) : Nat → FE G × FT G
  | 0 => ⟨fun _ _ => none, fun _ _ => none⟩
  | n + 1 => ⟨cEz (cBoth G n).1 (cBoth G n).2, cT' (cBoth G n).1 (cBoth G n).2⟩

/-! ### assignments to tuples -/
def swL (sc : Scope) (ts vs : List Expr) : Option (Option (List Str)) :=
  if !(ts.length == 2 || ts.length == 3) || vs.length != ts.length || (if sc.kind.isAnnotationScope then ScopeKind.function else sc.kind) != .function then some none
  else if (vs.any fun | .Starred .. => true | _ => false) = true then some none
  else if (ts.filterMap fun
    | .Name id pos => if sc.names.lookup id == some .local && pos.line == (ts.head?.map (·.pos.line)).getD 0 then some id else none
    | _ => none).length != ts.length || (ts.filterMap fun
    | .Name id pos => if sc.names.lookup id == some .local && pos.line == (ts.head?.map (·.pos.line)).getD 0 then some id else none
    | _ => none).eraseDups.length != (ts.filterMap fun
    | .Name id pos => if sc.names.lookup id == some .local && pos.line == (ts.head?.map (·.pos.line)).getD 0 then some id else none
    | _ => none).length then some none
  else if vs.all (foldedForSure 8) then some none
  else if vs.all (constantsAlone 8) then none
  else some (some (ts.filterMap fun
    | .Name id pos => if sc.names.lookup id == some .local && pos.line == (ts.head?.map (·.pos.line)).getD 0 then some id else none
    | _ => none))
theorem sw_of {sc : Scope} {ts vs : List Expr} {r : Option (List Str)} {k k2 : Nat} {p p2 : Pos} {env : PySem.Env} (hs : env.scope = sc) (h : swL sc ts vs = some r) : swappedStores [.Tuple ts k p] (.Tuple vs k2 p2) env = pure r := by
  subst hs
  unfold swL at h
  unfold swappedStores Env.kindOf Env.blockKind
  generalize (if env.scope.kind.isAnnotationScope = true then ScopeKind.function else env.scope.kind) = kd at h ⊢
  simp only [pure_bind]
  split at h
  · rename_i c1
    cases h
    exact if_pos c1
  · rename_i c1
    refine (if_neg c1).trans ?_
    split at h
    · rename_i c2
      cases h
      exact if_pos c2
    · rename_i c2
      refine (if_neg c2).trans ?_
      split at h
      · rename_i c3
        cases h
        exact if_pos c3
      · rename_i c3
        refine (if_neg c3).trans ?_
        split at h
        · rename_i c4
          cases h
          exact if_pos c4
        · rename_i c4
          refine (if_neg c4).trans ?_
          split at h
          · cases h
          · rename_i c5
            cases h
            exact if_neg c5
theorem sw_cell {elt : Expr} {gs : List Comprehension} {scope : Scope} {pos py : Pos} {y : Str} {l : Nat} {env : PySem.Env} (hy : env.scope.names.lookup y = some .cell) : swapsWith (.ListComp elt gs scope pos) (some (.Name y py)) l env = pure false := by
  have ky : env.kindOf y = some .cell := hy
  have e : (env.kindOf y == some NameKind.local) = false := by rw [ky]; rfl
  unfold swapsWith
  simp only [e, Bool.and_false, Bool.false_and]
def notTup : Expr → Bool
  | .Tuple .. => false
  | _ => true
theorem sw_none {tgs : List Expr} {e : Expr} (h : notTup e = true) (env : PySem.Env) : swappedStores tgs e env = pure none := by
  unfold swappedStores
  cases e <;> first | rfl | (exact absurd h Bool.false_ne_true) | (split <;> first | rfl | simp_all)
theorem sole_of {e : Expr} (h : notComp e = true) (t : Expr) (l : Nat) (env : PySem.Env) : swapsWithSole [t] e l env = pure false := swaps_of h (some t) l env
def sRetN : SemS := fun _ _ ρ S => .rt .non S
section
variable {X : Cx} {J : Inf} {W : WX} {pos : Pos}
theorem ps_retNR : PS X (.Return none pos) (RSt X.K J W sRetN) := PS.imp ps_retN fun D σ H ⟨M, ρ, S, s, e, h⟩ => h .non H M .refl s mk_non
end

theorem asg_sub {o i : Expr} {tp : Pos} {env : PySem.Env} (h : notSlice i = true) (v : Value) : assign (.Subscript o i tp) env v = (do
      let ov ← holding [v] (eval o env)
      let iv ← holding [v, ov] (eval i env)
      standAt tp
      holding [v, ov, iv] (setItem ov iv v)
      release [v, ov, iv] []) := by
  cases i <;> first | rfl | (exact absurd h Bool.false_ne_true)
theorem sw_sub {o i : Expr} {tp : Pos} (e : Expr) (env : PySem.Env) : swappedStores [.Subscript o i tp] e env = pure none := rfl
/-! ### statements -/
section
variable {G : Gx} (rE : FE G) (rT : FT G) (rS : (C : SC) → (sts : List Stmt) → Option (SSs G C sts))
def cAsgT (C : SC) (ts : List Expr) (k : Nat) (p : Pos) (e : Expr) (pos : Pos) : Option (SS G C (.Assign [.Tuple ts k p] e pos)) := match rE C e, cG C (List.range C.N.length) 5 (.Tuple ts k p) with
  | some fe, some fg => if h : (notTup e && notComp e) = true then
      some ⟨sAsg fg.f fe.f, fun X W J lv g _ => by
        rw [Bool.and_eq_true] at h
        exact ps_asgR (fe.ok X W J lv g) (fg.ok X W J lv g) (sole_of h.2 _ _ _) (sw_none h.1 _) rfl⟩
    else match e with
      | .Tuple es k2 p2 => match hw : swL C.sc ts es with
        | some none => match rE C (.Tuple es k2 p2) with
          | some fe => some ⟨sAsg fg.f fe.f, fun X W J lv g _ => ps_asgR (fe.ok X W J lv g) (fg.ok X W J lv g) (sole_of rfl _ _ _) (sw_of g.sc hw) rfl⟩
          | none => none
        | _ => none
      | _ => none
  | _, _ => none
def cPar (C : SC) (ts : List Expr) (k : Nat) (p : Pos) (es : List Expr) (k2 : Nat) (p2 pos : Pos) : Option (SS G C (.Assign [.Tuple ts k p] (.Tuple es k2 p2) pos)) := match ts, es with
  | [.Name x px, .Name y py], [a, b] => match ixOf C.N x, ixOf C.N y, cA rE C [a, b] with
    | some ⟨i, hi⟩, some ⟨j, hj⟩, some fa => if h : ((!C.hot && !Nat.beq i j) && decide (C.sc.names.lookup x = some .local) && decide (C.sc.names.lookup y = some .local) && decide (swL C.sc [.Name x px, .Name y py] [a, b] = some (some [x, y]))) = true then
        some ⟨sPar i j fa.f, fun X W J lv g _ => by
          simp only [Bool.and_eq_true, Bool.not_eq_true', decide_eq_true_eq] at h
          obtain ⟨⟨⟨⟨h1, h2⟩, h3⟩, h4⟩, h5⟩ := h
          exact ps_parR (g.cc h1) g.ndX (g.ix hi) (g.ix hj) (fun e => by rw [e, Nat.beq_refl] at h2; cases h2) (by rw [g.sc]; exact h3) (by rw [g.sc]; exact h4) (fa.ok X W J lv g) (sw_of g.sc h5)⟩
      else none
    | _, _, _ => none
  | _, _ => none
def cAsgN (C : SC) (x : Str) (px : Pos) (e : Expr) (pos : Pos) : Option (SS G C (.Assign [.Name x px] e pos)) := match ixOf C.N x with
  | some ⟨i, hi⟩ => if h : (notComp e && locB C x) = true then match rE C e with
      | some fe => some ⟨sAsg (gSet i) fe.f, fun X W J lv g _ => by
          rw [Bool.and_eq_true] at h
          exact ps_setR g.ndX (g.ix hi) (g.loc h.2).1 (fe.ok X W J lv g) (swaps_of h.1 _ _ _) (g.loc h.2).2⟩
      | none => none
    else match e with
      | .ListComp elt [⟨tg, iter, ifs, 0⟩] scope lpos => if h : (decide (C.sc.kind = .function) && decide (C.sc.names.lookup x = some .local) && Nat.beq px.line lpos.line && !(scope.names.any fun y => y.1 == x && (y.2 == .local || y.2 == .cell))) = true then
          match cLC rE rT C elt tg iter ifs scope lpos with
          | some r => some ⟨sAsg (gSet i) r.f, fun X W J lv g _ => by
              simp only [Bool.and_eq_true, Bool.not_eq_true', decide_eq_true_eq] at h
              obtain ⟨⟨⟨h1, h2⟩, h3⟩, h4⟩ := h
              exact r.okS X W J lv g i x px pos hi h2 (sw_true (by rw [g.sc]; exact h1) (by rw [g.sc]; exact h2) (by rw [Nat.eq_of_beq_eq_true h3]; simp) h4)⟩
          | none => none
        else if h : (decide (C.sc.names.lookup x = some .cell) && locB C x) = true then
          match cLC rE rT C elt tg iter ifs scope lpos with
          | some r => some ⟨sAsg (gSet i) r.f, fun X W J lv g _ => by
              rw [Bool.and_eq_true] at h
              exact ps_setR g.ndX (g.ix hi) (g.loc h.2).1 (r.okE X W J lv g) (sw_cell (by rw [g.sc]; exact of_decide_eq_true h.1)) (g.loc h.2).2⟩
          | none => none
        else none
      | _ => none
  | none => none
def cSt (C : SC) (st : Stmt) : Option (SS G C st) := match st with
  | .Return (some e) p => match rE C e with
    | some fe => some ⟨sRet fe.f, fun X W J lv g _ => ps_retR (fe.ok X W J lv g)⟩
    | none => none
  | .Return none p => some ⟨sRetN, fun X W J lv g _ => ps_retNR⟩
  | .Assign [.Name x px] e p => cAsgN rE rT C x px e p
  | .Assign [.Tuple ts k p1] e p => match e with
    | .Tuple es k2 p2 => match cPar rE C ts k p1 es k2 p2 p with
      | some r => some r
      | none => cAsgT rE C ts k p1 (.Tuple es k2 p2) p
    | e => cAsgT rE C ts k p1 e p
  | .Assign [.Subscript o i tp] e p => match rE C e, rE C o, rE C i with
    | some fe, some fo, some fi => if h : (notSlice i && notComp e) = true then
        some ⟨sSub fSet fe.f fo.f fi.f, fun X W J lv g _ => by
          rw [Bool.and_eq_true] at h
          have h1 := h.1
          refine ps_subR ok_set (fe.ok X W J lv g) (fo.ok X W J lv g) (fi.ok X W J lv g) (asg_sub h1) (sole_of h.2 _ _ _) (sw_sub _ _) rfl⟩ else none
    | _, _, _ => none
  | .AugAssign (.Name x px) op e p => match ixOf C.N x, augF op, rE C e with
    | some ⟨i, hi⟩, some o, some fe => if h : locB C x = true then
        some ⟨sAug i o.1 fe.f, fun X W J lv g _ => ps_augR (o.2 X J) g.ndX (g.ix hi) (g.loc h).1 (fe.ok X W J lv g) (g.loc h).2⟩ else none
    | _, _, _ => none
  | .Expr e p => match rE C e with
    | some fe => if h : notComp e = true then some ⟨sExpr fe.f, fun X W J lv g _ => ps_exprR (fe.ok X W J lv g) (swaps_of h _ _ _)⟩ else none
    | none => none
  | .If c bo el p => match rT C c, rS C bo, rS C el with
    | some fc, some fb, some fl => some ⟨sIf fc.f fb.f fl.f, fun X W J lv g t => ps_ifR (fc.ok X W J lv g) (fb.ok X W J lv g t) (fl.ok X W J lv g t)⟩
    | _, _, _ => none
  | .For tg iter body [] p => match cI rE C tg iter, cG (G := G) C (List.range C.N.length) 5 tg, rS C body with
    | some fi, some fg, some fb => if h : (!C.hot && notSet iter) = true then
        some ⟨sFor fi.f fg.f fb.f, fun X W J lv g t => by
          rw [Bool.and_eq_true, Bool.not_eq_true'] at h
          exact ps_forR (g.cool h.1).2.2.2 (g.cc h.1) (fi.ok X W J lv g) (fg.ok X W J lv g) (fb.ok X W J lv g t) (folded_of h.2 _)⟩ else none
    | _, _, _ => none
  | .While c body [] p => match rT C c, rS C body with
    | some fc, some fb => if h : C.hot = false then some ⟨sWhile fc.f fb.f, fun X W J lv g t => ps_whileR (g.cool h).2.2.2 (fc.ok X W J lv g) (fb.ok X W J lv g t)⟩ else none
    | _, _ => none
  | .Pass p => some ⟨sPass, fun X W J lv g _ => ps_passR⟩
  | .Break p => some ⟨sBreak, fun X W J lv g _ => ps_breakR⟩
  | .Continue p => some ⟨sCont, fun X W J lv g _ => ps_contR⟩
  | .Raise (some (.Call (.Name x p) [.Constant (.str m) j p2] [] pos)) none pos2 => match hx : G.plain.lookup x with
    | some i => if h : (!C.hot && glB C x) = true then
        some ⟨sRaise i, fun X W J lv g _ => by
          rw [Bool.and_eq_true, Bool.not_eq_true'] at h
          exact ps_raiseR g h.1 hx (g.gl h.2) (nameOk_d (glB_ok h.2))⟩ else none
    | none => none
  | .Try body [.ExceptHandler (some (.Name x np)) none (b0 :: suite) pos'] [] [] pos => match hx : G.excs.lookup x, rS C body, rS C.warm (b0 :: suite) with
    | some i, some fb, some fs => if h : (!C.hot && glB C x) = true then
        some ⟨sTry fb.f (fun j => G.sub j i) fs.f, fun X W J lv g t => by
          rw [Bool.and_eq_true, Bool.not_eq_true'] at h
          exact ps_tryR g h.1 t.1 t.2 hx (g.gl h.2) (nameOk_d (glB_ok h.2)) (fun W' pn xe g' => fb.ok _ W' J lv g' ⟨t.1, t.2⟩) (fun a pn g' => fs.ok _ W0 J lv g' ⟨t.1, t.2⟩)⟩ else none
    | _, _, _ => none
  | _ => none
def cSs' (cS : (C : SC) → (st : Stmt) → Option (SS G C st)) (C : SC) : (sts : List Stmt) → Option (SSs G C sts)
  | [] => some ⟨sPass, fun X W J lv g _ => pss_nilR⟩
  | [s] => match cS C s with
    | some a => some ⟨a.f, fun X W J lv g t => pss_oneR (a.ok X W J lv g t)⟩
    | none => none
  | s :: s' :: r => match cS C s, cSs' cS C (s' :: r) with
    | some a, some b => some ⟨sSeq a.f b.f, fun X W J lv g t => pss_consR (a.ok X W J lv g t) (b.ok X W J lv g t)⟩
    | _, _ => none
end
def cSs (G : Gx) (m : Nat) : Nat → (C : SC) → (sts : List Stmt) → Option (SSs G C sts)
  | 0 => fun _ _ => none
  | n + 1 => cSs' (cSt (cBoth G m).1 (cBoth G m).2 (cSs G m n))
theorem body_ok {G : Gx} {C : SC} {body : List Stmt} {m n : Nat} {fb : SemS} (h : (cSs G m n C body).map SSs.f = some fb) : BodyOk G C body fb := by
  cases q : cSs G m n C body with
  | none => rw [q] at h; cases h
  | some r =>
    rw [q] at h
    cases h
    exact fun X W J lv g h1 h2 => r.ok X W J lv g ⟨h1, h2⟩
end Lk

namespace Lk
open PySem PySem.Spec PyProof.Rows L2

/-! ### what the top has written, as values -/
mutual
def rvB (K : PySem.W.Frag) : D → Value → Bool
  | .non, .none => true
  | .bl b, .bool c => decide (b = c)
  | .int i, .int j _ => decide (i = j)
  | .str x, .str y _ => decide (x = y)
  | .tup ds, .ref a => match K.lookup a with
    | some ⟨.type c, none, .seq its _, _⟩ => decide (c = "tuple") && (Nat.ble its.size sizeLine && rvBs K ds its.toList)
    | _ => false
  | .fix ds, .ref a => match K.lookup a with
    | some ⟨.type c, none, .seq its _, _⟩ => decide (c = "list") && (Nat.ble its.size sizeLine && rvBs K ds its.toList)
    | _ => false
  | _, _ => false
def rvBs (K : PySem.W.Frag) : List D → List Value → Bool
  | [], [] => true
  | d :: ds, u :: us => rvB K d u && rvBs K ds us
  | _, _ => false
end
theorem seqO {K : PySem.W.Frag} {a : Addr} {t : String} {p : List Value → Bool} (h : (match K.lookup a with
    | some ⟨.type c, none, .seq its _, _⟩ => decide (c = t) && (Nat.ble its.size sizeLine && p its.toList)
    | _ => false) = true) : ∃ (o : Obj) (its : Array Value) (n : Nat), K.lookup a = some o ∧ o.cls = .type t ∧ o.dict = none ∧ o.data = .seq its n ∧ its.size ≤ sizeLine ∧ p its.toList = true := by
  split at h
  · rename_i c its n sl q
    simp only [Bool.and_eq_true, decide_eq_true_eq] at h
    obtain ⟨rfl, h2, h3⟩ := h
    exact ⟨_, its, n, q, rfl, rfl, rfl, Nat.le_of_ble_eq_true h2, h3⟩
  · cases h
mutual
theorem rvB_ok {K : PySem.W.Frag} : ∀ (d : D) (u : Value), rvB K d u = true → ∃ v, RelV v u ∧ ∀ H M, RV K H M d v
  | .non, u, h => by
    cases u with
    | none => exact ⟨.non, rfl, fun H M => by unfold RV; rfl⟩
    | _ => unfold rvB at h; cases h
  | .bl b, u, h => by
    cases u with
    | bool c =>
      unfold rvB at h
      rw [of_decide_eq_true h]
      exact ⟨.bl c, rfl, fun H M => by unfold RV; rfl⟩
    | _ => unfold rvB at h; cases h
  | .int i, u, h => by
    cases u with
    | int j t =>
      unfold rvB at h
      rw [of_decide_eq_true h]
      exact ⟨.int j, ⟨t, rfl⟩, fun H M => by unfold RV; rfl⟩
    | _ => unfold rvB at h; cases h
  | .str x, u, h => by
    cases u with
    | str y t =>
      unfold rvB at h
      rw [of_decide_eq_true h]
      exact ⟨.str y, ⟨t, rfl⟩, fun H M => by unfold RV; rfl⟩
    | _ => unfold rvB at h; cases h
  | .tup ds, u, h => by
    cases u with
    | ref a =>
      unfold rvB at h
      obtain ⟨o, its, n, q1, q2, q3, q4, q5, q6⟩ := seqO h
      obtain ⟨vs, r, z⟩ := rvBs_ok ds its.toList q6
      exact ⟨.ref a, rfl, fun H M => by unfold RV; exact ⟨a, vs, rfl, .inr ⟨o, its, n, q1, q2, q3, q4, q5, r⟩, z H M⟩⟩
    | _ => unfold rvB at h; cases h
  | .fix ds, u, h => by
    cases u with
    | ref a =>
      unfold rvB at h
      obtain ⟨o, its, n, q1, q2, q3, q4, q5, q6⟩ := seqO h
      obtain ⟨vs, r, z⟩ := rvBs_ok ds its.toList q6
      exact ⟨.ref a, rfl, fun H M => by unfold RV; exact ⟨a, vs, rfl, .inr ⟨o, its, n, q1, q2, q3, q4, q5, r⟩, z H M⟩⟩
    | _ => unfold rvB at h; cases h
  | .lst ds, u, h => by unfold rvB at h; cases u <;> cases h
  | .ref n, u, h => by unfold rvB at h; cases u <;> cases h
theorem rvBs_ok {K : PySem.W.Frag} : ∀ (ds : List D) (us : List Value), rvBs K ds us = true → ∃ vs, Vals vs us ∧ ∀ H M, RVs K H M ds vs
  | [], [], _ => ⟨[], .nil, fun H M => by unfold RVs; rfl⟩
  | [], _ :: _, h => by unfold rvBs at h; cases h
  | _ :: _, [], h => by unfold rvBs at h; cases h
  | d :: ds, u :: us, h => by
    unfold rvBs at h
    rw [Bool.and_eq_true] at h
    obtain ⟨v, r1, z1⟩ := rvB_ok d u h.1
    obtain ⟨vs, r2, z2⟩ := rvBs_ok ds us h.2
    exact ⟨v :: vs, .cons r1 r2, fun H M => by unfold RVs; exact ⟨v, vs, rfl, z1 H M, z2 H M⟩⟩
end
def cstB (K : PySem.W.Frag) (l : List (Str × D)) : Bool := l.all fun p => match PySem.W.nsIn K mainGlobals p.1 with
  | some (some u) => rvB K p.2 u
  | _ => false

/-! ### the defs of a text, its errors -/
structure DD where
  x : Str
  st : Stmt
  N : List Str
  ps : List Str
  fb : SemS
def DD.d (d : DD) : He.DefD := ⟨(d.x, none), d.x, d.x, defArgs d.st, defBody d.st, defScope d.st, [], []⟩
def progOf (ds : List DD) : Nat → Option Dfn := fun i => (ds[i]?).map fun d => ⟨d.ps.length, d.N.length, d.fb⟩
structure DDOk (G : Gx) (d : DD) : Prop where
  sc : FnScope d.N d.ps (defScope d.st)
  bd : ∀ (kV doc pm : Value) (an : Option Addr) (cdv ct : Value) (us : List Value), us.length = d.ps.length → bindArgs (PySem.W.fnOf d.x d.x (defArgs d.st) (defBody d.st) (defScope d.st) .none kV doc pm an cdv ct) ⟨us, []⟩ = pure (d.ps.zip us)
  bo : BodyOk G (defSC d.N d.st) (defBody d.st) d.fb
def fnsB (G : Gx) (ds : List DD) : Bool := G.fns.all fun p => match ds[p.2.1]? with
  | some d => decide (d.x = p.1) && Nat.beq d.ps.length p.2.2
  | none => false
def excsB (l : List (Str × Nat)) (es : List Str) : Bool := l.all fun p => decide (es[p.2]? = some p.1)
def faOf (G : Gx) (ds : List DD) (es : List Str) : List He.Fa :=
  (ds.map fun d => He.Fa.glo d.x) ++ (es.map fun e => He.Fa.glo e) ++ (G.plain.map fun p => He.Fa.exc p.1) ++ (G.blts.map fun x => He.Fa.free x) ++
    ((List.range es.length).flatMap fun i => (List.range es.length).map fun j => He.Fa.exm (es.getD i "") (es.getD j "") (G.sub i j))
def caOf (K : PySem.W.Frag) (es : List Str) (i : Nat) : Option Addr := (es[i]?).map (He.ga K)

abbrev AlL : Type := He.AlD × Bool
def obsL (n : Nat) (fa : List He.Fa) (fn : List He.DefD) (cs : List (Str × D)) (g : Addr → Option Obj) : AlL := (He.obsDG n fa fn g, cstB (He.frG g (He.asD g n)) cs)
def hkL (n : Nat) (fa : List He.Fa) (fn : List He.DefD) (cs : List (Str × D)) : PySem.W.Hook where
  α := AlL
  obs := fun s => obsL n fa fn cs s.heap.get?
  val := fun _ => (He.valD fn, true)
  says := fun _ h => ∃ K : PySem.W.Frag, K.In h ∧ He.SaysD fa fn K ∧ cstB K cs = true
  of := fun _ _ e => ⟨_, He.frG_in, congrArg Prod.fst e, congrArg Prod.snd e⟩
  keeps := fun _ _ _ ⟨K, hK, c⟩ k => ⟨K, PySem.W.Frag.In.keeps hK k, c⟩
theorem obsL_eq {n : Nat} {fa : List He.Fa} {fn : List He.DefD} {cs : List (Str × D)} {g : Addr → Option Obj} {s : Shared} (h : ∀ a, g a = s.heap.get? a) : obsL n fa fn cs g = (hkL n fa fn cs).obs s := by
  have e : g = s.heap.get? := funext h
  rw [e] <;> rfl

section
variable {P : Program} {w : World} {K : PySem.W.Frag} {mg : Str → Option Value} {h base : Heap} {G : Gx} {ds : List DD} {es : List Str} {cs : List (Str × D)}
theorem memFact {fa : List He.Fa} {fn : List He.DefD} (c : He.SaysD fa fn K) {f : He.Fa} (hm : f ∈ fa) : f.ok K = true := by
  obtain ⟨i, hi⟩ := List.getElem?_of_mem hm
  exact c.fact i hi
theorem mem_lookup {α : Type} {x : Str} {y : α} : ∀ {l : List (Str × α)}, l.lookup x = some y → (x, y) ∈ l
  | [], q => nomatch q
  | (k, v) :: r, q => by
    rw [List.lookup_cons] at q
    split at q
    · rename_i z
      rw [← Option.some.inj q, eq_of_beq z]
      exact List.mem_cons_self
    · exact List.mem_cons_of_mem _ (mem_lookup q)
theorem mem_excs {l : List (Str × Nat)} {x : Str} {i : Nat} (hb : excsB l es = true) (hl : l.lookup x = some i) : es[i]? = some x := of_decide_eq_true (List.all_eq_true.mp hb _ (mem_lookup hl))

/-- all facts, at every depth of calls -/
theorem facts_all (X : K.In h) (N : h.Ns mainGlobals mg) (c : He.SaysD (faOf G ds es) (ds.map DD.d) K) (cc : cstB K G.csts = true) (ok : ∀ d ∈ ds, DDOk G d) (hf : fnsB G ds = true) (h1 : excsB G.excs es = true) (h2 : excsB G.plain es = true) :
    ∀ k : Nat, Facts P w K mg base G (caOf K es) (run (progOf ds) k) k := by
  have fact : ∀ {f : He.Fa}, f ∈ faOf G ds es → f.ok K = true := fun hm => memFact c hm
  have glo : ∀ {x : Str} {i : Nat}, es[i]? = some x → mg x = some (.ref (He.ga K x)) := fun {x i} q => He.glo_ok X N (fact (by
    unfold faOf
    exact List.mem_append_left _ (List.mem_append_left _ (List.mem_append_left _ (List.mem_append_right _ (List.mem_map.mpr ⟨x, List.mem_of_getElem? q, rfl⟩))))))
  have caE : ∀ {x : Str} {i : Nat}, es[i]? = some x → caOf K es i = some (He.ga K x) := fun {x i} q => by unfold caOf; rw [q]; rfl
  have rest : ∀ {lv : Nat} {cf : CallF}, (∀ x i ar, G.fns.lookup x = some (i, ar) → FnAt P w K mg base (caOf K es) cf lv x i ar) → Facts P w K mg base G (caOf K es) cf lv := fun {lv cf} fn => {
    fn := fn
    cst := fun x d q => by
      have z := List.all_eq_true.mp cc _ (mem_lookup q)
      dsimp only at z
      split at z
      · rename_i u e
        obtain ⟨v, r1, r2⟩ := rvB_ok d u z
        exact ⟨u, v, PySem.W.mg_of X N e, r1, r2⟩
      · cases z
    exc := fun x i q => ⟨_, glo (mem_excs h1 q), caE (mem_excs h1 q)⟩
    plain := fun x i q => by
      obtain ⟨e1, e2, e3, e4⟩ := He.exc_ok (x := x) (fact (by
        unfold faOf
        exact List.mem_append_left _ (List.mem_append_left _ (List.mem_append_right _ (List.mem_map.mpr ⟨(x, i), mem_lookup q, rfl⟩)))))
      exact ⟨_, glo (mem_excs h2 q), caE (mem_excs h2 q), e2, e1, e3, e4⟩
    sub := fun i j C D ci cj => by
      unfold caOf at ci cj
      cases qi : es[i]? with
      | none => rw [qi] at ci; cases ci
      | some x =>
        cases qj : es[j]? with
        | none => rw [qj] at cj; cases cj
        | some y =>
          rw [qi] at ci
          rw [qj] at cj
          cases ci
          cases cj
          obtain ⟨li, ei⟩ := List.getElem?_eq_some_iff.mp qi
          obtain ⟨lj, ej⟩ := List.getElem?_eq_some_iff.mp qj
          have := He.exm_ok (x := es.getD i "") (y := es.getD j "") (b := G.sub i j) (fact (by
            unfold faOf
            exact List.mem_append_right _ (List.mem_flatMap.mpr ⟨i, List.mem_range.mpr li, List.mem_map.mpr ⟨j, List.mem_range.mpr lj, rfl⟩⟩)))
          rw [List.getD_eq_getElem?_getD, List.getD_eq_getElem?_getD, qi, qj] at this
          exact this
    blt := fun x q => He.free_ok X N (fact (by
      unfold faOf
      exact List.mem_append_left _ (List.mem_append_right _ (List.mem_map.mpr ⟨x, q, rfl⟩)))) }
  have at_ : ∀ {x : Str} {i ar : Nat}, G.fns.lookup x = some (i, ar) → ∃ d, ds[i]? = some d ∧ d.x = x ∧ d.ps.length = ar := fun {x i ar} q => by
    have z := List.all_eq_true.mp hf _ (mem_lookup q)
    dsimp only at z
    split at z
    · rename_i d e
      rw [Bool.and_eq_true] at z
      exact ⟨d, e, of_decide_eq_true z.1, Nat.eq_of_beq_eq_true z.2⟩
    · cases z
  have lift : ∀ {k : Nat} {x : Str} {i ar : Nat}, (∀ d fd, ds[i]? = some d → Fun K d.x d.x d.st (He.ga K d.x) fd → FnG P w K mg base k (He.ga K d.x) fd d.ps (spRun K (caOf K es) (run (progOf ds) k) i ar)) → G.fns.lookup x = some (i, ar) →
      FnAt P w K mg base (caOf K es) (run (progOf ds) k) k x i ar := fun {k x i ar} g q => by
    obtain ⟨d, e1, rfl, e3⟩ := at_ q
    obtain ⟨fd, F⟩ := c.def_ i (d := d.d) (by rw [List.getElem?_map, e1]; rfl)
    have od := ok d (List.mem_of_getElem? e1)
    have kp := F.kp
    have bn : Binds K fd d.ps [] := FunD.bindsN F od.bd
    obtain ⟨oc, dd, dV, kV, doc, pm, an, cdv, ct, osl, rfl, lk, hcd, hD, hK⟩ := F.ex
    rcases hD with ⟨_, rfl⟩ | ⟨e, _⟩
    · have hg := He.glo_ok X N (x := d.x) (fact (by
        unfold faOf
        exact List.mem_append_left _ (List.mem_append_left _ (List.mem_append_left _ (List.mem_append_left _ (List.mem_map.mpr ⟨d, List.mem_of_getElem? e1, rfl⟩))))))
      exact ⟨_, _, d.ps, hg, kp, bn, e3, g d _ e1 ⟨⟨oc, dd, kV, doc, pm, an, cdv, ct, osl, rfl, lk, hcd⟩, kp⟩⟩
    · exact absurd rfl e
  intro k
  induction k with
  | zero =>
    refine rest fun x i ar q => lift (fun d fd e1 F => ⟨?_, ?_⟩) q
    · rintro vs H Q E ⟨_, _, _, _, _, _, z⟩
      exact z.elim
    · rintro A outer s H us vs Q E _ _ _ _ _ ⟨_, _, _, _, _, _, z⟩
      exact z.elim
  | succ k ih =>
    refine rest fun x i ar q => lift (fun d fd e1 F => ?_) q
    have od := ok d (List.mem_of_getElem? e1)
    obtain ⟨d', e1', _, e3⟩ := at_ q
    rw [e1] at e1'
    cases e1'
    exact fn_run F od.sc (by show Option.map _ _ = _; rw [e1, ← e3]; rfl) e3 ih od.bo
end

/-! ### the law's end -/
theorem law_at {P : Program} {w : World} {K : PySem.W.Frag} {mg mb : Str → Option Value} {k i : Nat} {fa a : Addr} {x : Str} {ca : Nat → Option Addr} {cf : CallF} {s₁ : Shared} {vs : List Value} {ns : List Int} {Se : Sto}
    (KX : K.In s₁.heap) (nsM : s₁.heap.Ns mainGlobals mg) (nsB : s₁.heap.Ns builtinsNs mb) (hbb : ∀ x : Str, x ≠ "__name__" → mb x = bootBuiltins x) (hlim : s₁.heap.NoLimit) (hg : s₁.gens = #[])
    (scr : s₁.heap.get? a = some { cls := .type "list", data := .seq vs.toArray }) (hi : IntsAre vs ns) (hl : ns.length ≤ sizeLine) (room : Room k callerA)
    (named : mg x = some (.ref fa)) (F : ∀ base : Heap, K.In base → base.Ns mainGlobals mg → FnAt P w K mg base ca cf k x i 1)
    (ans : cf [] i [.fix (ns.map .int)] [] = .ok (.bl true) Se) :
    codeAny (model P w) callerA (.call (.ref fa) ⟨[.ref a], []⟩) (fun r s' => r = .ok (.ret (.bool true)) ∧ OldK s₁.heap s'.heap ∧ s'.os = s₁.os ∧ AllBare s'.gens) s₁ := by
  have vals := vals_ints hi
  let H : Hp := fun b => bif decide (b = a) && (K.lookup a).isNone then some (.frz { cls := .type "list", data := .seq vs.toArray } (.lst (ns.map V.int))) else none
  have off : ∀ b, b ≠ a → H b = none := fun b n => by
    show (bif decide (b = a) && _ then _ else _) = _
    rw [decide_eq_false n]
    rfl
  have only : ∀ b u, H b = some u → b = a ∧ K.lookup a = none ∧ u = .frz { cls := .type "list", data := .seq vs.toArray } (.lst (ns.map V.int)) := fun b u z => by
    by_cases n : b = a
    · subst n
      cases q : K.lookup b with
      | none =>
        have z2 : (bif decide (b = b) && (K.lookup b).isNone then _ else _) = some u := z
        rw [q, decide_eq_true rfl] at z2
        exact ⟨rfl, rfl, (Option.some.inj z2).symm⟩
      | some o =>
        have z2 : (bif decide (b = b) && (K.lookup b).isNone then _ else _) = some u := z
        rw [q, decide_eq_true rfl] at z2
        cases z2
    · rw [off b n] at z
      cases z
  have fixed : Fix K H a (ns.map V.int) := by
    cases q : K.lookup a with
    | none =>
      refine .inl ⟨{ cls := .type "list", data := .seq vs.toArray }, ?_⟩
      show (bif decide (a = a) && (K.lookup a).isNone then _ else _) = _
      rw [q, decide_eq_true rfl]
      rfl
    | some o =>
      have e := KX a o q
      rw [scr] at e
      cases e
      exact .inr ⟨_, vs.toArray, _, q, rfl, rfl, rfl, by rw [List.size_toArray, hi.length]; exact hl, by simpa using vals⟩
  have dicts : ∀ {b : Addr} {m : Str → Option Value}, s₁.heap.Ns b m → (hidT s₁.heap H).Ns b m := by
    rintro b m ⟨o, es, n, g, d, r⟩
    refine ⟨o, es, n, hidT_get g (off b fun z => ?_), d, r⟩
    subst z
    rw [scr] at g
    cases g
    cases d
  have KB : K.In (hidT s₁.heap H) := fun b o z => hidT_get (KX b o z) (by
    cases q : H b with
    | none => rfl
    | some u =>
      obtain ⟨rfl, q2, _⟩ := only b u q
      rw [q2] at z
      cases z)
  have hok : HOk P w H s₁.heap := fun b u z => by
    obtain ⟨rfl, _, rfl⟩ := only b u z
    exact ⟨scr, by rw [List.length_map]; exact hl, vs, _, vals, scr⟩
  have E0 : Env0 P w K mg (hidT s₁.heap H) callerA [] s₁ H := {
    frames := rfl
    mod := ⟨KB, dicts nsM, ⟨mb, dicts nsB, hbb⟩, let ⟨m, q1, q2⟩ := hlim; ⟨m, dicts q1, q2⟩⟩
    bs := fun _ _ z => of_hidT z
    bsz := Nat.le_of_eq (hidT_size _ _)
    funs := trivial
    frf := fun b z => nomatch z
    hok := hok
    bare := .of_eq hg }
  have rep : SRep K [] H ⟨[], []⟩ [] := ⟨rfl, fun n c o z => (by simp at z), fun i j a z => (by simp at z), fun a z => (nomatch z), fun b z => (nomatch z)⟩
  have args : RVs K H ⟨[], []⟩ [.fix (ns.map D.int)] [V.ref a] := by
    have allI : ∀ l : List Int, RVs K H ⟨[], []⟩ (l.map D.int) (l.map V.int) := fun l => by
      induction l with
      | nil => unfold RVs; rfl
      | cons n l ih => unfold RVs; exact ⟨_, _, rfl, by unfold RV; rfl, ih⟩
    unfold RVs
    refine ⟨_, _, rfl, ?_, by unfold RVs; rfl⟩
    unfold RV
    exact ⟨a, _, rfl, fixed, allI ns⟩
  have sp : spRun K ca cf i 1 [.ref a] H (fun v _ => v = .bl true) fun _ _ _ => False := by
    refine ⟨⟨[], []⟩, _, [], [], rep, args, ?_⟩
    rw [ans]
    exact fun v H' M' _ _ r => rv_bl r
  obtain ⟨f, fd, ps, m1, _, m3, m4, m5⟩ := (F _ KB (dicts nsM)).ex
  rw [named] at m1
  cases m1
  have bnd := m3 s₁ [.ref a] KX (by rw [List.append_nil, m4]; rfl)
  rw [List.append_nil] at bnd
  refine codeAny_mono (m5.run callerA [] s₁ H [.ref a] [.ref a] _ _ room rfl E0 bnd (.cons rfl .nil) sp) fun r s' z => ?_
  match r, z with
  | .error e, ⟨_, _, _, _, _, _, _, _, _, _, _, _, q⟩ => exact q.elim
  | .ok .next, z => exact z.elim
  | .ok .brk, z => exact z.elim
  | .ok .cont, z => exact z.elim
  | .ok (.ret u), ⟨v, H', os, bare, un, hok', rel, q⟩ =>
    subst q
    cases rel
    refine ⟨rfl, OldK.of_keep fun b o g => ?_, os, bare⟩
    by_cases n : b = a
    · subst n
      cases q : H b with
      | none => exact un.keep b o g q (fun z => nomatch z) (fun z => nomatch z)
      | some t =>
        obtain ⟨_, _, rfl⟩ := only b t q
        have e := (hok' b _ (un.frzs b _ _ q)).1
        rw [scr] at g
        cases g
        exact e
    · exact un.keep b o g (off b n) (fun z => nomatch z) (fun z => nomatch z)
theorem walk_lk {l : PySem.W.OpenLaw} {n k i : Nat} {q : Program} {loose : List Str} {XP : (Str → Option Value) → Heap → Prop} {YP : World → Heap → Prop} {d : DefRec} {cf : CallF}
    (hn : l.most = some n) (hn2 : n ≤ sizeLine) (hdf : d.params.defaults = []) (hr : Room k callerA)
    (F : ∀ (w : World) (mg : Str → Option Value) (fa : Addr) (h : Heap), YP w h → h.Ns mainGlobals mg → mg d.name = some (.ref fa) →
      ∃ (K : PySem.W.Frag) (ca : Nat → Option Addr), K.In h ∧ ∀ base : Heap, K.In base → base.Ns mainGlobals mg → FnAt l.prog w K mg base ca cf k d.name i 1)
    (ans : ∀ ns : List Int, ns.length ≤ n → ∃ Se, cf [] i [.fix (ns.map .int)] [] = .ok (.bl true) Se) :
    PySem.W.WalkO q loose XP YP l.row.toRowW d [] (fun f vs => PySem.call f vs) := by
  refine Att.attach_call hn hdf fun w s₀ s₁ mg mb fa o pm cd doc a vs ns G Y ho hd hcd hmg hobj hints hlen hg => ?_
  obtain ⟨K, ca, KX, hF⟩ := F w mg fa _ Y G.T.g hmg
  obtain ⟨Se, e⟩ := ans ns hlen
  exact law_at KX G.T.g G.T.b G.T.builtins G.T.nolimit hg hobj hints (Nat.le_trans hlen hn2) hr hmg hF e
end Lk

/-! the plain side: how the forms run -/
namespace Lk
open PySem PySem.Spec PyProof.Rows L2
def rngI (d : D) (S : Sto) : Rs (List D) := match d with
  | .int j => bif small62 j then .ok (rngD 0 j) S else .bad
  | _ => .bad
def rngI2 (d d' : D) (S : Sto) : Rs (List D) := match d, d' with
  | .int i, .int j => bif small62 i && small62 j then .ok (rngD i j) S else .bad
  | _, _ => .bad
def optI (d : D) (S : Sto) : Rs (Option Int) := match d with
  | .int i => .ok (some i) S
  | _ => .bad
section
variable {α β : Type} {c : CallF} {g : List Nat} {ρ : Env} {S S1 : Sto} {a b e : SemE} {d x y : D} {i j n k : Nat}
@[simp] theorem ok_bind (d : α) (k : α → Sto → Rs β) : (Rs.ok d S).bind k = k d S := id rfl
@[simp] theorem exc_bind (x : Ex) (k : α → Sto → Rs β) : (Rs.exc x S : Rs α).bind k = .exc x S := id rfl
@[simp] theorem bad_bind (k : α → Sto → Rs β) : (Rs.bad : Rs α).bind k = .bad := id rfl
@[simp] theorem ok_bindS (d : α) (k : α → Sto → RS) : (Rs.ok d S).bindS ρ k = k d S := id rfl
@[simp] theorem exc_bindS (x : Ex) (k : α → Sto → RS) : (Rs.exc x S : Rs α).bindS ρ k = .exc x ρ S := id rfl
@[simp] theorem nx_seq (k : Env → Sto → RS) : (RS.nx ρ S).seq k = k ρ S := id rfl
@[simp] theorem rt_seq (k : Env → Sto → RS) : (RS.rt d S).seq k = .rt d S := id rfl
@[simp] theorem exc_seq (x : Ex) (k : Env → Sto → RS) : (RS.exc x ρ S).seq k = .exc x ρ S := id rfl
@[simp] theorem bk_seq (k : Env → Sto → RS) : (RS.bk ρ S).seq k = .bk ρ S := id rfl
@[simp] theorem ct_seq (k : Env → Sto → RS) : (RS.ct ρ S).seq k = .ct ρ S := id rfl
@[simp] theorem x_var : eVar i c g ρ S = (match ρ[i]? with | some (some d) => .ok d S | _ => .bad) := id rfl
@[simp] theorem x_cst : eCst d c g ρ S = .ok d S := id rfl
@[simp] theorem x_e1 (f : D → Sto → Res) : e1 f a c g ρ S = (a c g ρ S).bind f := id rfl
@[simp] theorem x_e2 (f : D → D → Sto → Res) : e2 f a b c g ρ S = (a c g ρ S).bind fun x S1 => (b c g ρ S1).bind fun y S2 => f x y S2 := id rfl
@[simp] theorem x_nil : esNil c g ρ S = .ok [] S := id rfl
@[simp] theorem x_cons (r : SemEs) : esCons a r c g ρ S = (a c g ρ S).bind fun x S1 => (r c g ρ S1).bind fun xs S2 => .ok (x :: xs) S2 := id rfl
@[simp] theorem x_tt (f : D → Sto → Rs Bool) : tt f a c g ρ S = (a c g ρ S).bind f := id rfl
@[simp] theorem x_if (t : SemT) : eIf t a b c g ρ S = (t c g ρ S).bind fun k S1 => bif k then a c g ρ S1 else b c g ρ S1 := id rfl
@[simp] theorem x_tand (a b : SemT) : tAndT a b c g ρ S = (a c g ρ S).bind fun k S1 => bif k then b c g ρ S1 else .ok false S1 := id rfl
@[simp] theorem x_tor (a b : SemT) : tOrT a b c g ρ S = (a c g ρ S).bind fun k S1 => bif k then .ok true S1 else b c g ρ S1 := id rfl
@[simp] theorem x_tnot (a : SemT) : tNotT a c g ρ S = (a c g ρ S).bind fun k S1 => .ok (!k) S1 := id rfl
@[simp] theorem x_eT (t : SemT) : eT t c g ρ S = (t c g ρ S).bind fun k S1 => .ok (.bl k) S1 := id rfl
@[simp] theorem x_t2 (f : D → D → Sto → Rs Bool) : t2 f a b c g ρ S = (a c g ρ S).bind fun x S1 => (b c g ρ S1).bind fun y S2 => f x y S2 := id rfl
@[simp] theorem x_t3 (f h : D → D → Sto → Rs Bool) : t3 f h a b e c g ρ S = (a c g ρ S).bind fun x S1 => (b c g ρ S1).bind fun y S2 => (f x y S2).bind fun k S3 => bif k then (e c g ρ S3).bind fun z S4 => h y z S4 else .ok false S3 := id rfl
@[simp] theorem x_eand : eAndV a b c g ρ S = (a c g ρ S).bind fun x S1 => match x with | .bl k => bif k then b c g ρ S1 else .ok (.bl false) S1 | _ => .bad := id rfl
@[simp] theorem x_eor : eOrV a b c g ρ S = (a c g ρ S).bind fun x S1 => match x with | .bl k => bif k then .ok (.bl true) S1 else b c g ρ S1 | _ => .bad := id rfl
@[simp] theorem x_call (r : SemEs) : eCall i r c g ρ S = (r c g ρ S).bind fun ds S1 => c g i ds S1 := id rfl
@[simp] theorem x_tup (r : SemEs) : eTup r c g ρ S = (r c g ρ S).bind fun ds S1 => bif Nat.ble ds.length sizeLine then .ok (.tup ds) S1 else .bad := id rfl
@[simp] theorem x_lst (mu : Bool) (r : SemEs) : eLst mu r c g ρ S = (r c g ρ S).bind fun ds S1 => bif Nat.ble ds.length sizeLine then mkL mu ds S1 else .bad := id rfl
@[simp] theorem x_mkT (ds : List D) : mkL true ds S = .ok (.ref S.length) (S ++ [.lst ds]) := id rfl
@[simp] theorem x_mkF (ds : List D) : mkL false ds S = .ok (.lst ds) S := id rfl
@[simp] theorem x_sl (mu : Bool) (lo hi : SemO) : eSl mu a lo hi c g ρ S = (a c g ρ S).bind fun d S1 => (lo c g ρ S1).bind fun l S2 => (hi c g ρ S2).bind fun u S3 => fSl mu d l u S3 := id rfl
@[simp] theorem x_oN : oNone c g ρ S = .ok none S := id rfl
@[simp] theorem x_oS : oSome a c g ρ S = (a c g ρ S).bind optI := id rfl
@[simp] theorem x_mt (ty : D → Sto → Bool) (f : List Nat → D → List D → Sto → Res) (r : SemEs) : eMt ty f a r c g ρ S = (a c g ρ S).bind fun d S1 => bif ty d S1 then (r c g ρ S1).bind fun ds S2 => f g d ds S2 else .bad := id rfl
@[simp] theorem x_yes : tYesT c g ρ S = .ok true S := id rfl
@[simp] theorem x_pass : sPass c g ρ S = .nx ρ S := id rfl
@[simp] theorem x_break : sBreak c g ρ S = .bk ρ S := id rfl
@[simp] theorem x_cont : sCont c g ρ S = .ct ρ S := id rfl
@[simp] theorem x_seq (a b : SemS) : sSeq a b c g ρ S = (a c g ρ S).seq fun ρ1 S1 => b c g ρ1 S1 := id rfl
@[simp] theorem x_expr : sExpr a c g ρ S = (a c g ρ S).bindS ρ fun _ S1 => .nx ρ S1 := id rfl
@[simp] theorem x_ret : sRet a c g ρ S = (a c g ρ S).bindS ρ fun d S1 => .rt d S1 := id rfl
@[simp] theorem x_retN : sRetN c g ρ S = .rt .non S := id rfl
@[simp] theorem x_sif (t : SemT) (a b : SemS) : sIf t a b c g ρ S = (t c g ρ S).bindS ρ fun k S1 => bif k then a c g ρ S1 else b c g ρ S1 := id rfl
@[simp] theorem x_asg (t : SemG) : sAsg t a c g ρ S = (a c g ρ S).bindS ρ fun d S1 => match t d ρ with | some ρ1 => .nx ρ1 S1 | none => .bad := id rfl
@[simp] theorem x_set : gSet i d ρ = some (ρ.set i (some d)) := id rfl
@[simp] theorem x_gnil : gsNil [] ρ = some ρ := id rfl
@[simp] theorem x_gcons (t : SemG) (r : List D → Env → Option Env) (ds : List D) : gsCons t r (d :: ds) ρ = (match t d ρ with | some ρ1 => r ds ρ1 | none => none) := id rfl
@[simp] theorem x_gtup (r : List D → Env → Option Env) (ds : List D) : gTupD n r (.tup ds) ρ = (bif Nat.beq ds.length n then r ds ρ else none) := id rfl
@[simp] theorem x_par (r : SemEs) : sPar i j r c g ρ S = (r c g ρ S).bindS ρ fun ds S1 => match ds with | [x, y] => .nx ((ρ.set i (some x)).set j (some y)) S1 | _ => .bad := id rfl
@[simp] theorem x_aug (f : D → D → Sto → Res) : sAug i f a c g ρ S = (match ρ[i]? with | some (some x) => (a c g ρ S).bindS ρ fun y S1 => (f x y S1).bindS ρ fun z S2 => .nx (ρ.set i (some z)) S2 | _ => .bad) := id rfl
@[simp] theorem x_sub (f : List Nat → D → D → D → Sto → Res) : sSub f a b e c g ρ S = (a c g ρ S).bindS ρ fun v S1 => (b c g ρ S1).bindS ρ fun ov S2 => (e c g ρ S2).bindS ρ fun iv S3 => (f g ov iv v S3).bindS ρ fun _ S4 => .nx ρ S4 := id rfl
@[simp] theorem x_for (it : SemI) (t : SemG) (body : SemS) : sFor it t body c g ρ S = (it c g ρ S).bindS ρ fun ds S1 => forL t body c g ds ρ S1 := id rfl
@[simp] theorem x_raise : sRaise i c g ρ S = .exc ⟨i, []⟩ ρ S := id rfl
@[simp] theorem x_try (body : SemS) (m : Nat → Bool) (suite : SemS) : sTry body m suite c g ρ S = (match body c g ρ S with | .exc x ρ1 S1 => bif m x.c then (suite c g ρ1 S1).noexc else .exc x ρ1 S1 | r => r) := id rfl
@[simp] theorem x_noexc_rt : (RS.rt d S).noexc = .rt d S := id rfl
@[simp] theorem x_noexc_nx : (RS.nx ρ S).noexc = .nx ρ S := id rfl
@[simp] theorem x_noexc_ok (d : α) : (Rs.ok d S).noexc = .ok d S := id rfl
@[simp] theorem x_comp (mu : Bool) (vs : List Nat) (it : SemI) (t : SemG) (q : SemT) : eComp mu vs it t q e c g ρ S = (it c g ρ S).bind fun ds S1 => bif Nat.ble ds.length sizeLine then (compL t q e c g (wipeE ρ vs) ds S1).bind fun xs S2 => mkL mu xs S2 else .bad := id rfl
@[simp] theorem x_wipe0 : wipeE ρ [] = ρ := id rfl
@[simp] theorem x_wipe1 (v : Nat) (vs : List Nat) : wipeE ρ (v :: vs) = (wipeE ρ vs).set v none := id rfl
@[simp] theorem x_iseq : iSeq a c g ρ S = (a c g ρ S).bind fun d S1 => match d with | .tup ds => .ok ds S1 | .lst ds => .ok ds S1 | .fix ds => .ok ds S1 | _ => .bad := id rfl
@[simp] theorem x_ienum : iEnumR a c g ρ S = (iSeq a c g ρ S).bind fun ds S1 => .ok (ds.zipIdx.map fun p => D.tup [.int (p.2 : Nat), p.1]) S1 := id rfl
@[simp] theorem x_irng1 : iRng1R a c g ρ S = (a c g ρ S).bind rngI := id rfl
@[simp] theorem x_irng2 : iRng2R a b c g ρ S = (a c g ρ S).bind fun d S1 => (b c g ρ S1).bind fun d' S2 => rngI2 d d' S2 := id rfl
@[simp] theorem fin_rt : fin S.length (.rt d S) = .ok d S := by
  unfold fin
  cases d.fit S.length <;> simp
@[simp] theorem fin_nx : fin S.length (.nx ρ S) = .ok .non S := by
  unfold fin
  simp
@[simp] theorem fin_exc : fin S.length (.exc ⟨i, []⟩ ρ S) = .exc ⟨i, []⟩ S := by
  unfold fin
  show (bif true then _ else _) = _
  simp
/-! the operations on the values that occur -/
@[simp] theorem v_idxT (ds : List D) (k : Int) : fIdx (.tup ds) (.int k) S = (match atI ds k with | some x => .ok x S | none => .bad) := id rfl
@[simp] theorem v_idxL (ds : List D) (k : Int) : fIdx (.lst ds) (.int k) S = (match atI ds k with | some x => .ok x S | none => .bad) := id rfl
@[simp] theorem v_idxF (ds : List D) (k : Int) : fIdx (.fix ds) (.int k) S = (match atI ds k with | some x => .ok x S | none => .bad) := id rfl
@[simp] theorem v_lenT (ds : List D) : fLen (.tup ds) S = .ok (.int ds.length) S := id rfl
@[simp] theorem v_lenL (ds : List D) : fLen (.lst ds) S = .ok (.int ds.length) S := id rfl
@[simp] theorem v_lenF (ds : List D) : fLen (.fix ds) S = .ok (.int ds.length) S := id rfl
@[simp] theorem v_add (i j : Int) (mu : Bool) : fAdd mu (.int i) (.int j) S = .ok (.int (i + j)) S := id rfl
@[simp] theorem v_iadd (i j : Int) : fIAdd (.int i) (.int j) S = .ok (.int (i + j)) S := id rfl
@[simp] theorem v_sub (i j : Int) : fSub (.int i) (.int j) S = .ok (.int (i - j)) S := id rfl
@[simp] theorem v_mul (i j : Int) (mu : Bool) : fMul mu (.int i) (.int j) S = (bif cMul i j then .ok (.int (i * j)) S else .bad) := id rfl
@[simp] theorem v_and (i j : Int) : fAnd (.int i) (.int j) S = .ok (.int (Builtin.bitAnd i j)) S := id rfl
@[simp] theorem v_or (i j : Int) : fOr (.int i) (.int j) S = .ok (.int (Builtin.bitOr i j)) S := id rfl
@[simp] theorem v_xor (i j : Int) : fXor (.int i) (.int j) S = .ok (.int (Builtin.bitXor i j)) S := id rfl
@[simp] theorem v_shr (i j : Int) : fShr (.int i) (.int j) S = (bif decide (0 ≤ j) then .ok (.int (i / 2 ^ j.toNat)) S else .bad) := id rfl
@[simp] theorem v_shl (i j : Int) : fShl (.int i) (.int j) S = (bif cPow i j then .ok (.int (i * 2 ^ j.toNat)) S else .bad) := id rfl
@[simp] theorem v_pow (i j : Int) : fPow (.int i) (.int j) S = (bif cPow i j then .ok (.int (i ^ j.toNat)) S else .bad) := id rfl
@[simp] theorem v_div (i j : Int) : fDiv (.int i) (.int j) S = (bif cDiv i j then .ok (.int (i / j)) S else .bad) := id rfl
@[simp] theorem v_mod (i j : Int) : fMod (.int i) (.int j) S = (bif decide (0 < j) then .ok (.int (i % j)) S else .bad) := id rfl
@[simp] theorem v_eqI (neg : Bool) (i j : Int) : fEq neg (.int i) (.int j) S = .ok (neg ^^ (i == j)) S := id rfl
@[simp] theorem v_eqS (neg : Bool) (i j : Str) : fEq neg (.str i) (.str j) S = .ok (neg ^^ decide (i = j)) S := id rfl
@[simp] theorem v_lt (i j : Int) : fLt (.int i) (.int j) S = .ok (decide (i < j)) S := id rfl
@[simp] theorem v_le (i j : Int) : fLe (.int i) (.int j) S = .ok (decide (i ≤ j)) S := id rfl
@[simp] theorem v_gt (i j : Int) : fGt (.int i) (.int j) S = .ok (decide (j < i)) S := id rfl
@[simp] theorem v_ge (i j : Int) : fGe (.int i) (.int j) S = .ok (decide (j ≤ i)) S := id rfl
@[simp] theorem v_truB (k : Bool) : fTru (.bl k) S = .ok k S := id rfl
@[simp] theorem v_truI (k : Int) : fTru (.int k) S = .ok (k != 0) S := id rfl
@[simp] theorem v_notB (k : Bool) : fNot (.bl k) S = .ok (.bl (!k)) S := id rfl
@[simp] theorem v_neg (k : Int) : fNeg (.int k) S = .ok (.int (-k)) S := id rfl
@[simp] theorem v_intI (k : Int) : fInt (.int k) S = .ok (.int k) S := id rfl
theorem v_intB (k : Bool) : fInt (.bl k) S = .ok (.int (if k then 1 else 0)) S := id rfl
@[simp] theorem v_abs (i : Int) : fAbs (.int i) S = .ok (.int (if i < 0 then -i else i)) S := id rfl
@[simp] theorem v_max (i j : Int) : fMax2 (.int i) (.int j) S = .ok (.int (if j > i then j else i)) S := id rfl
@[simp] theorem v_min (i j : Int) : fMin2 (.int i) (.int j) S = .ok (.int (if j < i then j else i)) S := id rfl
@[simp] theorem v_tupL (ds : List D) : fTup (.lst ds) S = .ok (.tup ds) S := id rfl
@[simp] theorem v_lrng (mu : Bool) (j : Int) : fListRng mu (.int j) S = (bif small24 j then mkL mu (rngD 0 j) S else .bad) := id rfl
theorem run_at {P : Nat → Option Dfn} {ds : List D} {dn : Dfn} (h : P i = some dn) (hl : Nat.beq ds.length dn.ar = true) : run P (k + 1) g i ds S = fin S.length (dn.body (run P k) (S.length :: g) (start0 dn.n ds) S) := by
  show (match P i with
    | some d => bif Nat.beq ds.length d.ar then fin S.length (d.body (run P k) (S.length :: g) (start0 d.n ds) S) else .bad
    | none => .bad) = _
  rw [h]
  show (bif Nat.beq ds.length dn.ar then _ else _) = _
  rw [hl]
  rfl
end
/-! ### lists -/
@[simp] theorem x_asInts (l : List Int) : asInts (l.map D.int) = some l := by
  induction l with
  | nil => rfl
  | cons a l ih => simp [asInts, ih]
@[simp] theorem x_asBools (l : List Bool) : asBools (l.map D.bl) = some l := by
  induction l with
  | nil => rfl
  | cons a l ih => simp [asBools, ih]
@[simp] theorem v_sum (l : List Int) (S : Sto) : fSum (.lst (l.map D.int)) S = .ok (.int l.sum) S := by simp [fSum, lisS, lstS]
@[simp] theorem v_all (l : List Bool) (S : Sto) : fAll (.lst (l.map D.bl)) S = .ok (.bl (l.all _root_.id)) S := by simp [fAll, lisS, lstS]
@[simp] theorem v_any (l : List Bool) (S : Sto) : fAny (.lst (l.map D.bl)) S = .ok (.bl (l.any _root_.id)) S := by simp [fAny, lisS, lstS]
@[simp] theorem x_atI {α : Type} (l : List α) (i : Nat) : atI l (i : Int) = l[i]? := by
  unfold atI ixN
  rw [if_pos (Int.natCast_nonneg i)]
  by_cases h : (i : Int) < l.length
  · rw [if_pos h]
    rfl
  · rw [if_neg h, List.getElem?_eq_none (by omega)]
    rfl
@[simp] theorem x_at0 {α : Type} (l : List α) : atI l 0 = l[0]? := x_atI l 0
@[simp] theorem x_at1 {α : Type} (l : List α) : atI l 1 = l[1]? := x_atI l 1
@[simp] theorem x_at2 {α : Type} (l : List α) : atI l 2 = l[2]? := x_atI l 2
@[simp] theorem x_at3 {α : Type} (l : List α) : atI l 3 = l[3]? := x_atI l 3
@[simp] theorem x_at4 {α : Type} (l : List α) : atI l 4 = l[4]? := x_atI l 4
/-! ### bits -/
theorem not_not (x : Int) : Builtin.bitNot (Builtin.bitNot x) = x := by unfold Builtin.bitNot; omega
theorem x_or (a b : Nat) : Builtin.bitOr (a : Int) (b : Int) = ((a ||| b : Nat) : Int) := by
  unfold Builtin.bitOr Builtin.bitAnd
  have h1 : decide (0 ≤ Builtin.bitNot (a : Int)) = false := decide_eq_false (by unfold Builtin.bitNot; omega)
  have h2 : decide (0 ≤ Builtin.bitNot (b : Int)) = false := decide_eq_false (by unfold Builtin.bitNot; omega)
  rw [h1, h2]
  show Builtin.bitNot (Builtin.bitNot _) = _
  rw [not_not, not_not, not_not, Int.toNat_natCast, Int.toNat_natCast]
theorem x_and (a b : Nat) : Builtin.bitAnd (a : Int) (b : Int) = ((a &&& b : Nat) : Int) := by
  unfold Builtin.bitAnd
  have h1 : decide (0 ≤ (a : Int)) = true := decide_eq_true (by omega)
  have h2 : decide (0 ≤ (b : Int)) = true := decide_eq_true (by omega)
  rw [h1, h2]
  show ((_ : Nat) : Int) = _
  rw [Int.toNat_natCast, Int.toNat_natCast]
theorem or_split : ∀ (n a b : Nat), a < 2 ^ n → b < 2 ^ n → a ||| b = (a ^^^ b) + (a &&& b) := by
  intro n
  induction n with
  | zero =>
    intro a b ha hb
    have : a = 0 := by omega
    have : b = 0 := by omega
    subst_vars
    rfl
  | succ n ih =>
    intro a b ha hb
    rw [Nat.pow_succ] at ha hb
    have h := ih (a / 2) (b / 2) (by omega) (by omega)
    have e1 := Nat.div_add_mod (a ||| b) 2
    have e2 := Nat.div_add_mod (a ^^^ b) 2
    have e3 := Nat.div_add_mod (a &&& b) 2
    rw [Nat.or_div_two] at e1
    rw [Nat.xor_div_two] at e2
    rw [Nat.and_div_two] at e3
    have t : ∀ x : Nat, x % 2 = (x.testBit 0).toNat := fun x => by
      rw [Nat.testBit_zero]
      rcases Nat.mod_two_eq_zero_or_one x with p | p <;> simp [p]
    have m : (a ||| b) % 2 = (a ^^^ b) % 2 + (a &&& b) % 2 := by
      rw [t, t (a ^^^ b), t (a &&& b), Nat.testBit_or, Nat.testBit_xor, Nat.testBit_and]
      cases a.testBit 0 <;> cases b.testBit 0 <;> rfl
    omega
theorem x_xor (a b : Nat) : Builtin.bitXor (a : Int) (b : Int) = ((a ^^^ b : Nat) : Int) := by
  unfold Builtin.bitXor
  rw [x_or, x_and, or_split (a + b) a b (Nat.lt_of_le_of_lt (Nat.le_add_right a b) Nat.lt_two_pow_self) (Nat.lt_of_le_of_lt (Nat.le_add_left b a) Nat.lt_two_pow_self)]
  omega
theorem x_shr (a i : Nat) : (a : Int) / 2 ^ ((i : Int)).toNat = ((a >>> i : Nat) : Int) := by
  rw [Int.toNat_natCast, Nat.shiftRight_eq_div_pow]
  simp
theorem x_and1 (a : Nat) : Builtin.bitAnd (a : Int) 1 = ((a % 2 : Nat) : Int) := by
  have := x_and a 1
  rw [Nat.and_one_is_mod] at this
  exact this
/-! ### numbers by their bits -/
def mkB (f : Nat → Bool) : Nat → Nat
  | 0 => 0
  | n + 1 => mkB f n + (f n).toNat * 2 ^ n
theorem mkB_lt (f : Nat → Bool) : ∀ n, mkB f n < 2 ^ n
  | 0 => by unfold mkB; omega
  | n + 1 => by
    have := mkB_lt f n
    unfold mkB
    rw [Nat.pow_succ]
    cases f n <;> simp <;> omega
theorem mkB_congr {f h : Nat → Bool} : ∀ {n : Nat}, (∀ i, i < n → f i = h i) → mkB f n = mkB h n
  | 0, _ => rfl
  | n + 1, e => by
    unfold mkB
    rw [mkB_congr (n := n) fun i q => e i (by omega), e n (by omega)]
theorem testBit_mkB (f : Nat → Bool) (n j : Nat) : (mkB f n).testBit j = (decide (j < n) && f j) := by
  induction n with
  | zero => simp [mkB]
  | succ n ih =>
    unfold mkB
    have l := mkB_lt f n
    cases e : f n with
    | false =>
      simp only [Bool.toNat_false, Nat.zero_mul, Nat.add_zero]
      rw [ih]
      by_cases h : j < n
      · rw [decide_eq_true h, decide_eq_true (by omega)]
      · by_cases h2 : j = n
        · subst h2
          simp [e]
        · rw [decide_eq_false h, decide_eq_false (by omega)]
    | true =>
      simp only [Bool.toNat_true, Nat.one_mul]
      rw [Nat.add_comm]
      by_cases h : j < n
      · rw [Nat.testBit_two_pow_add_gt h, ih, decide_eq_true h, decide_eq_true (by omega)]
      · by_cases h2 : j = n
        · subst h2
          rw [Nat.testBit_two_pow_add_eq, ih]
          simp [e]
        · rw [decide_eq_false (by omega)]
          simp only [Bool.false_and]
          exact Nat.testBit_lt_two_pow (Nat.lt_of_lt_of_le (m := 2 ^ (n + 1)) (by rw [Nat.pow_succ]; omega) (Nat.pow_le_pow_right (by omega) (by omega)))
theorem mkB_or (f : Nat → Bool) (n : Nat) : mkB f n ||| (f n).toNat * 2 ^ n = mkB f (n + 1) := by
  apply Nat.eq_of_testBit_eq
  intro j
  rw [Nat.testBit_or, testBit_mkB, testBit_mkB]
  have : ((f n).toNat * 2 ^ n).testBit j = (f n && decide (j = n)) := by
    cases f n with
    | false => simp
    | true =>
      simp only [Bool.toNat_true, Nat.one_mul, Nat.testBit_two_pow, Bool.true_and]
      by_cases h : j = n
      · simp [h]
      · rw [decide_eq_false h, decide_eq_false (Ne.symm h)]
  rw [this]
  by_cases h : j = n
  · subst h
    simp
  · by_cases h2 : j < n
    · simp [h, h2, show j < n + 1 by omega]
    · simp [h, h2, show ¬ j < n + 1 by omega]
theorem mkB_self {x n : Nat} (h : x < 2 ^ n) : mkB x.testBit n = x := by
  apply Nat.eq_of_testBit_eq
  intro j
  rw [testBit_mkB]
  by_cases q : j < n
  · simp [q]
  · simp only [q, decide_false, Bool.false_and]
    exact (Nat.testBit_lt_two_pow (Nat.lt_of_lt_of_le h (Nat.pow_le_pow_right (by omega) (by omega)))).symm
theorem bit_toNat (x i : Nat) : (x >>> i) % 2 = (x.testBit i).toNat := by
  rw [Nat.testBit_eq_decide_div_mod_eq, Nat.shiftRight_eq_div_pow]
  rcases Nat.mod_two_eq_zero_or_one (x / 2 ^ i) with p | p <;> simp [p]
/-! ### cells -/
def natD (i : Nat) : D := .int (i : Int)
section
variable {S : Sto} {n : Nat} {ds : List D} {g : List Nat}
@[simp] theorem v_idxR (n : Nat) (k : Int) : fIdx (.ref n) (.int k) S = (match S[n]? with | some (.lst ds) => (match atI ds k with | some x => .ok x S | none => .bad) | _ => .bad) := by
  show (match (match S[n]? with | some (.lst ds) => some ds | _ => none), D.int k with | some ds, .int k => (match atI ds k with | some x => Rs.ok x S | none => .bad) | _, _ => .bad) = _
  cases S[n]? with
  | none => rfl
  | some c => cases c <;> rfl
@[simp] theorem v_lenR (n : Nat) : fLen (.ref n) S = (match S[n]? with | some (.lst ds) => .ok (.int ds.length) S | _ => .bad) := by
  show (match (match S[n]? with | some (.lst ds) => some ds | _ => none) with | some ds => Rs.ok (D.int ds.length) S | none => .bad) = _
  cases S[n]? with
  | none => rfl
  | some c => cases c <;> rfl
@[simp] theorem v_setR (n : Nat) (k i : Int) : fSet g (.ref n) (.int k) (.int i) S = (match S[n]? with | some (.lst ds) => (match ixN ds.length k with | some j => .ok .non (S.set n (.lst (ds.set j (.int i)))) | none => .bad) | _ => .bad) := by
  show (match (match S[n]? with | some (.lst ds) => some (n, ds) | _ => none), D.int k with | some (n, xs), .int k => (match ixN xs.length k with | some j => (bif okW g n (.int i) then Rs.ok D.non (S.set n (.lst (xs.set j (.int i)))) else .bad) | none => .bad) | _, _ => .bad) = _
  cases S[n]? with
  | none => rfl
  | some c =>
    cases c with
    | dead => rfl
    | lst ds =>
      dsimp only
      cases ixN ds.length k <;> rfl
@[simp] theorem x_ixN (n k : Nat) : ixN n (k : Int) = if k < n then some k else none := by
  unfold ixN
  rw [if_pos (Int.natCast_nonneg k)]
  by_cases h : k < n
  · rw [if_pos (by omega), if_pos h]
    rfl
  · rw [if_neg (by omega), if_neg h]
@[simp] theorem x_ix0 (n : Nat) : ixN n 0 = if 0 < n then some 0 else none := x_ixN n 0
@[simp] theorem x_ix1 (n : Nat) : ixN n 1 = if 1 < n then some 1 else none := x_ixN n 1
@[simp] theorem x_ix2 (n : Nat) : ixN n 2 = if 2 < n then some 2 else none := x_ixN n 2
@[simp] theorem x_ix3 (n : Nat) : ixN n 3 = if 3 < n then some 3 else none := x_ixN n 3
theorem get_set (h : n < S.length) (c : Cell) : (S.set n c)[n]? = some c := by simp [h]
end
end Lk

namespace Lk.K46
open PySem PySem.Spec PyProof.Rows L2
def top (i : Nat) : Stmt := PySem.Challenge.pw_lampkinds_k46_turns.main.body.getD i (.Pass ⟨0, 0, 0, 0⟩)
def G : Gx where
  fns := ([("is_whole", 0, 1), ("count_of", 1, 1), ("is_lamp", 2, 1), ("check_lamp", 3, 1), ("check_sort", 4, 1), ("fits_turn", 5, 2), ("is_of_sort", 6, 2), ("is_turn", 7, 3), ("fed", 8, 2), ("turned_table", 9, 3), ("turned_by", 10, 2), ("check_turn", 11, 1), ("joined_turn", 12, 2), ("undone", 13, 1), ("_law_draw", 14, 1), ("_law_take", 15, 2), ("_law_says", 16, 2), ("_law_bit", 17, 2), ("_law_two", 18, 1), ("_law_at", 19, 2), ("_law_made", 20, 1), ("_law_row", 21, 1), ("_law_weighted", 22, 2), ("_law_lamp", 23, 2)] : List (Str × Nat × Nat)) ++ ([("_law_inside", 24, 3), ("_law_crossed", 25, 3), ("_law_odd_lamp", 26, 2), ("_law_turn", 27, 3), ("_law_fed", 28, 2), ("_law_turned", 29, 2), ("_law_is_turn", 30, 3), ("_law_bent_turn", 31, 2), ("_law_told", 32, 4), ("law", 33, 1)] : List (Str × Nat × Nat))
  csts := [("MOST_VARIABLES_lamps", .int 5), ("SORTS", .tup [.str "names", .str "signs", .str "all"]), ("MOST_VARIABLES_turns", .int 5)]
  excs := [("Fault", 0), ("Malformed", 1)]
  plain := [("Fault", 0), ("Malformed", 1)]
  blts := ["abs", "all", "any", "bool", "enumerate", "int", "isinstance", "len", "list", "max", "range", "repr", "sorted", "str", "sum", "tuple"]
  mus := [⟨83, 11, 83, 61⟩, ⟨148, 19, 148, 33⟩]
  fzs := []
  sub := fun i j => (([[true, false], [true, true]] : List (List Bool)).getD i []).getD j false
def es : List Str := ["Fault", "Malformed"]
/-! is_whole(value): value -/
def b0 : SemS :=
  (sRet (eAndV (eT (tt (fIsi "int") (eVar 0))) (e1 fNot (eT (tt (fIsi "bool") (eVar 0))))))
def dd0 : DD := ⟨"is_whole", top 4, ["value"], ["value"], b0⟩
/-! count_of(n): n -/
def b1 : SemS :=
  (sRet (e2 fShl (eCst (.int 1)) (eVar 0)))
def dd1 : DD := ⟨"count_of", top 7, ["n"], ["n"], b1⟩
/-! is_lamp(value): value -/
def b2 : SemS :=
  (sSeq (sIf (tOrT (tNotT (tt fTru (eT (tt (fIsi "tuple") (eVar 0))))) (tOrT (t2 (fEq true) (e1 fLen (eVar 0)) (eCst (.int 2))) (tOrT (tNotT (tt fTru (eCall 0 (esCons (e2 fIdx (eVar 0) (eCst (.int 0))) esNil)))) (tNotT (tt fTru (eCall 0 (esCons (e2 fIdx (eVar 0) (eCst (.int 1))) esNil)))))))
   (sRet (eCst (.bl false)))
   sPass)
  (sRet (eAndV (eT (t3 (fLe) (fLe) (eCst (.int 1)) (e2 fIdx (eVar 0) (eCst (.int 0))) (eCst (.int 5)))) (eT (t3 (fLe) (fLt) (eCst (.int 0)) (e2 fIdx (eVar 0) (eCst (.int 1))) (e2 fShl (eCst (.int 1)) (eCall 1 (esCons (e2 fIdx (eVar 0) (eCst (.int 0))) esNil))))))))
def dd2 : DD := ⟨"is_lamp", top 8, ["value"], ["value"], b2⟩
/-! check_lamp(value): value -/
def b3 : SemS :=
  (sIf (tNotT (tt fTru (eCall 2 (esCons (eVar 0) esNil))))
   (sRaise 1)
   sPass)
def dd3 : DD := ⟨"check_lamp", top 9, ["value"], ["value"], b3⟩
/-! check_sort(sort): sort -/
def b4 : SemS :=
  (sIf (tOrT (tNotT (tt fTru (eT (tt (fIsi "str") (eVar 0))))) (t2 (fIn true) (eVar 0) (eCst (.tup [.str "names", .str "signs", .str "all"]))))
   (sRaise 1)
   sPass)
def dd4 : DD := ⟨"check_sort", top 13, ["sort"], ["sort"], b4⟩
/-! fits_turn(n, value): n, value, item -/
def b5 : SemS :=
  (sSeq (sIf (tOrT (tNotT (tt fTru (eT (tt (fIsi "tuple") (eVar 1))))) (tOrT (t2 (fEq true) (e1 fLen (eVar 1)) (eCst (.int 3))) (tOrT (tNotT (tt fTru (eT (tt (fIsi "tuple") (e2 fIdx (eVar 1) (eCst (.int 0))))))) (t2 (fEq true) (e1 fLen (e2 fIdx (eVar 1) (eCst (.int 0)))) (eVar 0)))))
   (sRet (eCst (.bl false)))
   sPass)
  (sSeq (sIf (tOrT (tNotT (tt fTru (e1 fAll (eComp false [2] (iSeq (e2 fIdx (eVar 1) (eCst (.int 0)))) (gSet 2) tYesT (eCall 0 (esCons (eVar 2) esNil)))))) (tOrT (tNotT (tt fTru (eCall 0 (esCons (e2 fIdx (eVar 1) (eCst (.int 1))) esNil)))) (tNotT (tt fTru (eCall 0 (esCons (e2 fIdx (eVar 1) (eCst (.int 2))) esNil))))))
   (sRet (eCst (.bl false)))
   sPass)
  (sRet (eAndV (eT (t2 (fEq false) (e1 (fSorted false) (e2 fIdx (eVar 1) (eCst (.int 0)))) (e1 (fListRng false) (eVar 0)))) (eAndV (eT (t3 (fLe) (fLt) (eCst (.int 0)) (e2 fIdx (eVar 1) (eCst (.int 1))) (e2 fShl (eCst (.int 1)) (eVar 0)))) (eT (t3 (fLe) (fLe) (eCst (.int 0)) (e2 fIdx (eVar 1) (eCst (.int 2))) (eCst (.int 1)))))))))
def dd5 : DD := ⟨"fits_turn", top 14, ["n", "value", "item"], ["n", "value"], b5⟩
/-! is_of_sort(turn, sort): turn, sort -/
def b6 : SemS :=
  (sSeq (sIf (t2 (fEq false) (eVar 1) (eCst (.str "names")))
   (sRet (eAndV (eT (t2 (fEq false) (e2 fIdx (eVar 0) (eCst (.int 1))) (eCst (.int 0)))) (eT (t2 (fEq false) (e2 fIdx (eVar 0) (eCst (.int 2))) (eCst (.int 0))))))
   sPass)
  (sRet (eOrV (eT (t2 (fEq false) (eVar 1) (eCst (.str "all")))) (eT (t2 (fEq false) (e2 fIdx (eVar 0) (eCst (.int 2))) (eCst (.int 0)))))))
def dd6 : DD := ⟨"is_of_sort", top 15, ["turn", "sort"], ["turn", "sort"], b6⟩
/-! is_turn(n, sort, value): n, sort, value -/
def b7 : SemS :=
  (sSeq (sIf (tOrT (tNotT (tt fTru (eCall 0 (esCons (eVar 0) esNil)))) (tNotT (t3 (fLe) (fLe) (eCst (.int 1)) (eVar 0) (eCst (.int 5)))))
   (sRaise 1)
   sPass)
  (sSeq (sExpr (eCall 4 (esCons (eVar 1) esNil)))
  (sRet (eAndV (eCall 5 (esCons (eVar 0) (esCons (eVar 2) esNil))) (eCall 6 (esCons (eVar 2) (esCons (eVar 1) esNil)))))))
def dd7 : DD := ⟨"is_turn", top 16, ["n", "sort", "value"], ["n", "sort", "value"], b7⟩
/-! fed(turn, x): turn, x, found, order, mask, _, i, place -/
def b8 : SemS :=
  (sSeq (sAsg (gTupD 3 (gsCons (gSet 3) (gsCons (gSet 4) (gsCons (gSet 5) gsNil)))) (eVar 0))
  (sSeq (sAsg (gSet 2) (eCst (.int 0)))
  (sSeq (sFor (iEnumR (eVar 3)) (gTupD 2 (gsCons (gSet 6) (gsCons (gSet 7) gsNil)))
   (sAug 2 fOr (e2 fShl (e2 fAnd (e2 fShr (eVar 1) (eVar 7)) (eCst (.int 1))) (eVar 6))))
  (sRet (e2 fXor (eVar 2) (eVar 4))))))
def dd8 : DD := ⟨"fed", top 17, ["turn", "x", "found", "order", "mask", "_", "i", "place"], ["turn", "x"], b8⟩
/-! turned_table(table, n, turn): table, n, turn, found, x -/
def b9 : SemS :=
  (sSeq (sAsg (gSet 3) (eCst (.int 0)))
  (sSeq (sFor (iRng1R (e2 fShl (eCst (.int 1)) (eVar 1))) (gSet 4)
   (sAug 3 fOr (e2 fShl (e2 fXor (e2 fAnd (e2 fShr (eVar 0) (eCall 8 (esCons (eVar 2) (esCons (eVar 4) esNil)))) (eCst (.int 1))) (e2 fIdx (eVar 2) (eCst (.int 2)))) (eVar 4))))
  (sRet (eVar 3))))
def dd9 : DD := ⟨"turned_table", top 18, ["table", "n", "turn", "found", "x"], ["table", "n", "turn"], b9⟩
/-! turned_by(lamp, turn): lamp, turn -/
def b10 : SemS :=
  (sSeq (sExpr (eCall 3 (esCons (eVar 0) esNil)))
  (sSeq (sIf (tNotT (tt fTru (eCall 5 (esCons (e2 fIdx (eVar 0) (eCst (.int 0))) (esCons (eVar 1) esNil)))))
   (sRaise 1)
   sPass)
  (sRet (eTup (esCons (e2 fIdx (eVar 0) (eCst (.int 0))) (esCons (eCall 9 (esCons (e2 fIdx (eVar 0) (eCst (.int 1))) (esCons (e2 fIdx (eVar 0) (eCst (.int 0))) (esCons (eVar 1) esNil)))) esNil))))))
def dd10 : DD := ⟨"turned_by", top 19, ["lamp", "turn"], ["lamp", "turn"], b10⟩
/-! check_turn(value): value -/
def b11 : SemS :=
  (sSeq (sIf (tOrT (tNotT (tt fTru (eT (tt (fIsi "tuple") (eVar 0))))) (tOrT (t2 (fEq true) (e1 fLen (eVar 0)) (eCst (.int 3))) (tNotT (tt fTru (eT (tt (fIsi "tuple") (e2 fIdx (eVar 0) (eCst (.int 0)))))))))
   (sRaise 1)
   sPass)
  (sIf (tOrT (tNotT (t3 (fLe) (fLe) (eCst (.int 1)) (e1 fLen (e2 fIdx (eVar 0) (eCst (.int 0)))) (eCst (.int 5)))) (tNotT (tt fTru (eCall 5 (esCons (e1 fLen (e2 fIdx (eVar 0) (eCst (.int 0)))) (esCons (eVar 0) esNil))))))
   (sRaise 1)
   sPass))
def dd11 : DD := ⟨"check_turn", top 20, ["value"], ["value"], b11⟩
/-! joined_turn(one, two): one, two, mask, i, place -/
def b12 : SemS :=
  (sSeq (sExpr (eCall 11 (esCons (eVar 0) esNil)))
  (sSeq (sExpr (eCall 11 (esCons (eVar 1) esNil)))
  (sSeq (sIf (t2 (fEq true) (e1 fLen (e2 fIdx (eVar 0) (eCst (.int 0)))) (e1 fLen (e2 fIdx (eVar 1) (eCst (.int 0)))))
   (sRaise 1)
   sPass)
  (sSeq (sAsg (gSet 2) (e2 fIdx (eVar 0) (eCst (.int 1))))
  (sSeq (sFor (iEnumR (e2 fIdx (eVar 0) (eCst (.int 0)))) (gTupD 2 (gsCons (gSet 3) (gsCons (gSet 4) gsNil)))
   (sAug 2 fXor (e2 fShl (e2 fAnd (e2 fShr (e2 fIdx (eVar 1) (eCst (.int 1))) (eVar 4)) (eCst (.int 1))) (eVar 3))))
  (sRet (eTup (esCons (e1 fTup (eComp false [4] (iSeq (e2 fIdx (eVar 0) (eCst (.int 0)))) (gSet 4) tYesT (e2 fIdx (e2 fIdx (eVar 1) (eCst (.int 0))) (eVar 4)))) (esCons (eVar 2) (esCons (e2 fXor (e2 fIdx (eVar 0) (eCst (.int 2))) (e2 fIdx (eVar 1) (eCst (.int 2)))) esNil))))))))))
def dd12 : DD := ⟨"joined_turn", top 21, ["one", "two", "mask", "i", "place"], ["one", "two"], b12⟩
/-! undone(turn): turn, order, mask, i, place -/
def b13 : SemS :=
  (sSeq (sExpr (eCall 11 (esCons (eVar 0) esNil)))
  (sSeq (sAsg (gSet 1) (eComp false [4] (iRng1R (e1 fLen (e2 fIdx (eVar 0) (eCst (.int 0))))) (gSet 4) tYesT (eMt isTupD fIndexT (e2 fIdx (eVar 0) (eCst (.int 0))) (esCons (eVar 4) esNil))))
  (sSeq (sAsg (gSet 2) (eCst (.int 0)))
  (sSeq (sFor (iEnumR (eVar 1)) (gTupD 2 (gsCons (gSet 3) (gsCons (gSet 4) gsNil)))
   (sAug 2 fOr (e2 fShl (e2 fAnd (e2 fShr (e2 fIdx (eVar 0) (eCst (.int 1))) (eVar 4)) (eCst (.int 1))) (eVar 3))))
  (sRet (eTup (esCons (e1 fTup (eVar 1)) (esCons (eVar 2) (esCons (e2 fIdx (eVar 0) (eCst (.int 2))) esNil)))))))))
def dd13 : DD := ⟨"undone", top 22, ["turn", "order", "mask", "i", "place"], ["turn"], b13⟩
/-! _law_draw(script): script, seed, cell -/
def t14_0 : SemS :=
  (sFor (iSeq (eVar 0)) (gSet 2)
   (sAsg (gSet 1) (e2 fMod (e1 fInt (e2 (fAdd false) (e2 (fAdd false) (e2 (fMul false) (eVar 1) (eCst (.int 48271))) (e2 fMod (e1 fAbs (e1 fInt (eVar 2))) (eCst (.int 65521)))) (eCst (.int 1)))) (eCst (.int 2147483647)))))
def c14_1 : SemE :=
  (eComp false [2] (iSeq (eVar 0)) (gSet 2) tYesT (e1 fAbs (e1 fInt (eVar 2))))
def b14 : SemS :=
  (sSeq (sAsg (gSet 1) (eCst (.int 7)))
  (sSeq t14_0
  (sRet (eLst true (esCons c14_1 (esCons (e1 fNeg (eCst (.int 1))) (esCons (eCst (.int 0)) (esCons (eVar 1) esNil))))))))
def dd14 : DD := ⟨"_law_draw", top 24, ["script", "seed", "cell"], ["script"], b14⟩
/-! _law_take(draw, many): draw, many, found -/
def b15 : SemS :=
  (sSeq (sIf (t2 (fEq false) (e2 fIdx (eVar 0) (eCst (.int 2))) (eCst (.int 0)))
   (sSeq (sSub fSet (e2 (fAdd false) (e2 fIdx (eVar 0) (eCst (.int 1))) (eCst (.int 1))) (eVar 0) (eCst (.int 1)))
   (sSeq (sIf (t2 (fLt) (e2 fIdx (eVar 0) (eCst (.int 1))) (e1 fLen (e2 fIdx (eVar 0) (eCst (.int 0)))))
    (sSub fSet (e2 fIdx (e2 fIdx (eVar 0) (eCst (.int 0))) (e2 fIdx (eVar 0) (eCst (.int 1)))) (eVar 0) (eCst (.int 2)))
    sPass)
   (sIf (t2 (fEq false) (e2 fIdx (eVar 0) (eCst (.int 2))) (eCst (.int 0)))
    (sSeq (sSub fSet (e2 fMod (e1 fInt (e2 (fAdd false) (e2 (fMul false) (e2 fIdx (eVar 0) (eCst (.int 3))) (eCst (.int 48271))) (eCst (.int 11)))) (eCst (.int 2147483647))) (eVar 0) (eCst (.int 3)))
    (sSub fSet (e2 fIdx (eVar 0) (eCst (.int 3))) (eVar 0) (eCst (.int 2))))
    sPass)))
   sPass)
  (sSeq (sAsg (gSet 2) (e2 fMod (e1 fInt (e2 fIdx (eVar 0) (eCst (.int 2)))) (eVar 1)))
  (sSeq (sSub fSet (e2 fDiv (e2 fIdx (eVar 0) (eCst (.int 2))) (eVar 1)) (eVar 0) (eCst (.int 2)))
  (sRet (eVar 2)))))
def dd15 : DD := ⟨"_law_take", top 25, ["draw", "many", "found"], ["draw", "many"], b15⟩
/-! _law_says(value, due): value, due -/
def b16 : SemS :=
  (sRet (eAndV (eT (tt (fIsi "bool") (eVar 0))) (eT (t2 (fEq false) (eVar 0) (eVar 1)))))
def dd16 : DD := ⟨"_law_says", top 26, ["value", "due"], ["value", "due"], b16⟩
/-! _law_bit(x, i): x, i -/
def b17 : SemS :=
  (sRet (e2 fMod (e1 fInt (e2 fShr (eVar 0) (eVar 1))) (eCst (.int 2))))
def dd17 : DD := ⟨"_law_bit", top 27, ["x", "i"], ["x", "i"], b17⟩
/-! _law_two(i): i -/
def b18 : SemS :=
  (sRet (e2 fShl (eCst (.int 1)) (eVar 0)))
def dd18 : DD := ⟨"_law_two", top 28, ["i"], ["i"], b18⟩
/-! _law_at(lamp, x): lamp, x -/
def b19 : SemS :=
  (sRet (eCall 17 (esCons (e2 fIdx (eVar 0) (eCst (.int 1))) (esCons (eVar 1) esNil))))
def dd19 : DD := ⟨"_law_at", top 29, ["lamp", "x"], ["lamp", "x"], b19⟩
/-! _law_made(values): values, found, x -/
def b20 : SemS :=
  (sSeq (sAsg (gSet 1) (eCst (.int 0)))
  (sSeq (sFor (iRng1R (e1 fLen (eVar 0))) (gSet 2)
   (sAsg (gSet 1) (e2 (fAdd false) (eVar 1) (e2 (fMul false) (e2 fIdx (eVar 0) (eVar 2)) (eCall 18 (esCons (eVar 2) esNil))))))
  (sRet (eVar 1))))
def dd20 : DD := ⟨"_law_made", top 30, ["values", "found", "x"], ["values"], b20⟩
/-! _law_row(lamp): lamp, x -/
def b21 : SemS :=
  (sRet (eComp false [1] (iRng1R (eCall 18 (esCons (e2 fIdx (eVar 0) (eCst (.int 0))) esNil))) (gSet 1) tYesT (eCall 17 (esCons (e2 fIdx (eVar 0) (eCst (.int 1))) (esCons (eVar 1) esNil)))))
def dd21 : DD := ⟨"_law_row", top 31, ["lamp", "x"], ["lamp"], b21⟩
/-! _law_weighted(draw, n): draw, n, weights, quota, i, x -/
def c22_0 : SemE :=
  (eComp false [4] (iRng1R (eVar 1)) (gSet 4) tYesT (eCall 15 (esCons (eVar 0) (esCons (eCst (.int 6)) esNil))))
def c22_2 : SemE :=
  (eComp false [4] (iRng1R (eVar 1)) (gSet 4) (t2 (fEq false) (eCall 17 (esCons (eVar 5) (esCons (eVar 4) esNil))) (eCst (.int 1))) (e2 fIdx (eVar 2) (eVar 4)))
def c22_1 : SemE :=
  (eComp false [5] (iRng1R (eCall 18 (esCons (eVar 1) esNil))) (gSet 5) tYesT (e1 fInt (eT (t2 (fGe) (e1 fSum c22_2) (eVar 3)))))
def b22 : SemS :=
  (sSeq (sAsg (gSet 2) c22_0)
  (sSeq (sAsg (gSet 3) (e2 (fAdd false) (eCst (.int 1)) (eCall 15 (esCons (eVar 0) (esCons (e2 fMax2 (eCst (.int 1)) (e1 fSum (eVar 2))) esNil)))))
  (sRet c22_1)))
def dd22 : DD := ⟨"_law_weighted", top 32, ["draw", "n", "weights", "quota", "i", "x"], ["draw", "n"], b22⟩
/-! _law_lamp(draw, most): draw, most, n, kind, size, row, x, tops, base, mask, turn, few, i, j, item, top -/
def c23_1 : SemE :=
  (eComp false [6] (iRng1R (eVar 4)) (gSet 6) tYesT (eCall 15 (esCons (eVar 0) (esCons (eCst (.int 2)) esNil))))
def c23_4 : SemE :=
  (eComp false [10] (iRng1R (e2 (fAdd false) (eCst (.int 1)) (eCall 15 (esCons (eVar 0) (esCons (eCst (.int 3)) esNil))))) (gSet 10) tYesT (eCall 15 (esCons (eVar 0) (esCons (eVar 4) esNil))))
def c23_6 : SemE :=
  (eComp false [15] (iSeq (eVar 7)) (gSet 15) tYesT (eCall 24 (esCons (eVar 15) (esCons (eVar 6) (esCons (eVar 2) esNil)))))
def c23_5 : SemE :=
  (eComp false [6] (iRng1R (eVar 4)) (gSet 6) tYesT (e1 fInt (e1 fAny c23_6)))
def c23_8 : SemE :=
  (eComp false [6] (iRng1R (eVar 4)) (gSet 6) tYesT (e2 fIdx (eVar 8) (eCall 25 (esCons (eVar 6) (esCons (eVar 9) (esCons (eVar 2) esNil))))))
def c23_11 : SemE :=
  (eComp false [12] (iRng1R (eVar 2)) (gSet 12) (t2 (fEq false) (eCall 17 (esCons (eVar 9) (esCons (eVar 12) esNil))) (eCst (.int 1))) (eCall 17 (esCons (eVar 6) (esCons (eVar 12) esNil))))
def c23_10 : SemE :=
  (eComp false [6] (iRng1R (eVar 4)) (gSet 6) tYesT (e1 fSum c23_11))
def c23_12 : SemE :=
  (eComp false [14] (iSeq (eVar 5)) (gSet 14) tYesT (e2 fSub (eVar 14) (e2 (fMul false) (e2 fDiv (eVar 14) (eCst (.int 2))) (eCst (.int 2)))))
def c23_13 : SemE :=
  (eComp false [6] (iRng1R (eCst (.int 4))) (gSet 6) tYesT (eCall 15 (esCons (eVar 0) (esCons (eCst (.int 2)) esNil))))
def c23_14 : SemE :=
  (eComp false [6] (iRng1R (eVar 4)) (gSet 6) tYesT (e2 fIdx (eVar 11) (e2 (fAdd false) (eCall 17 (esCons (eVar 6) (esCons (eVar 12) esNil))) (e2 (fMul false) (eCst (.int 2)) (eCall 17 (esCons (eVar 6) (esCons (eVar 13) esNil)))))))
def t23_9 : SemS :=
  (sIf (t2 (fEq false) (eVar 3) (eCst (.int 4)))
   (sSeq (sAsg (gSet 9) (eCall 15 (esCons (eVar 0) (esCons (eVar 4) esNil))))
   (sSeq (sAsg (gSet 5) c23_10)
   (sAsg (gSet 5) c23_12)))
   (sSeq (sAsg (gSet 11) c23_13)
   (sSeq (sAsg (gTupD 2 (gsCons (gSet 12) (gsCons (gSet 13) gsNil))) (eTup (esCons (eCall 15 (esCons (eVar 0) (esCons (eVar 2) esNil))) (esCons (eCall 15 (esCons (eVar 0) (esCons (eVar 2) esNil))) esNil))))
   (sAsg (gSet 5) c23_14))))
def t23_7 : SemS :=
  (sIf (t2 (fEq false) (eVar 3) (eCst (.int 3)))
   (sSeq (sAsg (gSet 8) (eCall 22 (esCons (eVar 0) (esCons (eVar 2) esNil))))
   (sSeq (sAsg (gSet 9) (eCall 15 (esCons (eVar 0) (esCons (eVar 4) esNil))))
   (sAsg (gSet 5) c23_8)))
   t23_9)
def t23_3 : SemS :=
  (sIf (t2 (fEq false) (eVar 3) (eCst (.int 2)))
   (sSeq (sAsg (gSet 7) c23_4)
   (sAsg (gSet 5) c23_5))
   t23_7)
def t23_2 : SemS :=
  (sIf (t2 (fEq false) (eVar 3) (eCst (.int 1)))
   (sAsg (gSet 5) (eCall 22 (esCons (eVar 0) (esCons (eVar 2) esNil))))
   t23_3)
def t23_0 : SemS :=
  (sIf (t2 (fEq false) (eVar 3) (eCst (.int 0)))
   (sAsg (gSet 5) c23_1)
   t23_2)
def b23 : SemS :=
  (sSeq (sAsg (gSet 2) (e2 (fAdd false) (eCst (.int 1)) (eCall 15 (esCons (eVar 0) (esCons (eVar 1) esNil)))))
  (sSeq (sAsg (gSet 3) (eCall 15 (esCons (eVar 0) (esCons (eCst (.int 6)) esNil))))
  (sSeq (sAsg (gSet 4) (eCall 18 (esCons (eVar 2) esNil)))
  (sSeq t23_0
  (sRet (eTup (esCons (eVar 2) (esCons (eCall 20 (esCons (eVar 5) esNil)) esNil))))))))
def dd23 : DD := ⟨"_law_lamp", top 33, ["draw", "most", "n", "kind", "size", "row", "x", "tops", "base", "mask", "turn", "few", "i", "j", "item", "top"], ["draw", "most"], b23⟩
/-! _law_inside(one, two, n): one, two, n, i -/
def b24 : SemS :=
  (sRet (e1 fAll (eComp false [3] (iRng1R (eVar 2)) (gSet 3) tYesT (eT (t2 (fLe) (eCall 17 (esCons (eVar 0) (esCons (eVar 3) esNil))) (eCall 17 (esCons (eVar 1) (esCons (eVar 3) esNil))))))))
def dd24 : DD := ⟨"_law_inside", top 34, ["one", "two", "n", "i"], ["one", "two", "n"], b24⟩
/-! _law_crossed(x, mask, n): x, mask, n, i -/
def b25 : SemS :=
  (sRet (e1 fSum (eComp false [3] (iRng1R (eVar 2)) (gSet 3) (t2 (fEq true) (eCall 17 (esCons (eVar 0) (esCons (eVar 3) esNil))) (eCall 17 (esCons (eVar 1) (esCons (eVar 3) esNil)))) (eCall 18 (esCons (eVar 3) esNil)))))
def dd25 : DD := ⟨"_law_crossed", top 35, ["x", "mask", "n", "i"], ["x", "mask", "n"], b25⟩
/-! _law_odd_lamp(draw, lamp): draw, lamp, top, odd, n, table -/
def b26 : SemS :=
  (sSeq (sAsg (gTupD 2 (gsCons (gSet 4) (gsCons (gSet 5) gsNil))) (eVar 1))
  (sSeq (sAsg (gSet 2) (eCall 18 (esCons (eCall 18 (esCons (eVar 4) esNil)) esNil)))
  (sSeq (sAsg (gSet 3) (eLst false (esCons (eCst .non) (esCons (eTup esNil) (esCons (eCst (.int 5)) (esCons (eLst false (esCons (eVar 4) (esCons (eVar 5) esNil))) (esCons (eTup (esCons (eVar 4) (esCons (e1 fNeg (eCst (.int 1))) esNil))) (esCons (eTup (esCons (eVar 4) (esCons (eVar 2) esNil))) (esCons (eTup (esCons (eCst (.int 0)) (esCons (eCst (.int 0)) esNil))) (esCons (eTup (esCons (eCst (.int 6)) (esCons (eCst (.int 0)) esNil))) (esCons (eTup (esCons (eCst (.bl true)) (esCons (eCst (.int 0)) esNil))) (esCons (eTup (esCons (eVar 4) (esCons (eCst (.bl true)) esNil))) (esCons (eTup (esCons (eVar 4) (esCons (eVar 5) (esCons (eCst (.int 0)) esNil)))) (esCons (eTup (esCons (eVar 4) esNil)) (esCons (eTup (esCons (eVar 4) (esCons (eCst (.str "1")) esNil))) (esCons (eTup (esCons (eCst (.str "2")) (esCons (eCst (.int 1)) esNil))) (esCons (eTup (esCons (eVar 4) (esCons (eCst .non) esNil))) esNil)))))))))))))))))
  (sRet (e2 fIdx (eVar 3) (eCall 15 (esCons (eVar 0) (esCons (eCst (.int 15)) esNil))))))))
def dd26 : DD := ⟨"_law_odd_lamp", top 36, ["draw", "lamp", "top", "odd", "n", "table"], ["draw", "lamp"], b26⟩
/-! _law_turn(draw, n, sort): draw, n, sort, mask, left, order -/
def t27_0 : SemS :=
  (sWhile (t2 (fEq true) (eVar 4) (eLst false esNil))
   (sAsg (gSet 5) (e2 (fAdd false) (eVar 5) (eTup (esCons (eMt isCel fPop (eVar 4) (esCons (eCall 15 (esCons (eVar 0) (esCons (e1 fLen (eVar 4)) esNil))) esNil)) esNil)))))
def b27 : SemS :=
  (sSeq (sPar 4 5 (esCons (e1 (fListRng true) (eVar 1)) (esCons (eTup esNil) esNil)))
  (sSeq t27_0
  (sSeq (sAsg (gSet 3) (eIf (t2 (fEq false) (eVar 2) (eCst (.str "names"))) (eCst (.int 0)) (eCall 15 (esCons (eVar 0) (esCons (eCall 18 (esCons (eVar 1) esNil)) esNil)))))
  (sRet (eTup (esCons (eVar 5) (esCons (eVar 3) (esCons (eIf (t2 (fEq false) (eVar 2) (eCst (.str "all"))) (eCall 15 (esCons (eVar 0) (esCons (eCst (.int 2)) esNil))) (eCst (.int 0))) esNil))))))))
def dd27 : DD := ⟨"_law_turn", top 37, ["draw", "n", "sort", "mask", "left", "order"], ["draw", "n", "sort"], b27⟩
/-! _law_fed(turn, x): turn, x, i -/
def b28 : SemS :=
  (sRet (e1 fSum (eComp false [2] (iRng1R (e1 fLen (e2 fIdx (eVar 0) (eCst (.int 0))))) (gSet 2) (t2 (fEq true) (eCall 17 (esCons (eVar 1) (esCons (e2 fIdx (e2 fIdx (eVar 0) (eCst (.int 0))) (eVar 2)) esNil))) (eCall 17 (esCons (e2 fIdx (eVar 0) (eCst (.int 1))) (esCons (eVar 2) esNil)))) (eCall 18 (esCons (eVar 2) esNil)))))
def dd28 : DD := ⟨"_law_fed", top 38, ["turn", "x", "i"], ["turn", "x"], b28⟩
/-! _law_turned(lamp, turn): lamp, turn, x -/
def b29 : SemS :=
  (sRet (eTup (esCons (e2 fIdx (eVar 0) (eCst (.int 0))) (esCons (eCall 20 (esCons (eComp false [2] (iRng1R (eCall 18 (esCons (e2 fIdx (eVar 0) (eCst (.int 0))) esNil))) (gSet 2) tYesT (e1 fInt (eT (t2 (fEq true) (eCall 19 (esCons (eVar 0) (esCons (eCall 28 (esCons (eVar 1) (esCons (eVar 2) esNil))) esNil))) (e2 fIdx (eVar 1) (eCst (.int 2))))))) esNil)) esNil))))
def dd29 : DD := ⟨"_law_turned", top 39, ["lamp", "turn", "x"], ["lamp", "turn"], b29⟩
/-! _law_is_turn(value, n, sort): value, n, sort, item -/
def b30 : SemS :=
  (sSeq (sIf (tOrT (tNotT (tt fTru (eT (tt (fIsi "tuple") (eVar 0))))) (tOrT (t2 (fEq true) (e1 fLen (eVar 0)) (eCst (.int 3))) (tNotT (tt fTru (eT (tt (fIsi "tuple") (e2 fIdx (eVar 0) (eCst (.int 0)))))))))
   (sRet (eCst (.bl false)))
   sPass)
  (sSeq (sIf (tNotT (tt fTru (e1 fAll (eComp false [3] (iSeq (e2 (fAdd false) (e2 fIdx (eVar 0) (eCst (.int 0))) (eSl false (eVar 0) (oSome (eCst (.int 1))) oNone))) (gSet 3) tYesT (eAndV (eT (tt (fIsi "int") (eVar 3))) (e1 fNot (eT (tt (fIsi "bool") (eVar 3)))))))))
   (sRet (eCst (.bl false)))
   sPass)
  (sSeq (sIf (tOrT (t2 (fEq true) (e1 (fSorted false) (e2 fIdx (eVar 0) (eCst (.int 0)))) (e1 (fListRng false) (eVar 1))) (tOrT (tNotT (t3 (fLe) (fLt) (eCst (.int 0)) (e2 fIdx (eVar 0) (eCst (.int 1))) (eCall 18 (esCons (eVar 1) esNil)))) (t2 (fIn true) (e2 fIdx (eVar 0) (eCst (.int 2))) (eLst false (esCons (eCst (.int 0)) (esCons (eCst (.int 1)) esNil))))))
   (sRet (eCst (.bl false)))
   sPass)
  (sRet (eOrV (eT (t2 (fEq false) (eVar 2) (eCst (.str "all")))) (eAndV (eT (t2 (fEq false) (e2 fIdx (eVar 0) (eCst (.int 2))) (eCst (.int 0)))) (eOrV (eT (t2 (fEq false) (eVar 2) (eCst (.str "signs")))) (eT (t2 (fEq false) (e2 fIdx (eVar 0) (eCst (.int 1))) (eCst (.int 0)))))))))))
def dd30 : DD := ⟨"_law_is_turn", top 40, ["value", "n", "sort", "item"], ["value", "n", "sort"], b30⟩
/-! _law_bent_turn(draw, turn): draw, turn, at, odd, order, mask, flip -/
def b31 : SemS :=
  (sSeq (sAsg (gTupD 3 (gsCons (gSet 4) (gsCons (gSet 5) (gsCons (gSet 6) gsNil)))) (eVar 1))
  (sSeq (sAsg (gSet 2) (eCall 15 (esCons (eVar 0) (esCons (e1 fLen (eVar 4)) esNil))))
  (sSeq (sAsg (gSet 3) (eLst false (esCons (eTup (esCons (eVar 4) (esCons (eVar 5) (esCons (eCst (.int 2)) esNil)))) (esCons (eTup (esCons (eVar 4) (esCons (e1 fNeg (eCst (.int 1))) (esCons (eVar 6) esNil)))) (esCons (eTup (esCons (eVar 4) (esCons (eCall 18 (esCons (e1 fLen (eVar 4)) esNil)) (esCons (eVar 6) esNil)))) (esCons (eTup (esCons (eVar 4) (esCons (eVar 5) esNil))) (esCons (eTup (esCons (e1 (fList false) (eVar 4)) (esCons (eVar 5) (esCons (eVar 6) esNil)))) (esCons (eTup (esCons (eVar 4) (esCons (eCst (.bl true)) (esCons (eVar 6) esNil)))) esNil))))))))
  (sSeq (sAsg (gSet 3) (e2 (fAdd false) (eVar 3) (eLst false (esCons (eTup (esCons (e2 (fAdd false) (e2 (fAdd false) (eSl false (eVar 4) oNone (oSome (eVar 2))) (eTup (esCons (e2 (fAdd false) (e2 fIdx (eVar 4) (eVar 2)) (eCst (.int 1))) esNil))) (eSl false (eVar 4) (oSome (e2 (fAdd false) (eVar 2) (eCst (.int 1)))) oNone)) (esCons (eVar 5) (esCons (eVar 6) esNil)))) (esCons (eTup (esCons (e2 (fAdd false) (eVar 4) (eTup (esCons (e1 fLen (eVar 4)) esNil))) (esCons (eVar 5) (esCons (eVar 6) esNil)))) (esCons (eTup (esCons (eVar 4) (esCons (eVar 5) (esCons (eVar 6) (esCons (eCst (.int 0)) esNil))))) (esCons (eCst .non) esNil)))))))
  (sRet (e2 fIdx (e2 (fAdd false) (eVar 3) (eLst false (esCons (eLst false (esCons (eVar 4) (esCons (eVar 5) (esCons (eVar 6) esNil)))) (esCons (eTup (esCons (e1 (fRev false) (eVar 4)) (esCons (eVar 5) (esCons (eVar 6) esNil)))) (esCons (eTup (esCons (eVar 4) (esCons (eVar 5) (esCons (e2 fSub (eCst (.int 1)) (eVar 6)) esNil)))) (esCons (eCst (.int 5)) esNil)))))) (eCall 15 (esCons (eVar 0) (esCons (eCst (.int 14)) esNil)))))))))
def dd31 : DD := ⟨"_law_bent_turn", top 41, ["draw", "turn", "at", "odd", "order", "mask", "flip"], ["draw", "turn"], b31⟩
/-! _law_told(which, a, b, c): which, a, b, c -/
def b32 : SemS :=
  (sTry (sSeq (sIf (t2 (fEq false) (eVar 0) (eCst (.int 0)))
    (sRet (eCall 10 (esCons (eVar 1) (esCons (eVar 2) esNil))))
    sPass)
   (sSeq (sIf (t2 (fEq false) (eVar 0) (eCst (.int 1)))
    (sRet (eCall 12 (esCons (eVar 1) (esCons (eVar 2) esNil))))
    sPass)
   (sRet (eIf (t2 (fEq false) (eVar 0) (eCst (.int 2))) (eCall 13 (esCons (eVar 1) esNil)) (eCall 7 (esCons (eVar 1) (esCons (eVar 2) (esCons (eVar 3) esNil))))))))
   (fun j => G.sub j 1) (sRet (eCst (.str "<malformed>"))))
def dd32 : DD := ⟨"_law_told", top 42, ["which", "a", "b", "c"], ["which", "a", "b", "c"], b32⟩
/-! law(script): script, draw, sorts, turn, odd, bad, wrong, told, lamp, n, sort, first, value, other, one, two, both, back, word, k -/
def t33_0 : SemS :=
  (sIf (t2 (fEq true) (eCst (.tup [.str "names", .str "signs", .str "all"])) (eVar 2))
   (sRet (eCst (.bl false)))
   sPass)
def t33_2 : SemS :=
  (sIf (t2 (fEq true) (e1 fRepr (eCall 10 (esCons (eVar 8) (esCons (eVar 14) esNil)))) (e1 fRepr (eVar 11)))
   (sRet (eCst (.bl false)))
   sPass)
def t33_3 : SemS :=
  (sIf (tOrT (tNotT (tt fTru (eCall 30 (esCons (eVar 16) (esCons (eVar 9) (esCons (eVar 10) esNil)))))) (tNotT (tt fTru (eCall 30 (esCons (eVar 17) (esCons (eVar 9) (esCons (eVar 10) esNil)))))))
   (sRet (eCst (.bl false)))
   sPass)
def t33_4 : SemS :=
  (sIf (tOrT (t2 (fEq true) (eCall 29 (esCons (eVar 11) (esCons (eVar 15) esNil))) (eCall 29 (esCons (eVar 8) (esCons (eVar 16) esNil)))) (t2 (fEq true) (eCall 29 (esCons (eVar 11) (esCons (eVar 17) esNil))) (eVar 8)))
   (sRet (eCst (.bl false)))
   sPass)
def c33_6 : SemE :=
  (eComp false [19] (iRng1R (eCst (.int 4))) (gSet 19) tYesT (eCall 31 (esCons (eVar 1) (esCons (eVar 14) esNil))))
def t33_8 : SemS :=
  (sIf (tNotT (tt fTru (eCall 16 (esCons (eCall 7 (esCons (eVar 9) (esCons (eVar 18) (esCons (eVar 12) esNil)))) (esCons (eCall 30 (esCons (eVar 12) (esCons (eVar 9) (esCons (eVar 18) esNil)))) esNil)))))
   (sRet (eCst (.bl false)))
   sPass)
def t33_7 : SemS :=
  (sFor (iSeq (eVar 2)) (gSet 18)
   t33_8)
def t33_9 : SemS :=
  (sIf (tAndT (tNotT (tt fTru (eCall 30 (esCons (eVar 12) (esCons (eVar 9) (esCons (eCst (.str "all")) esNil)))))) (t2 (fEq true) (eCall 32 (esCons (eCst (.int 0)) (esCons (eVar 8) (esCons (eVar 12) (esCons (eCst (.int 0)) esNil))))) (eCst (.str "<malformed>"))))
   (sRet (eCst (.bl false)))
   sPass)
def w33_1 : SemS :=
  (sSeq t33_7
  t33_9)
def t33_5 : SemS :=
  (sFor (iSeq (e2 (fAdd false) (eLst false (esCons (eVar 14) esNil)) c33_6)) (gSet 12)
   w33_1)
def t33_10 : SemS :=
  (sIf (tOrT (t2 (fEq true) (eCall 32 (esCons (eCst (.int 1)) (esCons (eVar 14) (esCons (eVar 13) (esCons (eCst (.int 0)) esNil))))) (eCst (.str "<malformed>"))) (t2 (fEq true) (eCall 32 (esCons (eCst (.int 0)) (esCons (eVar 8) (esCons (eVar 13) (esCons (eCst (.int 0)) esNil))))) (eCst (.str "<malformed>"))))
   (sRet (eCst (.bl false)))
   sPass)
def w33_0 : SemS :=
  (sSeq (sAsg (gSet 8) (eCall 23 (esCons (eVar 1) (esCons (eCst (.int 5)) esNil))))
  (sSeq (sAsg (gSet 9) (e2 fIdx (eVar 8) (eCst (.int 0))))
  (sSeq (sAsg (gSet 10) (e2 fIdx (eVar 2) (eCall 15 (esCons (eVar 1) (esCons (eCst (.int 3)) esNil)))))
  (sSeq (sAsg (gTupD 2 (gsCons (gSet 14) (gsCons (gSet 15) gsNil))) (eTup (esCons (eCall 27 (esCons (eVar 1) (esCons (eVar 9) (esCons (eVar 10) esNil)))) (esCons (eCall 27 (esCons (eVar 1) (esCons (eVar 9) (esCons (eVar 10) esNil)))) esNil))))
  (sSeq (sAsg (gSet 11) (eCall 29 (esCons (eVar 8) (esCons (eVar 14) esNil))))
  (sSeq t33_2
  (sSeq (sPar 16 17 (esCons (eCall 12 (esCons (eVar 14) (esCons (eVar 15) esNil))) (esCons (eCall 13 (esCons (eVar 14) esNil)) esNil)))
  (sSeq t33_3
  (sSeq t33_4
  (sSeq t33_5
  (sSeq (sAsg (gSet 13) (eCall 27 (esCons (eVar 1) (esCons (e2 fIdx (eLst false (esCons (eCst (.int 2)) (esCons (eCst (.int 1)) (esCons (eCst (.int 1)) (esCons (eCst (.int 1)) (esCons (eCst (.int 1)) esNil)))))) (e2 fSub (eVar 9) (eCst (.int 1)))) (esCons (eCst (.str "all")) esNil)))))
  t33_10)))))))))))
def t33_1 : SemS :=
  (sFor (iRng1R (eCst (.int 3))) (gSet 3)
   w33_0)
def b33 : SemS :=
  (sSeq (sAsg (gSet 1) (eCall 14 (esCons (eVar 0) esNil)))
  (sSeq (sAsg (gSet 2) (eTup (esCons (eCst (.str "names")) (esCons (eCst (.str "signs")) (esCons (eCst (.str "all")) esNil)))))
  (sSeq t33_0
  (sSeq t33_1
  (sSeq (sAsg (gSet 4) (eCall 26 (esCons (eVar 1) (esCons (eVar 8) esNil))))
  (sSeq (sAsg (gSet 5) (e2 fIdx (eLst false (esCons (eCst .non) (esCons (eTup esNil) (esCons (eCst (.int 5)) (esCons (eTup (esCons (eTup esNil) (esCons (eCst (.int 0)) (esCons (eCst (.int 0)) esNil)))) (esCons (eTup (esCons (eTup (esCons (eCst (.int 0)) (esCons (eCst (.int 0)) esNil))) (esCons (eCst (.int 0)) (esCons (eCst (.int 0)) esNil)))) (esCons (eTup (esCons (eTup (esCons (eCst (.int 0)) esNil)) (esCons (eCst (.int 2)) (esCons (eCst (.int 0)) esNil)))) (esCons (eTup (esCons (eTup (esCons (eCst (.int 0)) (esCons (eCst (.int 1)) (esCons (eCst (.int 2)) (esCons (eCst (.int 3)) (esCons (eCst (.int 4)) (esCons (eCst (.int 5)) esNil))))))) (esCons (eCst (.int 0)) (esCons (eCst (.int 0)) esNil)))) (esCons (eTup (esCons (eTup (esCons (eCst (.int 0)) esNil)) (esCons (eCst (.int 0)) (esCons (eCst (.bl true)) esNil)))) esNil))))))))) (eCall 15 (esCons (eVar 1) (esCons (eCst (.int 8)) esNil)))))
  (sSeq (sAsg (gSet 6) (e2 fIdx (eLst false (esCons (eCst .non) (esCons (eCst (.int 0)) (esCons (eCst (.int 6)) (esCons (eCst (.bl true)) (esCons (eCst (.str "2")) esNil)))))) (eCall 15 (esCons (eVar 1) (esCons (eCst (.int 5)) esNil)))))
  (sSeq (sAsg (gSet 7) (eLst false (esCons (eCall 32 (esCons (eCst (.int 0)) (esCons (eVar 4) (esCons (eVar 14) (esCons (eCst (.int 0)) esNil))))) (esCons (eCall 32 (esCons (eCst (.int 1)) (esCons (eVar 5) (esCons (eVar 14) (esCons (eCst (.int 0)) esNil))))) (esCons (eCall 32 (esCons (eCst (.int 1)) (esCons (eVar 14) (esCons (eVar 5) (esCons (eCst (.int 0)) esNil))))) (esCons (eCall 32 (esCons (eCst (.int 2)) (esCons (eVar 5) (esCons (eCst (.int 0)) (esCons (eCst (.int 0)) esNil))))) (esCons (eCall 32 (esCons (eCst (.int 3)) (esCons (eVar 6) (esCons (eCst (.str "all")) (esCons (eVar 14) esNil))))) esNil)))))))
  (sRet (eT (t2 (fEq false) (e2 (fAdd false) (eVar 7) (eLst false (esCons (eCall 32 (esCons (eCst (.int 3)) (esCons (eCst (.int 2)) (esCons (e2 fIdx (eLst false (esCons (eCst .non) (esCons (eCst (.str "")) (esCons (eCst (.str "name")) (esCons (eCst (.int 0)) (esCons (eTup (esCons (eCst (.str "all")) esNil)) esNil)))))) (eCall 15 (esCons (eVar 1) (esCons (eCst (.int 5)) esNil)))) (esCons (eVar 14) esNil))))) esNil))) (e2 (fMul false) (eLst false (esCons (eCst (.str "<malformed>")) esNil)) (eCst (.int 6))))))))))))))
def dd33 : DD := ⟨"law", top 43, ["script", "draw", "sorts", "turn", "odd", "bad", "wrong", "told", "lamp", "n", "sort", "first", "value", "other", "one", "two", "both", "back", "word", "k"], ["script"], b33⟩
def dds : List DD := ([dd0, dd1, dd2, dd3, dd4, dd5, dd6, dd7, dd8, dd9, dd10, dd11, dd12, dd13, dd14, dd15, dd16, dd17, dd18, dd19, dd20, dd21, dd22, dd23] : List (DD)) ++ ([dd24, dd25, dd26, dd27, dd28, dd29, dd30, dd31, dd32, dd33] : List (DD))
theorem ok0 : DDOk G dd0 where
  sc := ⟨by kernel_rfl, by kernel_rfl, by kernel_rfl, by decide +kernel, by kernel_rfl, by decide +kernel, by decide +kernel⟩
  bd := fun _ _ _ _ _ _ us hl => match us, hl with | [_], _ => by kernel_rfl
  bo := body_ok (m := 30) (n := 12) (by kernel_rfl)
theorem ok1 : DDOk G dd1 where
  sc := ⟨by kernel_rfl, by kernel_rfl, by kernel_rfl, by decide +kernel, by kernel_rfl, by decide +kernel, by decide +kernel⟩
  bd := fun _ _ _ _ _ _ us hl => match us, hl with | [_], _ => by kernel_rfl
  bo := body_ok (m := 30) (n := 12) (by kernel_rfl)
theorem ok2 : DDOk G dd2 where
  sc := ⟨by kernel_rfl, by kernel_rfl, by kernel_rfl, by decide +kernel, by kernel_rfl, by decide +kernel, by decide +kernel⟩
  bd := fun _ _ _ _ _ _ us hl => match us, hl with | [_], _ => by kernel_rfl
  bo := body_ok (m := 30) (n := 12) (by kernel_rfl)
theorem ok3 : DDOk G dd3 where
  sc := ⟨by kernel_rfl, by kernel_rfl, by kernel_rfl, by decide +kernel, by kernel_rfl, by decide +kernel, by decide +kernel⟩
  bd := fun _ _ _ _ _ _ us hl => match us, hl with | [_], _ => by kernel_rfl
  bo := body_ok (m := 30) (n := 12) (by kernel_rfl)
theorem ok4 : DDOk G dd4 where
  sc := ⟨by kernel_rfl, by kernel_rfl, by kernel_rfl, by decide +kernel, by kernel_rfl, by decide +kernel, by decide +kernel⟩
  bd := fun _ _ _ _ _ _ us hl => match us, hl with | [_], _ => by kernel_rfl
  bo := body_ok (m := 30) (n := 12) (by kernel_rfl)
theorem ok5 : DDOk G dd5 where
  sc := ⟨by kernel_rfl, by kernel_rfl, by kernel_rfl, by decide +kernel, by kernel_rfl, by decide +kernel, by decide +kernel⟩
  bd := fun _ _ _ _ _ _ us hl => match us, hl with | [_, _], _ => by kernel_rfl
  bo := body_ok (m := 30) (n := 12) (by kernel_rfl)
theorem ok6 : DDOk G dd6 where
  sc := ⟨by kernel_rfl, by kernel_rfl, by kernel_rfl, by decide +kernel, by kernel_rfl, by decide +kernel, by decide +kernel⟩
  bd := fun _ _ _ _ _ _ us hl => match us, hl with | [_, _], _ => by kernel_rfl
  bo := body_ok (m := 30) (n := 12) (by kernel_rfl)
theorem ok7 : DDOk G dd7 where
  sc := ⟨by kernel_rfl, by kernel_rfl, by kernel_rfl, by decide +kernel, by kernel_rfl, by decide +kernel, by decide +kernel⟩
  bd := fun _ _ _ _ _ _ us hl => match us, hl with | [_, _, _], _ => by kernel_rfl
  bo := body_ok (m := 30) (n := 12) (by kernel_rfl)
theorem ok8 : DDOk G dd8 where
  sc := ⟨by kernel_rfl, by kernel_rfl, by kernel_rfl, by decide +kernel, by kernel_rfl, by decide +kernel, by decide +kernel⟩
  bd := fun _ _ _ _ _ _ us hl => match us, hl with | [_, _], _ => by kernel_rfl
  bo := body_ok (m := 30) (n := 12) (by kernel_rfl)
theorem ok9 : DDOk G dd9 where
  sc := ⟨by kernel_rfl, by kernel_rfl, by kernel_rfl, by decide +kernel, by kernel_rfl, by decide +kernel, by decide +kernel⟩
  bd := fun _ _ _ _ _ _ us hl => match us, hl with | [_, _, _], _ => by kernel_rfl
  bo := body_ok (m := 30) (n := 12) (by kernel_rfl)
theorem ok10 : DDOk G dd10 where
  sc := ⟨by kernel_rfl, by kernel_rfl, by kernel_rfl, by decide +kernel, by kernel_rfl, by decide +kernel, by decide +kernel⟩
  bd := fun _ _ _ _ _ _ us hl => match us, hl with | [_, _], _ => by kernel_rfl
  bo := body_ok (m := 30) (n := 12) (by kernel_rfl)
theorem ok11 : DDOk G dd11 where
  sc := ⟨by kernel_rfl, by kernel_rfl, by kernel_rfl, by decide +kernel, by kernel_rfl, by decide +kernel, by decide +kernel⟩
  bd := fun _ _ _ _ _ _ us hl => match us, hl with | [_], _ => by kernel_rfl
  bo := body_ok (m := 30) (n := 12) (by kernel_rfl)
theorem ok12 : DDOk G dd12 where
  sc := ⟨by kernel_rfl, by kernel_rfl, by kernel_rfl, by decide +kernel, by kernel_rfl, by decide +kernel, by decide +kernel⟩
  bd := fun _ _ _ _ _ _ us hl => match us, hl with | [_, _], _ => by kernel_rfl
  bo := body_ok (m := 30) (n := 12) (by kernel_rfl)
theorem ok13 : DDOk G dd13 where
  sc := ⟨by kernel_rfl, by kernel_rfl, by kernel_rfl, by decide +kernel, by kernel_rfl, by decide +kernel, by decide +kernel⟩
  bd := fun _ _ _ _ _ _ us hl => match us, hl with | [_], _ => by kernel_rfl
  bo := body_ok (m := 30) (n := 12) (by kernel_rfl)
theorem ok14 : DDOk G dd14 where
  sc := ⟨by kernel_rfl, by kernel_rfl, by kernel_rfl, by decide +kernel, by kernel_rfl, by decide +kernel, by decide +kernel⟩
  bd := fun _ _ _ _ _ _ us hl => match us, hl with | [_], _ => by kernel_rfl
  bo := body_ok (m := 30) (n := 12) (by kernel_rfl)
theorem ok15 : DDOk G dd15 where
  sc := ⟨by kernel_rfl, by kernel_rfl, by kernel_rfl, by decide +kernel, by kernel_rfl, by decide +kernel, by decide +kernel⟩
  bd := fun _ _ _ _ _ _ us hl => match us, hl with | [_, _], _ => by kernel_rfl
  bo := body_ok (m := 30) (n := 12) (by kernel_rfl)
theorem ok16 : DDOk G dd16 where
  sc := ⟨by kernel_rfl, by kernel_rfl, by kernel_rfl, by decide +kernel, by kernel_rfl, by decide +kernel, by decide +kernel⟩
  bd := fun _ _ _ _ _ _ us hl => match us, hl with | [_, _], _ => by kernel_rfl
  bo := body_ok (m := 30) (n := 12) (by kernel_rfl)
theorem ok17 : DDOk G dd17 where
  sc := ⟨by kernel_rfl, by kernel_rfl, by kernel_rfl, by decide +kernel, by kernel_rfl, by decide +kernel, by decide +kernel⟩
  bd := fun _ _ _ _ _ _ us hl => match us, hl with | [_, _], _ => by kernel_rfl
  bo := body_ok (m := 30) (n := 12) (by kernel_rfl)
theorem ok18 : DDOk G dd18 where
  sc := ⟨by kernel_rfl, by kernel_rfl, by kernel_rfl, by decide +kernel, by kernel_rfl, by decide +kernel, by decide +kernel⟩
  bd := fun _ _ _ _ _ _ us hl => match us, hl with | [_], _ => by kernel_rfl
  bo := body_ok (m := 30) (n := 12) (by kernel_rfl)
theorem ok19 : DDOk G dd19 where
  sc := ⟨by kernel_rfl, by kernel_rfl, by kernel_rfl, by decide +kernel, by kernel_rfl, by decide +kernel, by decide +kernel⟩
  bd := fun _ _ _ _ _ _ us hl => match us, hl with | [_, _], _ => by kernel_rfl
  bo := body_ok (m := 30) (n := 12) (by kernel_rfl)
theorem ok20 : DDOk G dd20 where
  sc := ⟨by kernel_rfl, by kernel_rfl, by kernel_rfl, by decide +kernel, by kernel_rfl, by decide +kernel, by decide +kernel⟩
  bd := fun _ _ _ _ _ _ us hl => match us, hl with | [_], _ => by kernel_rfl
  bo := body_ok (m := 30) (n := 12) (by kernel_rfl)
theorem ok21 : DDOk G dd21 where
  sc := ⟨by kernel_rfl, by kernel_rfl, by kernel_rfl, by decide +kernel, by kernel_rfl, by decide +kernel, by decide +kernel⟩
  bd := fun _ _ _ _ _ _ us hl => match us, hl with | [_], _ => by kernel_rfl
  bo := body_ok (m := 30) (n := 12) (by kernel_rfl)
theorem ok22 : DDOk G dd22 where
  sc := ⟨by kernel_rfl, by kernel_rfl, by kernel_rfl, by decide +kernel, by kernel_rfl, by decide +kernel, by decide +kernel⟩
  bd := fun _ _ _ _ _ _ us hl => match us, hl with | [_, _], _ => by kernel_rfl
  bo := body_ok (m := 30) (n := 12) (by kernel_rfl)
theorem ok23 : DDOk G dd23 where
  sc := ⟨by kernel_rfl, by kernel_rfl, by kernel_rfl, by decide +kernel, by kernel_rfl, by decide +kernel, by decide +kernel⟩
  bd := fun _ _ _ _ _ _ us hl => match us, hl with | [_, _], _ => by kernel_rfl
  bo := body_ok (m := 30) (n := 12) (by kernel_rfl)
theorem ok24 : DDOk G dd24 where
  sc := ⟨by kernel_rfl, by kernel_rfl, by kernel_rfl, by decide +kernel, by kernel_rfl, by decide +kernel, by decide +kernel⟩
  bd := fun _ _ _ _ _ _ us hl => match us, hl with | [_, _, _], _ => by kernel_rfl
  bo := body_ok (m := 30) (n := 12) (by kernel_rfl)
theorem ok25 : DDOk G dd25 where
  sc := ⟨by kernel_rfl, by kernel_rfl, by kernel_rfl, by decide +kernel, by kernel_rfl, by decide +kernel, by decide +kernel⟩
  bd := fun _ _ _ _ _ _ us hl => match us, hl with | [_, _, _], _ => by kernel_rfl
  bo := body_ok (m := 30) (n := 12) (by kernel_rfl)
theorem ok26 : DDOk G dd26 where
  sc := ⟨by kernel_rfl, by kernel_rfl, by kernel_rfl, by decide +kernel, by kernel_rfl, by decide +kernel, by decide +kernel⟩
  bd := fun _ _ _ _ _ _ us hl => match us, hl with | [_, _], _ => by kernel_rfl
  bo := body_ok (m := 30) (n := 12) (by kernel_rfl)
theorem ok27 : DDOk G dd27 where
  sc := ⟨by kernel_rfl, by kernel_rfl, by kernel_rfl, by decide +kernel, by kernel_rfl, by decide +kernel, by decide +kernel⟩
  bd := fun _ _ _ _ _ _ us hl => match us, hl with | [_, _, _], _ => by kernel_rfl
  bo := body_ok (m := 30) (n := 12) (by kernel_rfl)
theorem ok28 : DDOk G dd28 where
  sc := ⟨by kernel_rfl, by kernel_rfl, by kernel_rfl, by decide +kernel, by kernel_rfl, by decide +kernel, by decide +kernel⟩
  bd := fun _ _ _ _ _ _ us hl => match us, hl with | [_, _], _ => by kernel_rfl
  bo := body_ok (m := 30) (n := 12) (by kernel_rfl)
theorem ok29 : DDOk G dd29 where
  sc := ⟨by kernel_rfl, by kernel_rfl, by kernel_rfl, by decide +kernel, by kernel_rfl, by decide +kernel, by decide +kernel⟩
  bd := fun _ _ _ _ _ _ us hl => match us, hl with | [_, _], _ => by kernel_rfl
  bo := body_ok (m := 30) (n := 12) (by kernel_rfl)
theorem ok30 : DDOk G dd30 where
  sc := ⟨by kernel_rfl, by kernel_rfl, by kernel_rfl, by decide +kernel, by kernel_rfl, by decide +kernel, by decide +kernel⟩
  bd := fun _ _ _ _ _ _ us hl => match us, hl with | [_, _, _], _ => by kernel_rfl
  bo := body_ok (m := 30) (n := 12) (by kernel_rfl)
theorem ok31 : DDOk G dd31 where
  sc := ⟨by kernel_rfl, by kernel_rfl, by kernel_rfl, by decide +kernel, by kernel_rfl, by decide +kernel, by decide +kernel⟩
  bd := fun _ _ _ _ _ _ us hl => match us, hl with | [_, _], _ => by kernel_rfl
  bo := body_ok (m := 30) (n := 12) (by kernel_rfl)
theorem ok32 : DDOk G dd32 where
  sc := ⟨by kernel_rfl, by kernel_rfl, by kernel_rfl, by decide +kernel, by kernel_rfl, by decide +kernel, by decide +kernel⟩
  bd := fun _ _ _ _ _ _ us hl => match us, hl with | [_, _, _, _], _ => by kernel_rfl
  bo := body_ok (m := 30) (n := 12) (by kernel_rfl)
theorem ok33 : DDOk G dd33 where
  sc := ⟨by kernel_rfl, by kernel_rfl, by kernel_rfl, by decide +kernel, by kernel_rfl, by decide +kernel, by decide +kernel⟩
  bd := fun _ _ _ _ _ _ us hl => match us, hl with | [_], _ => by kernel_rfl
  bo := body_ok (m := 30) (n := 12) (by kernel_rfl)
theorem oks : ∀ d ∈ dds, DDOk G d := by
  intro d hd
  simp only [dds, List.mem_append, List.mem_cons, List.not_mem_nil, or_false, or_assoc] at hd
  rcases hd with rfl | rfl | rfl | rfl | rfl | rfl | rfl | rfl | rfl | rfl | rfl | rfl | rfl | rfl | rfl | rfl | rfl | rfl | rfl | rfl | rfl | rfl | rfl | rfl | rfl | rfl | rfl | rfl | rfl | rfl | rfl | rfl | rfl | rfl
  · exact ok0
  · exact ok1
  · exact ok2
  · exact ok3
  · exact ok4
  · exact ok5
  · exact ok6
  · exact ok7
  · exact ok8
  · exact ok9
  · exact ok10
  · exact ok11
  · exact ok12
  · exact ok13
  · exact ok14
  · exact ok15
  · exact ok16
  · exact ok17
  · exact ok18
  · exact ok19
  · exact ok20
  · exact ok21
  · exact ok22
  · exact ok23
  · exact ok24
  · exact ok25
  · exact ok26
  · exact ok27
  · exact ok28
  · exact ok29
  · exact ok30
  · exact ok31
  · exact ok32
  · exact ok33
def P : Nat → Option Dfn := progOf dds
theorem ex_R : ∃ R : Nat → CallF, R = Lk.run P := ⟨_, rfl⟩
noncomputable def R : Nat → CallF := Classical.choose ex_R
theorem R_eq : R = Lk.run P := Classical.choose_spec ex_R
theorem u0 (k : Nat) (g : List Nat) (x0 : D) (S : Sto) : R (k + 1) g 0 [x0] S = fin S.length (b0 (R k) (S.length :: g) [some x0] S) := by
  rw [R_eq]
  rfl
theorem u1 (k : Nat) (g : List Nat) (x0 : D) (S : Sto) : R (k + 1) g 1 [x0] S = fin S.length (b1 (R k) (S.length :: g) [some x0] S) := by
  rw [R_eq]
  rfl
theorem u2 (k : Nat) (g : List Nat) (x0 : D) (S : Sto) : R (k + 1) g 2 [x0] S = fin S.length (b2 (R k) (S.length :: g) [some x0] S) := by
  rw [R_eq]
  rfl
theorem u3 (k : Nat) (g : List Nat) (x0 : D) (S : Sto) : R (k + 1) g 3 [x0] S = fin S.length (b3 (R k) (S.length :: g) [some x0] S) := by
  rw [R_eq]
  rfl
theorem u4 (k : Nat) (g : List Nat) (x0 : D) (S : Sto) : R (k + 1) g 4 [x0] S = fin S.length (b4 (R k) (S.length :: g) [some x0] S) := by
  rw [R_eq]
  rfl
theorem u5 (k : Nat) (g : List Nat) (x0 x1 : D) (S : Sto) : R (k + 1) g 5 [x0, x1] S = fin S.length (b5 (R k) (S.length :: g) [some x0, some x1, none] S) := by
  rw [R_eq]
  rfl
theorem u6 (k : Nat) (g : List Nat) (x0 x1 : D) (S : Sto) : R (k + 1) g 6 [x0, x1] S = fin S.length (b6 (R k) (S.length :: g) [some x0, some x1] S) := by
  rw [R_eq]
  rfl
theorem u7 (k : Nat) (g : List Nat) (x0 x1 x2 : D) (S : Sto) : R (k + 1) g 7 [x0, x1, x2] S = fin S.length (b7 (R k) (S.length :: g) [some x0, some x1, some x2] S) := by
  rw [R_eq]
  rfl
theorem u8 (k : Nat) (g : List Nat) (x0 x1 : D) (S : Sto) : R (k + 1) g 8 [x0, x1] S = fin S.length (b8 (R k) (S.length :: g) [some x0, some x1, none, none, none, none, none, none] S) := by
  rw [R_eq]
  rfl
theorem u9 (k : Nat) (g : List Nat) (x0 x1 x2 : D) (S : Sto) : R (k + 1) g 9 [x0, x1, x2] S = fin S.length (b9 (R k) (S.length :: g) [some x0, some x1, some x2, none, none] S) := by
  rw [R_eq]
  rfl
theorem u10 (k : Nat) (g : List Nat) (x0 x1 : D) (S : Sto) : R (k + 1) g 10 [x0, x1] S = fin S.length (b10 (R k) (S.length :: g) [some x0, some x1] S) := by
  rw [R_eq]
  rfl
theorem u11 (k : Nat) (g : List Nat) (x0 : D) (S : Sto) : R (k + 1) g 11 [x0] S = fin S.length (b11 (R k) (S.length :: g) [some x0] S) := by
  rw [R_eq]
  rfl
theorem u12 (k : Nat) (g : List Nat) (x0 x1 : D) (S : Sto) : R (k + 1) g 12 [x0, x1] S = fin S.length (b12 (R k) (S.length :: g) [some x0, some x1, none, none, none] S) := by
  rw [R_eq]
  rfl
theorem u13 (k : Nat) (g : List Nat) (x0 : D) (S : Sto) : R (k + 1) g 13 [x0] S = fin S.length (b13 (R k) (S.length :: g) [some x0, none, none, none, none] S) := by
  rw [R_eq]
  rfl
theorem u14 (k : Nat) (g : List Nat) (x0 : D) (S : Sto) : R (k + 1) g 14 [x0] S = fin S.length (b14 (R k) (S.length :: g) [some x0, none, none] S) := by
  rw [R_eq]
  rfl
theorem u15 (k : Nat) (g : List Nat) (x0 x1 : D) (S : Sto) : R (k + 1) g 15 [x0, x1] S = fin S.length (b15 (R k) (S.length :: g) [some x0, some x1, none] S) := by
  rw [R_eq]
  rfl
theorem u16 (k : Nat) (g : List Nat) (x0 x1 : D) (S : Sto) : R (k + 1) g 16 [x0, x1] S = fin S.length (b16 (R k) (S.length :: g) [some x0, some x1] S) := by
  rw [R_eq]
  rfl
theorem u17 (k : Nat) (g : List Nat) (x0 x1 : D) (S : Sto) : R (k + 1) g 17 [x0, x1] S = fin S.length (b17 (R k) (S.length :: g) [some x0, some x1] S) := by
  rw [R_eq]
  rfl
theorem u18 (k : Nat) (g : List Nat) (x0 : D) (S : Sto) : R (k + 1) g 18 [x0] S = fin S.length (b18 (R k) (S.length :: g) [some x0] S) := by
  rw [R_eq]
  rfl
theorem u19 (k : Nat) (g : List Nat) (x0 x1 : D) (S : Sto) : R (k + 1) g 19 [x0, x1] S = fin S.length (b19 (R k) (S.length :: g) [some x0, some x1] S) := by
  rw [R_eq]
  rfl
theorem u20 (k : Nat) (g : List Nat) (x0 : D) (S : Sto) : R (k + 1) g 20 [x0] S = fin S.length (b20 (R k) (S.length :: g) [some x0, none, none] S) := by
  rw [R_eq]
  rfl
theorem u21 (k : Nat) (g : List Nat) (x0 : D) (S : Sto) : R (k + 1) g 21 [x0] S = fin S.length (b21 (R k) (S.length :: g) [some x0, none] S) := by
  rw [R_eq]
  rfl
theorem u22 (k : Nat) (g : List Nat) (x0 x1 : D) (S : Sto) : R (k + 1) g 22 [x0, x1] S = fin S.length (b22 (R k) (S.length :: g) [some x0, some x1, none, none, none, none] S) := by
  rw [R_eq]
  rfl
theorem u23 (k : Nat) (g : List Nat) (x0 x1 : D) (S : Sto) : R (k + 1) g 23 [x0, x1] S = fin S.length (b23 (R k) (S.length :: g) [some x0, some x1, none, none, none, none, none, none, none, none, none, none, none, none, none, none] S) := by
  rw [R_eq]
  rfl
theorem u24 (k : Nat) (g : List Nat) (x0 x1 x2 : D) (S : Sto) : R (k + 1) g 24 [x0, x1, x2] S = fin S.length (b24 (R k) (S.length :: g) [some x0, some x1, some x2, none] S) := by
  rw [R_eq]
  rfl
theorem u25 (k : Nat) (g : List Nat) (x0 x1 x2 : D) (S : Sto) : R (k + 1) g 25 [x0, x1, x2] S = fin S.length (b25 (R k) (S.length :: g) [some x0, some x1, some x2, none] S) := by
  rw [R_eq]
  rfl
theorem u26 (k : Nat) (g : List Nat) (x0 x1 : D) (S : Sto) : R (k + 1) g 26 [x0, x1] S = fin S.length (b26 (R k) (S.length :: g) [some x0, some x1, none, none, none, none] S) := by
  rw [R_eq]
  rfl
theorem u27 (k : Nat) (g : List Nat) (x0 x1 x2 : D) (S : Sto) : R (k + 1) g 27 [x0, x1, x2] S = fin S.length (b27 (R k) (S.length :: g) [some x0, some x1, some x2, none, none, none] S) := by
  rw [R_eq]
  rfl
theorem u28 (k : Nat) (g : List Nat) (x0 x1 : D) (S : Sto) : R (k + 1) g 28 [x0, x1] S = fin S.length (b28 (R k) (S.length :: g) [some x0, some x1, none] S) := by
  rw [R_eq]
  rfl
theorem u29 (k : Nat) (g : List Nat) (x0 x1 : D) (S : Sto) : R (k + 1) g 29 [x0, x1] S = fin S.length (b29 (R k) (S.length :: g) [some x0, some x1, none] S) := by
  rw [R_eq]
  rfl
theorem u30 (k : Nat) (g : List Nat) (x0 x1 x2 : D) (S : Sto) : R (k + 1) g 30 [x0, x1, x2] S = fin S.length (b30 (R k) (S.length :: g) [some x0, some x1, some x2, none] S) := by
  rw [R_eq]
  rfl
theorem u31 (k : Nat) (g : List Nat) (x0 x1 : D) (S : Sto) : R (k + 1) g 31 [x0, x1] S = fin S.length (b31 (R k) (S.length :: g) [some x0, some x1, none, none, none, none, none] S) := by
  rw [R_eq]
  rfl
theorem u32 (k : Nat) (g : List Nat) (x0 x1 x2 x3 : D) (S : Sto) : R (k + 1) g 32 [x0, x1, x2, x3] S = fin S.length (b32 (R k) (S.length :: g) [some x0, some x1, some x2, some x3] S) := by
  rw [R_eq]
  rfl
theorem u33 (k : Nat) (g : List Nat) (x0 : D) (S : Sto) : R (k + 1) g 33 [x0] S = fin S.length (b33 (R k) (S.length :: g) [some x0, none, none, none, none, none, none, none, none, none, none, none, none, none, none, none, none, none, none, none] S) := by
  rw [R_eq]
  rfl

end Lk.K46
namespace Lk.K46
open PySem PySem.Spec PyProof.Rows L2
/-! ### the draw -/
theorem take_set {α : Type} (S : List α) (n : Nat) (c : α) : (S.set n c).take S.length = S.set n c := List.take_of_length_le (by simp)
def drawC (xs : List Int) (p q r : Int) : List D := [.lst (xs.map .int), .int p, .int q, .int r]
def IsDraw (c : List D) : Prop := ∃ xs p q r, c = drawC xs p q r ∧ (∀ x ∈ xs, 0 ≤ x) ∧ -1 ≤ p ∧ 0 ≤ q ∧ 0 ≤ r
theorem s_two (k : Nat) (g : List Nat) (n : Nat) (S : Sto) (h : n ≤ 1000) : R (k + 1) g 18 [natD n] S = .ok (natD (2 ^ n)) S := by
  rw [u18]
  have c : cPow 1 n = true := by unfold cPow; simp; omega
  simp [b18, natD, c]
theorem s_bit (k : Nat) (g : List Nat) (x i : Nat) (S : Sto) : R (k + 1) g 17 [natD x, natD i] S = .ok (natD (x.testBit i).toNat) S := by
  rw [u17]
  have e := bit_toNat x i
  rw [Nat.shiftRight_eq_div_pow] at e
  simp [b17, natD, ← e]
theorem take_end (f : CallF) (g : List Nat) (n : Nat) (m : Int) (S S' : Sto) (xs : List Int) (p q r : Int) (hS : S' = S.set n (.lst (drawC xs p q r))) (hn : n < S.length) (hx : ∀ x ∈ xs, 0 ≤ x) (hp : -1 ≤ p) (hq : 0 ≤ q) (hr : 0 ≤ r) (h0 : 0 < m) (h1 : m < 1073741824) :
    ∃ (v : Int) (c' : List D), fin S.length ((sSeq (sAsg (gSet 2) (e2 fMod (e1 fInt (e2 fIdx (eVar 0) (eCst (.int 2)))) (eVar 1))) (sSeq (sSub fSet (e2 fDiv (e2 fIdx (eVar 0) (eCst (.int 2))) (eVar 1)) (eVar 0) (eCst (.int 2))) (sRet (eVar 2)))) f g [some (.ref n), some (.int m), none] S') = .ok (.int v) (S.set n (.lst c')) ∧ 0 ≤ v ∧ v < m ∧ IsDraw c' := by
  have cd : cDiv q m = true := by unfold cDiv; simp; omega
  refine ⟨q % m, drawC xs p (q / m) r, ?_, Int.emod_nonneg _ (by omega), Int.emod_lt_of_pos _ h0, xs, p, q / m, r, rfl, hx, hp, Int.ediv_nonneg hq (by omega), hr⟩
  subst hS
  simp [drawC, h0, cd, hn, fin, D.fit, take_set]
theorem s_take0 (k : Nat) (g : List Nat) (n : Nat) (m : Int) (S : Sto) (c : List D) (hS : S[n]? = some (.lst c)) (hc : IsDraw c) (h0 : 0 < m) (h1 : m < 1073741824) :
    ∃ (v : Int) (c' : List D), R (k + 1) g 15 [.ref n, .int m] S = .ok (.int v) (S.set n (.lst c')) ∧ 0 ≤ v ∧ v < m ∧ IsDraw c' := by
  obtain ⟨xs, p, q, r, rfl, hx, hp, hq, hr⟩ := hc
  have hS0 := hS
  obtain ⟨hn, hS⟩ := List.getElem?_eq_some_iff.mp hS
  have hcm : ∀ r : Int, 0 ≤ r → cMul r 48271 = true := fun r h => by unfold cMul; simp
  rw [u15, b15]
  rw [x_seq]
  have body : ∃ p' q' r', (sIf (t2 (fEq false) (e2 fIdx (eVar 0) (eCst (.int 2))) (eCst (.int 0))) (sSeq (sSub fSet (e2 (fAdd false) (e2 fIdx (eVar 0) (eCst (.int 1))) (eCst (.int 1))) (eVar 0) (eCst (.int 1)))
       (sSeq (sIf (t2 (fLt) (e2 fIdx (eVar 0) (eCst (.int 1))) (e1 fLen (e2 fIdx (eVar 0) (eCst (.int 0))))) (sSub fSet (e2 fIdx (e2 fIdx (eVar 0) (eCst (.int 0))) (e2 fIdx (eVar 0) (eCst (.int 1)))) (eVar 0) (eCst (.int 2))) sPass)
       (sIf (t2 (fEq false) (e2 fIdx (eVar 0) (eCst (.int 2))) (eCst (.int 0))) (sSeq (sSub fSet (e2 fMod (e1 fInt (e2 (fAdd false) (e2 (fMul false) (e2 fIdx (eVar 0) (eCst (.int 3))) (eCst (.int 48271))) (eCst (.int 11)))) (eCst (.int 2147483647))) (eVar 0) (eCst (.int 3)))
       (sSub fSet (e2 fIdx (eVar 0) (eCst (.int 3))) (eVar 0) (eCst (.int 2)))) sPass))) sPass) (R k) (S.length :: g) [some (.ref n), some (.int m), none] S = .nx [some (.ref n), some (.int m), none] (S.set n (.lst (drawC xs p' q' r'))) ∧ -1 ≤ p' ∧ 0 ≤ q' ∧ 0 ≤ r' := by
    by_cases hq0 : q = 0
    · subst hq0
      by_cases hl : p + 1 < xs.length
      · obtain ⟨j, hj⟩ : ∃ j : Nat, p + 1 = j := ⟨(p + 1).toNat, by omega⟩
        have hjl : j < xs.length := by omega
        have hxj : 0 ≤ xs[j] := hx _ (List.getElem_mem hjl)
        by_cases hz : xs[j] = 0
        · refine ⟨p + 1, (r * 48271 + 11) % 2147483647, (r * 48271 + 11) % 2147483647, ?_, by omega, by omega, by omega⟩
          simp [hS, drawC, hn, hj, hjl, hz, hcm r hr]
        · refine ⟨p + 1, xs[j], r, ?_, by omega, by omega, by omega⟩
          have hz' : (xs[j] == 0) = false := by simp [hz]
          simp [hS, drawC, hn, hj, hjl, hz']
      · refine ⟨p + 1, (r * 48271 + 11) % 2147483647, (r * 48271 + 11) % 2147483647, ?_, by omega, by omega, by omega⟩
        simp [hS, drawC, hn, hl, hcm r hr]
    · refine ⟨p, q, r, ?_, hp, hq, hr⟩
      have e : S.set n (.lst (drawC xs p q r)) = S := by
        rw [← hS]
        exact List.set_getElem_self hn
      rw [e]
      have hz' : (q == 0) = false := by simp [hq0]
      simp [hS0, drawC, hz']
  obtain ⟨p', q', r', hb, hp', hq', hr'⟩ := body
  have := take_end (R k) (S.length :: g) n m S _ xs p' q' r' rfl hn hx hp' hq' hr' h0 h1
  rw [hb]
  exact this
theorem s_take (k : Nat) (g : List Nat) (n m : Nat) (S : Sto) (c : List D) (hS : S[n]? = some (.lst c)) (hc : IsDraw c) (h0 : 0 < m) (h1 : m < 1073741824) :
    ∃ (v : Nat) (c' : List D), R (k + 1) g 15 [.ref n, natD m] S = .ok (natD v) (S.set n (.lst c')) ∧ v < m ∧ IsDraw c' := by
  obtain ⟨v, c', e, h2, h3, h4⟩ := s_take0 k g n m S c hS hc (by omega) (by omega)
  obtain ⟨u, rfl⟩ : ∃ u : Nat, v = u := ⟨v.toNat, by omega⟩
  exact ⟨u, c', e, by omega, h4⟩

end Lk.K46
namespace Lk
open PySem PySem.Spec PyProof.Rows L2
section
variable {β : Type} {g : SemG} {t : SemT} {el : SemE} {c : CallF} {b : List Nat} {ρ : Env} {S : Sto} {tD : β → D} {up : β → Env} {p : β → Bool} {f : β → D}
theorem comp_pure : ∀ (l : List β), (∀ x ∈ l, g (tD x) ρ = some (up x)) → (∀ x ∈ l, t c b (up x) S = .ok (p x) S) → (∀ x ∈ l, p x = true → el c b (up x) S = .ok (f x) S) →
    compL g t el c b ρ (l.map tD) S = .ok ((l.filter p).map f) S
  | [], _, _, _ => rfl
  | x :: l, h1, h2, h3 => by
    have ih := comp_pure l (fun y q => h1 y (List.mem_cons_of_mem _ q)) (fun y q => h2 y (List.mem_cons_of_mem _ q)) fun y q => h3 y (List.mem_cons_of_mem _ q)
    rw [List.map_cons]
    unfold compL
    rw [h1 x List.mem_cons_self]
    dsimp only
    rw [h2 x List.mem_cons_self]
    rw [x_noexc_ok, ok_bind]
    cases q : p x with
    | true =>
      rw [cond_true, h3 x List.mem_cons_self q, x_noexc_ok, ok_bind, ih, ok_bind, List.filter_cons_of_pos q]
      rfl
    | false => rw [cond_false, ih, List.filter_cons_of_neg (by rw [q]; exact Bool.false_ne_true)]
theorem comp_map (l : List β) (h1 : ∀ x ∈ l, g (tD x) ρ = some (up x)) (h3 : ∀ x ∈ l, el c b (up x) S = .ok (f x) S) : compL g tYesT el c b ρ (l.map tD) S = .ok (l.map f) S := by
  have := comp_pure (t := tYesT) (p := fun _ => true) l h1 (fun _ _ => rfl) fun x q _ => h3 x q
  rw [this, List.filter_eq_self.mpr fun _ _ => rfl]
/-- each element changes the state -/
theorem comp_st {I : Sto → Prop} {R : D → Prop} : ∀ (l : List β) (S : Sto), I S → (∀ x ∈ l, g (tD x) ρ = some (up x)) → (∀ x ∈ l, ∀ S, I S → ∃ d S', el c b (up x) S = .ok d S' ∧ I S' ∧ R d) →
    ∃ ds S', compL g tYesT el c b ρ (l.map tD) S = .ok ds S' ∧ I S' ∧ ds.length = l.length ∧ ∀ d ∈ ds, R d
  | [], S, h0, _, _ => ⟨[], S, rfl, h0, rfl, fun _ h => nomatch h⟩
  | x :: l, S, h0, h1, h2 => by
    obtain ⟨d, S1, e1, i1, r1⟩ := h2 x List.mem_cons_self S h0
    obtain ⟨ds, S2, e2, i2, l2, r2⟩ := comp_st l S1 i1 (fun y q => h1 y (List.mem_cons_of_mem _ q)) fun y q => h2 y (List.mem_cons_of_mem _ q)
    refine ⟨d :: ds, S2, ?_, i2, by simp [l2], fun y hy => ?_⟩
    · rw [List.map_cons]
      unfold compL
      rw [h1 x List.mem_cons_self]
      dsimp only
      rw [show (tYesT c b (up x) S) = .ok true S from rfl, x_noexc_ok, ok_bind, cond_true, e1, x_noexc_ok, ok_bind, e2, ok_bind]
    · rcases List.mem_cons.mp hy with rfl | hy
      · exact r1
      · exact r2 y hy
variable {body : SemS}
/-- a loop by its invariant -/
theorem for_inv {I : Nat → Env → Sto → Prop} : ∀ (l : List β) (i : Nat) (ρ : Env) (S : Sto), I i ρ S →
    (∀ j x ρ S, l[j]? = some x → I (i + j) ρ S → ∃ ρ1 ρ2 S2, g (tD x) ρ = some ρ1 ∧ (body c b ρ1 S = .nx ρ2 S2 ∨ body c b ρ1 S = .ct ρ2 S2) ∧ I (i + j + 1) ρ2 S2) →
    ∃ ρ' S', forL g body c b (l.map tD) ρ S = .nx ρ' S' ∧ I (i + l.length) ρ' S'
  | [], i, ρ, S, h0, _ => ⟨ρ, S, rfl, h0⟩
  | x :: l, i, ρ, S, h0, h => by
    obtain ⟨ρ1, ρ2, S2, e1, e2, i2⟩ := h 0 x ρ S rfl h0
    obtain ⟨ρ', S', e3, i3⟩ := for_inv l (i + 1) ρ2 S2 i2 fun j y ρ S hj hI => by
      have := h (j + 1) y ρ S hj (by rw [show i + (j + 1) = i + 1 + j by omega]; exact hI)
      rw [show i + (j + 1) + 1 = i + 1 + j + 1 by omega] at this
      exact this
    refine ⟨ρ', S', ?_, by rw [List.length_cons, show i + (l.length + 1) = i + 1 + l.length by omega]; exact i3⟩
    rw [List.map_cons]
    unfold forL
    rw [e1]
    dsimp only
    rcases e2 with e2 | e2
    · rw [e2]; exact e3
    · rw [e2]; exact e3
/-- a loop that computes: env and store by the turn -/
theorem for_go {E : Nat → Env} (l : List β) (S : Sto) (h : ∀ j x, l[j]? = some x → ∃ ρ1, g (tD x) (E j) = some ρ1 ∧ body c b ρ1 S = .nx (E (j + 1)) S) : forL g body c b (l.map tD) (E 0) S = .nx (E l.length) S := by
  obtain ⟨ρ', S', e, rfl, rfl⟩ := for_inv (I := fun i ρ S' => ρ = E i ∧ S' = S) (g := g) (body := body) (c := c) (b := b) (tD := tD) l 0 (E 0) S ⟨rfl, rfl⟩ (by
    rintro j x ρ S1 hj ⟨rfl, rfl⟩
    rw [Nat.zero_add]
    obtain ⟨ρ1, e1, e2⟩ := h j x hj
    exact ⟨ρ1, _, _, e1, .inl e2, rfl, rfl⟩)
  rw [e, Nat.zero_add]
theorem while_inv {I : Nat → Env → Sto → Prop} (h : ∀ i ρ S, I (i + 1) ρ S → ∃ S1 ρ2 S2, t c b ρ S = .ok true S1 ∧ (body c b ρ S1 = .nx ρ2 S2 ∨ body c b ρ S1 = .ct ρ2 S2) ∧ I i ρ2 S2) (h0 : ∀ ρ S, I 0 ρ S → ∃ S1, t c b ρ S = .ok false S1 ∧ I 0 ρ S1) :
    ∀ (i n : Nat) (ρ : Env) (S : Sto), i < n → I i ρ S → ∃ ρ' S', whileL t body c b n ρ S = .nx ρ' S' ∧ I 0 ρ' S'
  | i, 0, ρ, S, hn, _ => absurd hn (Nat.not_lt_zero _)
  | 0, n + 1, ρ, S, _, hI => by
    obtain ⟨S1, e, i1⟩ := h0 ρ S hI
    refine ⟨ρ, S1, ?_, i1⟩
    unfold whileL
    rw [e]
    rfl
  | i + 1, n + 1, ρ, S, hn, hI => by
    obtain ⟨S1, ρ2, S2, e1, e2, i2⟩ := h i ρ S hI
    obtain ⟨ρ', S', e3, i3⟩ := while_inv h h0 i n ρ2 S2 (by omega) i2
    refine ⟨ρ', S', ?_, i3⟩
    unfold whileL
    rw [e1, ok_bindS, cond_true]
    rcases e2 with e2 | e2
    · rw [e2]; exact e3
    · rw [e2]; exact e3
end
@[simp] theorem x_while (t : SemT) (body : SemS) (c : CallF) (g : List Nat) (ρ : Env) (S : Sto) : sWhile t body c g ρ S = whileL t body c g fuelW ρ S := id rfl
theorem x_rng (n : Nat) : rngD 0 (n : Int) = (List.range n).map fun (i : Nat) => D.int (i : Int) := by
  unfold rngD
  simp
theorem x_rngN (n : Nat) : rngD 0 (n : Int) = (List.range n).map natD := x_rng n
@[simp] theorem small62_nat (n : Nat) (h : n ≤ 1000000000) : small62 (n : Int) = true := by unfold small62; simp; omega
@[simp] theorem small24_nat (n : Nat) (h : n ≤ 1000000) : small24 (n : Int) = true := by unfold small24; simp; omega
theorem ble_size {n : Nat} (h : n ≤ 1000000) : Nat.ble n sizeLine = true := Nat.ble_eq_true_of_le (Nat.le_trans h (by decide))
theorem sum_nat (l : List Nat) : (l.map fun (i : Nat) => (i : Int)).sum = ((l.sum : Nat) : Int) := by
  induction l with
  | nil => rfl
  | cons a l ih => simp [ih]
/-- the sum of the powers of two where f holds -/
theorem sum_mkB (f : Nat → Bool) : ∀ n, (((List.range n).filter f).map fun i => 2 ^ i).sum = mkB f n
  | 0 => rfl
  | n + 1 => by
    rw [List.range_succ, List.filter_append, List.map_append, List.sum_append, sum_mkB f n]
    show _ = mkB f n + (f n).toNat * 2 ^ n
    cases e : f n <;> simp [e]
theorem x_enum {α : Type} (f : α → D) (l : List α) : ((l.map f).zipIdx.map fun p => D.tup [.int (p.2 : Nat), p.1]) = l.zipIdx.map fun p => D.tup [natD p.2, f p.1] := by
  rw [List.zipIdx_map, List.map_map]
  rfl
@[simp] theorem x_enumN {α : Type} (f : α → D) (l : List α) : ((l.map f).zipIdx.map fun p => D.tup [natD p.2, p.1]) = l.zipIdx.map fun p => D.tup [natD p.2, f p.1] := x_enum f l
theorem zip_at {α : Type} {l : List α} {j : Nat} {p : α × Nat} (h : l.zipIdx[j]? = some p) : l[j]? = some p.1 ∧ p.2 = j := by
  rw [List.getElem?_zipIdx] at h
  cases q : l[j]? with
  | none => rw [q] at h; cases h
  | some x =>
    rw [q] at h
    cases h
    exact ⟨rfl, by simp⟩
theorem cPow_small {i j : Nat} (hi : i < 2 ^ 64) (hj : j ≤ 1000000) : cPow (i : Int) (j : Int) = true := by
  unfold cPow
  simp
  exact ⟨by omega, by simpa using hi⟩
theorem bitD (x i : Nat) : Builtin.bitAnd ((x : Int) / 2 ^ ((i : Int)).toNat) 1 = (((x.testBit i).toNat : Nat) : Int) := by
  rw [x_shr, x_and1, bit_toNat]
/-! ### natural numbers -/
section
variable {S : Sto} {mu : Bool} {neg : Bool}
@[simp] theorem n_lit (n : Nat) : D.int (no_index (OfNat.ofNat n)) = natD (OfNat.ofNat n) := id rfl
@[simp] theorem n_cast (n : Nat) : D.int ((n : Nat) : Int) = natD n := id rfl
@[simp] theorem n_add (a b : Nat) : fAdd mu (natD a) (natD b) S = .ok (natD (a + b)) S := id rfl
@[simp] theorem n_iadd (a b : Nat) : fIAdd (natD a) (natD b) S = .ok (natD (a + b)) S := id rfl
@[simp] theorem n_sub (a b : Nat) (h : b ≤ a) : fSub (natD a) (natD b) S = .ok (natD (a - b)) S := by
  show Rs.ok (D.int ((a : Int) - b)) S = _
  rw [← Int.natCast_sub h]
  rfl
@[simp] theorem n_mul (a b : Nat) (h : b < 2 ^ 64) : fMul mu (natD a) (natD b) S = .ok (natD (a * b)) S := by
  have : cMul (a : Int) (b : Int) = true := by
    unfold cMul
    simp only [Bool.or_eq_true, Bool.and_eq_true, decide_eq_true_eq]
    exact .inl (.inr ⟨by omega, by omega⟩)
  show (bif cMul (a : Int) (b : Int) then Rs.ok (D.int ((a : Int) * b)) S else .bad) = _
  rw [this]
  rfl
@[simp] theorem n_mul' (a b : Nat) (h : a < 2 ^ 64) : fMul mu (natD a) (natD b) S = .ok (natD (a * b)) S := by
  have : cMul (a : Int) (b : Int) = true := by
    unfold cMul
    simp only [Bool.or_eq_true, Bool.and_eq_true, decide_eq_true_eq]
    exact .inl (.inl ⟨by omega, by omega⟩)
  show (bif cMul (a : Int) (b : Int) then Rs.ok (D.int ((a : Int) * b)) S else .bad) = _
  rw [this]
  rfl
@[simp] theorem n_and (a b : Nat) : fAnd (natD a) (natD b) S = .ok (natD (a &&& b)) S := by
  show Rs.ok (D.int (Builtin.bitAnd a b)) S = _
  rw [x_and]
  rfl
@[simp] theorem n_or (a b : Nat) : fOr (natD a) (natD b) S = .ok (natD (a ||| b)) S := by
  show Rs.ok (D.int (Builtin.bitOr a b)) S = _
  rw [x_or]
  rfl
@[simp] theorem n_xor (a b : Nat) : fXor (natD a) (natD b) S = .ok (natD (a ^^^ b)) S := by
  show Rs.ok (D.int (Builtin.bitXor a b)) S = _
  rw [x_xor]
  rfl
@[simp] theorem n_shr (a b : Nat) : fShr (natD a) (natD b) S = .ok (natD (a >>> b)) S := by
  show (bif decide (0 ≤ (b : Int)) then Rs.ok (D.int ((a : Int) / 2 ^ ((b : Int)).toNat)) S else .bad) = _
  rw [decide_eq_true (Int.natCast_nonneg b), cond_true, x_shr]
  rfl
@[simp] theorem n_shl (a b : Nat) (ha : a < 2 ^ 64) (hb : b ≤ 1000) : fShl (natD a) (natD b) S = .ok (natD (a * 2 ^ b)) S := by
  show (bif cPow (a : Int) (b : Int) then Rs.ok (D.int ((a : Int) * 2 ^ ((b : Int)).toNat)) S else .bad) = _
  rw [cPow_small ha (Nat.le_trans hb (by decide)), cond_true, Int.toNat_natCast]
  show Rs.ok (D.int _) S = Rs.ok (D.int ((a * 2 ^ b : Nat) : Int)) S
  simp
@[simp] theorem n_pow (a b : Nat) (ha : a < 2 ^ 64) (hb : b ≤ 1000) : fPow (natD a) (natD b) S = .ok (natD (a ^ b)) S := by
  show (bif cPow (a : Int) (b : Int) then Rs.ok (D.int ((a : Int) ^ ((b : Int)).toNat)) S else .bad) = _
  rw [cPow_small ha (Nat.le_trans hb (by decide)), cond_true, Int.toNat_natCast]
  show Rs.ok (D.int _) S = Rs.ok (D.int ((a ^ b : Nat) : Int)) S
  simp
@[simp] theorem n_div (a b : Nat) (h0 : 0 < b) (h : b < 1073741824) : fDiv (natD a) (natD b) S = .ok (natD (a / b)) S := by
  have : cDiv (a : Int) (b : Int) = true := by unfold cDiv; simp; omega
  show (bif cDiv (a : Int) (b : Int) then Rs.ok (D.int ((a : Int) / b)) S else .bad) = _
  rw [this]
  rfl
@[simp] theorem n_mod (a b : Nat) (h0 : 0 < b) : fMod (natD a) (natD b) S = .ok (natD (a % b)) S := by
  show (bif decide (0 < (b : Int)) then Rs.ok (D.int ((a : Int) % b)) S else .bad) = _
  rw [decide_eq_true (by omega)]
  rfl
@[simp] theorem n_eq (a b : Nat) : fEq neg (natD a) (natD b) S = .ok (neg ^^ decide (a = b)) S := by
  show Rs.ok (neg ^^ ((a : Int) == (b : Int))) S = _
  by_cases h : a = b
  · subst h; simp
  · have h1 : ((a : Int) == (b : Int)) = false := by simp; omega
    have h2 : decide (a = b) = false := by simp [h]
    rw [h1, h2]
@[simp] theorem n_lt (a b : Nat) : fLt (natD a) (natD b) S = .ok (decide (a < b)) S := by
  show Rs.ok (decide ((a : Int) < b)) S = _
  simp
@[simp] theorem n_le (a b : Nat) : fLe (natD a) (natD b) S = .ok (decide (a ≤ b)) S := by
  show Rs.ok (decide ((a : Int) ≤ b)) S = _
  simp
@[simp] theorem n_gt (a b : Nat) : fGt (natD a) (natD b) S = .ok (decide (b < a)) S := by
  show Rs.ok (decide ((b : Int) < a)) S = _
  simp
@[simp] theorem n_ge (a b : Nat) : fGe (natD a) (natD b) S = .ok (decide (b ≤ a)) S := by
  show Rs.ok (decide ((b : Int) ≤ a)) S = _
  simp
@[simp] theorem n_int (a : Nat) : fInt (natD a) S = .ok (natD a) S := id rfl
@[simp] theorem n_intB (b : Bool) : fInt (.bl b) S = .ok (natD b.toNat) S := by cases b <;> rfl
@[simp] theorem n_abs (a : Nat) : fAbs (natD a) S = .ok (natD a) S := by
  show Rs.ok (D.int (if (a : Int) < 0 then -(a : Int) else a)) S = _
  rw [if_neg (by omega)]
  rfl
@[simp] theorem n_tru (a : Nat) : fTru (natD a) S = .ok (a != 0) S := by
  show Rs.ok ((a : Int) != 0) S = _
  cases a with
  | zero => rfl
  | succ a =>
    have h1 : (((a + 1 : Nat) : Int) != 0) = true := by simp; omega
    rw [h1]
    rfl
@[simp] theorem n_lenT (ds : List D) : fLen (.tup ds) S = .ok (natD ds.length) S := id rfl
@[simp] theorem n_lenL (ds : List D) : fLen (.lst ds) S = .ok (natD ds.length) S := id rfl
@[simp] theorem n_lenF (ds : List D) : fLen (.fix ds) S = .ok (natD ds.length) S := id rfl
@[simp] theorem n_idxT (ds : List D) (i : Nat) : fIdx (.tup ds) (natD i) S = (match ds[i]? with | some x => .ok x S | none => .bad) := by
  show (match atI ds (i : Int) with | some x => Rs.ok x S | none => .bad) = _
  rw [x_atI]
@[simp] theorem n_idxL (ds : List D) (i : Nat) : fIdx (.lst ds) (natD i) S = (match ds[i]? with | some x => .ok x S | none => .bad) := by
  show (match atI ds (i : Int) with | some x => Rs.ok x S | none => .bad) = _
  rw [x_atI]
@[simp] theorem n_idxF (ds : List D) (i : Nat) : fIdx (.fix ds) (natD i) S = (match ds[i]? with | some x => .ok x S | none => .bad) := by
  show (match atI ds (i : Int) with | some x => Rs.ok x S | none => .bad) = _
  rw [x_atI]
@[simp] theorem n_max (a b : Nat) : fMax2 (natD a) (natD b) S = .ok (natD (max a b)) S := by
  show Rs.ok (D.int (if (b : Int) > a then (b : Int) else a)) S = _
  by_cases h : a < b
  · rw [if_pos (by omega), Nat.max_eq_right (by omega)]
    rfl
  · rw [if_neg (by omega), Nat.max_eq_left (by omega)]
    rfl
@[simp] theorem n_min (a b : Nat) : fMin2 (natD a) (natD b) S = .ok (natD (min a b)) S := by
  show Rs.ok (D.int (if (b : Int) < a then (b : Int) else a)) S = _
  by_cases h : b < a
  · rw [if_pos (by omega), Nat.min_eq_right (by omega)]
    rfl
  · rw [if_neg (by omega), Nat.min_eq_left (by omega)]
    rfl
@[simp] theorem n_rngI {n : Nat} (hn : n ≤ 1000) : rngI (natD n) S = .ok ((List.range n).map natD) S := by
  show (bif small62 (n : Int) then Rs.ok (rngD 0 (n : Int)) S else .bad) = _
  rw [small62_nat n (Nat.le_trans hn (by decide)), x_rngN]
  rfl
@[simp] theorem n_optI {n : Nat} : optI (natD n) S = .ok (some (n : Int)) S := id rfl
theorem map_natD (l : List Nat) : l.map natD = (l.map fun (i : Nat) => (i : Int)).map D.int := by
  rw [List.map_map]
  rfl
@[simp] theorem n_sum (l : List Nat) : fSum (.lst (l.map natD)) S = .ok (natD l.sum) S := by
  rw [map_natD, v_sum, sum_nat]
  rfl
@[simp] theorem n_sumC {β : Type} (l : List β) (f : β → Nat) : fSum (.lst (l.map (natD ∘ f))) S = .ok (natD (l.map f).sum) S := by
  rw [← List.map_map]
  exact n_sum _
@[simp] theorem n_sumF {β : Type} (l : List β) (f : β → Nat) : fSum (.lst (l.map fun i => natD (f i))) S = .ok (natD (l.map f).sum) S := n_sumC l f
@[simp] theorem n_any {β : Type} (l : List β) (F : β → Bool) : fAny (.lst (l.map fun w => D.bl (F w))) S = .ok (.bl (l.any F)) S := by
  rw [show (l.map fun w => D.bl (F w)) = (l.map F).map D.bl by rw [List.map_map]; rfl, v_any]
  simp [Function.comp_def]
@[simp] theorem n_all {β : Type} (l : List β) (F : β → Bool) : fAll (.lst (l.map fun w => D.bl (F w))) S = .ok (.bl (l.all F)) S := by
  rw [show (l.map fun w => D.bl (F w)) = (l.map F).map D.bl by rw [List.map_map]; rfl, v_all]
  simp [Function.comp_def]
@[simp] theorem n_lrng (n : Nat) (h : n ≤ 1000) : fListRng mu (natD n) S = mkL mu ((List.range n).map natD) S := by
  show (bif small24 (n : Int) then mkL mu (rngD 0 (n : Int)) S else .bad) = _
  rw [small24_nat n (Nat.le_trans h (by decide)), x_rngN]
  rfl
end
@[simp] theorem bt_small (b : Bool) : b.toNat < 18446744073709551616 := by cases b <;> decide
@[simp] theorem and_one_bit (x i : Nat) : x >>> i &&& 1 = (x.testBit i).toNat := by rw [Nat.and_one_is_mod, bit_toNat]
@[simp] theorem shr_mod_bit (x i : Nat) : (x >>> i) % 2 = (x.testBit i).toNat := bit_toNat x i
@[simp] theorem bt_le (b : Bool) : b.toNat ≤ 1 := by cases b <;> decide
/-- what a loop's variable holds -/
def pv (f : Nat → D) : Nat → Option D
  | 0 => none
  | j + 1 => some (f j)
@[simp] theorem pv_zero (f : Nat → D) : pv f 0 = none := id rfl
@[simp] theorem pv_succ (f : Nat → D) (j : Nat) : pv f (j + 1) = some (f j) := id rfl
theorem for_eq {β : Type} {g : SemG} {body : SemS} {c : CallF} {b : List Nat} {tD : β → D} {E : Nat → Env} {l : List β} {ρ : Env} {S : Sto} (h0 : ρ = E 0)
    (h : ∀ j x, l[j]? = some x → ∃ ρ1, g (tD x) (E j) = some ρ1 ∧ body c b ρ1 S = .nx (E (j + 1)) S) : forL g body c b (l.map tD) ρ S = .nx (E l.length) S := by
  rw [h0]
  exact for_go l S h
theorem comp_eq {β : Type} {g : SemG} {el : SemE} {c : CallF} {b : List Nat} {ρ : Env} {S : Sto} {tD : β → D} {l : List β} (f : β → D) (h : ∀ x ∈ l, ∃ ρ1, g (tD x) ρ = some ρ1 ∧ el c b ρ1 S = .ok (f x) S) :
    compL g tYesT el c b ρ (l.map tD) S = .ok (l.map f) S := by
  refine comp_map (up := fun x => (g (tD x) ρ).getD []) l (fun x q => ?_) fun x q => ?_
  · obtain ⟨ρ1, e, _⟩ := h x q
    rw [e]
    rfl
  · obtain ⟨ρ1, e, e2⟩ := h x q
    rw [e]
    exact e2
theorem comp_eqF {β : Type} {g : SemG} {t : SemT} {el : SemE} {c : CallF} {b : List Nat} {ρ : Env} {S : Sto} {tD : β → D} {l : List β} (p : β → Bool) (f : β → D)
    (h : ∀ x ∈ l, ∃ ρ1, g (tD x) ρ = some ρ1 ∧ t c b ρ1 S = .ok (p x) S ∧ (p x = true → el c b ρ1 S = .ok (f x) S)) :
    compL g t el c b ρ (l.map tD) S = .ok ((l.filter p).map f) S := by
  refine comp_pure (up := fun x => (g (tD x) ρ).getD []) l (fun x q => ?_) (fun x q => ?_) fun x q z => ?_
  · obtain ⟨ρ1, e, _⟩ := h x q
    rw [e]
    rfl
  · obtain ⟨ρ1, e, e2, _⟩ := h x q
    rw [e]
    exact e2
  · obtain ⟨ρ1, e, _, e2⟩ := h x q
    rw [e]
    exact e2 z
theorem range_get {n j x : Nat} (h : (List.range n)[j]? = some x) : x = j ∧ j < n := by
  obtain ⟨h1, h2⟩ := List.getElem?_eq_some_iff.mp h
  rw [List.length_range] at h1
  rw [List.getElem_range] at h2
  exact ⟨h2.symm, h1⟩
@[simp] theorem is_int_int (a : Nat) (S : Sto) : fIsi "int" (natD a) S = .ok true S := id rfl
@[simp] theorem is_int_iint (a : Int) (S : Sto) : fIsi "int" (.int a) S = .ok true S := id rfl
@[simp] theorem is_int_bl (a : Bool) (S : Sto) : fIsi "int" (.bl a) S = .ok true S := id rfl
@[simp] theorem is_int_str (a : Str) (S : Sto) : fIsi "int" (.str a) S = .ok false S := id rfl
@[simp] theorem is_int_tup (a : List D) (S : Sto) : fIsi "int" (.tup a) S = .ok false S := id rfl
@[simp] theorem is_int_lst (a : List D) (S : Sto) : fIsi "int" (.lst a) S = .ok false S := id rfl
@[simp] theorem is_int_fix (a : List D) (S : Sto) : fIsi "int" (.fix a) S = .ok false S := id rfl
@[simp] theorem is_int_non  (S : Sto) : fIsi "int" (.non) S = .ok false S := id rfl
@[simp] theorem is_bool_int (a : Nat) (S : Sto) : fIsi "bool" (natD a) S = .ok false S := id rfl
@[simp] theorem is_bool_iint (a : Int) (S : Sto) : fIsi "bool" (.int a) S = .ok false S := id rfl
@[simp] theorem is_bool_bl (a : Bool) (S : Sto) : fIsi "bool" (.bl a) S = .ok true S := id rfl
@[simp] theorem is_bool_str (a : Str) (S : Sto) : fIsi "bool" (.str a) S = .ok false S := id rfl
@[simp] theorem is_bool_tup (a : List D) (S : Sto) : fIsi "bool" (.tup a) S = .ok false S := id rfl
@[simp] theorem is_bool_lst (a : List D) (S : Sto) : fIsi "bool" (.lst a) S = .ok false S := id rfl
@[simp] theorem is_bool_fix (a : List D) (S : Sto) : fIsi "bool" (.fix a) S = .ok false S := id rfl
@[simp] theorem is_bool_non  (S : Sto) : fIsi "bool" (.non) S = .ok false S := id rfl
@[simp] theorem is_str_int (a : Nat) (S : Sto) : fIsi "str" (natD a) S = .ok false S := id rfl
@[simp] theorem is_str_iint (a : Int) (S : Sto) : fIsi "str" (.int a) S = .ok false S := id rfl
@[simp] theorem is_str_bl (a : Bool) (S : Sto) : fIsi "str" (.bl a) S = .ok false S := id rfl
@[simp] theorem is_str_str (a : Str) (S : Sto) : fIsi "str" (.str a) S = .ok true S := id rfl
@[simp] theorem is_str_tup (a : List D) (S : Sto) : fIsi "str" (.tup a) S = .ok false S := id rfl
@[simp] theorem is_str_lst (a : List D) (S : Sto) : fIsi "str" (.lst a) S = .ok false S := id rfl
@[simp] theorem is_str_fix (a : List D) (S : Sto) : fIsi "str" (.fix a) S = .ok false S := id rfl
@[simp] theorem is_str_non  (S : Sto) : fIsi "str" (.non) S = .ok false S := id rfl
@[simp] theorem is_tuple_int (a : Nat) (S : Sto) : fIsi "tuple" (natD a) S = .ok false S := id rfl
@[simp] theorem is_tuple_iint (a : Int) (S : Sto) : fIsi "tuple" (.int a) S = .ok false S := id rfl
@[simp] theorem is_tuple_bl (a : Bool) (S : Sto) : fIsi "tuple" (.bl a) S = .ok false S := id rfl
@[simp] theorem is_tuple_str (a : Str) (S : Sto) : fIsi "tuple" (.str a) S = .ok false S := id rfl
@[simp] theorem is_tuple_tup (a : List D) (S : Sto) : fIsi "tuple" (.tup a) S = .ok true S := id rfl
@[simp] theorem is_tuple_lst (a : List D) (S : Sto) : fIsi "tuple" (.lst a) S = .ok false S := id rfl
@[simp] theorem is_tuple_fix (a : List D) (S : Sto) : fIsi "tuple" (.fix a) S = .ok false S := id rfl
@[simp] theorem is_tuple_non  (S : Sto) : fIsi "tuple" (.non) S = .ok false S := id rfl
@[simp] theorem is_list_int (a : Nat) (S : Sto) : fIsi "list" (natD a) S = .ok false S := id rfl
@[simp] theorem is_list_iint (a : Int) (S : Sto) : fIsi "list" (.int a) S = .ok false S := id rfl
@[simp] theorem is_list_bl (a : Bool) (S : Sto) : fIsi "list" (.bl a) S = .ok false S := id rfl
@[simp] theorem is_list_str (a : Str) (S : Sto) : fIsi "list" (.str a) S = .ok false S := id rfl
@[simp] theorem is_list_tup (a : List D) (S : Sto) : fIsi "list" (.tup a) S = .ok false S := id rfl
@[simp] theorem is_list_lst (a : List D) (S : Sto) : fIsi "list" (.lst a) S = .ok true S := id rfl
@[simp] theorem is_list_fix (a : List D) (S : Sto) : fIsi "list" (.fix a) S = .ok true S := id rfl
@[simp] theorem is_list_non  (S : Sto) : fIsi "list" (.non) S = .ok false S := id rfl
@[simp] theorem is_dict_int (a : Nat) (S : Sto) : fIsi "dict" (natD a) S = .ok false S := id rfl
@[simp] theorem is_dict_iint (a : Int) (S : Sto) : fIsi "dict" (.int a) S = .ok false S := id rfl
@[simp] theorem is_dict_bl (a : Bool) (S : Sto) : fIsi "dict" (.bl a) S = .ok false S := id rfl
@[simp] theorem is_dict_str (a : Str) (S : Sto) : fIsi "dict" (.str a) S = .ok false S := id rfl
@[simp] theorem is_dict_tup (a : List D) (S : Sto) : fIsi "dict" (.tup a) S = .ok false S := id rfl
@[simp] theorem is_dict_lst (a : List D) (S : Sto) : fIsi "dict" (.lst a) S = .ok false S := id rfl
@[simp] theorem is_dict_fix (a : List D) (S : Sto) : fIsi "dict" (.fix a) S = .ok false S := id rfl
@[simp] theorem is_dict_non  (S : Sto) : fIsi "dict" (.non) S = .ok false S := id rfl
@[simp] theorem isN_non (neg : Bool) (S : Sto) : isNon neg .non S = .ok (!neg) S := id rfl
@[simp] theorem isN_nat (neg : Bool) (a : Nat) (S : Sto) : isNon neg (natD a) S = .ok neg S := id rfl
@[simp] theorem isN_tup (neg : Bool) (a : List D) (S : Sto) : isNon neg (.tup a) S = .ok neg S := id rfl
@[simp] theorem isN_str (neg : Bool) (a : Str) (S : Sto) : isNon neg (.str a) S = .ok neg S := id rfl
@[simp] theorem ble_sz {n : Nat} (h : n ≤ 1000) : Nat.ble n sizeLine = true := ble_size (Nat.le_trans h (by decide))
/-! ### lists of numbers, compared, sorted -/
theorem toPs_ints (l : List Int) : toPs (l.map D.int) = some (l.map PyData.int) := by
  induction l with
  | nil => simp [toPs]
  | cons a l ih => simp [toPs, toP, ih]
theorem lay_ints (l : List Int) : PyData.canLayAll0 (l.map PyData.int) = true := by
  induction l with
  | nil => rfl
  | cons a l ih => simp [PyData.canLayAll0, PyData.canLay0, ih]
theorem depth_ints (l : List Int) : PyData.depthAll (l.map PyData.int) = 0 ∨ PyData.depthAll (l.map PyData.int) = 1 := by
  induction l with
  | nil => exact .inl rfl
  | cons a l ih =>
    rw [List.map_cons, PyData.depthAll]
    have : PyData.depth (.int a) = 0 ∨ PyData.depth (.int a) = 1 := by simp [PyData.depth]
    omega
theorem eqv_ints : ∀ (a b : List Int), PyData.eqvAll (a.map PyData.int) (b.map PyData.int) = decide (a = b)
  | [], [] => rfl
  | [], _ :: _ => by simp [PyData.eqvAll]
  | _ :: _, [] => by simp [PyData.eqvAll]
  | x :: a, y :: b => by
    rw [List.map_cons, List.map_cons, PyData.eqvAll, eqv_ints a b, PyData.eqv]
    by_cases h : x = y <;> by_cases h2 : a = b <;> simp [h, h2]
theorem shaped_lstI (l : List Int) : SeqAt.shaped (.list (l.map PyData.int)) = true := by
  unfold SeqAt.shaped
  rw [PyData.canLay0, lay_ints, PyData.depth]
  have := depth_ints l
  simp
  omega
theorem shaped_tupI (l : List Int) : SeqAt.shaped (.tuple (l.map PyData.int)) = true := by
  unfold SeqAt.shaped
  rw [PyData.canLay0, lay_ints, PyData.depth]
  have := depth_ints l
  simp
  omega
section
variable {S : Sto} {neg : Bool}
theorem fEq_by {x y : D} {p q : PyData} (h0 : sEq x y = none) (h1 : toPT S x = some p) (h2 : toPT S y = some q) (h3 : SeqAt.shaped p = true) (h4 : SeqAt.shaped q = true) : fEq neg x y S = .ok (neg ^^ PyData.eqv p q) S := by
  unfold fEq
  rw [h0]
  dsimp only
  rw [h1, h2]
  dsimp only
  rw [h3, h4]
  rfl
theorem toPT_lstI (l : List Int) : toPT S (.lst (l.map D.int)) = some (.list (l.map PyData.int)) := by
  show (toPs (l.map D.int)).map PyData.list = _
  rw [toPs_ints]
  rfl
theorem toPT_tupI (l : List Int) : toPT S (.tup (l.map D.int)) = some (.tuple (l.map PyData.int)) := by
  show (toPs (l.map D.int)).map PyData.tuple = _
  rw [toPs_ints]
  rfl
theorem fEq_lstI (a b : List Int) : fEq neg (.lst (a.map D.int)) (.lst (b.map D.int)) S = .ok (neg ^^ decide (a = b)) S := by
  rw [fEq_by rfl (toPT_lstI a) (toPT_lstI b) (shaped_lstI a) (shaped_lstI b), PyData.eqv, eqv_ints]
theorem fEq_tupI (a b : List Int) : fEq neg (.tup (a.map D.int)) (.tup (b.map D.int)) S = .ok (neg ^^ decide (a = b)) S := by
  rw [fEq_by rfl (toPT_tupI a) (toPT_tupI b) (shaped_tupI a) (shaped_tupI b), PyData.eqv, eqv_ints]
def zI (i : Nat) : Int := i
theorem map_zI (l : List Nat) : l.map natD = (l.map zI).map D.int := by rw [List.map_map]; rfl
theorem zI_inj {a b : List Nat} : a.map zI = b.map zI ↔ a = b := by
  constructor
  · intro h
    induction a generalizing b with
    | nil => cases b <;> simp_all
    | cons x a ih =>
      cases b with
      | nil => simp at h
      | cons y b =>
        simp only [List.map_cons, List.cons.injEq] at h
        obtain ⟨h1, h2⟩ := h
        have : x = y := by unfold zI at h1; omega
        rw [this, ih h2]
  · intro h; rw [h]
theorem fEq_lstN (a b : List Nat) : fEq neg (.lst (a.map natD)) (.lst (b.map natD)) S = .ok (neg ^^ decide (a = b)) S := by
  rw [map_zI, map_zI, fEq_lstI]
  simp only [zI_inj]
theorem fEq_refN {n : Nat} (a b : List Nat) (h : S[n]? = some (.lst (a.map natD))) : fEq neg (.ref n) (.lst (b.map natD)) S = .ok (neg ^^ decide (a = b)) S := by
  have e : toPT S (.ref n) = some (.list ((a.map zI).map PyData.int)) := by
    show (match (match S[n]? with | some (.lst ds) => some ds | _ => none) with | some ds => (toPs ds).map PyData.list | none => none) = _
    rw [h, map_zI]
    show (toPs ((a.map zI).map D.int)).map PyData.list = _
    rw [toPs_ints]
    rfl
  rw [map_zI b, fEq_by rfl e (toPT_lstI _) (shaped_lstI _) (shaped_lstI _), PyData.eqv, eqv_ints]
  simp only [zI_inj]
theorem fSorted_tup (mu : Bool) (l : List Int) (h : l.length ≤ 63) : fSorted mu (.tup (l.map D.int)) S = mkL mu ((isort l).map D.int) S := by
  unfold fSorted
  show (match (some (l.map D.int)).bind asInts with | some ns => _ | none => _) = _
  rw [Option.bind_some, x_asInts]
  dsimp only
  rw [Nat.ble_eq_true_of_le h]
  rfl
end
theorem insI_comm (a b : Int) : ∀ l : List Int, insI a (insI b l) = insI b (insI a l)
  | [] => by
    by_cases h3 : a ≤ b <;> by_cases h4 : b ≤ a
    · rw [show a = b by omega]
    · simp [insI, h3, h4]
    · simp [insI, h3, h4]
    · omega
  | c :: r => by
    have ih := insI_comm a b r
    by_cases h : a = b
    · rw [h]
    · by_cases h1 : a ≤ c <;> by_cases h2 : b ≤ c <;> by_cases h3 : a ≤ b <;> by_cases h4 : b ≤ a <;> first | omega | simp [insI, h1, h2, h3, h4, ih]
theorem isort_of_perm {l l' : List Int} (h : l.Perm l') : isort l = isort l' := by
  induction h with
  | nil => rfl
  | cons a _ ih =>
    show insI a (isort _) = insI a (isort _)
    rw [ih]
  | swap a b r => exact insI_comm b a (isort r)
  | trans _ _ i1 i2 => rw [i1, i2]
theorem isort_id : ∀ {l : List Int}, l.Pairwise (· ≤ ·) → isort l = l
  | [], _ => rfl
  | a :: r, h => by
    rw [List.pairwise_cons] at h
    show insI a (isort r) = _
    rw [isort_id h.2]
    cases r with
    | nil => rfl
    | cons b r =>
      unfold insI
      rw [if_pos (h.1 b List.mem_cons_self)]
theorem isort_range {l : List Nat} {n : Nat} (h : l.Perm (List.range n)) : isort (l.map zI) = (List.range n).map zI := by
  rw [isort_of_perm (h.map zI)]
  apply isort_id
  rw [List.pairwise_map]
  refine List.Pairwise.imp (fun {a b} (q : a < b) => ?_) List.pairwise_lt_range
  unfold zI
  omega
@[simp] theorem mx_Lt1 (a : Nat) (j : Int) (S : Sto) : fLt (natD a) (.int j) S = .ok (decide ((a : Int) < j)) S := id rfl
@[simp] theorem mx_Lt2 (i : Int) (b : Nat) (S : Sto) : fLt (.int i) (natD b) S = .ok (decide (i < (b : Int))) S := id rfl
@[simp] theorem mx_Le1 (a : Nat) (j : Int) (S : Sto) : fLe (natD a) (.int j) S = .ok (decide ((a : Int) ≤ j)) S := id rfl
@[simp] theorem mx_Le2 (i : Int) (b : Nat) (S : Sto) : fLe (.int i) (natD b) S = .ok (decide (i ≤ (b : Int))) S := id rfl
@[simp] theorem mx_Gt1 (a : Nat) (j : Int) (S : Sto) : fGt (natD a) (.int j) S = .ok (decide (j < (a : Int))) S := id rfl
@[simp] theorem mx_Gt2 (i : Int) (b : Nat) (S : Sto) : fGt (.int i) (natD b) S = .ok (decide ((b : Int) < i)) S := id rfl
@[simp] theorem mx_Ge1 (a : Nat) (j : Int) (S : Sto) : fGe (natD a) (.int j) S = .ok (decide (j ≤ (a : Int))) S := id rfl
@[simp] theorem mx_Ge2 (i : Int) (b : Nat) (S : Sto) : fGe (.int i) (natD b) S = .ok (decide ((b : Int) ≤ i)) S := id rfl
theorem beq_dec (i j : Int) : (i == j) = decide (i = j) := by by_cases h : i = j <;> simp [h]
@[simp] theorem mx_eq1 (neg : Bool) (a : Nat) (j : Int) (S : Sto) : fEq neg (natD a) (.int j) S = .ok (neg ^^ decide ((a : Int) = j)) S := by
  show Rs.ok (neg ^^ ((a : Int) == j)) S = _
  rw [beq_dec]
@[simp] theorem mx_eq2 (neg : Bool) (i : Int) (b : Nat) (S : Sto) : fEq neg (.int i) (natD b) S = .ok (neg ^^ decide (i = (b : Int))) S := by
  show Rs.ok (neg ^^ (i == (b : Int))) S = _
  rw [beq_dec]
@[simp] theorem mx_add1 (mu : Bool) (a : Nat) (j : Int) (S : Sto) : fAdd mu (natD a) (.int j) S = .ok (.int (a + j)) S := id rfl
@[simp] theorem mx_add2 (mu : Bool) (i : Int) (b : Nat) (S : Sto) : fAdd mu (.int i) (natD b) S = .ok (.int (i + b)) S := id rfl
@[simp] theorem mx_sub1 (a : Nat) (j : Int) (S : Sto) : fSub (natD a) (.int j) S = .ok (.int (a - j)) S := id rfl
@[simp] theorem mx_sub2 (i : Int) (b : Nat) (S : Sto) : fSub (.int i) (natD b) S = .ok (.int (i - b)) S := id rfl
/-! ### slices, sums of tuples, membership -/
@[simp] theorem v_slT (mu : Bool) (ds : List D) (lo hi : Option Int) (S : Sto) : fSl mu (.tup ds) lo hi S = .ok (.tup (cutD ds lo hi)) S := id rfl
@[simp] theorem v_slL (mu : Bool) (ds : List D) (lo hi : Option Int) (S : Sto) : fSl mu (.lst ds) lo hi S = mkL mu (cutD ds lo hi) S := id rfl
theorem cut_from (ds : List D) (n : Nat) : cutD ds (some (n : Int)) none = ds.drop n := by
  unfold cutD
  rw [HT.sIx_nat, HT.sIx_none]
  by_cases h : n ≤ ds.length
  · rw [Nat.min_eq_left h, List.take_of_length_le (by simp)]
  · rw [Nat.min_eq_right (by omega), List.drop_of_length_le (by omega), List.drop_of_length_le (by omega)]
    simp
theorem cut_to (ds : List D) (n : Nat) : cutD ds none (some (n : Int)) = ds.take n := by
  unfold cutD
  rw [HT.sIx_nat, HT.sIx_none]
  by_cases h : n ≤ ds.length
  · rw [Nat.min_eq_left h]; simp
  · rw [Nat.min_eq_right (by omega)]
    simp
    rw [List.take_of_length_le (by omega)]
@[simp] theorem cut_fromL (ds : List D) (n : Nat) : cutD ds (some (no_index (OfNat.ofNat n))) none = ds.drop n := cut_from ds n
@[simp] theorem cut_fromN (ds : List D) (n : Nat) : cutD ds (some (n : Int)) none = ds.drop n := cut_from ds n
@[simp] theorem cut_toN (ds : List D) (n : Nat) : cutD ds none (some (n : Int)) = ds.take n := cut_to ds n
@[simp] theorem cut_toL (ds : List D) (n : Nat) : cutD ds none (some (no_index (OfNat.ofNat n))) = ds.take n := cut_to ds n
@[simp] theorem v_addT (mu : Bool) (a b : List D) (S : Sto) : fAdd mu (.tup a) (.tup b) S = (bif Nat.ble (a.length + b.length) sizeLine then .ok (.tup (a ++ b)) S else .bad) := id rfl
@[simp] theorem v_addL (mu : Bool) (a b : List D) (S : Sto) : fAdd mu (.lst a) (.lst b) S = (bif Nat.ble (a.length + b.length) sizeLine then mkL mu (a ++ b) S else .bad) := id rfl
@[simp] theorem v_in01 (neg : Bool) (f : Int) (S : Sto) : fIn neg (.int f) (.lst [natD 0, natD 1]) S = .ok (neg ^^ (decide (0 = f) || decide (1 = f))) S := by
  have e : fIn neg (.int f) (.lst [natD 0, natD 1]) S = .ok (neg ^^ ((0 : Int) == f || ((1 : Int) == f || false))) S := id rfl
  rw [e, beq_dec, beq_dec, Bool.or_false]
@[simp] theorem v_in01N (neg : Bool) (f : Nat) (S : Sto) : fIn neg (natD f) (.lst [natD 0, natD 1]) S = .ok (neg ^^ (decide (0 = f) || decide (1 = f))) S := by
  have e : fIn neg (natD f) (.lst [natD 0, natD 1]) S = .ok (neg ^^ ((0 : Int) == (f : Int) || ((1 : Int) == (f : Int) || false))) S := id rfl
  rw [e, beq_dec, beq_dec, Bool.or_false]
  rw [show decide ((0 : Int) = (f : Int)) = decide (0 = f) from decide_eq_decide.mpr (by omega), show decide ((1 : Int) = (f : Int)) = decide (1 = f) from decide_eq_decide.mpr (by omega)]
end Lk

namespace Lk.K46
open PySem PySem.Spec PyProof.Rows L2
/-! ### lamps and turns -/
def turnD (o : List Nat) (m f : Nat) : D := .tup [.tup (o.map natD), natD m, natD f]
def lampD (n t : Nat) : D := .tup [natD n, natD t]
def fedN (o : List Nat) (m x : Nat) : Nat := mkB (fun i => x.testBit (o.getD i 0) ^^ m.testBit i) o.length
theorem fed_xor {o : List Nat} {m x : Nat} (hm : m < 2 ^ o.length) : mkB (fun i => x.testBit (o.getD i 0)) o.length ^^^ m = fedN o m x := by
  apply Nat.eq_of_testBit_eq
  intro j
  unfold fedN
  rw [Nat.testBit_xor, testBit_mkB, testBit_mkB]
  by_cases h : j < o.length
  · simp [h]
  · have : m.testBit j = false := Nat.testBit_lt_two_pow (Nat.lt_of_lt_of_le hm (Nat.pow_le_pow_right (by decide) (by omega)))
    simp [h, this]
theorem s_fed (k : Nat) (g : List Nat) (o : List Nat) (m f x : Nat) (S : Sto) (ho : o.length ≤ 1000) (hm : m < 2 ^ o.length) : R (k + 1) g 8 [turnD o m f, natD x] S = .ok (natD (fedN o m x)) S := by
  rw [u8, b8]
  simp [turnD]
  rw [for_eq (E := fun j => [some (turnD o m f), some (natD x), some (natD (mkB (fun i => x.testBit (o.getD i 0)) j)), some (.tup (o.map natD)), some (natD m), some (natD f), pv natD j, pv (fun j => natD (o.getD j 0)) j]) (h0 := ?a) (h := ?b)]
  · rw [← fed_xor hm]
    simp
  · simp [turnD, mkB]
  · rintro j ⟨p, q⟩ hj
    obtain ⟨h1, h2⟩ := zip_at hj
    dsimp only at h1 h2
    subst h2
    have hl := (List.getElem?_eq_some_iff.mp h1).1
    have hq : q ≤ 1000 := by omega
    have st := mkB_or (fun i => x.testBit (o.getD i 0)) q
    have e : o.getD q 0 = p := by rw [List.getD_eq_getElem?_getD, h1]; rfl
    rw [e] at st
    refine ⟨_, rfl, ?_⟩
    rw [← st]
    simp [hq, h1]
def tabN (o : List Nat) (m f n t : Nat) : Nat := mkB (fun x => t.testBit (fedN o m x) ^^ (f == 1)) (2 ^ n)
theorem s_ttable (k : Nat) (g : List Nat) (o : List Nat) (m f n t : Nat) (S : Sto) (ho : o.length ≤ 1000) (hm : m < 2 ^ o.length) (hn : n ≤ 5) (hf : f ≤ 1) : R (k + 2) g 9 [natD t, natD n, turnD o m f] S = .ok (natD (tabN o m f n t)) S := by
  have hs : 2 ^ n ≤ 32 := Nat.le_trans (Nat.pow_le_pow_right (by decide) hn) (by decide)
  rw [u9, b9]
  simp [show n ≤ 1000 by omega, Nat.le_trans hs (by decide : 32 ≤ 1000)]
  rw [for_eq (E := fun j => [some (natD t), some (natD n), some (turnD o m f), some (natD (mkB (fun x => t.testBit (fedN o m x) ^^ (f == 1)) j)), pv natD j]) (h0 := ?a) (h := ?b)]
  · simp [tabN]
  · simp [mkB]
  · intro j x hj
    obtain ⟨rfl, hl⟩ := range_get hj
    refine ⟨_, rfl, ?_⟩
    have st := mkB_or (fun x => t.testBit (fedN o m x) ^^ (f == 1)) x
    have e : (t.testBit (fedN o m x)).toNat ^^^ f = (t.testBit (fedN o m x) ^^ (f == 1)).toNat := by
      rcases Nat.le_one_iff_eq_zero_or_eq_one.mp hf with rfl | rfl <;> cases t.testBit (fedN o m x) <;> rfl
    have e2 : fIdx (turnD o m f) (natD 2) S = .ok (natD f) S := rfl
    rw [← st]
    simp [s_fed _ _ _ _ _ _ _ ho hm, e, e2, show x ≤ 1000 by omega]
def bitsD (bs : List Bool) : D := .lst (bs.map fun b => natD b.toNat)
theorem s_made (k : Nat) (g : List Nat) (bs : List Bool) (S : Sto) (h : bs.length ≤ 1000) : R (k + 2) g 20 [bitsD bs] S = .ok (natD (mkB (fun i => bs.getD i false) bs.length)) S := by
  rw [u20, b20]
  simp [bitsD, h]
  rw [for_eq (E := fun j => [some (bitsD bs), some (natD (mkB (fun i => bs.getD i false) j)), pv natD j]) (h0 := ?a) (h := ?b)]
  · simp
  · simp [mkB, bitsD]
  · intro j x hj
    obtain ⟨rfl, hl⟩ := range_get hj
    refine ⟨_, rfl, ?_⟩
    have e : fIdx (bitsD bs) (natD x) S = .ok (natD (bs.getD x false).toNat) S := by simp [bitsD, hl]
    have e2 : 2 ^ x = 2 ^ x := rfl
    simp [e, s_two _ _ _ _ (show x ≤ 1000 by omega), mkB]
theorem s_at (k : Nat) (g : List Nat) (n t x : Nat) (S : Sto) : R (k + 2) g 19 [lampD n t, natD x] S = .ok (natD (t.testBit x).toNat) S := by
  rw [u19, b19]
  simp [lampD, s_bit]
theorem s_lfed (k : Nat) (g : List Nat) (o : List Nat) (m f x : Nat) (S : Sto) (ho : o.length ≤ 1000) : R (k + 2) g 28 [turnD o m f, natD x] S = .ok (natD (fedN o m x)) S := by
  rw [u28, b28]
  simp [turnD, ho]
  rw [comp_eqF (fun i => x.testBit (o.getD i 0) ^^ m.testBit i) (fun i => natD (2 ^ i)) (fun i hi => ?_)]
  · simp [ho]
    have := sum_mkB (fun i => x.testBit (o.getD i 0) ^^ m.testBit i) o.length
    simp only [List.getD_eq_getElem?_getD] at this
    exact congrArg natD this
  · have hi := List.mem_range.mp hi
    refine ⟨_, rfl, ?_, fun _ => ?_⟩
    · simp [s_bit, hi]
      cases x.testBit o[i] <;> cases m.testBit i <;> rfl
    · simp [s_two _ _ _ _ (show i ≤ 1000 by omega)]
theorem s_lturned (k : Nat) (g : List Nat) (o : List Nat) (m f n t : Nat) (S : Sto) (ho : o.length ≤ 1000) (hn : n ≤ 5) (hf : f ≤ 1) : R (k + 3) g 29 [lampD n t, turnD o m f] S = .ok (lampD n (tabN o m f n t)) S := by
  have hs : 2 ^ n ≤ 32 := Nat.le_trans (Nat.pow_le_pow_right (by decide) hn) (by decide)
  have hs' : 2 ^ n ≤ 1000 := Nat.le_trans hs (by decide)
  have e0 : fIdx (lampD n t) (natD 0) S = .ok (natD n) S := rfl
  have e2 : fIdx (turnD o m f) (natD 2) S = .ok (natD f) S := rfl
  rw [u29, b29]
  simp [e0, s_two _ _ _ _ (show n ≤ 1000 by omega), hs']
  rw [comp_eq (fun x => natD (t.testBit (fedN o m x) ^^ (f == 1)).toNat) (fun x hx => ?_)]
  · simp [hs']
    have := s_made k (S.length :: g) ((List.range (2 ^ n)).map fun x => t.testBit (fedN o m x) ^^ (f == 1)) S (by simp [hs'])
    rw [bitsD, List.map_map] at this
    have e3 : (fun x => natD (t.testBit (fedN o m x) ^^ (f == 1)).toNat) = (fun b : Bool => natD b.toNat) ∘ fun x => t.testBit (fedN o m x) ^^ (f == 1) := rfl
    rw [e3, this]
    simp [lampD, tabN]
    exact congrArg natD (mkB_congr fun i hi => by simp [hi])
  · have hx := List.mem_range.mp hx
    refine ⟨_, rfl, ?_⟩
    simp [s_lfed _ _ _ _ _ _ _ ho, s_at, e2]
    rcases Nat.le_one_iff_eq_zero_or_eq_one.mp hf with rfl | rfl <;> cases t.testBit (fedN o m x) <;> rfl

end Lk.K46
namespace Lk.K46
open PySem PySem.Spec PyProof.Rows L2
/-! ### what is a whole number, a lamp, a turn -/
@[simp] theorem w_n (k : Nat) (g : List Nat) (a : Nat) (S : Sto) : R (k + 1) g 0 [natD a] S = .ok (.bl true) S := by
  rw [u0, b0]
  simp
@[simp] theorem w_i (k : Nat) (g : List Nat) (a : Int) (S : Sto) : R (k + 1) g 0 [.int a] S = .ok (.bl true) S := by
  rw [u0, b0]
  simp
@[simp] theorem w_b (k : Nat) (g : List Nat) (a : Bool) (S : Sto) : R (k + 1) g 0 [.bl a] S = .ok (.bl false) S := by
  rw [u0, b0]
  simp
@[simp] theorem w_s (k : Nat) (g : List Nat) (a : Str) (S : Sto) : R (k + 1) g 0 [.str a] S = .ok (.bl false) S := by
  rw [u0, b0]
  simp
@[simp] theorem w_t (k : Nat) (g : List Nat) (a : List D) (S : Sto) : R (k + 1) g 0 [.tup a] S = .ok (.bl false) S := by
  rw [u0, b0]
  simp
@[simp] theorem w_l (k : Nat) (g : List Nat) (a : List D) (S : Sto) : R (k + 1) g 0 [.lst a] S = .ok (.bl false) S := by
  rw [u0, b0]
  simp
@[simp] theorem w_f (k : Nat) (g : List Nat) (a : List D) (S : Sto) : R (k + 1) g 0 [.fix a] S = .ok (.bl false) S := by
  rw [u0, b0]
  simp
@[simp] theorem w_o (k : Nat) (g : List Nat)  (S : Sto) : R (k + 1) g 0 [.non] S = .ok (.bl false) S := by
  rw [u0, b0]
  simp
def mal : Ex := ⟨1, []⟩
theorem s_count (k : Nat) (g : List Nat) (n : Nat) (S : Sto) (h : n ≤ 1000) : R (k + 1) g 1 [natD n] S = .ok (natD (2 ^ n)) S := by
  rw [u1, b1]
  simp [h]
theorem s_islamp (k : Nat) (g : List Nat) (n t : Nat) (S : Sto) (h1 : 1 ≤ n) (h5 : n ≤ 5) (ht : t < 2 ^ 2 ^ n) : R (k + 2) g 2 [lampD n t] S = .ok (.bl true) S := by
  have hs : 2 ^ n ≤ 32 := Nat.le_trans (Nat.pow_le_pow_right (by decide) h5) (by decide)
  rw [u2, b2]
  simp [lampD, s_count _ _ _ _ (show n ≤ 1000 by omega), h1, h5, ht, show 2 ^ n ≤ 1000 by omega]
theorem s_chklamp (k : Nat) (g : List Nat) (n t : Nat) (S : Sto) (h1 : 1 ≤ n) (h5 : n ≤ 5) (ht : t < 2 ^ 2 ^ n) : R (k + 3) g 3 [lampD n t] S = .ok .non S := by
  rw [u3, b3]
  simp [s_islamp _ _ _ _ _ h1 h5 ht]
theorem s_chklampF (k : Nat) (g : List Nat) (d : D) (S : Sto) (h : ∀ k g S, R (k + 2) g 2 [d] S = .ok (.bl false) S) : R (k + 3) g 3 [d] S = .exc mal S := by
  rw [u3, b3]
  simp [h, mal]
def oddL (n t : Nat) : List D := [.non, .tup [], natD 5, .lst [natD n, natD t], .tup [natD n, .int (-1)], .tup [natD n, natD (2 ^ 2 ^ n)], .tup [natD 0, natD 0], .tup [natD 6, natD 0], .tup [.bl true, natD 0], .tup [natD n, .bl true], .tup [natD n, natD t, natD 0], .tup [natD n], .tup [natD n, .str "1"], .tup [.str "2", natD 1], .tup [natD n, .non]]
theorem s_oddlamp (k : Nat) (g : List Nat) (n t : Nat) (d : D) (S : Sto) (h1 : 1 ≤ n) (h5 : n ≤ 5) (hd : d ∈ oddL n t) : R (k + 2) g 2 [d] S = .ok (.bl false) S := by
  have hs : 2 ^ n ≤ 32 := Nat.le_trans (Nat.pow_le_pow_right (by decide) h5) (by decide)
  have e : fLe (natD 0) (.int (-1)) S = .ok false S := rfl
  rw [u2, b2]
  simp only [oddL, List.mem_cons, List.not_mem_nil, or_false] at hd
  rcases hd with rfl | rfl | rfl | rfl | rfl | rfl | rfl | rfl | rfl | rfl | rfl | rfl | rfl | rfl | rfl <;> simp [s_count _ _ _ _ (show n ≤ 1000 by omega), h1, h5, show 2 ^ n ≤ 1000 by omega, e]

end Lk.K46
namespace Lk.K46
open PySem PySem.Spec PyProof.Rows L2
/-! ### which values are turns -/
def sortW : Nat → Str
  | 0 => "names"
  | 1 => "signs"
  | _ => "all"
theorem s_chksort (k : Nat) (g : List Nat) (w : Nat) (S : Sto) : R (k + 1) g 4 [.str (sortW w)] S = .ok .non S := by
  rw [u4, b4]
  have e : fIn true (.str (sortW w)) (.tup [.str "names", .str "signs", .str "all"]) S = .ok false S := by
    match w with
    | 0 => kernel_rfl
    | 1 => kernel_rfl
    | _ + 2 => kernel_rfl
  simp [e]
def fitsI (n : Nat) (l : List Int) (m f : Int) : Bool := decide (l.length = n) && (decide (isort l = (List.range n).map zI) && ((decide (0 ≤ m) && decide (m < 2 ^ n)) && (decide (0 ≤ f) && decide (f ≤ 1))))
def sortI (w : Nat) (m f : Int) : Bool := match w with
  | 0 => decide (m = 0) && decide (f = 0)
  | 1 => decide (f = 0)
  | _ => true
theorem s_fitsA (k : Nat) (g : List Nat) (n : Nat) (l : List Int) (m f : Int) (S : Sto) (hn : n ≤ 60) (hl : l.length ≤ 60) :
    R (k + 2) g 5 [natD n, .tup [.tup (l.map .int), .int m, .int f]] S = .ok (.bl (fitsI n l m f)) S := by
  rw [u5, b5]
  by_cases h : l.length = n
  · subst h
    simp [hn, show l.length ≤ 1000 by omega]
    rw [comp_eq (fun _ => .bl true) (fun x hx => ⟨_, rfl, by simp⟩)]
    have ea : fAll (.lst (l.map fun _ => D.bl true)) S = .ok (.bl true) S := by
      rw [show (l.map fun _ => D.bl true) = (l.map fun _ => true).map D.bl by rw [List.map_map]; rfl, v_all]
      simp
    have es : ∀ S, fSorted false (.tup (l.map D.int)) S = .ok (.lst ((isort l).map D.int)) S := fun S => by rw [fSorted_tup false l (by omega)]; rfl
    have eq : ∀ S, fEq false (.lst ((isort l).map D.int)) (.lst ((List.range l.length).map natD)) S = .ok (decide (isort l = (List.range l.length).map zI)) S := fun S => by rw [map_zI, fEq_lstI]; simp
    simp [hn, show l.length ≤ 1000 by omega, ea, es, eq, fitsI]
    generalize decide (isort l = (List.range l.length).map zI) = c1
    generalize decide (0 ≤ m) = c2
    generalize decide (m < _) = c3
    generalize decide (0 ≤ f) = c4
    generalize decide (f ≤ 1) = c5
    cases c1 <;> cases c2 <;> cases c3 <;> cases c4 <;> cases c5 <;> simp
  · simp [h, fitsI]
theorem s_ofsort (k : Nat) (g : List Nat) (w : Nat) (x : D) (m f : Int) (S : Sto) : R (k + 1) g 6 [.tup [x, .int m, .int f], .str (sortW w)] S = .ok (.bl (sortI w m f)) S := by
  rw [u6, b6]
  match w with
  | 0 =>
    have e : fEq false (.str (sortW 0)) (.str "names") S = .ok true S := by kernel_rfl
    simp [e, sortI]
    generalize decide (m = 0) = c1
    generalize decide (f = 0) = c2
    cases c1 <;> cases c2 <;> simp
  | 1 =>
    have e : fEq false (.str (sortW 1)) (.str "names") S = .ok false S := by kernel_rfl
    have e2 : fEq false (.str (sortW 1)) (.str "all") S = .ok false S := by kernel_rfl
    simp [e, e2, sortI]
  | w + 2 =>
    have e : fEq false (.str (sortW (w + 2))) (.str "names") S = .ok false S := by kernel_rfl
    have e2 : fEq false (.str (sortW (w + 2))) (.str "all") S = .ok true S := by kernel_rfl
    simp [e, e2, sortI]
theorem s_isturnA (k : Nat) (g : List Nat) (n w : Nat) (l : List Int) (m f : Int) (S : Sto) (h1 : 1 ≤ n) (h5 : n ≤ 5) (hl : l.length ≤ 60) :
    R (k + 3) g 7 [natD n, .str (sortW w), .tup [.tup (l.map .int), .int m, .int f]] S = .ok (.bl (fitsI n l m f && sortI w m f)) S := by
  rw [u7, b7]
  simp [h1, h5, s_chksort, s_fitsA _ _ _ _ _ _ _ (show n ≤ 60 by omega) hl, s_ofsort]
  cases fitsI n l m f <;> simp
theorem s_lisA (k : Nat) (g : List Nat) (n w : Nat) (l : List Int) (m f : Int) (S : Sto) (hn : n ≤ 60) (hl : l.length ≤ 60) :
    R (k + 3) g 30 [.tup [.tup (l.map .int), .int m, .int f], natD n, .str (sortW w)] S = .ok (.bl (fitsI n l m f && sortI w m f)) S := by
  rw [u30, b30]
  have es : ∀ S, fSorted false (.tup (l.map D.int)) S = .ok (.lst ((isort l).map D.int)) S := fun S => by rw [fSorted_tup false l (by omega)]; rfl
  have eq : ∀ S, fEq true (.lst ((isort l).map D.int)) (.lst ((List.range n).map natD)) S = .ok (!decide (isort l = (List.range n).map zI)) S := fun S => by rw [map_zI, fEq_lstI]; simp
  have ea : fAll (.lst ((l ++ [m, f]).map fun _ => D.bl true)) S = .ok (.bl true) S := by
    rw [show ((l ++ [m, f]).map fun _ => D.bl true) = ((l ++ [m, f]).map fun _ => true).map D.bl by rw [List.map_map]; rfl, v_all]
    simp
  have el : l.map D.int ++ [D.int m, D.int f] = (l ++ [m, f]).map D.int := by simp
  simp [show l.length ≤ 1000 by omega, show l.length + 2 ≤ 1000 by omega]
  rw [el, comp_eq (fun _ => .bl true) (fun x hx => ⟨_, rfl, by simp⟩)]
  rw [ok_bind, ok_bind, ea]
  simp [es, eq, show n ≤ 1000 by omega, s_two _ _ _ _ (show n ≤ 1000 by omega)]
  have pl : isort l = (List.range n).map zI → l.length = n := fun e => by
    have := (isort_perm l).length_eq
    rw [e] at this
    simpa using this.symm
  have ew : ∀ S, fEq false (.str (sortW w)) (.str "all") S = .ok (match w with | 0 => false | 1 => false | _ => true) S ∧ fEq false (.str (sortW w)) (.str "signs") S = .ok (match w with | 1 => true | _ => false) S := fun S => by
    match w with
    | 0 => exact ⟨by kernel_rfl, by kernel_rfl⟩
    | 1 => exact ⟨by kernel_rfl, by kernel_rfl⟩
    | _ + 2 => exact ⟨by kernel_rfl, by kernel_rfl⟩
  by_cases hA : isort l = (List.range n).map zI
  · by_cases hm : 0 ≤ m
    · by_cases h2 : m < 2 ^ n
      · by_cases f0 : f = 0
        · subst f0
          simp [hA, hm, h2, ew, fitsI, pl hA]
          match w with
          | 0 => simp [sortI]
          | 1 => simp [sortI]
          | _ + 2 => simp [sortI]
        · by_cases f1 : f = 1
          · subst f1
            simp [hA, hm, h2, ew, fitsI, pl hA]
            match w with
            | 0 => simp [sortI]
            | 1 => simp [sortI]
            | _ + 2 => simp [sortI]
          · have fa : decide (0 = f) = false := decide_eq_false (by omega)
            have fb : decide (1 = f) = false := decide_eq_false (by omega)
            have fc : (decide (0 ≤ f) && decide (f ≤ 1)) = false := by
              rw [Bool.and_eq_false_iff]
              by_cases z : 0 ≤ f
              · exact .inr (decide_eq_false (by omega))
              · exact .inl (decide_eq_false z)
            simp [hA, hm, h2, fa, fb, fc, fitsI]
      · simp [hA, hm, h2, fitsI]
    · simp [hA, hm, fitsI]
  · simp [hA, fitsI]
/-- values of another shape -/
inductive Odd : D → Prop
  | non : Odd .non
  | nat (i : Nat) : Odd (natD i)
  | lst (l : List D) : Odd (.lst l)
  | two (x y : D) : Odd (.tup [x, y])
  | four (x y z u : D) : Odd (.tup [x, y, z, u])
  | low (l : List D) (y z : D) : Odd (.tup [.lst l, y, z])
  | mid (l : List Int) (b : Bool) (z : Int) (h : l.length ≤ 60) : Odd (.tup [.tup (l.map .int), .bl b, .int z])
theorem s_fitsO (k : Nat) (g : List Nat) (n : Nat) (d : D) (S : Sto) (h : Odd d) : R (k + 2) g 5 [natD n, d] S = .ok (.bl false) S := by
  rw [u5, b5]
  cases h with
  | mid l b z h =>
    by_cases hl : l.length = n
    · subst hl
      simp [show l.length ≤ 1000 by omega]
      rw [comp_eq (fun _ => .bl true) (fun x hx => ⟨_, rfl, by simp⟩)]
      have ea : fAll (.lst (l.map fun _ => D.bl true)) S = .ok (.bl true) S := by
        rw [show (l.map fun _ => D.bl true) = (l.map fun _ => true).map D.bl by rw [List.map_map]; rfl, v_all]
        simp
      simp [ea]
    · simp [hl]
  | _ => simp
theorem s_isturnO (k : Nat) (g : List Nat) (n w : Nat) (d : D) (S : Sto) (h : Odd d) (h1 : 1 ≤ n) (h5 : n ≤ 5) : R (k + 3) g 7 [natD n, .str (sortW w), d] S = .ok (.bl false) S := by
  rw [u7, b7]
  simp [h1, h5, s_chksort, s_fitsO _ _ _ _ _ h]
theorem s_lisO (k : Nat) (g : List Nat) (n w : Nat) (d : D) (S : Sto) (h : Odd d) : R (k + 3) g 30 [d, natD n, .str (sortW w)] S = .ok (.bl false) S := by
  rw [u30, b30]
  cases h with
  | mid l b z h =>
    have el : l.map D.int ++ [D.bl b, D.int z] = (l.map (fun i => (D.int i, true)) ++ [(D.bl b, false), (D.int z, true)]).map Prod.fst := by simp
    simp [show l.length + 2 ≤ 1000 by omega]
    rw [el, comp_eq (fun p : D × Bool => .bl p.2) (fun x hx => ⟨_, rfl, ?_⟩)]
    · have ea : fAll (.lst ((l.map (fun i => (D.int i, true)) ++ [(D.bl b, false), (D.int z, true)]).map fun p => D.bl p.2)) S = .ok (.bl false) S := by
        rw [show ((l.map (fun i => (D.int i, true)) ++ [(D.bl b, false), (D.int z, true)]).map fun p => D.bl p.2) = ((l.map fun _ => true) ++ [false, true]).map D.bl by simp [Function.comp_def], v_all]
        simp
      rw [ok_bind, ok_bind, ea]
      simp
    · simp only [List.mem_append, List.mem_map, List.mem_cons, List.not_mem_nil, or_false] at hx
      rcases hx with ⟨i, _, rfl⟩ | rfl | rfl <;> simp
  | _ => simp

end Lk.K46
namespace Lk.K46
open PySem PySem.Spec PyProof.Rows L2
/-! ### turns put together, undone -/
structure IsTurn (n : Nat) (o : List Nat) (m f : Nat) : Prop where
  len : o.length = n
  perm : o.Perm (List.range n)
  mb : m < 2 ^ n
  fb : f ≤ 1
theorem turnA (o : List Nat) (m f : Nat) : turnD o m f = .tup [.tup ((o.map zI).map .int), .int (m : Int), .int (f : Int)] := by
  unfold turnD
  rw [map_zI]
  rfl
theorem IsTurn.fits {n : Nat} {o : List Nat} {m f : Nat} (h : IsTurn n o m f) : fitsI n (o.map zI) m f = true := by
  unfold fitsI
  have h1 := h.mb
  have h2 := h.fb
  simp only [Bool.and_eq_true, decide_eq_true_eq]
  refine ⟨by rw [List.length_map]; exact h.len, isort_range h.perm, ⟨by omega, ?_⟩, by omega, by omega⟩
  have : ((2 ^ n : Nat) : Int) = (2 : Int) ^ n := by simp
  rw [← this]
  omega
theorem IsTurn.lt {n : Nat} {o : List Nat} {m f : Nat} (h : IsTurn n o m f) {i : Nat} (hi : i < n) : o.getD i 0 < n := by
  have hl : i < o.length := by rw [h.len]; exact hi
  rw [List.getD_eq_getElem?_getD, List.getElem?_eq_getElem hl]
  exact List.mem_range.mp (h.perm.mem_iff.mp (List.getElem_mem hl))
theorem IsTurn.nd {n : Nat} {o : List Nat} {m f : Nat} (h : IsTurn n o m f) : o.Nodup := h.perm.nodup_iff.mpr List.nodup_range
theorem s_fits (k : Nat) (g : List Nat) {n : Nat} {o : List Nat} {m f : Nat} (S : Sto) (h : IsTurn n o m f) (hn : n ≤ 60) : R (k + 2) g 5 [natD n, turnD o m f] S = .ok (.bl true) S := by
  rw [turnA, s_fitsA k g n _ _ _ S hn (by rw [List.length_map, h.len]; exact hn), h.fits]
theorem s_turned (k : Nat) (g : List Nat) {n : Nat} {o : List Nat} {m f t : Nat} (S : Sto) (h : IsTurn n o m f) (h1 : 1 ≤ n) (h5 : n ≤ 5) (ht : t < 2 ^ 2 ^ n) :
    R (k + 4) g 10 [lampD n t, turnD o m f] S = .ok (lampD n (tabN o m f n t)) S := by
  have e0 : ∀ S, fIdx (lampD n t) (natD 0) S = .ok (natD n) S := fun _ => rfl
  have e1 : ∀ S, fIdx (lampD n t) (natD 1) S = .ok (natD t) S := fun _ => rfl
  rw [u10, b10]
  simp [s_chklamp _ _ _ _ _ h1 h5 ht, e0, e1, s_fits _ _ _ h (show n ≤ 60 by omega), s_ttable _ _ _ _ _ _ _ _ (show o.length ≤ 1000 by rw [h.len]; omega) (by rw [h.len]; exact h.mb) h5 h.fb]
  rfl
theorem s_turnedF (k : Nat) (g : List Nat) {n t : Nat} {d : D} (S : Sto) (h1 : 1 ≤ n) (h5 : n ≤ 5) (ht : t < 2 ^ 2 ^ n) (h : ∀ k g S, R (k + 2) g 5 [natD n, d] S = .ok (.bl false) S) :
    R (k + 4) g 10 [lampD n t, d] S = .exc mal S := by
  have e0 : ∀ S, fIdx (lampD n t) (natD 0) S = .ok (natD n) S := fun _ => rfl
  rw [u10, b10]
  simp [s_chklamp _ _ _ _ _ h1 h5 ht, e0, h, mal]
theorem s_turnedO (k : Nat) (g : List Nat) {d d' : D} (S : Sto) (h : ∀ k g S, R (k + 2) g 2 [d] S = .ok (.bl false) S) :
    R (k + 4) g 10 [d, d'] S = .exc mal S := by
  rw [u10, b10]
  simp [s_chklampF _ _ _ _ h, mal]
theorem s_chkturn (k : Nat) (g : List Nat) {n : Nat} {o : List Nat} {m f : Nat} (S : Sto) (h : IsTurn n o m f) (h1 : 1 ≤ n) (h5 : n ≤ 5) : R (k + 3) g 11 [turnD o m f] S = .ok .non S := by
  have e := s_fits k (S.length :: g) S h (by omega)
  rw [u11, b11]
  simp [turnD, h.len, h1, h5] at e ⊢
  simp [e]
def badL : List D := [.non, .tup [], natD 5, .tup [.tup [], natD 0, natD 0], .tup [.tup [natD 0, natD 0], natD 0, natD 0], .tup [.tup [natD 0], natD 2, natD 0], .tup [.tup [natD 0, natD 1, natD 2, natD 3, natD 4, natD 5], natD 0, natD 0], .tup [.tup [natD 0], natD 0, .bl true]]
theorem s_chkbad (k : Nat) (g : List Nat) (d : D) (S : Sto) (hd : d ∈ badL) : R (k + 3) g 11 [d] S = .exc mal S := by
  have e1 : R (k + 2) (S.length :: g) 5 [natD 2, .tup [.tup [natD 0, natD 0], natD 0, natD 0]] S = .ok (.bl false) S := by
    have := s_fitsA k (S.length :: g) 2 [0, 0] 0 0 S (by decide) (by decide)
    exact this.trans (by rw [show fitsI 2 [0, 0] 0 0 = false by decide +kernel])
  have e2 : R (k + 2) (S.length :: g) 5 [natD 1, .tup [.tup [natD 0], natD 2, natD 0]] S = .ok (.bl false) S := by
    have := s_fitsA k (S.length :: g) 1 [0] 2 0 S (by decide) (by decide)
    exact this.trans (by rw [show fitsI 1 [0] 2 0 = false by decide +kernel])
  have e3 : R (k + 2) (S.length :: g) 5 [natD 1, .tup [.tup [natD 0], natD 0, .bl true]] S = .ok (.bl false) S := by
    rw [u5, b5]
    have el : [natD 0] = [0].map natD := rfl
    simp
    rw [el, comp_eq (fun _ => .bl true) (fun x hx => ⟨_, rfl, by simp⟩)]
    have ea : fAll (.lst ([0].map fun _ => D.bl true)) S = .ok (.bl true) S := rfl
    simp at ea
    simp [ea]
  rw [u11, b11]
  simp only [badL, List.mem_cons, List.not_mem_nil, or_false] at hd
  rcases hd with rfl | rfl | rfl | rfl | rfl | rfl | rfl | rfl <;> simp [mal, e1, e2, e3]
theorem mkB_xor (f : Nat → Bool) (n : Nat) : mkB f n ^^^ (f n).toNat * 2 ^ n = mkB f (n + 1) := by
  rw [← mkB_or]
  apply Nat.eq_of_testBit_eq
  intro j
  rw [Nat.testBit_xor, Nat.testBit_or, testBit_mkB]
  have : ((f n).toNat * 2 ^ n).testBit j = (f n && decide (j = n)) := by
    cases f n with
    | false => simp
    | true =>
      simp only [Bool.toNat_true, Nat.one_mul, Nat.testBit_two_pow, Bool.true_and]
      by_cases h : j = n
      · simp [h]
      · rw [decide_eq_false h, decide_eq_false (Ne.symm h)]
  rw [this]
  by_cases h : j = n
  · subst h; simp
  · simp [h]
def joinO (o1 o2 : List Nat) : List Nat := o1.map fun p => o2.getD p 0
def joinM (n : Nat) (o1 : List Nat) (m1 m2 : Nat) : Nat := m1 ^^^ mkB (fun i => m2.testBit (o1.getD i 0)) n
theorem s_joined (k : Nat) (g : List Nat) {n : Nat} {o1 o2 : List Nat} {m1 f1 m2 f2 : Nat} (S : Sto) (h : IsTurn n o1 m1 f1) (h' : IsTurn n o2 m2 f2) (h1 : 1 ≤ n) (h5 : n ≤ 5) :
    R (k + 4) g 12 [turnD o1 m1 f1, turnD o2 m2 f2] S = .ok (turnD (joinO o1 o2) (joinM n o1 m1 m2) (f1 ^^^ f2)) S := by
  have a0 : ∀ o m f S, fIdx (turnD o m f) (natD 0) S = .ok (.tup (o.map natD)) S := fun _ _ _ _ => rfl
  have a1 : ∀ o m f S, fIdx (turnD o m f) (natD 1) S = .ok (natD m) S := fun _ _ _ _ => rfl
  have a2 : ∀ o m f S, fIdx (turnD o m f) (natD 2) S = .ok (natD f) S := fun _ _ _ _ => rfl
  have hl := h.len
  have hl' := h'.len
  rw [u12, b12]
  simp [s_chkturn _ _ _ h h1 h5, s_chkturn _ _ _ h' h1 h5, a0, a1, a2, hl, hl']
  rw [for_eq (E := fun j => [some (turnD o1 m1 f1), some (turnD o2 m2 f2), some (natD (joinM j o1 m1 m2)), pv natD j, pv (fun j => natD (o1.getD j 0)) j]) (h0 := ?a) (h := ?b)]
  · simp [a0, a1, a2, show o1.length ≤ 1000 by omega, hl]
    rw [comp_eq (fun p => natD (o2.getD p 0)) (fun x hx => ⟨_, rfl, ?_⟩)]
    · simp [turnD, joinO, show n ≤ 1000 by omega, Function.comp_def]
    · have hx' : x < n := List.mem_range.mp (h.perm.mem_iff.mp hx)
      simp [a0, show x < o2.length by omega]
  · simp [joinM, mkB]
  · rintro j ⟨p, q⟩ hj
    obtain ⟨q1, q2⟩ := zip_at hj
    dsimp only at q1 q2
    subst q2
    have hq := (List.getElem?_eq_some_iff.mp q1).1
    have e : o1.getD q 0 = p := by rw [List.getD_eq_getElem?_getD, q1]; rfl
    refine ⟨_, rfl, ?_⟩
    have st := mkB_xor (fun i => m2.testBit (o1.getD i 0)) q
    rw [e] at st
    simp only [List.getD_eq_getElem?_getD] at st
    simp [a1, show q ≤ 1000 by omega, q1, joinM, Nat.xor_assoc, st]
def invO (o : List Nat) : List Nat := (List.range o.length).map fun p => o.idxOf p
def invM (n : Nat) (o : List Nat) (m : Nat) : Nat := mkB (fun i => m.testBit ((invO o).getD i 0)) n
theorem find_idx : ∀ (o : List Nat) (p : Nat), p ∈ o → findF (natD p) (o.map natD) = some (o.idxOf p)
  | [], p, h => nomatch h
  | x :: o, p, h => by
    have e : eqF (natD x) (natD p) = (x == p) := by
      show ((x : Int) == (p : Int)) = _
      rw [beq_dec]
      by_cases z : x = p
      · simp [z]
      · rw [decide_eq_false (by omega)]
        simp [z]
    rw [List.map_cons, findF, e]
    by_cases z : x = p
    · subst z
      simp
    · have hb : (x == p) = false := by simp [z]
      rw [hb, cond_false, find_idx o p (by
        rcases List.mem_cons.mp h with q | q
        · exact absurd q.symm z
        · exact q), List.idxOf_cons, hb]
      rfl
theorem s_undone (k : Nat) (g : List Nat) {n : Nat} {o : List Nat} {m f : Nat} (S : Sto) (h : IsTurn n o m f) (h1 : 1 ≤ n) (h5 : n ≤ 5) :
    R (k + 4) g 13 [turnD o m f] S = .ok (turnD (invO o) (invM n o m) f) S := by
  have a0 : ∀ o m f S, fIdx (turnD o m f) (natD 0) S = .ok (.tup (o.map natD)) S := fun _ _ _ _ => rfl
  have a1 : ∀ o m f S, fIdx (turnD o m f) (natD 1) S = .ok (natD m) S := fun _ _ _ _ => rfl
  have a2 : ∀ o m f S, fIdx (turnD o m f) (natD 2) S = .ok (natD f) S := fun _ _ _ _ => rfl
  have hl := h.len
  have hi : (invO o).length = n := by simp [invO, hl]
  rw [u13, b13]
  simp [s_chkturn _ _ _ h h1 h5, a0, hl, show n ≤ 1000 by omega]
  rw [comp_eq (fun p => natD (o.idxOf p)) (fun x hx => ⟨_, rfl, ?_⟩)]
  · rw [show (List.range n).map (fun p => natD (o.idxOf p)) = (invO o).map natD by rw [invO, hl, List.map_map]; rfl]
    simp
    rw [for_eq (E := fun j => [some (turnD o m f), some (.lst ((invO o).map natD)), some (natD (invM j o m)), pv natD j, pv (fun j => natD ((invO o).getD j 0)) j]) (h0 := ?a) (h := ?b)]
    · simp [a2, hi, turnD]
    · simp [invM, mkB]
    · rintro j ⟨p, q⟩ hj
      obtain ⟨q1, q2⟩ := zip_at hj
      dsimp only at q1 q2
      subst q2
      have hq := (List.getElem?_eq_some_iff.mp q1).1
      have e : (invO o).getD q 0 = p := by rw [List.getD_eq_getElem?_getD, q1]; rfl
      refine ⟨_, rfl, ?_⟩
      have st := mkB_or (fun i => m.testBit ((invO o).getD i 0)) q
      rw [e] at st
      simp only [List.getD_eq_getElem?_getD] at st
      simp [a1, show q ≤ 1000 by omega, q1, invM, st]
  · have hx' : x ∈ o := h.perm.mem_iff.mpr hx
    have e : fIndexT (S.length :: g) (.tup (o.map natD)) [natD x] S = .ok (natD (o.idxOf x)) S := by
      have fa : (o.map natD).all flatD = true := List.all_eq_true.mpr fun d hd => by
        obtain ⟨i, _, rfl⟩ := List.mem_map.mp hd
        rfl
      have fl : (flatD (natD x) && (o.map natD).all flatD) = true := by
        rw [fa]
        rfl
      unfold fIndexT
      dsimp only
      rw [fl, cond_true, find_idx o x hx']
      rfl
    simp [a0, isTupD, e]
/-! ### what turns do -/
theorem mkB_false (n : Nat) : mkB (fun _ => false) n = 0 := by
  apply Nat.eq_of_testBit_eq
  intro j
  rw [testBit_mkB]
  simp
theorem fed_lt (o : List Nat) (m x : Nat) : fedN o m x < 2 ^ o.length := mkB_lt _ _
theorem tab_lt (o : List Nat) (m f n t : Nat) : tabN o m f n t < 2 ^ 2 ^ n := mkB_lt _ _
theorem tab_bit {o : List Nat} {m f n t x : Nat} (hx : x < 2 ^ n) : (tabN o m f n t).testBit x = (t.testBit (fedN o m x) ^^ (f == 1)) := by
  unfold tabN
  rw [testBit_mkB, decide_eq_true hx, Bool.true_and]
theorem fed_bit {o : List Nat} {m x i : Nat} (hi : i < o.length) : (fedN o m x).testBit i = (x.testBit (o.getD i 0) ^^ m.testBit i) := by
  unfold fedN
  rw [testBit_mkB, decide_eq_true hi, Bool.true_and]
theorem join_turn {n : Nat} {o1 o2 : List Nat} {m1 f1 m2 f2 : Nat} (h : IsTurn n o1 m1 f1) (h' : IsTurn n o2 m2 f2) : IsTurn n (joinO o1 o2) (joinM n o1 m1 m2) (f1 ^^^ f2) where
  len := by rw [joinO, List.length_map, h.len]
  perm := by
    have e : (List.range n).map (fun p => o2.getD p 0) = o2 := by
      apply List.ext_getElem?
      intro i
      rw [List.getElem?_map]
      by_cases hi : i < n
      · rw [List.getElem?_range hi, List.getElem?_eq_getElem (by rw [h'.len]; exact hi)]
        simp [show i < o2.length by rw [h'.len]; exact hi]
      · rw [List.getElem?_eq_none (by simpa using hi), List.getElem?_eq_none (by rw [h'.len]; omega)]
        rfl
    have p := h.perm.map fun p => o2.getD p 0
    rw [e] at p
    exact p.trans h'.perm
  mb := Nat.xor_lt_two_pow h.mb (mkB_lt _ _)
  fb := by
    rcases Nat.le_one_iff_eq_zero_or_eq_one.mp h.fb with rfl | rfl <;> rcases Nat.le_one_iff_eq_zero_or_eq_one.mp h'.fb with rfl | rfl <;> decide
theorem join_law {n : Nat} {o1 o2 : List Nat} {m1 f1 m2 f2 : Nat} (t : Nat) (h : IsTurn n o1 m1 f1) (h' : IsTurn n o2 m2 f2) :
    tabN o2 m2 f2 n (tabN o1 m1 f1 n t) = tabN (joinO o1 o2) (joinM n o1 m1 m2) (f1 ^^^ f2) n t := by
  refine (show mkB (fun x => (tabN o1 m1 f1 n t).testBit (fedN o2 m2 x) ^^ (f2 == 1)) (2 ^ n) = mkB (fun x => t.testBit (fedN (joinO o1 o2) (joinM n o1 m1 m2) x) ^^ (f1 ^^^ f2 == 1)) (2 ^ n) from mkB_congr fun x hx => ?_)
  have hy : fedN o2 m2 x < 2 ^ n := by
    have := fed_lt o2 m2 x
    rw [h'.len] at this
    exact this
  have e : fedN o1 m1 (fedN o2 m2 x) = fedN (joinO o1 o2) (joinM n o1 m1 m2) x := by
    have hj := (join_turn h h').len
    unfold fedN at *
    rw [hj, h.len]
    refine mkB_congr fun i hi => ?_
    have lt := h.lt hi
    have e1 : (joinO o1 o2).getD i 0 = o2.getD (o1.getD i 0) 0 := by
      unfold joinO
      have : i < o1.length := by rw [h.len]; exact hi
      simp [this]
    rw [h'.len, testBit_mkB, decide_eq_true lt, Bool.true_and, e1, joinM, Nat.testBit_xor, testBit_mkB, decide_eq_true hi, Bool.true_and]
    cases x.testBit (o2.getD (o1.getD i 0) 0) <;> cases m2.testBit (o1.getD i 0) <;> cases m1.testBit i <;> rfl
  have := tab_bit (o := o1) (m := m1) (f := f1) (t := t) hy
  rw [this, e]
  rcases Nat.le_one_iff_eq_zero_or_eq_one.mp h.fb with rfl | rfl <;> rcases Nat.le_one_iff_eq_zero_or_eq_one.mp h'.fb with rfl | rfl <;> cases t.testBit (fedN (joinO o1 o2) (joinM n o1 m1 m2) x) <;> rfl
theorem idx_self {o : List Nat} (nd : o.Nodup) {i : Nat} (hi : i < o.length) : o.idxOf o[i] = i := List.Nodup.idxOf_getElem nd i hi
theorem inv_turn {n : Nat} {o : List Nat} {m f : Nat} (h : IsTurn n o m f) : IsTurn n (invO o) (invM n o m) f where
  len := by simp [invO, h.len]
  perm := by
    have e : o.map (fun p => o.idxOf p) = List.range n := by
      apply List.ext_getElem
      · rw [List.length_map, List.length_range, h.len]
      · intro i q1 q2
        rw [List.getElem_map, List.getElem_range]
        exact idx_self h.nd _
    have p := h.perm.map fun p => o.idxOf p
    rw [e] at p
    unfold invO
    rw [h.len]
    exact p.symm
  mb := mkB_lt _ _
  fb := h.fb
theorem inv_law {n : Nat} {o : List Nat} {m f : Nat} {t : Nat} (h : IsTurn n o m f) (ht : t < 2 ^ 2 ^ n) : tabN (invO o) (invM n o m) f n (tabN o m f n t) = t := by
  have hi' := inv_turn h
  refine Eq.trans ?_ (mkB_self ht)
  refine (show mkB (fun x => (tabN o m f n t).testBit (fedN (invO o) (invM n o m) x) ^^ (f == 1)) (2 ^ n) = mkB t.testBit (2 ^ n) from mkB_congr fun x hx => ?_)
  have hy : fedN (invO o) (invM n o m) x < 2 ^ n := by
    have := fed_lt (invO o) (invM n o m) x
    rw [hi'.len] at this
    exact this
  have e : fedN o m (fedN (invO o) (invM n o m) x) = x := by
    refine Eq.trans ?_ (mkB_self hx)
    unfold fedN
    rw [h.len, hi'.len]
    refine mkB_congr fun i hi => ?_
    have lt := h.lt hi
    have hio : i < o.length := by rw [h.len]; exact hi
    have e1 : (invO o).getD (o.getD i 0) 0 = i := by
      have : o.getD i 0 = o[i] := by simp [hio]
      unfold invO
      rw [List.getD_eq_getElem?_getD, List.getElem?_map, List.getElem?_range (by rw [h.len]; exact lt), this]
      exact idx_self h.nd hio
    rw [testBit_mkB, decide_eq_true lt, Bool.true_and, e1, invM, testBit_mkB, decide_eq_true lt, Bool.true_and, e1]
    cases x.testBit i <;> cases m.testBit i <;> rfl
  rw [tab_bit hy, e]
  rcases Nat.le_one_iff_eq_zero_or_eq_one.mp h.fb with rfl | rfl <;> cases t.testBit x <;> rfl
theorem join_sort {n w : Nat} {o1 : List Nat} {m1 f1 m2 f2 : Nat} (h : sortI w m1 f1 = true) (h' : sortI w m2 f2 = true) : sortI w (joinM n o1 m1 m2 : Nat) (f1 ^^^ f2 : Nat) = true := by
  match w with
  | 0 =>
    simp only [sortI, Bool.and_eq_true, decide_eq_true_eq] at h h' ⊢
    obtain ⟨a1, a2⟩ := h
    obtain ⟨b1, b2⟩ := h'
    have : m1 = 0 := by omega
    have : m2 = 0 := by omega
    have : f1 = 0 := by omega
    have : f2 = 0 := by omega
    subst_vars
    exact ⟨by simp [joinM, mkB_false], by simp⟩
  | 1 =>
    simp only [sortI, decide_eq_true_eq] at h h' ⊢
    have : f1 = 0 := by omega
    have : f2 = 0 := by omega
    subst_vars
    simp
  | _ + 2 => rfl
theorem inv_sort {n w : Nat} {o : List Nat} {m f : Nat} (h : sortI w m f = true) : sortI w (invM n o m : Nat) f = true := by
  match w with
  | 0 =>
    simp only [sortI, Bool.and_eq_true, decide_eq_true_eq] at h ⊢
    obtain ⟨a1, a2⟩ := h
    have : m = 0 := by omega
    subst_vars
    exact ⟨by simp [invM, mkB_false], a2⟩
  | 1 => exact h
  | _ + 2 => rfl

end Lk.K46
namespace Lk.K46
open PySem PySem.Spec PyProof.Rows L2
/-! ### what is drawn -/
def DrI (r S : Sto) : Prop := ∃ c, S = .lst c :: r ∧ IsDraw c
theorem s_tk (k : Nat) (g : List Nat) (m : Nat) {r S : Sto} (h : DrI r S) (h0 : 0 < m) (h1 : m < 1073741824) : ∃ v S', R (k + 1) g 15 [.ref 0, natD m] S = .ok (natD v) S' ∧ v < m ∧ DrI r S' := by
  obtain ⟨c, rfl, hc⟩ := h
  obtain ⟨v, c', e, h2, h3⟩ := s_take k g 0 m (.lst c :: r) c rfl hc h0 h1
  exact ⟨v, _, e, h2, c', rfl, h3⟩
theorem DrI.len {r S S' : Sto} (h : DrI r S) (h' : DrI r S') : S'.length = S.length := by
  obtain ⟨c, rfl, _⟩ := h
  obtain ⟨c', rfl, _⟩ := h'
  rfl
theorem nats_of {P : Nat → Prop} : ∀ ds : List D, (∀ d ∈ ds, ∃ v, d = natD v ∧ P v) → ∃ ws : List Nat, ds = ws.map natD ∧ ∀ w ∈ ws, P w
  | [], _ => ⟨[], rfl, fun _ h => nomatch h⟩
  | d :: ds, h => by
    obtain ⟨v, rfl, hv⟩ := h d List.mem_cons_self
    obtain ⟨ws, rfl, hw⟩ := nats_of ds fun x q => h x (List.mem_cons_of_mem _ q)
    refine ⟨v :: ws, rfl, fun w q => ?_⟩
    rcases List.mem_cons.mp q with rfl | q
    · exact hv
    · exact hw w q
theorem bits_of {ws : List Nat} (h : ∀ w ∈ ws, w < 2) : D.lst (ws.map natD) = bitsD (ws.map (· == 1)) := by
  unfold bitsD
  rw [List.map_map]
  congr 1
  apply List.map_congr_left
  intro w hw
  have := h w hw
  rcases Nat.lt_or_ge w 1 with q | q
  · have : w = 0 := by omega
    subst this
    rfl
  · have : w = 1 := by omega
    subst this
    rfl
theorem s_tkcomp (k : Nat) (g : List Nat) {ρ : Env} {j N m : Nat} {a b : SemE} {r S S1 : Sto} (ha : a (R (k + 1)) g ρ S = .ok (natD N) S1) (hN : N ≤ 1000) (h0 : ρ[0]? = some (some (.ref 0))) (hj : j ≠ 0)
    (hb : ∀ x S, b (R (k + 1)) g (ρ.set j (some x)) S = .ok (natD m) S) (hS : DrI r S1) (hm : 0 < m) (hm1 : m < 1073741824) :
    ∃ (ws : List Nat) (S' : Sto), eComp false [j] (iRng1R a) (gSet j) tYesT (eCall 15 (esCons (eVar 0) (esCons b esNil))) (R (k + 1)) g ρ S = .ok (.lst (ws.map natD)) S' ∧ ws.length = N ∧ (∀ w ∈ ws, w < m) ∧ DrI r S' := by
  obtain ⟨ds, S', e, hI, hl, hR⟩ := comp_st (g := gSet j) (el := eCall 15 (esCons (eVar 0) (esCons b esNil))) (c := R (k + 1)) (b := g) (ρ := wipeE ρ [j]) (tD := natD) (up := fun x => (wipeE ρ [j]).set j (some (natD x)))
    (I := DrI r) (R := fun d => ∃ v, d = natD v ∧ v < m) (List.range N) S1 hS (fun _ _ => rfl) (fun x hx S2 h2 => by
      obtain ⟨v, S3, e3, lt, d3⟩ := s_tk k g m h2 hm hm1
      have e0 : (ρ.set j (some (natD x)))[0]? = some (some (.ref 0)) := by
        rw [List.getElem?_set_ne hj, h0]
      exact ⟨natD v, S3, by simp [e0, hb, e3], d3, v, rfl, lt⟩)
  obtain ⟨ws, rfl, hw⟩ := nats_of ds hR
  refine ⟨ws, S', ?_, by simpa using hl, hw, hI⟩
  simp only [x_comp, x_irng1, ha, ok_bind, n_rngI hN]
  rw [e]
  simp [hN]
theorem s_row {f : CallF} {g : List Nat} {ρ : Env} {j N : Nat} {a el : SemE} {S : Sto} (F : Nat → Bool) (ha : a f g ρ S = .ok (natD N) S) (hN : N ≤ 1000)
    (he : ∀ x, x < N → el f g (ρ.set j (some (natD x))) S = .ok (natD (F x).toNat) S) :
    eComp false [j] (iRng1R a) (gSet j) tYesT el f g ρ S = .ok (bitsD ((List.range N).map F)) S := by
  simp only [x_comp, x_irng1, ha, ok_bind, n_rngI hN]
  rw [comp_eq (fun x => natD (F x).toNat) (fun x hx => ⟨_, rfl, by rw [x_wipe1, x_wipe0, List.set_set]; exact he x (List.mem_range.mp hx)⟩)]
  simp [hN, bitsD]
theorem sum_le {b : Nat} : ∀ l : List Nat, (∀ w ∈ l, w ≤ b) → l.sum ≤ b * l.length
  | [], _ => by simp
  | a :: l, h => by
    have := sum_le l fun w q => h w (List.mem_cons_of_mem _ q)
    have := h a List.mem_cons_self
    rw [List.sum_cons, List.length_cons, Nat.mul_succ]
    omega
theorem s_weighted (k : Nat) (g : List Nat) (n : Nat) {r S : Sto} (h : DrI r S) (hn : n ≤ 5) : ∃ bs S', R (k + 3) g 22 [.ref 0, natD n] S = .ok (bitsD bs) S' ∧ bs.length = 2 ^ n ∧ DrI r S' := by
  have hs : 2 ^ n ≤ 32 := Nat.le_trans (Nat.pow_le_pow_right (by decide) hn) (by decide)
  rw [u22, b22]
  obtain ⟨ws, S1, e1, l1, w1, d1⟩ := s_tkcomp (k + 1) (S.length :: g) (ρ := [some (.ref 0), some (natD n), none, none, none, none]) (j := 4) (N := n) (m := 6) (a := eVar 1) (b := eCst (.int 6)) (S := S) (by simp) (by omega) rfl (by decide) (fun _ _ => rfl) h (by decide) (by decide)
  have hsum : ws.sum ≤ 30 := by
    have := sum_le (b := 6) ws fun w q => Nat.le_of_lt (w1 w q)
    omega
  obtain ⟨v, S2, e2, lt2, d2⟩ := s_tk (k + 1) (S.length :: g) (max 1 ws.sum) d1 (by omega) (by omega)
  have c0 : c22_0 (R (k + 2)) (S.length :: g) [some (.ref 0), some (natD n), none, none, none, none] S = .ok (.lst (ws.map natD)) S1 := e1
  have c1 : c22_1 (R (k + 2)) (S.length :: g) [some (.ref 0), some (natD n), some (.lst (ws.map natD)), some (natD (1 + v)), none, none] S2 = .ok (bitsD ((List.range (2 ^ n)).map fun x => decide (1 + v ≤ (((List.range n).filter fun i => x.testBit i).map fun i => ws.getD i 0).sum))) S2 := by
    refine s_row (N := 2 ^ n) (fun x => decide (1 + v ≤ (((List.range n).filter fun i => x.testBit i).map fun i => ws.getD i 0).sum)) (by simp [s_two _ _ _ _ (show n ≤ 1000 by omega)]) (by omega) fun x hx => ?_
    simp only [c22_2]
    simp [show n ≤ 1000 by omega]
    rw [comp_eqF (fun i => x.testBit i) (fun i => natD (ws.getD i 0)) (fun i hi => ⟨_, rfl, ?_, fun _ => ?_⟩)]
    · simp
    · simp [s_bit]
    · have hi := List.mem_range.mp hi
      simp [show i < ws.length by omega]
  have ln := h.len d2
  refine ⟨(List.range (2 ^ n)).map fun x => decide (1 + v ≤ (((List.range n).filter fun i => x.testBit i).map fun i => ws.getD i 0).sum), S2, ?_, by simp, d2⟩
  simp only [x_seq, x_asg, c0, ok_bindS, x_set, nx_seq]
  simp [e2, c1]
  rw [← ln]
  exact fin_rt

end Lk.K46
namespace Lk.K46
open PySem PySem.Spec PyProof.Rows L2
/-! ### a drawn lamp -/
theorem s_inside (k : Nat) (g : List Nat) (a b n : Nat) (S : Sto) (hn : n ≤ 1000) : R (k + 2) g 24 [natD a, natD b, natD n] S = .ok (.bl ((List.range n).all fun i => decide ((a.testBit i).toNat ≤ (b.testBit i).toNat))) S := by
  rw [u24, b24]
  simp [hn]
  rw [comp_eq (fun i => .bl (decide ((a.testBit i).toNat ≤ (b.testBit i).toNat))) (fun i hi => ⟨_, rfl, by simp [s_bit]⟩)]
  simp [hn]
theorem s_crossed (k : Nat) (g : List Nat) (x m n : Nat) (S : Sto) (hn : n ≤ 1000) : R (k + 2) g 25 [natD x, natD m, natD n] S = .ok (natD (mkB (fun i => x.testBit i ^^ m.testBit i) n)) S := by
  rw [u25, b25]
  simp [hn]
  rw [comp_eqF (fun i => x.testBit i ^^ m.testBit i) (fun i => natD (2 ^ i)) (fun i hi => ?_)]
  · simp [hn]
    exact congrArg natD (sum_mkB (fun i => x.testBit i ^^ m.testBit i) n)
  · have hi := List.mem_range.mp hi
    refine ⟨_, rfl, ?_, fun _ => ?_⟩
    · simp [s_bit]
      cases x.testBit i <;> cases m.testBit i <;> rfl
    · simp [s_two _ _ _ _ (show i ≤ 1000 by omega)]
theorem s_rowN {f : CallF} {g : List Nat} {ρ : Env} {j N : Nat} {a el : SemE} {S : Sto} (F : Nat → Nat) (ha : a f g ρ S = .ok (natD N) S) (hN : N ≤ 1000)
    (he : ∀ x, x < N → el f g (ρ.set j (some (natD x))) S = .ok (natD (F x)) S) :
    eComp false [j] (iRng1R a) (gSet j) tYesT el f g ρ S = .ok (.lst (((List.range N).map F).map natD)) S := by
  simp only [x_comp, x_irng1, ha, ok_bind, n_rngI hN]
  rw [comp_eq (fun x => natD (F x)) (fun x hx => ⟨_, rfl, by rw [x_wipe1, x_wipe0, List.set_set]; exact he x (List.mem_range.mp hx)⟩)]
  simp [hN, Function.comp_def]
theorem idx_bits {bs : List Bool} {i : Nat} (hi : i < bs.length) (S : Sto) : fIdx (bitsD bs) (natD i) S = .ok (natD (bs.getD i false).toNat) S := by simp [bitsD, hi]
def lenv (most n kd : Nat) : Env := [some (.ref 0), some (natD most), some (natD n), some (natD kd), some (natD (2 ^ n)), none, none, none, none, none, none, none, none, none, none, none]
def Rowed (r : Sto) (n : Nat) (x : RS) : Prop := ∃ ρ' S' bs, x = .nx ρ' S' ∧ ρ'[2]? = some (some (natD n)) ∧ ρ'[5]? = some (some (bitsD bs)) ∧ bs.length = 2 ^ n ∧ DrI r S'
theorem lamp_end0 (k : Nat) (g : List Nat) (most n : Nat) {r S S1 : Sto} (bs : List Bool) (l1 : bs.length = 2 ^ n) (d1 : DrI r S1) (c1 : c23_1 (R (k + 3)) g (lenv most n 0) S = .ok (bitsD bs) S1) : Rowed r n (t23_0 (R (k + 3)) g (lenv most n 0) S) := by
  refine ⟨(lenv most n 0).set 5 (some (bitsD bs)), S1, bs, ?_, rfl, rfl, l1, d1⟩
  simp [lenv] at c1 ⊢
  simp [t23_0, c1]
theorem lamp_row0 (k : Nat) (g : List Nat) (most n : Nat) {r S : Sto} (h : DrI r S) (hn : n ≤ 5) (hs' : 2 ^ n ≤ 1000) (hp : 0 < 2 ^ n) : Rowed r n (t23_0 (R (k + 3)) g (lenv most n 0) S) := by
  obtain ⟨ws, S1, e1, l1, w1, d1⟩ := s_tkcomp (k + 2) g (ρ := lenv most n 0) (j := 6) (N := 2 ^ n) (m := 2) (a := eVar 4) (b := eCst (.int 2)) (S := S) (by simp [lenv]) hs' rfl (by decide) (fun _ _ => rfl) h (by decide) (by decide)
  have e2 : c23_1 (R (k + 3)) g (lenv most n 0) S = .ok (bitsD (ws.map (· == 1))) S1 := by rw [← bits_of w1]; exact e1
  clear e1
  exact lamp_end0 k g most n (ws.map (· == 1)) (by rw [List.length_map]; exact l1) d1 e2
theorem lamp_row1 (k : Nat) (g : List Nat) (most n : Nat) {r S : Sto} (h : DrI r S) (hn : n ≤ 5) (hs' : 2 ^ n ≤ 1000) (hp : 0 < 2 ^ n) : Rowed r n (t23_0 (R (k + 3)) g (lenv most n 1) S) := by
  obtain ⟨bs, S1, e1, l1, d1⟩ := s_weighted k g n h hn
  refine ⟨(lenv most n 1).set 5 (some (bitsD bs)), S1, bs, ?_, rfl, rfl, l1, d1⟩
  unfold t23_0 t23_2
  simp [lenv, e1]
theorem lamp_mid2 (k : Nat) (g : List Nat) (most n : Nat) {S1 : Sto} (ws : List Nat) (hn : n ≤ 5) (hs' : 2 ^ n ≤ 1000) (hw : ws.length ≤ 1000) : c23_5 (R (k + 3)) g ((lenv most n 2).set 7 (some (.lst (ws.map natD)))) S1 = .ok (bitsD ((List.range (2 ^ n)).map fun x => ws.any fun w => (List.range n).all fun i => decide ((w.testBit i).toNat ≤ (x.testBit i).toNat))) S1 := by
  refine s_row (N := 2 ^ n) (fun x => ws.any fun w => (List.range n).all fun i => decide ((w.testBit i).toNat ≤ (x.testBit i).toNat)) (by simp [lenv]) hs' fun x hx => ?_
  simp [c23_6, lenv, hw]
  rw [comp_eq (fun w => .bl ((List.range n).all fun i => decide ((w.testBit i).toNat ≤ (x.testBit i).toNat))) (fun w hw => ⟨_, rfl, by simp [s_inside _ _ _ _ _ _ (show n ≤ 1000 by omega)]⟩)]
  simp
theorem lamp_end2 (k : Nat) (g : List Nat) (most n : Nat) {r S S1 : Sto} (ws : List Nat) (bs : List Bool) (l1 : bs.length = 2 ^ n) (d1 : DrI r S1) (c4 : c23_4 (R (k + 3)) g (lenv most n 2) S = .ok (.lst (ws.map natD)) S1)
    (c5 : c23_5 (R (k + 3)) g ((lenv most n 2).set 7 (some (.lst (ws.map natD)))) S1 = .ok (bitsD bs) S1) : Rowed r n (t23_0 (R (k + 3)) g (lenv most n 2) S) := by
  refine ⟨((lenv most n 2).set 7 (some (.lst (ws.map natD)))).set 5 (some (bitsD bs)), S1, bs, ?_, rfl, rfl, l1, d1⟩
  simp [lenv] at c4 c5 ⊢
  simp [t23_0, t23_2, t23_3, c4, c5]
theorem lamp_row2 (k : Nat) (g : List Nat) (most n : Nat) {r S : Sto} (h : DrI r S) (hn : n ≤ 5) (hs' : 2 ^ n ≤ 1000) (hp : 0 < 2 ^ n) : Rowed r n (t23_0 (R (k + 3)) g (lenv most n 2) S) := by
  obtain ⟨v, S0, e0, lt0, d0⟩ := s_tk (k + 2) g 3 h (by decide) (by decide)
  obtain ⟨ws, S1, e1, l1, w1, d1⟩ := s_tkcomp (k + 2) g (ρ := lenv most n 2) (j := 10) (N := 1 + v) (m := 2 ^ n) (a := e2 (fAdd false) (eCst (.int 1)) (eCall 15 (esCons (eVar 0) (esCons (eCst (.int 3)) esNil)))) (b := eVar 4) (S := S) (by simp [lenv, e0]) (by omega) rfl (by decide) (fun _ _ => by simp [lenv]) d0 hp (by omega)
  have e2 : c23_4 (R (k + 3)) g (lenv most n 2) S = .ok (.lst (ws.map natD)) S1 := e1
  clear e1
  exact lamp_end2 k g most n ws _ (by simp) d1 e2 (lamp_mid2 k g most n ws hn hs' (by omega))
theorem lamp_row3 (k : Nat) (g : List Nat) (most n : Nat) {r S : Sto} (h : DrI r S) (hn : n ≤ 5) (hs' : 2 ^ n ≤ 1000) (hp : 0 < 2 ^ n) : Rowed r n (t23_0 (R (k + 3)) g (lenv most n 3) S) := by
  obtain ⟨bs, S1, e1, l1, d1⟩ := s_weighted k g n h hn
  obtain ⟨v, S2, e2', lt2, d2⟩ := s_tk (k + 2) g (2 ^ n) d1 hp (by omega)
  have c8 : c23_8 (R (k + 3)) g (((lenv most n 3).set 8 (some (bitsD bs))).set 9 (some (natD v))) S2 = .ok (bitsD ((List.range (2 ^ n)).map fun x => bs.getD (mkB (fun i => x.testBit i ^^ v.testBit i) n) false)) S2 := by
    refine s_row (N := 2 ^ n) (fun x => bs.getD (mkB (fun i => x.testBit i ^^ v.testBit i) n) false) (by simp [lenv]) hs' fun x hx => ?_
    have := mkB_lt (fun i => x.testBit i ^^ v.testBit i) n
    have e := idx_bits (bs := bs) (i := mkB (fun i => x.testBit i ^^ v.testBit i) n) (by omega) S2
    simp [lenv, s_crossed _ _ _ _ _ _ (show n ≤ 1000 by omega)]
    simpa using e
  refine ⟨(((lenv most n 3).set 8 (some (bitsD bs))).set 9 (some (natD v))).set 5 (some (bitsD ((List.range (2 ^ n)).map fun x => bs.getD (mkB (fun i => x.testBit i ^^ v.testBit i) n) false))), S2, _, ?_, rfl, rfl, by simp, d2⟩
  simp [lenv] at c8 ⊢
  unfold t23_0 t23_2 t23_3 t23_7
  simp [e1, e2', c8]
theorem n_half (v : Nat) (S : Sto) : (fDiv (natD v) (natD 2) S).bind (fun x S1 => (fMul false x (natD 2) S1).bind fun y S2 => fSub (natD v) y S2) = .ok (natD (decide (v % 2 = 1)).toNat) S := by
  have e : v - v / 2 * 2 = (decide (v % 2 = 1)).toNat := by
    rcases Nat.mod_two_eq_zero_or_one v with q | q
    · rw [q]; simp; omega
    · rw [q]; simp; omega
  simp [show v / 2 * 2 ≤ v by omega, e]
theorem lamp_mid4 (k : Nat) (g : List Nat) (most n m : Nat) {S1 : Sto} (hn : n ≤ 5) (hs' : 2 ^ n ≤ 1000) : c23_10 (R (k + 3)) g ((lenv most n 4).set 9 (some (natD m))) S1 = .ok (.lst (((List.range (2 ^ n)).map fun x => (((List.range n).filter fun i => m.testBit i).map fun i => (x.testBit i).toNat).sum).map natD)) S1 := by
  refine s_rowN (N := 2 ^ n) (fun x => (((List.range n).filter fun i => m.testBit i).map fun i => (x.testBit i).toNat).sum) (by simp [lenv]) hs' fun x hx => ?_
  simp [c23_11, lenv, show n ≤ 1000 by omega]
  rw [comp_eqF (fun i => m.testBit i) (fun i => natD (x.testBit i).toNat) (fun i hi => ⟨_, rfl, by simp [s_bit], fun _ => by simp [s_bit]⟩)]
  have hl : ((List.range n).filter fun i => m.testBit i).length ≤ 1000 := Nat.le_trans (List.length_filter_le _ _) (by simp; omega)
  simp
theorem lamp_mid4b (f : CallF) (g : List Nat) (most n m : Nat) (l : List Nat) {S1 : Sto} (hl : l.length ≤ 1000) : c23_12 f g (((lenv most n 4).set 9 (some (natD m))).set 5 (some (.lst (l.map natD)))) S1 = .ok (bitsD (l.map fun v => decide (v % 2 = 1))) S1 := by
  unfold c23_12
  simp [lenv, hl]
  rw [comp_eq (fun v => natD (decide (v % 2 = 1)).toNat) (fun v hv => ⟨_, rfl, ?_⟩)]
  · simp [bitsD, hl]
  · have := n_half v S1
    simpa using this
theorem lamp_end4 (k : Nat) (g : List Nat) (most n m : Nat) {r S S1 : Sto} (l : List Nat) (bs : List Bool) (l1 : bs.length = 2 ^ n) (d1 : DrI r S1) (e1 : R (k + 3) g 15 [.ref 0, natD (2 ^ n)] S = .ok (natD m) S1)
    (c1 : c23_10 (R (k + 3)) g ((lenv most n 4).set 9 (some (natD m))) S1 = .ok (.lst (l.map natD)) S1) (c2 : c23_12 (R (k + 3)) g (((lenv most n 4).set 9 (some (natD m))).set 5 (some (.lst (l.map natD)))) S1 = .ok (bitsD bs) S1) :
    Rowed r n (t23_0 (R (k + 3)) g (lenv most n 4) S) := by
  refine ⟨((lenv most n 4).set 9 (some (natD m))).set 5 (some (bitsD bs)), S1, bs, ?_, rfl, rfl, l1, d1⟩
  simp [lenv] at c1 c2 ⊢
  simp [t23_0, t23_2, t23_3, t23_7, t23_9, e1, c1, c2]
theorem lamp_row4 (k : Nat) (g : List Nat) (most n : Nat) {r S : Sto} (h : DrI r S) (hn : n ≤ 5) (hs' : 2 ^ n ≤ 1000) (hp : 0 < 2 ^ n) : Rowed r n (t23_0 (R (k + 3)) g (lenv most n 4) S) := by
  obtain ⟨m, S1, e1, lt1, d1⟩ := s_tk (k + 2) g (2 ^ n) h hp (by omega)
  exact lamp_end4 k g most n m _ _ (by simp) d1 e1 (lamp_mid4 k g most n m hn hs') (lamp_mid4b _ g most n m _ (by simp [hs']))
theorem lamp_end5 (k : Nat) (g : List Nat) (most n i j : Nat) {r S S1 S2 S3 : Sto} (few bs : List Bool) (l1 : bs.length = 2 ^ n) (d1 : DrI r S3) (c1 : c23_13 (R (k + 3)) g (lenv most n 5) S = .ok (bitsD few) S1)
    (e1 : R (k + 3) g 15 [.ref 0, natD n] S1 = .ok (natD i) S2) (e2 : R (k + 3) g 15 [.ref 0, natD n] S2 = .ok (natD j) S3)
    (c2 : c23_14 (R (k + 3)) g ((((lenv most n 5).set 11 (some (bitsD few))).set 12 (some (natD i))).set 13 (some (natD j))) S3 = .ok (bitsD bs) S3) :
    Rowed r n (t23_0 (R (k + 3)) g (lenv most n 5) S) := by
  refine ⟨((((lenv most n 5).set 11 (some (bitsD few))).set 12 (some (natD i))).set 13 (some (natD j))).set 5 (some (bitsD bs)), S3, bs, ?_, rfl, rfl, l1, d1⟩
  simp [lenv] at c1 c2 ⊢
  simp [t23_0, t23_2, t23_3, t23_7, t23_9, e1, c1, e2, c2]
theorem lamp_row5 (k : Nat) (g : List Nat) (most n : Nat) {r S : Sto} (h : DrI r S) (h1 : 1 ≤ n) (hn : n ≤ 5) (hs' : 2 ^ n ≤ 1000) : Rowed r n (t23_0 (R (k + 3)) g (lenv most n 5) S) := by
  obtain ⟨ws, S1, e1, l1, w1, d1⟩ := s_tkcomp (k + 2) g (ρ := lenv most n 5) (j := 6) (N := 4) (m := 2) (a := eCst (.int 4)) (b := eCst (.int 2)) (S := S) rfl (by decide) rfl (by decide) (fun _ _ => rfl) h (by decide) (by decide)
  obtain ⟨i, S2, e2', lt2, d2⟩ := s_tk (k + 2) g n d1 (by omega) (by omega)
  obtain ⟨j, S3, e3, lt3, d3⟩ := s_tk (k + 2) g n d2 (by omega) (by omega)
  rw [bits_of w1] at e1
  refine lamp_end5 k g most n i j _ ((List.range (2 ^ n)).map fun x => (ws.map (· == 1)).getD ((x.testBit i).toNat + 2 * (x.testBit j).toNat) false) (by simp) d3 e1 e2' e3 ?_
  refine s_row (N := 2 ^ n) (fun x => (ws.map (· == 1)).getD ((x.testBit i).toNat + 2 * (x.testBit j).toNat) false) (by simp [lenv]) hs' fun x hx => ?_
  have b1 := bt_le (x.testBit i)
  have b2 := bt_le (x.testBit j)
  have e := idx_bits (bs := ws.map (· == 1)) (i := (x.testBit i).toNat + 2 * (x.testBit j).toNat) (by rw [List.length_map]; omega) S3
  simp [lenv, s_bit]
  simpa using e
theorem lamp_row (k : Nat) (g : List Nat) (most n kd : Nat) {r S : Sto} (h : DrI r S) (h1 : 1 ≤ n) (hn : n ≤ 5) (hk : kd < 6) : Rowed r n (t23_0 (R (k + 3)) g (lenv most n kd) S) := by
  have hs : 2 ^ n ≤ 32 := Nat.le_trans (Nat.pow_le_pow_right (by decide) hn) (by decide)
  have hs' : 2 ^ n ≤ 1000 := by omega
  have hp : 0 < 2 ^ n := Nat.two_pow_pos n
  match kd, hk with
  | 0, _ => exact lamp_row0 k g most n h hn hs' hp
  | 1, _ => exact lamp_row1 k g most n h hn hs' hp
  | 2, _ => exact lamp_row2 k g most n h hn hs' hp
  | 3, _ => exact lamp_row3 k g most n h hn hs' hp
  | 4, _ => exact lamp_row4 k g most n h hn hs' hp
  | 5, _ => exact lamp_row5 k g most n h h1 hn hs'
theorem s_lamp (k : Nat) (g : List Nat) (most : Nat) {r S : Sto} (h : DrI r S) (h1 : 1 ≤ most) (h5 : most ≤ 5) : ∃ n t S', R (k + 4) g 23 [.ref 0, natD most] S = .ok (lampD n t) S' ∧ 1 ≤ n ∧ n ≤ most ∧ t < 2 ^ 2 ^ n ∧ DrI r S' := by
  obtain ⟨v, S1, e1, lt1, d1⟩ := s_tk (k + 2) (S.length :: g) most h (by omega) (by omega)
  obtain ⟨kd, S2, e2', lt2, d2⟩ := s_tk (k + 2) (S.length :: g) 6 d1 (by decide) (by decide)
  obtain ⟨ρ', S3, bs, e3, r2, r5, lb, d3⟩ := lamp_row k (S.length :: g) most (1 + v) kd d2 (by omega) (by omega) lt2
  have hs : 2 ^ (1 + v) ≤ 32 := Nat.le_trans (Nat.pow_le_pow_right (by decide) (show 1 + v ≤ 5 by omega)) (by decide)
  have e4 := s_made (k + 1) (S.length :: g) bs S3 (by omega)
  refine ⟨1 + v, mkB (fun i => bs.getD i false) bs.length, S3, ?_, by omega, by omega, by rw [lb]; exact mkB_lt _ _, d3⟩
  rw [u23, b23]
  simp [lenv] at e3
  simp [e1, e2', s_two _ _ _ _ (show 1 + v ≤ 1000 by omega), e3, r2, r5, e4]
  rw [← h.len d3]
  exact fin_rt

end Lk.K46
namespace Lk.K46
open PySem PySem.Spec PyProof.Rows L2
/-! ### a drawn turn -/
theorem n_pop {g : List Nat} {q v : Nat} {S : Sto} {xs : List D} (h : S[q]? = some (.lst xs)) (hv : v < xs.length) (hs : v ≤ 1000) : fPop g (.ref q) [natD v] S = .ok xs[v] (S.set q (.lst (xs.eraseIdx v))) := by
  have e : celS S (.ref q) = some (q, xs) := by
    show (match S[q]? with | some (.lst ds) => some (q, ds) | _ => none) = _
    rw [h]
  show (match celS S (.ref q), [natD v] with
    | some (n, xs), [] => (match xs[xs.length - 1]? with | some y => Rs.ok y (S.set n (.lst xs.dropLast)) | none => .bad)
    | some (n, xs), [.int i] => (match ixN xs.length i with | some k => (match xs[k]? with | some y => (bif small24 i then Rs.ok y (S.set n (.lst (xs.eraseIdx k))) else .bad) | none => .bad) | none => .bad)
    | _, _ => .bad) = _
  rw [e]
  show (match ixN xs.length (v : Int) with | some k => (match xs[k]? with | some y => (bif small24 (v : Int) then Rs.ok y (S.set q (.lst (xs.eraseIdx k))) else .bad) | none => .bad) | none => .bad) = _
  rw [x_ixN, if_pos hv]
  dsimp only
  rw [List.getElem?_eq_getElem hv]
  dsimp only
  rw [small24_nat v (Nat.le_trans hs (by decide))]
  rfl
theorem fit_nats (b : Nat) (l : List Nat) : fitL b (l.map natD) = true := by
  induction l with
  | nil => rfl
  | cons a l ih =>
    rw [List.map_cons]
    unfold fitL
    rw [ih]
    rfl
theorem fit_turn (b : Nat) (o : List Nat) (m f : Nat) : (turnD o m f).fit b = true := by
  unfold turnD
  have := fit_nats b o
  show ((fitL b (o.map natD)) && _) = true
  rw [this]
  rfl
theorem erase_perm : ∀ (l : List Nat) (v : Nat) (h : v < l.length), (l[v] :: l.eraseIdx v).Perm l
  | a :: l, 0, _ => .refl _
  | a :: l, v + 1, h => by
    have ih := erase_perm l v (by simpa using h)
    exact (List.Perm.swap a _ _).trans (ih.cons a)
theorem erase_map {α β : Type} (f : α → β) : ∀ (l : List α) (v : Nat), (l.map f).eraseIdx v = (l.eraseIdx v).map f
  | [], _ => rfl
  | a :: l, 0 => rfl
  | a :: l, v + 1 => by
    show f a :: (l.map f).eraseIdx v = f a :: (l.eraseIdx v).map f
    rw [erase_map f l v]
def tenv (n w q : Nat) (o : List Nat) : Env := [some (.ref 0), some (natD n), some (.str (sortW w)), none, some (.ref q), some (.tup (o.map natD))]
def LeftI (n w : Nat) (r : Sto) (i : Nat) (ρ : Env) (S : Sto) : Prop := ∃ left ord : List Nat, left.length = i ∧ (ord ++ left).Perm (List.range n) ∧ ρ = tenv n w (r.length + 1) ord ∧ DrI (r ++ [.lst (left.map natD)]) S
theorem left_at {r S : Sto} {xs : List D} (h : DrI (r ++ [.lst xs]) S) : S[r.length + 1]? = some (.lst xs) := by
  obtain ⟨c, rfl, _⟩ := h
  simp
theorem left_set {r S : Sto} {xs ys : List D} (h : DrI (r ++ [.lst xs]) S) : DrI (r ++ [.lst ys]) (S.set (r.length + 1) (.lst ys)) := by
  obtain ⟨c, rfl, hc⟩ := h
  exact ⟨c, by simp, hc⟩
theorem turn_loop (k : Nat) (g : List Nat) (n w : Nat) {r S : Sto} (hn : n ≤ 5) (ρ : Env) (i : Nat) (hi : i ≤ 5) (hI : LeftI n w r i ρ S) :
    ∃ ρ' S', t27_0 (R (k + 1)) g ρ S = .nx ρ' S' ∧ LeftI n w r 0 ρ' S' := by
  unfold t27_0
  rw [x_while]
  refine while_inv (I := LeftI n w r) ?_ ?_ i fuelW ρ S (Nat.lt_of_le_of_lt hi (by decide)) hI
  · rintro i ρ S ⟨left, ord, hl, hp, rfl, hd⟩
    have la := left_at hd
    have hlen : left.length ≤ 5 := by
      have := hp.length_eq
      simp at this
      omega
    have holen : ord.length ≤ 5 := by
      have := hp.length_eq
      simp at this
      omega
    obtain ⟨v, S2, e2', lt, d2⟩ := s_tk k g left.length hd (by omega) (by omega)
    have la2 := left_at d2
    have ep := n_pop (g := g) la2 (v := v) (by rw [List.length_map]; exact lt) (by omega)
    have eq : fEq true (.ref (r.length + 1)) (.lst []) S = .ok true S := by
      have := fEq_refN (neg := true) left [] la
      rw [decide_eq_false (by intro z; rw [z] at hl; cases hl)] at this
      exact this
    have ic : isCel (.ref (r.length + 1)) S = true := by
      show (match S[r.length + 1]? with | some (.lst ds) => some (r.length + 1, ds) | _ => none).isSome = true
      rw [la]
      rfl
    refine ⟨S, tenv n w (r.length + 1) (ord ++ [left[v]]), S2.set (r.length + 1) (.lst ((left.map natD).eraseIdx v)), ?_, .inl ?_, left.eraseIdx v, ord ++ [left[v]], ?_, ?_, rfl, ?_⟩
    · simp [tenv, eq]
    · simp [tenv, ic, la, e2', ep, show ord.length + 1 ≤ 1000 by omega]
    · rw [List.length_eraseIdx_of_lt lt]
      omega
    · refine List.Perm.trans ?_ hp
      rw [List.append_assoc]
      exact List.Perm.append_left ord (erase_perm left v lt)
    · have := left_set (ys := (left.map natD).eraseIdx v) d2
      rw [erase_map] at this ⊢
      exact this
  · rintro ρ S ⟨left, ord, hl, hp, rfl, hd⟩
    have la := left_at hd
    have : left = [] := List.length_eq_zero_iff.mp hl
    subst this
    have eq : fEq true (.ref (r.length + 1)) (.lst []) S = .ok false S := fEq_refN (neg := true) [] [] la
    exact ⟨S, by simp [tenv, eq], [], ord, rfl, hp, rfl, hd⟩
theorem fin_fit {b : Nat} {d : D} {S : Sto} (h : d.fit b = true) : fin b (.rt d S) = .ok d (S.take b) := by
  show (bif d.fit b then Rs.ok d (S.take b) else _) = _
  rw [h]
  rfl
theorem dr_take {r S : Sto} {x : Cell} (h : DrI (r ++ [x]) S) : DrI r (S.take (r.length + 1)) := by
  obtain ⟨c, rfl, hc⟩ := h
  exact ⟨c, by simp, hc⟩
theorem dr_len {r S : Sto} (h : DrI r S) : S.length = r.length + 1 := by
  obtain ⟨c, rfl, hc⟩ := h
  rfl
theorem s_turn (k : Nat) (g : List Nat) (n w : Nat) {r S : Sto} (h : DrI r S) (hn : n ≤ 5) : ∃ o m f S', R (k + 2) g 27 [.ref 0, natD n, .str (sortW w)] S = .ok (turnD o m f) S' ∧ IsTurn n o m f ∧ sortI w m f = true ∧ DrI r S' := by
  have hl := dr_len h
  have hs : 2 ^ n ≤ 32 := Nat.le_trans (Nat.pow_le_pow_right (by decide) hn) (by decide)
  have h0 : DrI (r ++ [.lst ((List.range n).map natD)]) (S ++ [.lst ((List.range n).map natD)]) := by
    obtain ⟨c, rfl, hc⟩ := h
    exact ⟨c, rfl, hc⟩
  obtain ⟨ρ', S1, e1, left, ord, z, hp, rfl, d1⟩ := turn_loop k ((r.length + 1) :: g) n w hn (tenv n w (r.length + 1) []) n hn ⟨List.range n, [], by simp, by simp, rfl, h0⟩
  have : left = [] := List.length_eq_zero_iff.mp z
  subst this
  rw [List.append_nil] at hp
  have hol : ord.length = n := by rw [hp.length_eq]; simp
  obtain ⟨m, S2, e2', lt2, d2⟩ := s_tk k ((r.length + 1) :: g) (2 ^ n) d1 (Nat.two_pow_pos n) (by omega)
  rw [u27, b27]
  simp [tenv] at e1
  match w with
  | 0 =>
    have q1 : ∀ S, fEq false (.str (sortW 0)) (.str "names") S = .ok true S := fun S => by kernel_rfl
    have q2 : ∀ S, fEq false (.str (sortW 0)) (.str "all") S = .ok false S := fun S => by kernel_rfl
    refine ⟨ord, 0, 0, S1.take (r.length + 1), ?_, ⟨hol, hp, Nat.two_pow_pos n, by decide⟩, rfl, dr_take d1⟩
    simp [show n ≤ 1000 by omega, hl, e1, q1, q2]
    exact fin_fit (fit_turn _ ord 0 0)
  | 1 =>
    have q1 : ∀ S, fEq false (.str (sortW 1)) (.str "names") S = .ok false S := fun S => by kernel_rfl
    have q2 : ∀ S, fEq false (.str (sortW 1)) (.str "all") S = .ok false S := fun S => by kernel_rfl
    refine ⟨ord, m, 0, S2.take (r.length + 1), ?_, ⟨hol, hp, lt2, by decide⟩, rfl, dr_take d2⟩
    simp [show n ≤ 1000 by omega, hl, e1, q1, q2, s_two _ _ _ _ (show n ≤ 1000 by omega), e2', show ord.length ≤ 1000 by omega]
    exact fin_fit (fit_turn _ ord m 0)
  | w + 2 =>
    have q1 : ∀ S, fEq false (.str (sortW (w + 2))) (.str "names") S = .ok false S := fun S => by kernel_rfl
    have q2 : ∀ S, fEq false (.str (sortW (w + 2))) (.str "all") S = .ok true S := fun S => by kernel_rfl
    obtain ⟨f, S3, e3, lt3, d3⟩ := s_tk k ((r.length + 1) :: g) 2 d2 (by decide) (by decide)
    refine ⟨ord, m, f, S3.take (r.length + 1), ?_, ⟨hol, hp, lt2, by omega⟩, rfl, dr_take d3⟩
    simp [show n ≤ 1000 by omega, hl, e1, q1, q2, s_two _ _ _ _ (show n ≤ 1000 by omega), e2', e3, show ord.length ≤ 1000 by omega]
    exact fin_fit (fit_turn _ ord m f)
/-! ### the start of the draw -/
theorem n_absI (c : Int) (S : Sto) : fAbs (.int c) S = .ok (natD c.natAbs) S := by
  show Rs.ok (D.int (if c < 0 then -c else c)) S = Rs.ok (D.int (c.natAbs : Int)) S
  by_cases h : c < 0
  · rw [if_pos h]; congr 2; omega
  · rw [if_neg h]; congr 2; omega
theorem n_neg (a : Nat) (S : Sto) : fNeg (natD a) S = .ok (.int (-(a : Int))) S := rfl
theorem s_draw (k : Nat) (g : List Nat) (ns : List Int) (hn : ns.length ≤ 63) : ∃ S', R (k + 1) g 14 [.fix (ns.map .int)] [] = .ok (.ref 0) S' ∧ DrI [] S' := by
  rw [u14, b14]
  have lp : ∃ s a, t14_0 (R k) (([] : Sto).length :: g) [some (.fix (ns.map .int)), some (natD 7), none] [] = .nx [some (.fix (ns.map .int)), some (natD s), a] [] := by
    unfold t14_0
    obtain ⟨ρ', S', e, ⟨s, a, rfl⟩, rfl⟩ := for_inv (I := fun i ρ S' => (∃ s a, ρ = [some (.fix (ns.map .int)), some (natD s), a]) ∧ S' = [])
      (g := gSet 2) (body := sAsg (gSet 1) (e2 fMod (e1 fInt (e2 (fAdd false) (e2 (fAdd false) (e2 (fMul false) (eVar 1) (eCst (.int 48271))) (e2 fMod (e1 fAbs (e1 fInt (eVar 2))) (eCst (.int 65521)))) (eCst (.int 1)))) (eCst (.int 2147483647)))) (c := R k) (b := ([] : Sto).length :: g) (tD := D.int) ns 0
      [some (.fix (ns.map .int)), some (natD 7), none] [] ⟨⟨7, none, rfl⟩, rfl⟩ (by
        rintro j c ρ S1 hj ⟨⟨s, a, rfl⟩, rfl⟩
        exact ⟨_, _, _, rfl, .inl (by simp [-v_abs, n_absI]; exact ⟨rfl, rfl⟩), ⟨_, _, rfl⟩, rfl⟩)
    refine ⟨s, a, ?_⟩
    simp
    simpa using e
  obtain ⟨s, a, lp⟩ := lp
  have cm : c14_1 (R k) (([] : Sto).length :: g) [some (.fix (ns.map .int)), some (natD s), a] [] = .ok (.lst (ns.map fun c => natD c.natAbs)) [] := by
    unfold c14_1
    simp [show ns.length ≤ 1000 by omega]
    rw [comp_eq (fun c => natD c.natAbs) (fun c hc => ⟨_, rfl, by simp [-v_abs, n_absI]⟩)]
    simp [show ns.length ≤ 1000 by omega]
  refine ⟨[.lst (drawC (ns.map fun c => (c.natAbs : Int)) (-1) 0 s)], ?_, _, rfl, _, _, _, _, rfl, ?_, by decide, by decide, by omega⟩
  · simp at lp cm
    simp [lp, cm, n_neg]
    have e : ((ns.map fun c => (c.natAbs : Int)).map D.int) = ns.map fun c => natD c.natAbs := by rw [List.map_map]; rfl
    unfold drawC
    rw [e]
    rfl
  · intro x hx
    obtain ⟨c, _, rfl⟩ := List.mem_map.mp hx
    omega
/-! ### what is bent -/
def Shape (d : D) : Prop := Odd d ∨ ∃ (l : List Int) (m f : Int), l.length ≤ 60 ∧ d = .tup [.tup (l.map .int), .int m, .int f]
theorem shape_turn {o : List Nat} {m f : Nat} (h : o.length ≤ 60) : Shape (turnD o m f) := .inr ⟨o.map zI, m, f, by simpa using h, turnA o m f⟩
theorem listT (mu : Bool) (ds : List D) (S : Sto) : fList mu (.tup ds) S = mkL mu ds S := rfl
theorem revT (mu : Bool) (ds : List D) (S : Sto) : fRev mu (.tup ds) S = .ok (.tup ds.reverse) S := rfl
def bentL (o : List Nat) (at_ p m f : Nat) : List D := [.tup [.tup (o.map natD), natD m, natD 2], .tup [.tup (o.map natD), .int (-1), natD f], .tup [.tup (o.map natD), natD (2 ^ o.length), natD f], .tup [.tup (o.map natD), natD m], .tup [.lst (o.map natD), natD m, natD f], .tup [.tup (o.map natD), .bl true, natD f],
  .tup [.tup ((o.map natD).take at_ ++ ([natD (p + 1)] ++ (o.map natD).drop (at_ + 1))), natD m, natD f], .tup [.tup (o.map natD ++ [natD o.length]), natD m, natD f], .tup [.tup (o.map natD), natD m, natD f, natD 0], .non, .lst [.tup (o.map natD), natD m, natD f], .tup [.tup (o.map natD).reverse, natD m, natD f], .tup [.tup (o.map natD), natD m, natD (1 - f)], natD 5]
theorem s_bent0 (k : Nat) (g : List Nat) {n : Nat} {o : List Nat} {m f : Nat} {r S : Sto} (h : DrI r S) (ht : IsTurn n o m f) (h1 : 1 ≤ n) (h5 : n ≤ 5) :
    ∃ at_ p v S', at_ < n ∧ v < 14 ∧ R (k + 2) g 31 [.ref 0, turnD o m f] S = fin S.length (match (bentL o at_ p m f)[v]? with | some d => .rt d S' | none => .bad) ∧ DrI r S' := by
  have hl := ht.len
  have hf := ht.fb
  obtain ⟨a, S1, e1, lt1, d1⟩ := s_tk k (S.length :: g) n h (by omega) (by omega)
  obtain ⟨v, S2, e2', lt2, d2⟩ := s_tk k (S.length :: g) 14 d1 (by decide) (by decide)
  obtain ⟨p, oa⟩ : ∃ p, o[a]? = some p := ⟨_, List.getElem?_eq_getElem (by omega)⟩
  refine ⟨a, p, v, S2, lt1, lt2, ?_, d2⟩
  have hmin : min a n = a := Nat.min_eq_left (by omega)
  have ct : ∀ ds : List D, cutD ds (some ((a : Int) + 1)) none = ds.drop (a + 1) := fun ds => cut_from ds (a + 1)
  rw [u31, b31]
  simp only [turnD]
  simp [hl, e1, show n ≤ 1000 by omega, show n + 1 ≤ 1000 by omega, n_neg, s_two _ _ _ _ (show n ≤ 1000 by omega), listT, revT, e2', hf, oa, ct, hmin, show a + 1 ≤ 1000 by omega, show a + 1 + (n - (a + 1)) ≤ 1000 by omega, show a + (1 + (n - (a + 1))) ≤ 1000 by omega, bentL]
  congr 1
  split <;> simp_all
theorem ints_of (l : List Nat) : l.map natD = (l.map zI).map D.int := map_zI l
theorem bent_shape {o : List Nat} {a p m f : Nat} {d : D} (hl : o.length ≤ 5) (ha : a < o.length) (hd : d ∈ bentL o a p m f) : Shape d := by
  have sh : ∀ (l : List Nat) (x y : Int), l.length ≤ 60 → Shape (.tup [.tup (l.map natD), .int x, .int y]) := fun l x y h => .inr ⟨l.map zI, x, y, by simpa using h, by rw [ints_of]⟩
  simp only [bentL, List.mem_cons, List.not_mem_nil, or_false] at hd
  rcases hd with rfl | rfl | rfl | rfl | rfl | rfl | rfl | rfl | rfl | rfl | rfl | rfl | rfl | rfl
  · exact sh o m (2 : Nat) (by omega)
  · exact sh o (-1) f (by omega)
  · exact sh o (2 ^ o.length : Nat) f (by omega)
  · exact .inl (.two _ _)
  · exact .inl (.low _ _ _)
  · rw [ints_of]
    exact .inl (.mid (o.map zI) true (f : Int) (by simp; omega))
  · have e : (o.map natD).take a ++ ([natD (p + 1)] ++ (o.map natD).drop (a + 1)) = (o.take a ++ ((p + 1) :: o.drop (a + 1))).map natD := by simp [List.map_take, List.map_drop]
    rw [e]
    exact sh _ m f (by simp; omega)
  · have e : o.map natD ++ [natD o.length] = (o ++ [o.length]).map natD := by simp
    rw [e]
    exact sh _ m f (by simp; omega)
  · exact .inl (.four _ _ _ _)
  · exact .inl .non
  · exact .inl (.lst _)
  · have e : (o.map natD).reverse = o.reverse.map natD := by simp
    rw [e]
    exact sh _ m f (by simp; omega)
  · exact sh o m (1 - f : Nat) (by omega)
  · exact .inl (.nat 5)
theorem s_bent (k : Nat) (g : List Nat) {n : Nat} {o : List Nat} {m f : Nat} {r S : Sto} (h : DrI r S) (ht : IsTurn n o m f) (h1 : 1 ≤ n) (h5 : n ≤ 5) :
    ∃ d S', R (k + 2) g 31 [.ref 0, turnD o m f] S = .ok d S' ∧ Shape d ∧ DrI r S' := by
  obtain ⟨a, p, v, S', ha, hv, e, hd⟩ := s_bent0 k g h ht h1 h5
  have hl := ht.len
  have hlen : v < (bentL o a p m f).length := hv
  rw [List.getElem?_eq_getElem hlen, ← h.len hd] at e
  refine ⟨(bentL o a p m f)[v], S', ?_, bent_shape (by omega) (by omega) (List.getElem_mem hlen), hd⟩
  rw [e]
  exact fin_rt
theorem s_odd (k : Nat) (g : List Nat) {n t : Nat} {r S : Sto} (h : DrI r S) (hn : n ≤ 5) : ∃ d S', R (k + 2) g 26 [.ref 0, lampD n t] S = .ok d S' ∧ d ∈ oddL n t ∧ DrI r S' := by
  have hs : 2 ^ n ≤ 32 := Nat.le_trans (Nat.pow_le_pow_right (by decide) hn) (by decide)
  obtain ⟨v, S1, e1, lt1, d1⟩ := s_tk k (S.length :: g) 15 h (by decide) (by decide)
  have hlen : v < (oddL n t).length := lt1
  refine ⟨(oddL n t)[v], S1, ?_, List.getElem_mem hlen, d1⟩
  rw [u26, b26]
  simp only [lampD]
  simp [s_two _ _ _ _ (show n ≤ 1000 by omega), s_two _ _ _ _ (show 2 ^ n ≤ 1000 by omega), n_neg, e1]
  have e := List.getElem?_eq_getElem hlen
  simp only [oddL] at e
  rw [e, ← h.len d1]
  exact fin_rt

end Lk.K46
namespace Lk.K46
open PySem PySem.Spec PyProof.Rows L2
/-! ### written forms -/
theorem len_int (n : Nat) (h : n < 10 ^ 20) : (Str.ofString (toString (n : Int))).length ≤ 20 := by
  rw [PyProof.Rows.ofString_length, Int.toString_eq_repr]
  have e : (n : Int).repr = n.repr := rfl
  rw [e, Nat.toList_repr]
  exact (Nat.length_toDigits_le_iff (by decide) (by decide)).mpr h
theorem s_repr (n t : Nat) (S : Sto) (hn : n ≤ 5) (ht : t < 2 ^ 32) : ∃ z, fRepr (lampD n t) S = .ok (.str z) S := by
  have e : toPT S (lampD n t) = some (.tuple [.int (n : Int), .int (t : Int)]) := by
    show (toPs [natD n, natD t]).map PyData.tuple = _
    rfl
  have l1 := len_int n (Nat.lt_of_le_of_lt hn (by decide))
  have l2 := len_int t (Nat.lt_trans ht (by decide))
  have lg : ∀ i : Nat, i < 2 ^ 32 → decide (((i : Int)).natAbs.log2 < 1920) = true := fun i hi => decide_eq_true (by
    rw [Int.natAbs_natCast]
    by_cases z : i = 0
    · subst z; decide
    · exact Nat.lt_of_lt_of_le ((Nat.log2_lt z).mpr hi) (by decide))
  have c : (isDisp (.tuple [.int (n : Int), .int (t : Int)]) && PyData.showable (.tuple [.int (n : Int), .int (t : Int)]) && !PyData.hasDict (.tuple [.int (n : Int), .int (t : Int)]) && Nat.ble (PyData.depth (.tuple [.int (n : Int), .int (t : Int)])) 64 && Nat.ble (PyData.shown (.tuple [.int (n : Int), .int (t : Int)])).length sizeLine) = true := by
    have a1 : PyData.showable (.tuple [.int (n : Int), .int (t : Int)]) = true := by
      show (decide _ && (decide _ && true)) = true
      rw [lg n (Nat.lt_of_le_of_lt hn (by decide)), lg t ht]
      rfl
    have a2 : Nat.ble (PyData.shown (.tuple [.int (n : Int), .int (t : Int)])).length sizeLine = true := by
      have q : (PyData.shown (.tuple [.int (n : Int), .int (t : Int)])).length ≤ 100 := by
        show (tupleText [Str.ofString (toString (n : Int)), Str.ofString (toString (t : Int))]).length ≤ 100
        have j := join_length_add [Str.ofString (toString (n : Int)), Str.ofString (toString (t : Int))] (by simp)
        unfold tupleText
        rw [strLen_append, strLen_append]
        have p : piled [Str.ofString (toString (n : Int)), Str.ofString (toString (t : Int))] = (Str.ofString (toString (n : Int))).length + 2 + ((Str.ofString (toString (t : Int))).length + 2 + 0) := by
          simp [piled]
        have q1 : ((("(" : String) : Str)).length = 1 := rfl
        have q2 : (((if [Str.ofString (toString (n : Int)), Str.ofString (toString (t : Int))].length == 1 then ",)" else ")" : String) : Str)).length = 1 := rfl
        rw [q1, q2]
        omega
      exact Nat.ble_eq_true_of_le (Nat.le_trans q (by decide))
    rw [a1, a2]
    rfl
  refine ⟨PyData.shown (.tuple [.int (n : Int), .int (t : Int)]), ?_⟩
  unfold fRepr
  rw [e]
  dsimp only
  rw [c]
  rfl
/-! ### what is told of wrong arguments -/
theorem G_sub : G.sub 1 1 = true := rfl
theorem told0 (k : Nat) (g : List Nat) (a b c : D) (S : Sto) (h : R (k + 1) (S.length :: g) 10 [a, b] S = .exc mal S) : R (k + 2) g 32 [natD 0, a, b, c] S = .ok (.str "<malformed>") S := by
  rw [u32, b32]
  simp [h, mal, G_sub]
theorem told1 (k : Nat) (g : List Nat) (a b c : D) (S : Sto) (h : R (k + 1) (S.length :: g) 12 [a, b] S = .exc mal S) : R (k + 2) g 32 [natD 1, a, b, c] S = .ok (.str "<malformed>") S := by
  rw [u32, b32]
  simp [h, mal, G_sub]
theorem told2 (k : Nat) (g : List Nat) (a b c : D) (S : Sto) (h : R (k + 1) (S.length :: g) 13 [a] S = .exc mal S) : R (k + 2) g 32 [natD 2, a, b, c] S = .ok (.str "<malformed>") S := by
  rw [u32, b32]
  simp [h, mal, G_sub]
theorem told3 (k : Nat) (g : List Nat) (a b c : D) (S : Sto) (h : R (k + 1) (S.length :: g) 7 [a, b, c] S = .exc mal S) : R (k + 2) g 32 [natD 3, a, b, c] S = .ok (.str "<malformed>") S := by
  rw [u32, b32]
  simp [h, mal, G_sub]
theorem join_bad1 (k : Nat) (g : List Nat) (a b : D) (S : Sto) (h : a ∈ badL) : R (k + 4) g 12 [a, b] S = .exc mal S := by
  rw [u12, b12]
  simp [s_chkbad _ _ _ _ h, mal]
theorem join_bad2 (k : Nat) (g : List Nat) {n : Nat} {o : List Nat} {m f : Nat} (b : D) (S : Sto) (ht : IsTurn n o m f) (h1 : 1 ≤ n) (h5 : n ≤ 5) (h : b ∈ badL) : R (k + 4) g 12 [turnD o m f, b] S = .exc mal S := by
  rw [u12, b12]
  simp [s_chkturn _ _ _ ht h1 h5, s_chkbad _ _ _ _ h, mal]
theorem join_bad3 (k : Nat) (g : List Nat) {n n' : Nat} {o o' : List Nat} {m f m' f' : Nat} (S : Sto) (ht : IsTurn n o m f) (ht' : IsTurn n' o' m' f') (h1 : 1 ≤ n) (h5 : n ≤ 5) (h1' : 1 ≤ n') (h5' : n' ≤ 5) (hne : n ≠ n') :
    R (k + 4) g 12 [turnD o m f, turnD o' m' f'] S = .exc mal S := by
  have a0 : ∀ o m f S, fIdx (turnD o m f) (natD 0) S = .ok (.tup (o.map natD)) S := fun _ _ _ _ => rfl
  rw [u12, b12]
  simp [s_chkturn _ _ _ ht h1 h5, s_chkturn _ _ _ ht' h1' h5', a0, ht.len, ht'.len, hne, mal]
theorem undone_bad (k : Nat) (g : List Nat) (a : D) (S : Sto) (h : a ∈ badL) : R (k + 4) g 13 [a] S = .exc mal S := by
  rw [u13, b13]
  simp [s_chkbad _ _ _ _ h, mal]
def wrongL : List D := [.non, natD 0, natD 6, .bl true, .str "2"]
theorem isturn_bad1 (k : Nat) (g : List Nat) (a b c : D) (S : Sto) (h : a ∈ wrongL) : R (k + 3) g 7 [a, b, c] S = .exc mal S := by
  rw [u7, b7]
  simp only [wrongL, List.mem_cons, List.not_mem_nil, or_false] at h
  rcases h with rfl | rfl | rfl | rfl | rfl <;> simp [mal]
def wordL : List D := [.non, .str "", .str "name", natD 0, .tup [.str "all"]]
theorem isturn_bad2 (k : Nat) (g : List Nat) (b c : D) (S : Sto) (h : b ∈ wordL) : R (k + 3) g 7 [natD 2, b, c] S = .exc mal S := by
  have e1 : ∀ S, fIn true (.str "") (.tup [.str "names", .str "signs", .str "all"]) S = .ok true S := fun S => by kernel_rfl
  have e2 : ∀ S, fIn true (.str "name") (.tup [.str "names", .str "signs", .str "all"]) S = .ok true S := fun S => by kernel_rfl
  have ck : ∀ k g S, R (k + 1) g 4 [b] S = .exc mal S := fun k g S => by
    rw [u4, b4]
    simp only [wordL, List.mem_cons, List.not_mem_nil, or_false] at h
    rcases h with rfl | rfl | rfl | rfl | rfl <;> simp [mal, e1, e2]
  rw [u7, b7]
  simp [ck, mal]
/-! ### the law -/
theorem s_says (k : Nat) (g : List Nat) (a : Bool) (S : Sto) : R (k + 1) g 16 [.bl a, .bl a] S = .ok (.bl true) S := by
  have e : fEq false (.bl a) (.bl a) S = .ok true S := by
    show Rs.ok (false ^^ (a == a)) S = _
    simp
  rw [u16, b16]
  simp [e]
def sortsD : D := .tup [.str (sortW 0), .str (sortW 1), .str (sortW 2)]
def E (sc : D) (a3 : Option D) (n t w : Nat) (fi : D) (b12 b13 : Option D) (one two both back : D) (b18 b19 : Option D) : Env :=
  [some sc, some (.ref 0), some sortsD, a3, none, none, none, none, some (lampD n t), some (natD n), some (.str (sortW w)), some fi, b12, b13, some one, some two, some both, some back, b18, b19]
structure Judged (n : Nat) (d : D) (q : Nat → Bool) : Prop where
  is_ : ∀ (w k : Nat) (g : List Nat) (S : Sto), R (k + 3) g 7 [natD n, .str (sortW w), d] S = .ok (.bl (q w)) S
  lis : ∀ (w k : Nat) (g : List Nat) (S : Sto), R (k + 3) g 30 [d, natD n, .str (sortW w)] S = .ok (.bl (q w)) S
  fits : ∀ (k : Nat) (g : List Nat) (S : Sto), R (k + 2) g 5 [natD n, d] S = .ok (.bl (q 2)) S
theorem judge {n : Nat} {d : D} (h : Shape d) (h1 : 1 ≤ n) (h5 : n ≤ 5) : ∃ q, Judged n d q := by
  rcases h with h | ⟨l, m, f, hl, rfl⟩
  · exact ⟨fun _ => false, fun w k g S => s_isturnO k g n w d S h h1 h5, fun w k g S => s_lisO k g n w d S h, fun k g S => s_fitsO k g n d S h⟩
  · refine ⟨fun w => fitsI n l m f && sortI w m f, fun w k g S => s_isturnA k g n w l m f S h1 h5 hl, fun w k g S => s_lisA k g n w l m f S (by omega) hl, fun k g S => ?_⟩
    rw [s_fitsA k g n l m f S (by omega) hl]
    simp [sortI]
theorem word_ok (k : Nat) (g : List Nat) {n : Nat} {d : D} {q : Nat → Bool} (J : Judged n d q) (sc : D) (a3 : Option D) (t w w' : Nat) (fi : D) (b13 : Option D) (one two both back : D) (b19 : Option D) (S : Sto) :
    t33_8 (R (k + 5)) g (E sc a3 n t w fi (some d) b13 one two both back (some (.str (sortW w'))) b19) S = .nx (E sc a3 n t w fi (some d) b13 one two both back (some (.str (sortW w'))) b19) S := by
  have e1 := J.is_ w' (k + 2) g S
  have e2 := J.lis w' (k + 2) g S
  have e3 := s_says (k + 4) g (q w') S
  unfold t33_8
  simp only [E]
  simp [e1, e2, e3]
theorem words_ok (k : Nat) (g : List Nat) {n : Nat} {d : D} {q : Nat → Bool} (J : Judged n d q) (sc : D) (a3 : Option D) (t w : Nat) (fi : D) (b13 : Option D) (one two both back : D) (b18 b19 : Option D) (S : Sto) :
    t33_7 (R (k + 5)) g (E sc a3 n t w fi (some d) b13 one two both back b18 b19) S = .nx (E sc a3 n t w fi (some d) b13 one two both back (some (.str (sortW 2))) b19) S := by
  have w0 := word_ok k g J sc a3 t w 0 fi b13 one two both back b19 S
  have w1 := word_ok k g J sc a3 t w 1 fi b13 one two both back b19 S
  have w2 := word_ok k g J sc a3 t w 2 fi b13 one two both back b19 S
  unfold t33_7
  simp only [E, sortsD] at w0 w1 w2 ⊢
  simp [forL, w0, w1, w2]
theorem value_ok (k : Nat) (g : List Nat) {n : Nat} {d : D} {q : Nat → Bool} (J : Judged n d q) (sc : D) (a3 : Option D) (t w : Nat) (fi : D) (b13 : Option D) (one two both back : D) (b18 b19 : Option D) (S : Sto) (h1 : 1 ≤ n) (h5 : n ≤ 5) (ht : t < 2 ^ 2 ^ n) :
    t33_9 (R (k + 5)) g (E sc a3 n t w fi (some d) b13 one two both back b18 b19) S = .nx (E sc a3 n t w fi (some d) b13 one two both back b18 b19) S := by
  have e2 : R (k + 5) g 30 [d, natD n, .str "all"] S = .ok (.bl (q 2)) S := J.lis 2 (k + 2) g S
  unfold t33_9
  simp only [E]
  cases hq : q 2 with
  | true =>
    rw [hq] at e2
    simp [e2]
  | false =>
    rw [hq] at e2
    have e3 := told0 (k + 3) g (lampD n t) d (natD 0) S (s_turnedF k _ S h1 h5 ht fun k g S => by rw [J.fits, hq])
    have e4 : fEq true (.str "<malformed>") (.str "<malformed>") S = .ok false S := by simp
    simp [e2, e3]

end Lk.K46
namespace Lk.K46
open PySem PySem.Spec PyProof.Rows L2
theorem values_ok (k : Nat) (g : List Nat) {n : Nat} (sc : D) (a3 : Option D) (t w : Nat) (fi : D) (b13 : Option D) (one two both back : D) (S : Sto) (h1 : 1 ≤ n) (h5 : n ≤ 5) (ht : t < 2 ^ 2 ^ n) (ds : List D) (hds : ∀ d ∈ ds, Shape d) (b12 b18 b19 : Option D) :
    ∃ c12 c18, forL (gSet 12) (sSeq t33_7 t33_9) (R (k + 5)) g ds (E sc a3 n t w fi b12 b13 one two both back b18 b19) S = .nx (E sc a3 n t w fi c12 b13 one two both back c18 b19) S := by
  induction ds generalizing b12 b18 with
  | nil => exact ⟨b12, b18, rfl⟩
  | cons d ds ih =>
    obtain ⟨q, J⟩ := judge (hds d List.mem_cons_self) h1 h5
    have e1 := words_ok k g J sc a3 t w fi b13 one two both back b18 b19 S
    have e2 := value_ok k g J sc a3 t w fi b13 one two both back (some (.str (sortW 2))) b19 S h1 h5 ht
    obtain ⟨c12, c18, e3⟩ := ih (fun x q => hds x (List.mem_cons_of_mem _ q)) (some d) (some (.str (sortW 2)))
    refine ⟨c12, c18, ?_⟩
    have es : gSet 12 d (E sc a3 n t w fi b12 b13 one two both back b18 b19) = some (E sc a3 n t w fi (some d) b13 one two both back b18 b19) := rfl
    unfold forL
    rw [es]
    dsimp only
    rw [x_seq, e1, nx_seq, e2]
    exact e3
theorem bents (k : Nat) (g : List Nat) {n : Nat} {o : List Nat} {m f : Nat} {ρ : Env} {S : Sto} (h : DrI [] S) (hT : IsTurn n o m f) (h1 : 1 ≤ n) (h5 : n ≤ 5) (r1 : ρ[1]? = some (some (.ref 0))) (r14 : ρ[14]? = some (some (turnD o m f))) :
    ∃ ds S', c33_6 (R (k + 5)) g ρ S = .ok (.lst ds) S' ∧ (∀ d ∈ ds, Shape d) ∧ ds.length = 4 ∧ DrI [] S' := by
  obtain ⟨ds, S', e, hI, hl, hR⟩ := comp_st (g := gSet 19) (el := eCall 31 (esCons (eVar 1) (esCons (eVar 14) esNil))) (c := R (k + 5)) (b := g) (ρ := wipeE ρ [19]) (tD := natD) (up := fun x => (wipeE ρ [19]).set 19 (some (natD x)))
    (I := DrI []) (R := Shape) (List.range 4) S h (fun _ _ => rfl) (fun x hx S2 h2 => by
      obtain ⟨d, S3, e3, sh, d3⟩ := s_bent (k + 3) g h2 hT h1 h5
      have a1 : (ρ.set 19 (some (natD x)))[1]? = some (some (.ref 0)) := by rw [List.getElem?_set_ne (by decide), r1]
      have a14 : (ρ.set 19 (some (natD x)))[14]? = some (some (turnD o m f)) := by rw [List.getElem?_set_ne (by decide), r14]
      exact ⟨d, S3, by simp [a1, a14, e3], d3, sh⟩)
  refine ⟨ds, S', ?_, hR, by simpa using hl, hI⟩
  unfold c33_6
  simp only [x_comp, x_irng1, x_cst, ok_bind]
  rw [show rngI (.int 4) S = .ok ((List.range 4).map natD) S from n_rngI (n := 4) (by decide), ok_bind, e]
  rfl
theorem s_other (n : Nat) (h1 : 1 ≤ n) (h5 : n ≤ 5) : ∃ n', ([natD 2, natD 1, natD 1, natD 1, natD 1] : List D)[n - 1]? = some (natD n') ∧ 1 ≤ n' ∧ n' ≤ 5 ∧ n ≠ n' := by
  match n, h1, h5 with
  | 1, _, _ => exact ⟨2, rfl, by decide, by decide, by decide⟩
  | 2, _, _ => exact ⟨1, rfl, by decide, by decide, by decide⟩
  | 3, _, _ => exact ⟨1, rfl, by decide, by decide, by decide⟩
  | 4, _, _ => exact ⟨1, rfl, by decide, by decide, by decide⟩
  | 5, _, _ => exact ⟨1, rfl, by decide, by decide, by decide⟩
theorem lamp_ne (n a : Nat) (S : Sto) : fEq true (lampD n a) (lampD n a) S = .ok false S := by
  have := fEq_tupI (S := S) (neg := true) [(n : Int), (a : Int)] [(n : Int), (a : Int)]
  rw [decide_eq_true rfl] at this
  exact this
theorem fits_wrong {n n' : Nat} {o : List Nat} {m f : Nat} (h : IsTurn n' o m f) (hne : n ≠ n') (hn : n ≤ 60) (hn' : n' ≤ 60) (k : Nat) (g : List Nat) (S : Sto) : R (k + 2) g 5 [natD n, turnD o m f] S = .ok (.bl false) S := by
  rw [turnA, s_fitsA k g n _ _ _ S hn (by rw [List.length_map, h.len]; exact hn')]
  have : decide ((o.map zI).length = n) = false := decide_eq_false (by rw [List.length_map, h.len]; exact fun z => hne z.symm)
  unfold fitsI
  rw [this]
  rfl
theorem lis_ok (k : Nat) (g : List Nat) {n w : Nat} {o : List Nat} {m f : Nat} (S : Sto) (h : IsTurn n o m f) (hw : sortI w m f = true) (hn : n ≤ 60) : R (k + 3) g 30 [turnD o m f, natD n, .str (sortW w)] S = .ok (.bl true) S := by
  rw [turnA, s_lisA k g n w _ _ _ S hn (by rw [List.length_map, h.len]; exact hn), h.fits, hw]
  rfl
/-- one turn of the law's loop -/
def AfterI (sc : D) (i : Nat) (ρ : Env) (S : Sto) : Prop := DrI [] S ∧ ∃ b3 b8 b9 b10 b11 b12 b13 b14 b15 b16 b17 b18 b19 : Option D, ρ = [some sc, some (.ref 0), some sortsD, b3, none, none, none, none, b8, b9, b10, b11, b12, b13, b14, b15, b16, b17, b18, b19] ∧
  (0 < i → ∃ n t o m f, b8 = some (lampD n t) ∧ b14 = some (turnD o m f) ∧ IsTurn n o m f ∧ 1 ≤ n ∧ n ≤ 5 ∧ t < 2 ^ 2 ^ n)

end Lk.K46
namespace Lk.K46
open PySem PySem.Spec PyProof.Rows L2
theorem sorts_at (v : Nat) (hv : v < 3) (S : Sto) : fIdx sortsD (natD v) S = .ok (.str (sortW v)) S := by
  match v, hv with
  | 0, _ => rfl
  | 1, _ => rfl
  | 2, _ => rfl
theorem law_step (k : Nat) (g : List Nat) (sc : D) (i : Nat) (x : D) (ρ : Env) (S : Sto) (h : AfterI sc i ρ S) : ∃ ρ' S', w33_0 (R (k + 5)) g (ρ.set 3 (some x)) S = .nx ρ' S' ∧ AfterI sc (i + 1) ρ' S' := by
  obtain ⟨hd, b3, b8, b9, b10, b11, b12, b13, b14, b15, b16, b17, b18, b19, rfl, _⟩ := h
  obtain ⟨n, t, S1, e1, h1, h5, ht, d1⟩ := s_lamp (k + 1) g 5 hd (by decide) (by decide)
  obtain ⟨v, S2, e2', lt2, d2⟩ := s_tk (k + 4) g 3 d1 (by decide) (by decide)
  obtain ⟨o1, m1, f1, S3, e3, T1, q1, d3⟩ := s_turn (k + 3) g n v d2 h5
  obtain ⟨o2, m2, f2, S4, e4, T2, q2, d4⟩ := s_turn (k + 3) g n v d3 h5
  have hp32 : 2 ^ 2 ^ n ≤ 2 ^ 32 := Nat.pow_le_pow_right (by decide) (Nat.le_trans (Nat.pow_le_pow_right (by decide) h5) (by decide))
  have TJ := join_turn T1 T2
  have TI := inv_turn T1
  have e5 := s_lturned (k + 2) g o1 m1 f1 n t S4 (by rw [T1.len]; omega) h5 T1.fb
  have e6 := s_turned (k + 1) g S4 T1 h1 h5 ht
  obtain ⟨z, e7⟩ := s_repr n (tabN o1 m1 f1 n t) S4 h5 (Nat.lt_of_lt_of_le (tab_lt _ _ _ _ _) hp32)
  have e8 := s_joined (k + 1) g S4 T1 T2 h1 h5
  have e9 := s_undone (k + 1) g S4 T1 h1 h5
  have e10 := lis_ok (k + 2) g S4 TJ (join_sort q1 q2) (show n ≤ 60 by omega)
  have e11 := lis_ok (k + 2) g S4 TI (inv_sort (n := n) (o := o1) q1) (show n ≤ 60 by omega)
  have e12 := s_lturned (k + 2) g o2 m2 f2 n (tabN o1 m1 f1 n t) S4 (by rw [T2.len]; omega) h5 T2.fb
  rw [join_law t T1 T2] at e12
  have e13 := s_lturned (k + 2) g (joinO o1 o2) (joinM n o1 m1 m2) (f1 ^^^ f2) n t S4 (by rw [TJ.len]; omega) h5 TJ.fb
  have e14 := s_lturned (k + 2) g (invO o1) (invM n o1 m1) f1 n (tabN o1 m1 f1 n t) S4 (by rw [TI.len]; omega) h5 TI.fb
  rw [inv_law T1 ht] at e14
  obtain ⟨ds, S5, e15, sh, ld, d5⟩ := bents k g (ρ := E sc (some x) n t v (lampD n (tabN o1 m1 f1 n t)) b12 b13 (turnD o1 m1 f1) (turnD o2 m2 f2) (turnD (joinO o1 o2) (joinM n o1 m1 m2) (f1 ^^^ f2)) (turnD (invO o1) (invM n o1 m1) f1) b18 b19) d4 T1 h1 h5 rfl rfl
  obtain ⟨c12, c18, e16⟩ := values_ok k g sc (some x) t v (lampD n (tabN o1 m1 f1 n t)) b13 (turnD o1 m1 f1) (turnD o2 m2 f2) (turnD (joinO o1 o2) (joinM n o1 m1 m2) (f1 ^^^ f2)) (turnD (invO o1) (invM n o1 m1) f1) S5 h1 h5 ht (turnD o1 m1 f1 :: ds) (fun d hm => by
    rcases List.mem_cons.mp hm with rfl | hm
    · exact shape_turn (by rw [T1.len]; omega)
    · exact sh d hm) b12 b18 b19
  obtain ⟨n', e17, h1', h5', hne⟩ := s_other n h1 h5
  obtain ⟨o3, m3, f3, S6, e18, T3, _, d6⟩ := s_turn (k + 3) g n' 2 d5 h5'
  have e19 := told1 (k + 3) g (turnD o1 m1 f1) (turnD o3 m3 f3) (natD 0) S6 (join_bad3 k _ S6 T1 T3 h1 h5 h1' h5' hne)
  have e20 := told0 (k + 3) g (lampD n t) (turnD o3 m3 f3) (natD 0) S6 (s_turnedF k _ S6 h1 h5 ht fun k g S => fits_wrong T3 hne (by omega) (by omega) k g S)
  refine ⟨E sc (some x) n t v (lampD n (tabN o1 m1 f1 n t)) c12 (some (turnD o3 m3 f3)) (turnD o1 m1 f1) (turnD o2 m2 f2) (turnD (joinO o1 o2) (joinM n o1 m1 m2) (f1 ^^^ f2)) (turnD (invO o1) (invM n o1 m1) f1) c18 b19, S6, ?_, d6,
    some x, some (lampD n t), some (natD n), some (.str (sortW v)), some (lampD n (tabN o1 m1 f1 n t)), c12, some (turnD o3 m3 f3), some (turnD o1 m1 f1), some (turnD o2 m2 f2), some (turnD (joinO o1 o2) (joinM n o1 m1 m2) (f1 ^^^ f2)), some (turnD (invO o1) (invM n o1 m1) f1), c18, b19, rfl, fun _ => ⟨n, t, o1, m1, f1, rfl, rfl, T1, h1, h5, ht⟩⟩
  have a0 : ∀ S, fIdx (lampD n t) (natD 0) S = .ok (natD n) S := fun _ => rfl
  unfold w33_0
  simp only [E] at e15 e16 ⊢
  simp [e1, e2', sorts_at v lt2, a0, e3, e4, e5]
  simp [t33_2, e6, e7, e8, e9]
  simp [t33_3, e10, e11]
  simp [t33_4, e12, e13, e14, lamp_ne]
  simp [t33_5, w33_1, e15, ld]
  rw [e16]
  have e18' : R (k + 5) g 27 [.ref 0, natD n', .str "all"] S5 = .ok (turnD o3 m3 f3) S6 := e18
  simp [t33_10, h1, e17, e18', e19, e20]
theorem law_ok (k : Nat) (ns : List Int) (hn : ns.length ≤ 63) : ∃ Se, R (k + 6) [] 33 [.fix (ns.map .int)] [] = .ok (.bl true) Se := by
  obtain ⟨S1, e1, d1⟩ := s_draw (k + 4) [0] ns hn
  obtain ⟨ρ', S2, e2', d2, b3, b8, b9, b10, b11, b12, b13, b14, b15, b16, b17, b18, b19, rfl, hx⟩ := for_inv (I := AfterI (.fix (ns.map .int))) (g := gSet 3) (body := w33_0) (c := R (k + 5)) (b := [0]) (tD := natD) (List.range 3) 0
    [some (.fix (ns.map .int)), some (.ref 0), some sortsD, none, none, none, none, none, none, none, none, none, none, none, none, none, none, none, none, none] S1 ⟨d1, _, _, _, _, _, _, _, _, _, _, _, _, _, rfl, fun z => absurd z (by decide)⟩ (by
      intro j x ρ S hj hI
      obtain ⟨ρ1, S3, e3, h3⟩ := law_step k [0] (.fix (ns.map .int)) (0 + j) (natD x) ρ S hI
      exact ⟨_, ρ1, S3, rfl, .inl e3, h3⟩)
  obtain ⟨n, t, o, m, f, rfl, rfl, T1, h1, h5, ht⟩ := hx (by decide)
  obtain ⟨od, S3, e3, hod, d3⟩ := s_odd (k + 3) [0] (t := t) d2 h5
  obtain ⟨v4, S4, e4, lt4, d4⟩ := s_tk (k + 4) [0] 8 d3 (by decide) (by decide)
  obtain ⟨v5, S5, e5, lt5, d5⟩ := s_tk (k + 4) [0] 5 d4 (by decide) (by decide)
  obtain ⟨v6, S6, e6, lt6, d6⟩ := s_tk (k + 4) [0] 5 d5 (by decide) (by decide)
  have q4 : v4 < badL.length := lt4
  have q5 : v5 < wrongL.length := lt5
  have q6 : v6 < wordL.length := lt6
  have i4 := List.getElem?_eq_getElem q4
  have i5 := List.getElem?_eq_getElem q5
  have i6 := List.getElem?_eq_getElem q6
  have g4 := List.getElem_mem q4
  have g5 := List.getElem_mem q5
  have g6 := List.getElem_mem q6
  generalize badL[v4] = bd at i4 g4
  generalize wrongL[v5] = wr at i5 g5
  generalize wordL[v6] = wd at i6 g6
  simp only [badL] at i4
  simp only [wrongL] at i5
  simp only [wordL] at i6
  have t1 := told0 (k + 3) [0] od (turnD o m f) (natD 0) S5 (s_turnedO k _ S5 fun k g S => s_oddlamp k g n t od S h1 h5 hod)
  have t2' := told1 (k + 3) [0] bd (turnD o m f) (natD 0) S5 (join_bad1 k _ _ _ _ g4)
  have t3' := told1 (k + 3) [0] (turnD o m f) bd (natD 0) S5 (join_bad2 k _ _ _ T1 h1 h5 g4)
  have t4 := told2 (k + 3) [0] bd (natD 0) (natD 0) S5 (undone_bad k _ _ _ g4)
  have t5 := told3 (k + 3) [0] wr (.str "all") (turnD o m f) S5 (isturn_bad1 (k + 1) _ _ _ _ _ g5)
  have t6 := told3 (k + 3) [0] (natD 2) wd (turnD o m f) S6 (isturn_bad2 (k + 1) _ _ _ _ g6)
  have f1 : ∀ S, fEq true (.tup [.str "names", .str "signs", .str "all"]) (.tup [.str "names", .str "signs", .str "all"]) S = .ok false S := fun S => by kernel_rfl
  have f2 : ∀ S, fMul false (.lst [.str "<malformed>"]) (natD 6) S = .ok (.lst [.str "<malformed>", .str "<malformed>", .str "<malformed>", .str "<malformed>", .str "<malformed>", .str "<malformed>"]) S := fun S => by kernel_rfl
  have f3 : ∀ S, fEq false (.lst [.str "<malformed>", .str "<malformed>", .str "<malformed>", .str "<malformed>", .str "<malformed>", .str "<malformed>"]) (.lst [.str "<malformed>", .str "<malformed>", .str "<malformed>", .str "<malformed>", .str "<malformed>", .str "<malformed>"]) S = .ok true S := fun S => by kernel_rfl
  have sd : sortsD = .tup [.str "names", .str "signs", .str "all"] := rfl
  rw [sd] at e2'
  refine ⟨[], ?_⟩
  rw [u33, b33]
  simp [e1, t33_0, f1]
  unfold t33_1
  simp
  rw [e2']
  simp [e3, e4, e5, e6, i4, i5, i6, t1, t2', t3', t4, t5, t6]
  simp [f2, f3]
  rfl

end Lk.K46
namespace Lk.K46
open PySem PySem.Spec PyProof.Rows L2
abbrev RR : PySem.W.OpenRow := PySem.W.OpenLaw.row PySem.Challenge.rw_lampkinds_k46_turns
abbrev lawIx : Nat := 43
abbrev lawD : Nat := 33
def loose : List Str := (["Fault", "Malformed", "is_whole", "MOST_VARIABLES_lamps", "count_of", "is_lamp", "check_lamp", "SORTS", "MOST_VARIABLES_turns", "check_sort", "fits_turn", "is_of_sort", "is_turn", "fed", "turned_table", "turned_by", "check_turn", "joined_turn", "undone", "_law_draw", "_law_take", "_law_says", "_law_bit", "_law_two"] : List Str) ++ (["_law_at", "_law_made", "_law_row", "_law_weighted", "_law_lamp", "_law_inside", "_law_crossed", "_law_odd_lamp", "_law_turn", "_law_fed", "_law_turned", "_law_is_turn", "_law_bent_turn", "_law_told"] : List Str)
abbrev hk : PySem.W.Hook := hkL 5 (faOf G dds es) (dds.map DD.d) G.csts
def ob (s : PySem.W.SharedT) : AlL := obsL 5 (faOf G dds es) (dds.map DD.d) G.csts (HandSHeadRun.getT s)
theorem ob_eq (s : PySem.W.SharedT) : ob s = hk.obs s.abs := obsL_eq (HandSHeadRun.getT_eq s)
theorem top_run (w : World) : HandSHeadRun.RunEq RR (PySem.W.view RR.prog [lawIx]) hk ob 6000 loose w := by
  intro os
  kernel_rfl
theorem ans (ns : List Int) (hn : ns.length ≤ 63) : ∃ Se, Lk.run (progOf dds) 60 [] lawD [.fix (ns.map .int)] [] = .ok (.bl true) Se := by
  obtain ⟨Se, e⟩ := law_ok 54 ns hn
  rw [R_eq] at e
  exact ⟨Se, e⟩
end Lk.K46
open Lk Lk.K46 PySem PyProof.Rows in
theorem PySem.Challenge.cw_lampkinds_k46_turns_holds : PySem.Challenge.rw_lampkinds_k46_turns.Holds := by
  w_on; o_law
  refine HandSHeadRun.head_any (r := RR) (q := PySem.W.view RR.prog [lawIx]) (H := hk) (ob := ob) (M := 6000) (loose := loose) (d := HandSHeadRun.topDef RR.prog lawIx) (kwd := []) ob_eq
    (by kernel_rfl) (fun s => by kernel_rfl) top_run (by kernel_rfl) (by kernel_rfl) (by kernel_rfl) (by rfl) (by first | assumption | decide +kernel) (by decide +kernel) ⟨rfl, rfl, rfl, rfl, rfl, by decide +kernel⟩ ?hw ?hc
  case hw => w_witness2
  case hc =>
    refine walk_lk (l := PySem.Challenge.rw_lampkinds_k46_turns) (n := 63) (k := 60) (i := lawD) (cf := Lk.run (progOf dds) 60) rfl (by decide) (by kernel_rfl) ⟨rfl, by decide, by decide⟩ ?F ans
    intro w mg fa h Y N hmg
    obtain ⟨K, KX, c, cc⟩ := Y
    exact ⟨K, caOf K es, KX, fun base KB NB => (facts_all (P := PySem.Challenge.rw_lampkinds_k46_turns.prog) (w := w) (base := base) KX N c cc oks (by decide +kernel) (by decide +kernel) (by decide +kernel) 60).fn _ lawD 1 (by kernel_rfl)⟩
