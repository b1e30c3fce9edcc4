import PyProof.Rows.All
import Wide.All
import OpenK.AllK
import Wide.FinOn
import HandS.ForMost
import HandS.ForExc
import HandS.IsInst
import HandS.Wide
import HandS.Defaults
import HandS.Flow
import HandS.ExcIs
import HandS.More
import HandS.DeepEq
import HandS.Style
import HandS.HeadHook1
import HandS.HeadHook2
import KE.KStateDown
import HandS.Ends
import HandS.Head0
import HandS.Head1
import HandS.Head2
import HandS.HeadEnd
import HandS.EndBits
import HandS.Words
import HandS.WordsExc
import PySem.Challenge.RW_glazehall_k66_tips_of_any_form
set_option Elab.async false
set_option linter.all false
set_option maxRecDepth 100000
set_option maxHeartbeats 0
set_option autoImplicit false
/-! A layer over HandS: tuples are pure values; lists, dicts and instances stand in an abstract heap. -/
namespace G
open PySem PySem.Spec L2


abbrev Frg := PySem.W.Frag
/-- values: tuples are values; kt: a tuple of ints and texts that may be a dict's key; fls: a list that is read only (the script) -/
inductive A where
  | non | bl (b : Bool) | int (i : Int) | str (x : Str) | tup (xs : List A) | kt (ks : List Key) | fls (xs : List A) | ref (a : Addr) | ty (n : String)
  deriving Inhabited

/-- a tuple that stands for good: tracked, or of the written part -/
def TupAt (K : Frg) (H : Hp) (p : Addr) (vs : List V) : Prop :=
  H p = some (.tup vs) ∨
    ∃ (o : Obj) (its : Array Value) (n : Nat), K.lookup p = some o ∧ o.cls = .type "tuple" ∧ o.data = .seq its n ∧ its.size ≤ sizeLine ∧ Vals vs its.toList
theorem TupAt.sq {K : Frg} {H : Hp} {p : Addr} {vs : List V} (h : TupAt K H p vs) : SqT K H p vs := h.elim (fun e => .inl (.inl e)) .inr
theorem TupAt.of {K : Frg} {H : Hp} {p : Addr} {vs : List V} (h : H p = some (.tup vs)) : TupAt K H p vs := .inl h

/-- a list that stands for good -/
def FlAt (K : Frg) (H : Hp) (p : Addr) (vs : List V) : Prop :=
  (∃ o, H p = some (.frz o (.lst vs))) ∨
    ∃ (o : Obj) (its : Array Value) (n : Nat), K.lookup p = some o ∧ o.cls = .type "list" ∧ o.dict = none ∧ o.data = .seq its n ∧ its.size ≤ sizeLine ∧ Vals vs its.toList
theorem FlAt.sq {K : Frg} {H : Hp} {p : Addr} {vs : List V} (h : FlAt K H p vs) : SqL K H p vs := h.elim (fun e => .inl (.inr e)) .inr

mutual
inductive RelA (K : Frg) (H : Hp) : A → V → Prop
  | non : RelA K H .non .non
  | bl (b : Bool) : RelA K H (.bl b) (.bl b)
  | int (i : Int) : RelA K H (.int i) (.int i)
  | str (x : Str) : RelA K H (.str x) (.str x)
  | ref (a : Addr) : RelA K H (.ref a) (.ref a)
  | ty (n : String) : RelA K H (.ty n) (.ty n)
  | kt {p : Addr} {ks : List Key} : H p = some (.tup (ks.map kV)) → RelA K H (.kt ks) (.ref p)
  | tup {p : Addr} {xs : List A} {vs : List V} : TupAt K H p vs → RelAs K H xs vs → RelA K H (.tup xs) (.ref p)
  | fls {p : Addr} {xs : List A} {vs : List V} : FlAt K H p vs → RelAs K H xs vs → RelA K H (.fls xs) (.ref p)
inductive RelAs (K : Frg) (H : Hp) : List A → List V → Prop
  | nil : RelAs K H [] []
  | cons {a : A} {as : List A} {v : V} {vs : List V} : RelA K H a v → RelAs K H as vs → RelAs K H (a :: as) (v :: vs)
end

/-- what stands for good -/
def Stands (u : HO) : Prop := (∃ xs, u = .tup xs) ∨ ∃ o xs, u = .frz o (.lst xs)
/-- tuples and frozen lists stay -/
def Mono (H H' : Hp) : Prop := ∀ b u, Stands u → H b = some u → H' b = some u
section
variable {K : Frg} {H H' H1 H2 : Hp} {p : Addr} {o u : HO}
theorem Mono.refl (H : Hp) : Mono H H := fun _ _ _ h => h
theorem Mono.trans (a : Mono H H1) (b : Mono H1 H2) : Mono H H2 := fun c x z e => b c x z (a c x z e)
theorem Mono.new (h : H p = none) : Mono H (upd H p o) := fun b xs _ e => by rw [upd_ne (ne_of_none e h)]; exact e
theorem Mono.wr (h : H p = some o) (n : ¬ Stands o) : Mono H (upd H p u) := fun b xs z e => by
  have ne : b ≠ p := fun q => by subst q; rw [e] at h; exact n (Option.some.inj h ▸ z)
  rw [upd_ne ne]; exact e
theorem ns_lst {xs : List V} : ¬ Stands (.lst xs) := fun z => z.elim (fun ⟨_, e⟩ => nomatch e) fun ⟨_, _, e⟩ => nomatch e
theorem ns_ins {C dx : Addr} {xs : List (Str × V)} : ¬ Stands (.ins C dx xs) := fun z => z.elim (fun ⟨_, e⟩ => nomatch e) fun ⟨_, _, e⟩ => nomatch e
theorem ns_dK {xs : List (Key × V)} : ¬ Stands (.dK xs) := fun z => z.elim (fun ⟨_, e⟩ => nomatch e) fun ⟨_, _, e⟩ => nomatch e
theorem ns_dT {xs : List (List Key × V)} : ¬ Stands (.dT xs) := fun z => z.elim (fun ⟨_, e⟩ => nomatch e) fun ⟨_, _, e⟩ => nomatch e
theorem ns_lK {o : Obj} {xs : List (Key × V)} : ¬ Stands (.frz o (.dK xs)) := fun z => z.elim (fun ⟨_, e⟩ => nomatch e) fun ⟨_, _, e⟩ => nomatch e
theorem ns_lT {o : Obj} {xs : List (List Key × V)} : ¬ Stands (.frz o (.dT xs)) := fun z => z.elim (fun ⟨_, e⟩ => nomatch e) fun ⟨_, _, e⟩ => nomatch e
theorem Mono.tup {vs : List V} (m : Mono H H') (e : H p = some (.tup vs)) : H' p = some (.tup vs) := m _ _ (.inl ⟨_, rfl⟩) e
theorem Mono.frz {vs : List V} {ob : Obj} (m : Mono H H') (e : H p = some (.frz ob (.lst vs))) : H' p = some (.frz ob (.lst vs)) := m _ _ (.inr ⟨_, _, rfl⟩) e
theorem TupAt.mono (m : Mono H H') {vs : List V} (h : TupAt K H p vs) : TupAt K H' p vs := h.elim (fun e => .inl (m.tup e)) .inr
theorem FlAt.mono (m : Mono H H') {vs : List V} (h : FlAt K H p vs) : FlAt K H' p vs := h.elim (fun ⟨o, e⟩ => .inl ⟨o, m.frz e⟩) .inr
mutual
theorem RelA.mono (m : Mono H H') : ∀ (a : A) (v : V), RelA K H a v → RelA K H' a v
  | .non, _, h => by cases h; exact .non
  | .bl _, _, h => by cases h; exact .bl _
  | .int _, _, h => by cases h; exact .int _
  | .str _, _, h => by cases h; exact .str _
  | .ref _, _, h => by cases h; exact .ref _
  | .ty _, _, h => by cases h; exact .ty _
  | .kt _, _, h => by cases h with | kt e => exact .kt (m.tup e)
  | .tup xs, _, h => by cases h with | tup e r => exact .tup (e.mono m) (RelAs.mono m xs _ r)
  | .fls xs, _, h => by cases h with | fls e r => exact .fls (e.mono m) (RelAs.mono m xs _ r)
theorem RelAs.mono (m : Mono H H') : ∀ (as : List A) (vs : List V), RelAs K H as vs → RelAs K H' as vs
  | [], _, h => by cases h; exact .nil
  | a :: as, _, h => by cases h with | cons r rs => exact .cons (RelA.mono m a _ r) (RelAs.mono m as _ rs)
end
theorem RelA.up {a : A} {v : V} (h : RelA K H a v) (m : Mono H H') : RelA K H' a v := RelA.mono m a v h
theorem RelAs.up {as : List A} {vs : List V} (h : RelAs K H as vs) (m : Mono H H') : RelAs K H' as vs := RelAs.mono m as vs h
theorem RelAs.len : ∀ {as : List A} {vs : List V}, RelAs K H as vs → as.length = vs.length
  | _, _, .nil => rfl
  | _, _, .cons _ t => by rw [List.length_cons, List.length_cons, t.len]
theorem RelAs.get : ∀ {as : List A} {vs : List V} {i : Nat} {a : A}, RelAs K H as vs → as[i]? = some a → ∃ v, vs[i]? = some v ∧ RelA K H a v
  | _, _, _, _, .nil, e => by simp at e
  | _, _, 0, _, .cons r _, e => by simp at e; subst e; exact ⟨_, rfl, r⟩
  | _, _, i + 1, _, .cons _ t, e => by
    obtain ⟨v, h1, h2⟩ := t.get (i := i) (by simpa using e)
    exact ⟨v, by simpa using h1, h2⟩
theorem RelAs.getV : ∀ {as : List A} {vs : List V} {i : Nat} {v : V}, RelAs K H as vs → vs[i]? = some v → ∃ a, as[i]? = some a ∧ RelA K H a v
  | _, _, _, _, .nil, e => by simp at e
  | _, _, 0, _, .cons r _, e => by simp at e; subst e; exact ⟨_, rfl, r⟩
  | _, _, i + 1, _, .cons _ t, e => by
    obtain ⟨v, h1, h2⟩ := t.getV (i := i) (by simpa using e)
    exact ⟨v, by simpa using h1, h2⟩
theorem RelAs.app : ∀ {as bs : List A} {vs ws : List V}, RelAs K H as vs → RelAs K H bs ws → RelAs K H (as ++ bs) (vs ++ ws)
  | _, _, _, _, .nil, s => s
  | _, _, _, _, .cons r t, s => .cons r (t.app s)
theorem RelAs.set {a : A} {v : V} (r : RelA K H a v) : ∀ {as : List A} {vs : List V} (i : Nat), RelAs K H as vs → RelAs K H (as.set i a) (vs.set i v)
  | _, _, _, .nil => .nil
  | _, _, 0, .cons _ t => .cons r t
  | _, _, i + 1, .cons q t => .cons q (RelAs.set r i t)
theorem RelAs.take : ∀ {as : List A} {vs : List V} (n : Nat), RelAs K H as vs → RelAs K H (as.take n) (vs.take n)
  | _, _, 0, _ => .nil
  | _, _, _ + 1, .nil => .nil
  | _, _, n + 1, .cons r t => .cons r (RelAs.take n t)
theorem RelAs.drop : ∀ {as : List A} {vs : List V} (n : Nat), RelAs K H as vs → RelAs K H (as.drop n) (vs.drop n)
  | _, _, 0, r => r
  | _, _, _ + 1, .nil => .nil
  | _, _, n + 1, .cons _ t => RelAs.drop n t
theorem RelAs.one {a : A} {v : V} (r : RelA K H a v) : RelAs K H [a] [v] := .cons r .nil
theorem RelAs.rev : ∀ {as : List A} {vs : List V}, RelAs K H as vs → RelAs K H as.reverse vs.reverse
  | _, _, .nil => .nil
  | _, _, .cons r t => by rw [List.reverse_cons, List.reverse_cons]; exact t.rev.app (.one r)
theorem RelAs.erase : ∀ {as : List A} {vs : List V} (i : Nat), RelAs K H as vs → RelAs K H (as.eraseIdx i) (vs.eraseIdx i)
  | _, _, _, .nil => .nil
  | _, _, 0, .cons _ t => t
  | _, _, i + 1, .cons r t => .cons r (RelAs.erase i t)
end

/-! ### the abstract heap -/
inductive AO where
  | lst (xs : List A)
  | dK (kvs : List (Key × A)) | dT (kvs : List (List Key × A))
  | lK (kvs : List (Key × A)) | lT (kvs : List (List Key × A))
  | ins (C : Addr) (fs : List (Str × A))
abbrev AH := Addr → Option AO
def updA (h : AH) (a : Addr) (o : AO) : AH := fun b => if b = a then some o else h b
theorem updA_same {h : AH} {a : Addr} {o : AO} : updA h a o a = some o := by unfold updA; rw [if_pos rfl]
theorem updA_ne {h : AH} {a b : Addr} {o : AO} (e : b ≠ a) : updA h a o b = h b := by unfold updA; rw [if_neg e]
abbrev RelK {κ : Type} (K : Frg) (H : Hp) : List (κ × A) → List (κ × V) → Prop := Paired fun p q => p.1 = q.1 ∧ RelA K H p.2 q.2
inductive RelO (K : Frg) (H : Hp) : AO → HO → Prop
  | lst {xs vs} : RelAs K H xs vs → RelO K H (.lst xs) (.lst vs)
  | dK {xs vs} : RelK K H xs vs → RelO K H (.dK xs) (.dK vs)
  | dT {xs vs} : RelK K H xs vs → RelO K H (.dT xs) (.dT vs)
  | lK {xs vs o} : RelK K H xs vs → RelO K H (.lK xs) (.frz o (.dK vs))
  | lT {xs vs o} : RelK K H xs vs → RelO K H (.lT xs) (.frz o (.dT vs))
  | ins {C dx xs vs} : RelK K H xs vs → RelO K H (.ins C xs) (.ins C dx vs)
def RelH (K : Frg) (H : Hp) (h : AH) : Prop := ∀ a o, h a = some o → ∃ u, H a = some u ∧ RelO K H o u
section
variable {K : Frg} {H H' : Hp} {h : AH} {p : Addr} {o o' : AO} {u u' : HO}
theorem RelK.up {κ : Type} {xs : List (κ × A)} {vs : List (κ × V)} (r : RelK K H xs vs) (m : Mono H H') : RelK K H' xs vs := Paired.mapP r fun _ _ q => ⟨q.1, q.2.up m⟩
theorem RelO.up (r : RelO K H o u) (m : Mono H H') : RelO K H' o u := by
  cases r with
  | lst r => exact .lst (r.up m)
  | dK r => exact .dK (RelK.up r m)
  | dT r => exact .dT (RelK.up r m)
  | lK r => exact .lK (RelK.up r m)
  | lT r => exact .lT (RelK.up r m)
  | ins r => exact .ins (RelK.up r m)
theorem RelO.notTup (r : RelO K H o u) : ¬ Stands u := fun q => by
  rcases q with ⟨xs, q⟩ | ⟨ob, xs, q⟩ <;> subst q <;> cases r
theorem RelH.free (r : RelH K H h) (e : H p = none) : h p = none := by
  cases q : h p with
  | none => rfl
  | some o => obtain ⟨u, e', _⟩ := r p o q; rw [e] at e'; cases e'
/-- a new untracked thing (a tuple, a garbage object) -/
theorem RelH.skip (r : RelH K H h) (e : H p = none) : RelH K (upd H p u) h := fun a o q => by
  obtain ⟨w, e', r'⟩ := r a o q
  exact ⟨w, by rw [upd_ne (ne_of_none e' e)]; exact e', r'.up (Mono.new e)⟩
theorem RelH.new (r : RelH K H h) (e : H p = none) (n : RelO K H o u) : RelH K (upd H p u) (updA h p o) := fun a q z => by
  by_cases hb : a = p
  · subst hb
    rw [updA_same] at z; cases z
    exact ⟨u, upd_same, n.up (Mono.new e)⟩
  · rw [updA_ne hb] at z
    exact r.skip e a q z
theorem RelH.wr (r : RelH K H h) (e : H p = some u) (nt : ¬ Stands u) (n : RelO K H o' u') : RelH K (upd H p u') (updA h p o') := fun a q z => by
  by_cases hb : a = p
  · subst hb
    rw [updA_same] at z; cases z
    exact ⟨u', upd_same, n.up (Mono.wr e nt)⟩
  · rw [updA_ne hb] at z
    obtain ⟨w, e', r'⟩ := r a q z
    exact ⟨w, by rw [upd_ne hb]; exact e', r'.up (Mono.wr e nt)⟩
theorem RelH.sub {h' : AH} (r : RelH K H h) (k : ∀ a o, h' a = some o → h a = some o) : RelH K H h' := fun a o q => r a o (k a o q)
end

/-! ### slots -/
abbrev ASt := List (Option A)
structure RelS (K : Frg) (H : Hp) (α : ASt) (σ : L2.St) : Prop where
  len : α.length = σ.length
  get : ∀ (i : Nat) (a : A), α[i]? = some (some a) → ∃ v, σ[i]? = some (some v) ∧ RelA K H a v
section
variable {K : Frg} {H H' : Hp} {α : ASt} {σ : L2.St}
theorem RelS.up (r : RelS K H α σ) (m : Mono H H') : RelS K H' α σ := ⟨r.len, fun i a e => let ⟨v, e', q⟩ := r.get i a e; ⟨v, e', q.up m⟩⟩
theorem RelS.set {a : A} {v : V} (r : RelS K H α σ) (i : Nat) (q : RelA K H a v) : RelS K H (α.set i (some a)) (σ.set i (some v)) := by
  refine ⟨by rw [List.length_set, List.length_set]; exact r.len, fun j b e => ?_⟩
  by_cases hj : i = j
  · subst hj
    by_cases hl : i < α.length
    · rw [List.getElem?_set_self hl] at e; cases e
      exact ⟨v, by rw [List.getElem?_set_self (by rw [← r.len]; exact hl)], q⟩
    · rw [List.getElem?_eq_none (by simpa using hl)] at e; cases e
  · rw [List.getElem?_set_ne hj] at e
    obtain ⟨v', e', q'⟩ := r.get j b e
    exact ⟨v', by rw [List.getElem?_set_ne hj]; exact e', q'⟩
theorem RelS.gone (r : RelS K H α σ) (i : Nat) : RelS K H (α.set i none) (σ.set i none) := by
  refine ⟨by rw [List.length_set, List.length_set]; exact r.len, fun j b e => ?_⟩
  by_cases hj : i = j
  · subst hj
    by_cases hl : i < α.length
    · rw [List.getElem?_set_self hl] at e; cases e
    · rw [List.getElem?_eq_none (by simpa using hl)] at e; cases e
  · rw [List.getElem?_set_ne hj] at e
    obtain ⟨v', e', q'⟩ := r.get j b e
    exact ⟨v', by rw [List.getElem?_set_ne hj]; exact e', q'⟩
end
end G
namespace G
open PySem PySem.Spec L2

/-! ### judgements -/
abbrev AVK := A → AH → Prop
abbrev AXK := Value → AH → Prop
abbrev ATE := ASt → AH → AVK → AXK → Prop
abbrev ATT := ASt → AH → (Bool → AH → Prop) → AXK → Prop
abbrev ATA := ASt → AH → (List A → AH → Prop) → AXK → Prop
def LQ (K : Frg) (H : Hp) (Q : AVK) : VK := fun v H' => ∃ a h', Mono H H' ∧ RelA K H' a v ∧ RelH K H' h' ∧ Q a h'
def LB (K : Frg) (H : Hp) (Q : Bool → AH → Prop) : Bool → Hp → Prop := fun b H' => ∃ h', Mono H H' ∧ RelH K H' h' ∧ Q b h'
def LQs (K : Frg) (H : Hp) (Q : List A → AH → Prop) : List V → Hp → Prop := fun vs H' => ∃ as h', Mono H H' ∧ RelAs K H' as vs ∧ RelH K H' h' ∧ Q as h'
def LN (K : Frg) (H : Hp) (N : ASt → AH → Prop) : L2.St → Hp → Prop := fun σ' H' => ∃ α' h', Mono H H' ∧ RelS K H' α' σ' ∧ RelH K H' h' ∧ N α' h'
section
variable {K : Frg} {H H1 : Hp}
theorem LQ.up {Q : AVK} {v : V} {H' : Hp} (m : Mono H H1) (q : LQ K H1 Q v H') : LQ K H Q v H' := let ⟨a, h', m', r, rh, q⟩ := q; ⟨a, h', m.trans m', r, rh, q⟩
theorem LB.up {Q : Bool → AH → Prop} {b : Bool} {H' : Hp} (m : Mono H H1) (q : LB K H1 Q b H') : LB K H Q b H' := let ⟨h', m', rh, q⟩ := q; ⟨h', m.trans m', rh, q⟩
theorem LQs.up {Q : List A → AH → Prop} {v : List V} {H' : Hp} (m : Mono H H1) (q : LQs K H1 Q v H') : LQs K H Q v H' := let ⟨a, h', m', r, rh, q⟩ := q; ⟨a, h', m.trans m', r, rh, q⟩
theorem LN.up {N : ASt → AH → Prop} {σ : L2.St} {H' : Hp} (m : Mono H H1) (q : LN K H1 N σ H') : LN K H N σ H' := let ⟨a, h', m', r, rh, q⟩ := q; ⟨a, h', m.trans m', r, rh, q⟩
end

/-- an exception that E wishes for is taken -/
def TakesE (X : Cx) (H : Hp) (α : ASt) (E : AXK) : Prop := ∃ Hb, Mono Hb H ∧ Takes X (fun cls d σ H' => d = none ∧ Mono Hb H' ∧ RelS X.K H' α σ ∧ ∃ h, RelH X.K H' h ∧ E cls h)
abbrev AX := Value → ASt → AH → Prop
def TakesS (X : Cx) (H : Hp) (ex : AX) : Prop := ∃ Hb, Mono Hb H ∧ Takes X (fun cls d σ H' => d = none ∧ Mono Hb H' ∧ ∃ α h, RelS X.K H' α σ ∧ RelH X.K H' h ∧ ex cls α h)
theorem TakesS.e {X : Cx} {H : Hp} {ex : AX} (t : TakesS X H ex) (α : ASt) : TakesE X H α (fun c h => ex c α h) := let ⟨Hb, m, t⟩ := t; ⟨Hb, m, Takes.imp t fun _ _ _ _ ⟨e, mm, r, h, rh, q⟩ => ⟨e, mm, α, h, r, rh, q⟩⟩
theorem TakesE.up {X : Cx} {H H1 : Hp} {α : ASt} {E : AXK} (t : TakesE X H α E) (m : Mono H H1) : TakesE X H1 α E := let ⟨Hb, m', t⟩ := t; ⟨Hb, m'.trans m, t⟩
theorem TakesS.up {X : Cx} {H H1 : Hp} {ex : AX} (t : TakesS X H ex) (m : Mono H H1) : TakesS X H1 ex := let ⟨Hb, m', t⟩ := t; ⟨Hb, m'.trans m, t⟩
abbrev AE0 : AXK := fun _ _ => False
theorem TakesE.none {X : Cx} {H : Hp} {α : ASt} : TakesE X H α AE0 := ⟨H, Mono.refl H, fun _ _ ⟨_, _, _, _, _, _, _, _, _, _, _, _, _, _, _, _, _, _, _, _, _, w⟩ => w.elim⟩
theorem TakesS.none {X : Cx} {H : Hp} : TakesS X H (fun _ _ _ => False) := ⟨H, Mono.refl H, fun _ _ ⟨_, _, _, _, _, _, _, _, _, _, _, _, _, _, _, _, _, _, _, _, _, _, w⟩ => w.elim⟩

structure AE (X : Cx) (e : Expr) (t : ATE) : Prop where
  run : ∀ (pins : List (Addr × Obj)) (s : Shared) (σ : L2.St) (H : Hp) (α : ASt) (h : AH) (Q : AVK) (E : AXK), Inv X pins σ H s → RelS X.K H α σ → RelH X.K H h → TakesE X H α E → t α h Q E →
    wpAny (model X.prog X.w) X.A (eval e X.env) (EP X pins σ (LQ X.K H Q)) X.xe s
structure AT (X : Cx) (e : Expr) (t : ATT) : Prop where
  run : ∀ (pins : List (Addr × Obj)) (s : Shared) (σ : L2.St) (H : Hp) (α : ASt) (h : AH) (Q : Bool → AH → Prop) (E : AXK), Inv X pins σ H s → RelS X.K H α σ → RelH X.K H h → TakesE X H α E → t α h Q E →
    wpAny (model X.prog X.w) X.A (isTrue e X.env (eval e X.env)) (TP X pins σ (LB X.K H Q)) X.xe s
structure AW (X : Cx) (e : Expr) (t : ATT) : Prop where
  run : ∀ (whole : Sem Value) (pins : List (Addr × Obj)) (s : Shared) (σ : L2.St) (H : Hp) (α : ASt) (h : AH) (Q : Bool → AH → Prop) (E : AXK), Inv X pins σ H s → RelS X.K H α σ → RelH X.K H h → TakesE X H α E → t α h Q E →
    wpAny (model X.prog X.w) X.A (isTrue e X.env whole) (TP X pins σ (LB X.K H Q)) X.xe s
structure AAs (X : Cx) (es : List Expr) (t : ATA) : Prop where
  run : ∀ (pos : Pos) (pins : List (Addr × Obj)) (s : Shared) (σ : L2.St) (H : Hp) (α : ASt) (h : AH) (Q : List A → AH → Prop) (E : AXK), Inv X pins σ H s → RelS X.K H α σ → RelH X.K H h → TakesE X H α E → t α h Q E →
    wpAny (model X.prog X.w) X.A (spliced (backTo pos (starEach es X.env))) (AP X pins σ (LQs X.K H Q)) X.xe s

/-! the readings as HandS takes them -/
def low (X : Cx) (t : ATE) : TE := fun σ H Qv => ∃ α h Q E, RelS X.K H α σ ∧ RelH X.K H h ∧ TakesE X H α E ∧ t α h Q E ∧ ∀ v H', LQ X.K H Q v H' → Qv v H'
def lowT (X : Cx) (t : ATT) : TT := fun σ H Qv => ∃ α h Q E, RelS X.K H α σ ∧ RelH X.K H h ∧ TakesE X H α E ∧ t α h Q E ∧ ∀ v H', LB X.K H Q v H' → Qv v H'
def lowA (X : Cx) (t : ATA) : TA := fun σ H Qv => ∃ α h Q E, RelS X.K H α σ ∧ RelH X.K H h ∧ TakesE X H α E ∧ t α h Q E ∧ ∀ v H', LQs X.K H Q v H' → Qv v H'
section
variable {X : Cx} {e : Expr} {es : List Expr}
theorem AE.pe {t : ATE} (a : AE X e t) : PE X e (low X t) := ⟨fun pins s σ H Qv I ⟨α, h, Q, E, rs, rh, tk, ht, k⟩ => thn (a.run pins s σ H α h Q E I rs rh tk ht) fun u s' ⟨v, H', I', r, q⟩ => ⟨v, H', I', r, k _ _ q⟩⟩
theorem AT.pt {t : ATT} (a : AT X e t) : PT X e (lowT X t) := ⟨fun pins s σ H Qv I ⟨α, h, Q, E, rs, rh, tk, ht, k⟩ => thn (a.run pins s σ H α h Q E I rs rh tk ht) fun u s' ⟨H', I', q⟩ => ⟨H', I', k _ _ q⟩⟩
theorem AW.pw {t : ATT} (a : AW X e t) : PW X e (lowT X t) := ⟨fun wh pins s σ H Qv I ⟨α, h, Q, E, rs, rh, tk, ht, k⟩ => thn (a.run wh pins s σ H α h Q E I rs rh tk ht) fun u s' ⟨H', I', q⟩ => ⟨H', I', k _ _ q⟩⟩
theorem AAs.pa {t : ATA} (a : AAs X es t) : PA X es (lowA X t) := ⟨fun pos pins s σ H Qv I ⟨α, h, Q, E, rs, rh, tk, ht, k⟩ => thn (a.run pos pins s σ H α h Q E I rs rh tk ht) fun u s' ⟨v, H', I', r, q⟩ => ⟨v, H', I', r, k _ _ q⟩⟩
theorem AE.of {t : ATE} {t' : TE} (p : PE X e t') (k : ∀ σ H Q, low X t σ H Q → t' σ H Q) : AE X e t := ⟨fun pins s σ H α h Q E I rs rh tk ht => p.run pins s σ H _ I (k _ _ _ ⟨α, h, Q, E, rs, rh, tk, ht, fun _ _ z => z⟩)⟩
theorem AT.of {t : ATT} {t' : TT} (p : PT X e t') (k : ∀ σ H Q, lowT X t σ H Q → t' σ H Q) : AT X e t := ⟨fun pins s σ H α h Q E I rs rh tk ht => p.run pins s σ H _ I (k _ _ _ ⟨α, h, Q, E, rs, rh, tk, ht, fun _ _ z => z⟩)⟩
theorem AW.of {t : ATT} {t' : TT} (p : PW X e t') (k : ∀ σ H Q, lowT X t σ H Q → t' σ H Q) : AW X e t := ⟨fun wh pins s σ H α h Q E I rs rh tk ht => p.run wh pins s σ H _ I (k _ _ _ ⟨α, h, Q, E, rs, rh, tk, ht, fun _ _ z => z⟩)⟩
theorem AAs.of {t : ATA} {t' : TA} (p : PA X es t') (k : ∀ σ H Q, lowA X t σ H Q → t' σ H Q) : AAs X es t := ⟨fun pos pins s σ H α h Q E I rs rh tk ht => p.run pos pins s σ H _ I (k _ _ _ ⟨α, h, Q, E, rs, rh, tk, ht, fun _ _ z => z⟩)⟩
theorem AW.at {t : ATT} (h : AW X e t) : AT X e t := ⟨h.run _⟩
/-- the reading of a first part, then the rest -/
theorem low.then {t : ATE} {σ : L2.St} {H H0 : Hp} {α : ASt} {h : AH} {Q : AVK} {E : AXK} {Qv : VK} (rs : RelS X.K H α σ) (rh : RelH X.K H h) (tk : TakesE X H α E) (ht : t α h Q E)
    (k : ∀ v H' a h', Mono H H' → RelA X.K H' a v → RelH X.K H' h' → RelS X.K H' α σ → Q a h' → Qv v H') : low X t σ H Qv := ⟨α, h, Q, E, rs, rh, tk, ht, fun v H' ⟨a, h', m, r, rh', q⟩ => k v H' a h' m r rh' (rs.up m) q⟩
theorem lowA.then {t : ATA} {σ : L2.St} {H : Hp} {α : ASt} {h : AH} {Q : List A → AH → Prop} {E : AXK} {Qv : List V → Hp → Prop} (rs : RelS X.K H α σ) (rh : RelH X.K H h) (tk : TakesE X H α E) (ht : t α h Q E)
    (k : ∀ v H' a h', Mono H H' → RelAs X.K H' a v → RelH X.K H' h' → RelS X.K H' α σ → Q a h' → Qv v H') : lowA X t σ H Qv := ⟨α, h, Q, E, rs, rh, tk, ht, fun v H' ⟨a, h', m, r, rh', q⟩ => k v H' a h' m r rh' (rs.up m) q⟩
theorem lowT.then {t : ATT} {σ : L2.St} {H : Hp} {α : ASt} {h : AH} {Q : Bool → AH → Prop} {E : AXK} {Qv : Bool → Hp → Prop} (rs : RelS X.K H α σ) (rh : RelH X.K H h) (tk : TakesE X H α E) (ht : t α h Q E)
    (k : ∀ b H' h', Mono H H' → RelH X.K H' h' → RelS X.K H' α σ → Q b h' → Qv b H') : lowT X t σ H Qv := ⟨α, h, Q, E, rs, rh, tk, ht, fun v H' ⟨h', m, rh', q⟩ => k v H' h' m rh' (rs.up m) q⟩
end

/-! ### names, constants, displays -/
section
variable {X : Cx} {e a b : Expr} {es : List Expr} {pos : Pos} {te ta tb : ATE} {tr : ATA}
def aVar (i : Nat) : ATE := fun α h Q _ => match α[i]? with
  | some (some a) => Q a h
  | _ => False
def aC (a : A) : ATE := fun _ h Q _ => Q a h
theorem ae_var {i : Nat} {x : Str} (hN : X.N[i]? = some x) (hv : Vis X.env.scope x) (hd : (x == ("__debug__" : Str)) = false := by decide) (hcd : (x == ("__classdict__" : Str)) = false := by decide) : AE X (.Name x pos) (aVar i) :=
  AE.of (pe_var hN hv hd hcd) fun σ H Q ⟨α, h, q, E, rs, rh, tk, ht, k⟩ => by
    unfold aVar at ht
    cases e1 : α[i]? with
    | none => rw [e1] at ht; exact ht.elim
    | some o =>
      cases o with
      | none => rw [e1] at ht; exact ht.elim
      | some a =>
        rw [e1] at ht
        obtain ⟨v, e2, r⟩ := rs.get i a e1
        exact ⟨v, e2, k _ _ ⟨a, h, Mono.refl H, r, rh, ht⟩⟩
theorem av (i : Nat) {x : Str} (hN : X.N[i]? = some x := by rfl) (hv : Vis X.env.scope x := by first | exact Or.inl rfl | exact Or.inr (Or.inl rfl) | exact Or.inr (Or.inr rfl)) (hd : (x == ("__debug__" : Str)) = false := by decide)
    (hcd : (x == ("__classdict__" : Str)) = false := by decide) : AE X (.Name x pos) (aVar i) := ae_var hN hv hd hcd
theorem aC.low {a : A} {v : V} (r : ∀ H, RelA X.K H a v) {σ : L2.St} {H : Hp} {Q : VK} (x : low X (aC a) σ H Q) : Q v H := let ⟨_, h, _, _, _, rh, _, ht, k⟩ := x; k _ _ ⟨a, h, Mono.refl H, r H, rh, ht⟩
theorem ae_int {i j} : AE X (.Constant (.int i) j pos) (aC (.int i)) := AE.of pe_int fun _ _ _ => aC.low fun _ => .int i
theorem ae_bl {b j} : AE X (.Constant (.bool b) j pos) (aC (.bl b)) := AE.of pe_bl fun _ _ _ => aC.low fun _ => .bl b
theorem ae_non {j} : AE X (.Constant .none j pos) (aC .non) := AE.of pe_non fun _ _ _ => aC.low fun _ => .non
theorem ae_str {x j} : AE X (.Constant (.str x) j pos) (aC (.str x)) := AE.of pe_str fun _ _ _ => aC.low fun _ => .str x
/-- a module's name whose value is known -/
theorem ae_glob {x : Str} {v : V} {w : A} {u : Value} (hg : Gl X x) (hm : X.mg x = some u) (r : RelV v u) (ra : ∀ H, RelA X.K H w v) (hd : (x == ("__debug__" : Str)) = false := by decide) : AE X (.Name x pos) (aC w) := AE.of (pe_glob hg hm r hd) fun _ _ _ => aC.low ra
theorem ae_bltn {x : Str} {v : V} {w : A} {u : Value} (hg : Gl X x) (hm : X.mg x = none) (hv : bootBuiltins x = some u) (r : RelV v u) (ra : ∀ H, RelA X.K H w v) (hn : x ≠ "__name__" := by decide) (hd : (x == ("__debug__" : Str)) = false := by decide) :
    AE X (.Name x pos) (aC w) := AE.of (pe_bltn hg hm hv r hn hd) fun _ _ _ => aC.low ra

def aNil : ATA := fun _ h Q _ => Q [] h
def aCons (ta : ATE) (tr : ATA) : ATA := fun α h Q E => ta α h (fun x h1 => tr α h1 (fun xs h2 => Q (x :: xs) h2) E) E
theorem aa_nil : AAs X [] aNil := AAs.of pa_nil fun σ H Q ⟨α, h, q, E, rs, rh, tk, ht, k⟩ => k _ _ ⟨[], h, Mono.refl H, .nil, rh, ht⟩
theorem aa_cons (ha : AE X e te) (hr : AAs X es tr) (hs : starEach (e :: es) X.env = (false, eval e X.env) :: starEach es X.env := by rfl) : AAs X (e :: es) (aCons te tr) :=
  AAs.of (pa_cons ha.pe hr.pa hs) fun σ H Q ⟨α, h, q, E, rs, rh, tk, ht, k⟩ =>
    low.then (H0 := H) rs rh tk ht fun v H1 x h1 m1 r1 rh1 rs1 q1 => lowA.then rs1 rh1 (tk.up m1) q1 fun vs H2 xs h2 m2 r2 rh2 rs2 q2 => k _ _ ⟨x :: xs, h2, m1.trans m2, .cons (r1.up m2) r2, rh2, q2⟩
/-- a tuple -/
def aTup (t : ATA) : ATE := fun α h Q E => t α h (fun xs h1 => xs.length ≤ sizeLine ∧ Q (.tup xs) h1) E
theorem ae_tup {x1} (p : AAs X es tr) : AE X (.Tuple es x1 pos) (aTup tr) := AE.of (pe_tup p.pa) fun σ H Q ⟨α, h, q, E, rs, rh, tk, ht, k⟩ =>
  lowA.then rs rh tk ht fun vs H1 xs h1 m1 r1 rh1 _ ⟨z, q1⟩ => ⟨by rw [← r1.len]; exact z, fun p hp => k _ _ ⟨.tup xs, h1, m1.trans (Mono.new hp), .tup (.of upd_same) (r1.up (Mono.new (o := .tup vs) hp)), rh1.skip hp, q1⟩⟩
/-- the ints and texts of a flat tuple -/
def keyA : A → Option Key
  | .int i => some (.inl i)
  | .str x => some (.inr x)
  | _ => none
def keysA : List A → Option (List Key)
  | [] => some []
  | a :: as => match keyA a, keysA as with
    | some k, some ks => some (k :: ks)
    | _, _ => none
theorem keyA_rel {K : Frg} {H : Hp} {a : A} {v : V} {k : Key} (r : RelA K H a v) (e : keyA a = some k) : v = kV k := by
  cases r <;> simp [keyA] at e <;> subst e <;> rfl
theorem keysA_rel {K : Frg} {H : Hp} : ∀ {as : List A} {vs : List V} {ks : List Key}, RelAs K H as vs → keysA as = some ks → vs = ks.map kV
  | _, _, ks, .nil, e => by simp [keysA] at e; subst e; rfl
  | a :: as, _, ks, .cons r t, e => by
    unfold keysA at e
    cases e1 : keyA a with
    | none => rw [e1] at e; simp at e
    | some k =>
      cases e2 : keysA as with
      | none => rw [e1, e2] at e; simp at e
      | some l =>
        rw [e1, e2] at e
        simp at e; subst e
        rw [List.map_cons, keyA_rel r e1, keysA_rel t e2]
/-- a tuple that may be a dict's key -/
def aKt (t : ATA) : ATE := fun α h Q E => t α h (fun xs h1 => xs.length ≤ sizeLine ∧ match keysA xs with
  | some ks => Q (.kt ks) h1
  | none => False) E
theorem ae_kt {x1} (p : AAs X es tr) : AE X (.Tuple es x1 pos) (aKt tr) := AE.of (pe_tup p.pa) fun σ H Q ⟨α, h, q, E, rs, rh, tk, ht, k⟩ =>
  lowA.then rs rh tk ht fun vs H1 xs h1 m1 r1 rh1 _ ⟨z, q1⟩ => ⟨by rw [← r1.len]; exact z, fun p hp => by
    cases e1 : keysA xs with
    | none => rw [e1] at q1; exact q1.elim
    | some ks =>
      rw [e1] at q1
      exact k _ _ ⟨.kt ks, h1, m1.trans (Mono.new hp), .kt (by rw [upd_same, keysA_rel r1 e1]), rh1.skip hp, q1⟩⟩
/-- a list display -/
def aLst (t : ATA) : ATE := fun α h Q E => t α h (fun xs h1 => xs.length ≤ sizeLine ∧ ∀ p, h1 p = none → Q (.ref p) (updA h1 p (.lst xs))) E
theorem ae_lst (p : AAs X es tr) : AE X (.List es pos) (aLst tr) := AE.of (pe_lst p.pa) fun σ H Q ⟨α, h, q, E, rs, rh, tk, ht, k⟩ =>
  lowA.then rs rh tk ht fun vs H1 xs h1 m1 r1 rh1 _ ⟨z, q1⟩ => ⟨by rw [← r1.len]; exact z, fun p hp => k _ _ ⟨.ref p, _, m1.trans (Mono.new hp), .ref p, rh1.new hp (.lst r1), q1 p (rh1.free hp)⟩⟩
end

/-! ### operators by values -/
abbrev AR1 := A → AH → AVK → Prop
abbrev AR2 := A → A → AH → AVK → Prop
abbrev ARs := List A → AH → AVK → Prop
def Op2 (K : Frg) (r : R2) (rA : AR2) : Prop := ∀ (H : Hp) (h : AH) (x y : V) (a b : A) (Q : AVK) (Qv : VK), RelA K H a x → RelA K H b y → RelH K H h → (∀ v H', LQ K H Q v H' → Qv v H') → rA a b h Q → r x y H Qv
def Op1 (K : Frg) (r : V → Hp → VK → Prop) (rA : AR1) : Prop := ∀ (H : Hp) (h : AH) (x : V) (a : A) (Q : AVK) (Qv : VK), RelA K H a x → RelH K H h → (∀ v H', LQ K H Q v H' → Qv v H') → rA a h Q → r x H Qv
def OpN (K : Frg) (r : List V → Hp → VK → Prop) (rA : ARs) : Prop := ∀ (H : Hp) (h : AH) (xs : List V) (as : List A) (Q : AVK) (Qv : VK), RelAs K H as xs → RelH K H h → (∀ v H', LQ K H Q v H' → Qv v H') → rA as h Q → r xs H Qv
def a2 (rA : AR2) (ta tb : ATE) : ATE := fun α h Q E => ta α h (fun x h1 => tb α h1 (fun y h2 => rA x y h2 Q) E) E
def a1 (rA : AR1) (ta : ATE) : ATE := fun α h Q E => ta α h (fun x h1 => rA x h1 Q) E
def aN (rA : ARs) (t : ATA) : ATE := fun α h Q E => t α h (fun xs h1 => rA xs h1 Q) E
section
variable {X : Cx} {a b e : Expr} {es : List Expr} {pos p : Pos} {ta tb te : ATE} {tr : ATA} {r : R2} {rA : AR2}
theorem low2 (hr : Op2 X.K r rA) {σ : L2.St} {H : Hp} {Qv : VK} (x : low X (a2 rA ta tb) σ H Qv) : tOp r (low X ta) (low X tb) σ H Qv := by
  obtain ⟨α, h, q, E, rs, rh, tk, ht, k⟩ := x
  exact low.then (H0 := H) rs rh tk ht fun v H1 x h1 m1 r1 rh1 rs1 q1 => low.then (H0 := H) rs1 rh1 (tk.up m1) q1 fun w H2 y h2 m2 r2 rh2 rs2 q2 =>
    hr H2 h2 v w x y q Qv (r1.up m2) r2 rh2 (fun z H' g => k _ _ (g.up (m1.trans m2))) q2
theorem ae_op {op : Operator} (ho : OpR X (binaryOp op) r) (hr : Op2 X.K r rA) (ha : AE X a ta) (hb : AE X b tb) : AE X (.BinOp a op b pos) (a2 rA ta tb) := AE.of (pe_op ho ha.pe hb.pe) fun _ _ _ x => low2 hr x
theorem ae_un {op : UnaryOp} {r : V → Hp → VK → Prop} {rA : AR1} (ho : UnR X (unaryOp op) r) (hr : Op1 X.K r rA) (ha : AE X a ta) : AE X (.UnaryOp op a pos) (a1 rA ta) :=
  AE.of (pe_un ho ha.pe) fun σ H Qv ⟨α, h, q, E, rs, rh, tk, ht, k⟩ => low.then (H0 := H) rs rh tk ht fun v H1 x h1 m1 r1 rh1 rs1 q1 => hr H1 h1 v x q Qv r1 rh1 (fun z H' g => k _ _ (g.up m1)) q1
theorem ae_cmp {op : CmpOp} (ho : OpR X (compareOp op) r) (hr : Op2 X.K r rA) (ha : AE X a ta) (hb : AE X b tb) (hm : behindInMarks op b = false) : AE X (.Compare a [op] [b] pos) (a2 rA ta tb) := AE.of (pe_cmpR ho ha.pe hb.pe hm) fun _ _ _ x => low2 hr x
/-- a value that is a bool, as a test -/
def asB (x : A) (Q : Bool → Prop) : Prop := match x with
  | .bl b => Q b
  | _ => False
def aTest (t : ATE) : ATT := fun α h Q E => t α h (fun x h1 => asB x fun b => Q b h1) E
theorem bl_of {K : Frg} {H : Hp} {a : A} {v : V} {Q : Bool → Prop} (r : RelA K H a v) (q : asB a Q) : ∃ b, v = .bl b ∧ Q b := by
  cases r with
  | bl b => exact ⟨b, rfl, q⟩
  | _ => exact q.elim
theorem at_cmp {op : CmpOp} (ho : OpR X (compareOp op) r) (hr : Op2 X.K r rA) (ha : AE X a ta) (hb : AE X b tb) (hm : behindInMarks op b = false) : AT X (.Compare a [op] [b] pos) (aTest (a2 rA ta tb)) :=
  AT.of (pt_cmpR ho ha.pe hb.pe hm) fun σ H Qv ⟨α, h, q, E, rs, rh, tk, ht, k⟩ => low2 hr ⟨α, h, _, E, rs, rh, tk, ht, fun v H' ⟨x, h', m, r1, rh', q1⟩ => by
    obtain ⟨b, e, q2⟩ := bl_of r1 q1
    exact ⟨b, e, k _ _ ⟨h', m, rh', q2⟩⟩⟩
theorem at_val (he : AE X e te) (ht : ∀ whole, isTrue e X.env whole = (do let v ← whole; standAt e.pos; holding [v] (truthy v)) := by intro _; rfl) : AT X e (aTest te) :=
  AT.of (pt_val he.pe ht) fun σ H Qv ⟨α, h, q, E, rs, rh, tk, ht, k⟩ => ⟨α, h, _, E, rs, rh, tk, ht, fun v H' ⟨x, h', m, r1, rh', q1⟩ => by
    obtain ⟨b, e, q2⟩ := bl_of r1 q1
    exact ⟨b, e, k _ _ ⟨h', m, rh', q2⟩⟩⟩
/-! and, or, not -/
variable {tA tB : ATT} {rest : List Expr}
def aAnd (t u : ATT) : ATT := fun α h Q E => t α h (fun c h1 => if c = true then u α h1 Q E else Q false h1) E
def aOr (t u : ATT) : ATT := fun α h Q E => t α h (fun c h1 => if c = true then Q true h1 else u α h1 Q E) E
def aNot (t : ATT) : ATT := fun α h Q E => t α h (fun c h1 => Q (!c) h1) E
theorem aw_and1 (ha : AT X a tA) : AW X (.BoolOp .And [a] pos) tA := AW.of (pw_and1 ha.pt) fun _ _ _ x => x
theorem aw_or1 (ha : AT X a tA) : AW X (.BoolOp .Or [a] pos) tA := AW.of (pw_or1 ha.pt) fun _ _ _ x => x
theorem aw_and (ha : AT X a tA) (hb : AW X (.BoolOp .And (b :: rest) pos) tB) : AW X (.BoolOp .And (a :: b :: rest) pos) (aAnd tA tB) :=
  AW.of (pw_and ha.pt hb.pw) fun σ H Qv ⟨α, h, q, E, rs, rh, tk, ht, k⟩ => lowT.then rs rh tk ht fun c H1 h1 m1 rh1 rs1 q1 => by
    cases c with
    | true => exact ⟨α, h1, q, E, rs1, rh1, tk.up m1, by rw [if_pos rfl] at q1; exact q1, fun v H' g => k _ _ (g.up m1)⟩
    | false => exact k _ _ ⟨h1, m1, rh1, by rw [if_neg Bool.false_ne_true] at q1; exact q1⟩
theorem aw_or (ha : AT X a tA) (hb : AW X (.BoolOp .Or (b :: rest) pos) tB) : AW X (.BoolOp .Or (a :: b :: rest) pos) (aOr tA tB) :=
  AW.of (pw_or ha.pt hb.pw) fun σ H Qv ⟨α, h, q, E, rs, rh, tk, ht, k⟩ => lowT.then rs rh tk ht fun c H1 h1 m1 rh1 rs1 q1 => by
    cases c with
    | false => exact ⟨α, h1, q, E, rs1, rh1, tk.up m1, by rw [if_neg Bool.false_ne_true] at q1; exact q1, fun v H' g => k _ _ (g.up m1)⟩
    | true => exact k _ _ ⟨h1, m1, rh1, by rw [if_pos rfl] at q1; exact q1⟩
theorem at_not (ha : AT X a tA) : AT X (.UnaryOp .Not a pos) (aNot tA) := AT.of (pt_not ha.pt) fun σ H Qv ⟨α, h, q, E, rs, rh, tk, ht, k⟩ =>
  lowT.then rs rh tk ht fun c H1 h1 m1 rh1 rs1 q1 => k _ _ ⟨h1, m1, rh1, q1⟩
/-- the same as values: bools -/
def aB (t : ATT) : ATE := fun α h Q E => t α h (fun c h1 => Q (.bl c) h1) E
def aAndV (ta tb : ATE) : ATE := fun α h Q E => ta α h (fun x h1 => asB x fun c => if c = true then tb α h1 Q E else Q (.bl false) h1) E
def aOrV (ta tb : ATE) : ATE := fun α h Q E => ta α h (fun x h1 => asB x fun c => if c = true then Q (.bl true) h1 else tb α h1 Q E) E
def aNotV (ta : ATE) : ATE := fun α h Q E => ta α h (fun x h1 => asB x fun c => Q (.bl (!c)) h1) E
theorem ae_one {op} (h : AE X a te) : AE X (.BoolOp op [a] pos) te := AE.of (pe_one h.pe) fun _ _ _ x => x
theorem ae_and (ha : AE X a ta) (hb : AE X (.BoolOp .And (b :: rest) pos) tb) : AE X (.BoolOp .And (a :: b :: rest) pos) (aAndV ta tb) :=
  AE.of (pe_and ha.pe hb.pe) fun σ H Qv ⟨α, h, q, E, rs, rh, tk, ht, k⟩ => low.then (H0 := H) rs rh tk ht fun v H1 x h1 m1 r1 rh1 rs1 q1 => by
    obtain ⟨c, e, q2⟩ := bl_of r1 q1
    refine ⟨c, e, ?_⟩
    cases c with
    | true => exact ⟨α, h1, q, E, rs1, rh1, tk.up m1, by rw [if_pos rfl] at q2; exact q2, fun v H' g => k _ _ (g.up m1)⟩
    | false => exact k _ _ ⟨.bl false, h1, m1, .bl _, rh1, by rw [if_neg Bool.false_ne_true] at q2; exact q2⟩
theorem ae_or (ha : AE X a ta) (hb : AE X (.BoolOp .Or (b :: rest) pos) tb) : AE X (.BoolOp .Or (a :: b :: rest) pos) (aOrV ta tb) :=
  AE.of (pe_or ha.pe hb.pe) fun σ H Qv ⟨α, h, q, E, rs, rh, tk, ht, k⟩ => low.then (H0 := H) rs rh tk ht fun v H1 x h1 m1 r1 rh1 rs1 q1 => by
    obtain ⟨c, e, q2⟩ := bl_of r1 q1
    refine ⟨c, e, ?_⟩
    cases c with
    | false => exact ⟨α, h1, q, E, rs1, rh1, tk.up m1, by rw [if_neg Bool.false_ne_true] at q2; exact q2, fun v H' g => k _ _ (g.up m1)⟩
    | true => exact k _ _ ⟨.bl true, h1, m1, .bl _, rh1, by rw [if_pos rfl] at q2; exact q2⟩
theorem ae_not (ha : AE X a ta) : AE X (.UnaryOp .Not a pos) (aNotV ta) :=
  AE.of (pe_not ha.pe) fun σ H Qv ⟨α, h, q, E, rs, rh, tk, ht, k⟩ => low.then (H0 := H) rs rh tk ht fun v H1 x h1 m1 r1 rh1 rs1 q1 => by
    obtain ⟨c, e, q2⟩ := bl_of r1 q1
    exact ⟨c, e, k _ _ ⟨.bl (!c), h1, m1, .bl _, rh1, q2⟩⟩
def aIf (t : ATT) (ta tb : ATE) : ATE := fun α h Q E => t α h (fun c h1 => if c = true then ta α h1 Q E else tb α h1 Q E) E
theorem ae_ifExp {c : Expr} (hc : AT X c tA) (ha : AE X a ta) (hb : AE X b tb) : AE X (.IfExp c a b pos) (aIf tA ta tb) :=
  AE.of (pe_ifExp hc.pt ha.pe hb.pe) fun σ H Qv ⟨α, h, q, E, rs, rh, tk, ht, k⟩ => lowT.then rs rh tk ht fun c H1 h1 m1 rh1 rs1 q1 => by
    cases c with
    | true => exact ⟨α, h1, q, E, rs1, rh1, tk.up m1, by rw [if_pos rfl] at q1; exact q1, fun v H' g => k _ _ (g.up m1)⟩
    | false => exact ⟨α, h1, q, E, rs1, rh1, tk.up m1, by rw [if_neg Bool.false_ne_true] at q1; exact q1, fun v H' g => k _ _ (g.up m1)⟩
/-- a < b < c -/
def aChain (rA rB : AR2) (ta tb tc : ATE) : ATE := fun α h Q E => ta α h (fun x h1 => tb α h1 (fun y h2 => rA x y h2 fun z h3 => match z with
  | .bl k => if k = true then tc α h3 (fun w h4 => rB y w h4 Q) E else Q (.bl false) h3
  | _ => False) E) E
/-! calls of built-ins, methods of built-in types, subscripts -/
variable {x : Str} {id T : String} {rs : List V → Hp → VK → Prop} {rAs : ARs}
theorem lowN (hr : OpN X.K rs rAs) {σ : L2.St} {H : Hp} {Qv : VK} (x : low X (aN rAs tr) σ H Qv) : tCB rs (lowA X tr) σ H Qv := by
  obtain ⟨α, h, q, E, rs, rh, tk, ht, k⟩ := x
  exact lowA.then rs rh tk ht fun v H1 x h1 m1 r1 rh1 rs1 q1 => hr H1 h1 v x q Qv r1 rh1 (fun z H' g => k _ _ (g.up m1)) q1
theorem ae_callB (hc : CallR X (.builtin id) rs) (hr : OpN X.K rs rAs) (hg : Gl X x) (hm : X.mg x = none) (hv : bootBuiltins x = some (.builtin id)) (ha : AAs X (e :: es) tr) (hn : x ≠ "__name__" := by decide) (hdb : (x == ("__debug__" : Str)) = false := by decide)
    (he : starEach (e :: es) X.env = (false, eval e X.env) :: starEach es X.env := by rfl) (hpl : (backTo pos (starEach es X.env)).any (·.1) = false := by rfl) : AE X (.Call (.Name x p) (e :: es) [] pos) (aN rAs tr) :=
  AE.of (pe_callB hc hg hm hv ha.pa hn hdb he hpl) fun _ _ _ x => lowN hr x
theorem ae_callTy (hc : CallR X (.type T) rs) (hr : OpN X.K rs rAs) (hg : Gl X x) (hm : X.mg x = none) (hv : bootBuiltins x = some (.type T)) (ha : AAs X (e :: es) tr) (hn : x ≠ "__name__" := by decide) (hdb : (x == ("__debug__" : Str)) = false := by decide)
    (he : starEach (e :: es) X.env = (false, eval e X.env) :: starEach es X.env := by rfl) (hpl : (backTo pos (starEach es X.env)).any (·.1) = false := by rfl) : AE X (.Call (.Name x p) (e :: es) [] pos) (aN rAs tr) :=
  AE.of (pe_callTy hc hg hm hv ha.pa hn hdb he hpl) fun _ _ _ x => lowN hr x
theorem ae_ix (hi : IxR X r) (hr : Op2 X.K r rA) (ha : AE X a ta) (hb : AE X b tb) (hs : PlainIx b) : AE X (.Subscript a b pos) (a2 rA ta tb) := AE.of (pe_ix hi ha.pe hb.pe hs) fun _ _ _ x => low2 hr x
/-- methods of built-in types: the object, then the arguments -/
def tyA (T : String) (x : A) (h : AH) : Prop := match x with
  | .str _ => T = "str"
  | .tup _ => T = "tuple"
  | .kt _ => T = "tuple"
  | .ref p => (T = "list" ∧ ∃ xs, h p = some (.lst xs)) ∨ (T = "dict" ∧ ((∃ xs, h p = some (.dK xs)) ∨ ∃ xs, h p = some (.dT xs)))
  | _ => False
end
end G
namespace G
open PySem PySem.Spec L2

/-! ### int operators -/
def iA (C : Int → Int → Prop) (g : Int → Int → A) : AR2 := fun x y h Q => match x, y with
  | .int i, .int j => C i j ∧ Q (g i j) h
  | _, _ => False
def iA0 (g : Int → Int → A) : AR2 := fun x y h Q => match x, y with
  | .int i, .int j => Q (g i j) h
  | _, _ => False
section
variable {K : Frg} {H : Hp} {h : AH} {a b : A} {x y : V} {Q : AVK}
theorem iA_inv {C : Int → Int → Prop} {g : Int → Int → A} (ra : RelA K H a x) (rb : RelA K H b y) (q : iA C g a b h Q) : ∃ i j, x = .int i ∧ y = .int j ∧ C i j ∧ Q (g i j) h := by
  cases ra with
  | int i => cases rb with
    | int j => exact ⟨i, j, rfl, rfl, q.1, q.2⟩
    | _ => exact (show False from q).elim
  | _ => cases rb <;> exact (show False from q).elim
theorem iA0_inv {g : Int → Int → A} (ra : RelA K H a x) (rb : RelA K H b y) (q : iA0 g a b h Q) : ∃ i j, x = .int i ∧ y = .int j ∧ Q (g i j) h := by
  cases ra with
  | int i => cases rb with
    | int j => exact ⟨i, j, rfl, rfl, q⟩
    | _ => exact (show False from q).elim
  | _ => cases rb <;> exact (show False from q).elim
end
theorem op2_I {K : Frg} {C : Int → Int → Prop} {g : Int → Int → V} {gA : Int → Int → A} (hg : ∀ H i j, RelA K H (gA i j) (g i j)) : Op2 K (rI C g) (iA C gA) := fun H h x y a b Q Qv ra rb rh k q => by
  obtain ⟨i, j, rfl, rfl, c, q⟩ := iA_inv ra rb q
  exact ⟨i, j, rfl, rfl, c, k _ _ ⟨gA i j, h, Mono.refl H, hg H i j, rh, q⟩⟩
theorem op2_I0 {K : Frg} {g : Int → Int → V} {gA : Int → Int → A} (hg : ∀ H i j, RelA K H (gA i j) (g i j)) : Op2 K (rI0 g) (iA0 gA) := fun H h x y a b Q Qv ra rb rh k q => by
  obtain ⟨i, j, rfl, rfl, q⟩ := iA0_inv ra rb q
  exact ⟨i, j, rfl, rfl, k _ _ ⟨gA i j, h, Mono.refl H, hg H i j, rh, q⟩⟩
abbrev subA : AR2 := iA0 fun i j => .int (i - j)
abbrev modA : AR2 := iA (fun _ j => j ≠ 0) fun i j => .int (i.fmod j)
abbrev modP : AR2 := iA (fun _ j => 0 < j) fun i j => .int (i % j)
abbrev divP : AR2 := iA CDivW fun i j => .int (i / j)
abbrev divN : AR2 := iA CDivN fun i j => .int (i.fdiv j)
abbrev powA : AR2 := iA CPow fun i j => .int (i ^ j.toNat)
abbrev ltA : AR2 := iA0 fun i j => .bl (decide (i < j))
abbrev leA : AR2 := iA0 fun i j => .bl (decide (i ≤ j))
abbrev gtA : AR2 := iA0 fun i j => .bl (decide (j < i))
abbrev geA : AR2 := iA0 fun i j => .bl (decide (j ≤ i))
theorem o_sub {K : Frg} : Op2 K (rI0 fun i j => .int (i - j)) subA := op2_I0 fun _ _ _ => .int _
theorem o_mod {K : Frg} : Op2 K (rI (fun _ j => j ≠ 0) fun i j => .int (i.fmod j)) modA := op2_I fun _ _ _ => .int _
theorem o_modP {K : Frg} : Op2 K (rI (fun _ j => 0 < j) fun i j => .int (i % j)) modP := op2_I fun _ _ _ => .int _
theorem o_divP {K : Frg} : Op2 K (rI CDivW fun i j => .int (i / j)) divP := op2_I fun _ _ _ => .int _
theorem o_divN {K : Frg} : Op2 K (rI CDivN fun i j => .int (i.fdiv j)) divN := op2_I fun _ _ _ => .int _
theorem o_pow {K : Frg} : Op2 K (rI CPow fun i j => .int (i ^ j.toNat)) powA := op2_I fun _ _ _ => .int _
theorem o_lt {K : Frg} : Op2 K (rI0 fun i j => .bl (decide (i < j))) ltA := op2_I0 fun _ _ _ => .bl _
theorem o_le {K : Frg} : Op2 K (rI0 fun i j => .bl (decide (i ≤ j))) leA := op2_I0 fun _ _ _ => .bl _
theorem o_gt {K : Frg} : Op2 K (rI0 fun i j => .bl (decide (j < i))) gtA := op2_I0 fun _ _ _ => .bl _
theorem o_ge {K : Frg} : Op2 K (rI0 fun i j => .bl (decide (j ≤ i))) geA := op2_I0 fun _ _ _ => .bl _
/-- floor division: by a positive number, or by a small one -/
def divA : AR2 := fun x y h Q => match x, y with
  | .int i, .int j => (CDivW i j ∧ Q (.int (i / j)) h) ∨ (CDivN i j ∧ Q (.int (i.fdiv j)) h)
  | _, _ => False
theorem Op2.or {K : Frg} {r r' : R2} {rA rB : AR2} (a : Op2 K r rA) (b : Op2 K r' rB) : Op2 K (fun x y H Q => r x y H Q ∨ r' x y H Q) (fun x y h Q => rA x y h Q ∨ rB x y h Q) := fun H h x y u v Q Qv ra rb rh k q =>
  q.elim (fun q => .inl (a H h x y u v Q Qv ra rb rh k q)) fun q => .inr (b H h x y u v Q Qv ra rb rh k q)
theorem o_div {K : Frg} : Op2 K (fun x y H Q => rI CDivW (fun i j => .int (i / j)) x y H Q ∨ rI CDivN (fun i j => .int (i.fdiv j)) x y H Q) divA := fun H h x y a b Q Qv ra rb rh k q => by
  cases ra with
  | int i => cases rb with
    | int j =>
      rcases (show (CDivW i j ∧ Q (.int (i / j)) h) ∨ (CDivN i j ∧ Q (.int (i.fdiv j)) h) from q) with q | q
      · exact .inl ⟨i, j, rfl, rfl, q.1, k _ _ ⟨_, h, Mono.refl H, .int _, rh, q.2⟩⟩
      · exact .inr ⟨i, j, rfl, rfl, q.1, k _ _ ⟨_, h, Mono.refl H, .int _, rh, q.2⟩⟩
    | _ => exact (show False from q).elim
  | _ => cases rb <;> exact (show False from q).elim
theorem opr_div {X : Cx} : OpR X (binaryOp .FloorDiv) (fun x y H Q => rI CDivW (fun i j => .int (i / j)) x y H Q ∨ rI CDivN (fun i j => .int (i.fdiv j)) x y H Q) := op_fdivW.or op_fdivN

/-! ### lists and tuples that stand -/
theorem RelH.lst {K : Frg} {H : Hp} {h : AH} {p : Addr} {xs : List A} (r : RelH K H h) (e : h p = some (.lst xs)) : ∃ vs, H p = some (.lst vs) ∧ RelAs K H xs vs := by
  obtain ⟨u, e', q⟩ := r p _ e
  cases q with
  | lst q => exact ⟨_, e', q⟩
/-- a list that may be read -/
abbrev LstA (h : AH) (p : Addr) (xs : List A) : Prop := h p = some (.lst xs)
theorem RelH.rd {K : Frg} {H : Hp} {h : AH} {p : Addr} {xs : List A} (r : RelH K H h) (e : LstA h p xs) : ∃ vs, SqL K H p vs ∧ RelAs K H xs vs := by
  obtain ⟨vs, e', q⟩ := r.lst e
  exact ⟨vs, .of e', q⟩
/-- what a flat key tuple holds -/
def keyV : Key → A
  | .inl i => .int i
  | .inr x => .str x
theorem rel_keyV {K : Frg} {H : Hp} (k : Key) : RelA K H (keyV k) (kV k) := by cases k <;> constructor
theorem rel_keysV {K : Frg} {H : Hp} : ∀ ks : List Key, RelAs K H (ks.map keyV) (ks.map kV)
  | [] => .nil
  | k :: ks => .cons (rel_keyV k) (rel_keysV ks)
/-- the items of a tuple value -/
def asT (x : A) (Q : List A → Prop) : Prop := match x with
  | .tup xs => Q xs
  | .kt ks => Q (ks.map keyV)
  | _ => False
theorem tup_of {K : Frg} {H : Hp} {x : A} {v : V} {Q : List A → Prop} (r : RelA K H x v) (q : asT x Q) : ∃ p xs vs, v = .ref p ∧ SqT K H p vs ∧ RelAs K H xs vs ∧ Q xs := by
  cases r with
  | @tup p xs vs h r => exact ⟨p, xs, vs, rfl, h.sq, r, q⟩
  | @kt p ks h => exact ⟨p, ks.map keyV, ks.map kV, rfl, SqT.of h, rel_keysV ks, q⟩
  | _ => exact (show False from q).elim

/-! ### + and * of all kinds -/
def addA : AR2 := fun x y h Q => match x, y with
  | .int i, .int j => Q (.int (i + j)) h
  | .str a, .str b => a.length + b.length ≤ sizeLine ∧ Q (.str (a ++ b)) h
  | .tup xs, .tup ys => (xs ≠ [] ∧ xs.length + ys.length ≤ sizeLine) ∧ Q (.tup (xs ++ ys)) h
  | .ref p, .ref q => ∃ xs ys, h p = some (.lst xs) ∧ h q = some (.lst ys) ∧ xs.length + ys.length ≤ sizeLine ∧ ∀ r, h r = none → Q (.ref r) (updA h r (.lst (xs ++ ys)))
  | _, _ => False
def rAddAll (K : Frg) : R2 := fun x y H Q => rI0 (fun i j => .int (i + j)) x y H Q ∨ (∃ i j, x = V.str i ∧ y = V.str j ∧ i.length + j.length ≤ sizeLine ∧ Q (.str (i ++ j)) H) ∨ rCatT K x y H Q ∨ rCat x y H Q
theorem opr_add {X : Cx} : OpR X (binaryOp .Add) (rAddAll X.K) := op_add.or (op_add_str.or (op_catT.or op_cat))
theorem o_add {K : Frg} : Op2 K (rAddAll K) addA := fun H h x y a b Q Qv ra rb rh k q => by
  cases ra with
  | int i => cases rb with
    | int j => exact .inl ⟨i, j, rfl, rfl, k _ _ ⟨_, h, Mono.refl H, .int _, rh, q⟩⟩
    | _ => exact (show False from q).elim
  | str i => cases rb with
    | str j =>
      obtain ⟨z, q⟩ := (show i.length + j.length ≤ sizeLine ∧ Q (.str (i ++ j)) h from q)
      exact .inr (.inl ⟨i, j, rfl, rfl, z, k _ _ ⟨_, h, Mono.refl H, .str _, rh, q⟩⟩)
    | _ => exact (show False from q).elim
  | @tup p xs vs e1 r1 => cases rb with
    | @tup p2 ys ws e2 r2 =>
      obtain ⟨⟨n, z⟩, q⟩ := (show (xs ≠ [] ∧ xs.length + ys.length ≤ sizeLine) ∧ Q (.tup (xs ++ ys)) h from q)
      have l1 := r1.len
      have l2 := r2.len
      refine .inr (.inr (.inl ⟨p, p2, vs, ws, rfl, rfl, e1.sq, e2.sq, fun z => ?_, by rw [← l1, ← l2]; exact z, fun z => ?_, fun _ p3 hp => ?_⟩))
      · subst z
        cases r1
        exact n rfl
      · subst z
        cases r2
        rw [List.append_nil] at q
        exact k _ _ ⟨_, h, Mono.refl H, .tup e1 r1, rh, q⟩
      · exact k _ _ ⟨_, h, Mono.new hp, .tup (.of upd_same) ((r1.app r2).up (Mono.new hp)), rh.skip hp, q⟩
    | _ => exact (show False from q).elim
  | ref p => cases rb with
    | ref p2 =>
      obtain ⟨xs, ys, e1, e2, z, q⟩ := (show ∃ xs ys, h p = some (.lst xs) ∧ h p2 = some (.lst ys) ∧ xs.length + ys.length ≤ sizeLine ∧ ∀ r, h r = none → Q (.ref r) (updA h r (.lst (xs ++ ys))) from q)
      obtain ⟨vs, f1, r1⟩ := rh.lst e1
      obtain ⟨ws, f2, r2⟩ := rh.lst e2
      refine .inr (.inr (.inr ⟨p, p2, vs, ws, rfl, rfl, f1, f2, by rw [← r1.len, ← r2.len]; exact z, fun r hr => ?_⟩))
      exact k _ _ ⟨_, _, Mono.new hr, .ref r, rh.new hr (.lst (r1.app r2)), q r (rh.free hr)⟩
    | _ => exact (show False from q).elim
  | _ => cases rb <;> exact (show False from q).elim
def mulA : AR2 := fun x y h Q => match x, y with
  | .int i, .int j => IntMulOk i j ∧ Q (.int (i * j)) h
  | .ref p, .int k => ∃ xs, h p = some (.lst xs) ∧ (-(2 ^ 63) ≤ k ∧ k < 2 ^ 63 ∧ xs.length * k.toNat ≤ sizeLine) ∧ ∀ r, h r = none → Q (.ref r) (updA h r (.lst (List.replicate k.toNat xs).flatten))
  | _, _ => False
def rMulAll : R2 := fun x y H Q => rI IntMulOk (fun i j => .int (i * j)) x y H Q ∨ rRep x y H Q
theorem opr_mul {X : Cx} : OpR X (binaryOp .Mult) rMulAll := (opI fun _ _ _ _ _ _ _ hc q => PyProof.Rows.mul_int q hc).or op_rep
theorem RelAs.rep {K : Frg} {H : Hp} {xs : List A} {vs : List V} (r : RelAs K H xs vs) : ∀ n, RelAs K H (List.replicate n xs).flatten (List.replicate n vs).flatten
  | 0 => .nil
  | n + 1 => by rw [List.replicate_succ, List.replicate_succ, List.flatten_cons, List.flatten_cons]; exact r.app (r.rep n)
theorem o_mul {K : Frg} : Op2 K rMulAll mulA := fun H h x y a b Q Qv ra rb rh k q => by
  cases ra with
  | int i => cases rb with
    | int j =>
      obtain ⟨z, q⟩ := (show IntMulOk i j ∧ Q (.int (i * j)) h from q)
      exact .inl ⟨i, j, rfl, rfl, z, k _ _ ⟨_, h, Mono.refl H, .int _, rh, q⟩⟩
    | _ => exact (show False from q).elim
  | ref p => cases rb with
    | int n =>
      obtain ⟨xs, e1, ⟨z1, z2, z3⟩, q⟩ := (show ∃ xs, h p = some (.lst xs) ∧ (-(2 ^ 63) ≤ n ∧ n < 2 ^ 63 ∧ xs.length * n.toNat ≤ sizeLine) ∧ ∀ r, h r = none → Q (.ref r) (updA h r (.lst (List.replicate n.toNat xs).flatten)) from q)
      obtain ⟨vs, f1, r1⟩ := rh.lst e1
      exact .inr ⟨p, n, vs, rfl, rfl, f1, z1, z2, by rw [← r1.len]; exact z3, fun r hr => k _ _ ⟨_, _, Mono.new hr, .ref r, rh.new hr (.lst (r1.rep _)), q r (rh.free hr)⟩⟩
    | _ => exact (show False from q).elim
  | _ => cases rb <;> exact (show False from q).elim
def negA : AR1 := fun x h Q => match x with
  | .int i => Q (.int (-i)) h
  | _ => False
theorem o_neg {K : Frg} : Op1 K (rU fun i => .int (-i)) negA := fun H h x a Q Qv ra rh k q => by
  cases ra with
  | int i => exact ⟨i, rfl, k _ _ ⟨_, h, Mono.refl H, .int _, rh, q⟩⟩
  | _ => exact (show False from q).elim

/-! ### subscripts: lists, tuples, dicts -/
def ixA : AR2 := fun x y h Q => match x, y with
  | .tup xs, .int i => match atI xs i with
    | some v => Q v h
    | none => False
  | .kt ks, .int i => match atI (ks.map keyV) i with
    | some v => Q v h
    | none => False
  | .fls xs, .int i => match atI xs i with
    | some v => Q v h
    | none => False
  | .ref p, .int i => ∃ xs v, LstA h p xs ∧ atI xs i = some v ∧ Q v h
  | _, _ => False
theorem ixN_len {n m : Nat} (e : n = m) (i : Int) : ixN n i = ixN m i := by rw [e]
theorem atI_rel {K : Frg} {H : Hp} {xs : List A} {vs : List V} {i : Int} {a : A} (r : RelAs K H xs vs) (e : atI xs i = some a) : ∃ v, atI vs i = some v ∧ RelA K H a v := by
  unfold atI at e ⊢
  rw [← r.len]
  cases q : ixN xs.length i with
  | none => rw [q] at e; simp at e
  | some j =>
    rw [q] at e
    obtain ⟨v, e', r'⟩ := r.get (i := j) (a := a) (by simpa using e)
    exact ⟨v, by simpa using e', r'⟩
def rIxAll (K : Frg) : R2 := fun x y H Q => rIxL K x y H Q ∨ rIxT K x y H Q
theorem ixr_all {X : Cx} : IxR X (rIxAll X.K) := ix_list.or ix_tup
theorem o_ix {K : Frg} : Op2 K (rIxAll K) ixA := fun H h x y a b Q Qv ra rb rh k q => by
  cases ra with
  | @tup p xs vs e1 r1 => cases rb with
    | int i =>
      cases e : atI xs i with
      | none =>
        have q' : (match atI xs i with
          | some v => Q v h
          | none => False) := q
        rw [e] at q'
        exact q'.elim
      | some w =>
        have q' : (match atI xs i with
          | some v => Q v h
          | none => False) := q
        rw [e] at q'
        obtain ⟨v, e', r'⟩ := atI_rel r1 e
        exact .inr ⟨p, vs, i, v, rfl, rfl, e1.sq, e', k _ _ ⟨_, h, Mono.refl H, r', rh, q'⟩⟩
    | _ => exact (show False from q).elim
  | @fls p xs vs e1 r1 => cases rb with
    | int i =>
      have q' : (match atI xs i with
          | some v => Q v h
          | none => False) := q
      cases e : atI xs i with
      | none => rw [e] at q'; exact q'.elim
      | some w =>
        rw [e] at q'
        obtain ⟨v, e', r'⟩ := atI_rel r1 e
        exact .inl ⟨p, vs, i, v, rfl, rfl, e1.sq, e', k _ _ ⟨_, h, Mono.refl H, r', rh, q'⟩⟩
    | _ => exact (show False from q).elim
  | @kt p ks e1 => cases rb with
    | int i =>
      have q' : (match atI (ks.map keyV) i with
          | some v => Q v h
          | none => False) := q
      cases e : atI (ks.map keyV) i with
      | none => rw [e] at q'; exact q'.elim
      | some w =>
        rw [e] at q'
        obtain ⟨v, e', r'⟩ := atI_rel (rel_keysV (K := K) (H := H) ks) e
        exact .inr ⟨p, _, i, v, rfl, rfl, SqT.of e1, e', k _ _ ⟨_, h, Mono.refl H, r', rh, q'⟩⟩
    | _ => exact (show False from q).elim
  | ref p => cases rb with
    | int i =>
      obtain ⟨xs, v, e1, e, q⟩ := (show ∃ xs v, LstA h p xs ∧ atI xs i = some v ∧ Q v h from q)
      obtain ⟨vs, f1, r1⟩ := rh.rd e1
      obtain ⟨w, e', r'⟩ := atI_rel r1 e
      exact .inl ⟨p, vs, i, w, rfl, rfl, f1, e', k _ _ ⟨_, h, Mono.refl H, r', rh, q⟩⟩
    | _ => exact (show False from q).elim
  | _ => cases rb <;> exact (show False from q).elim

/-! ### == over data -/
mutual
inductive DatA (h : AH) : A → PyData → Prop
  | non : DatA h .non .none
  | bl (b : Bool) : DatA h (.bl b) (.bool b)
  | int (i : Int) : DatA h (.int i) (.int i)
  | str (x : Str) : DatA h (.str x) (.str x)
  | tup {xs : List A} {ds : List PyData} : DatAs h xs ds → DatA h (.tup xs) (.tuple ds)
  | kt {ks : List Key} {ds : List PyData} : DatAs h (ks.map keyV) ds → DatA h (.kt ks) (.tuple ds)
  | lst {p : Addr} {xs : List A} {ds : List PyData} : LstA h p xs → DatAs h xs ds → DatA h (.ref p) (.list ds)
inductive DatAs (h : AH) : List A → List PyData → Prop
  | nil : DatAs h [] []
  | cons {a : A} {as : List A} {d : PyData} {ds : List PyData} : DatA h a d → DatAs h as ds → DatAs h (a :: as) (d :: ds)
end
section
variable {K : Frg} {H : Hp} {h : AH}
mutual
theorem DatA.dp (rh : RelH K H h) : ∀ (d : PyData) (a : A) (v : V), DatA h a d → RelA K H a v → Dp K H v d
  | .none, _, _, q, r => by cases q; cases r; exact .non
  | .bool _, _, _, q, r => by cases q; cases r; exact .bl _
  | .int _, _, _, q, r => by cases q; cases r; exact .int _
  | .str _, _, _, q, r => by cases q; cases r; exact .str _
  | .tuple ds, _, _, q, r => by
    cases q with
    | tup q => cases r with
      | tup e r => exact .tup e.sq (DatAs.dp rh ds _ _ q r)
    | kt q => cases r with
      | kt e => exact .tup (SqT.of e) (DatAs.dp rh ds _ _ q (rel_keysV _))
  | .list ds, _, _, q, r => by
    cases q with
    | lst e q =>
      cases r with
      | ref =>
        obtain ⟨vs, f, r'⟩ := rh.rd e
        exact .lst f (DatAs.dp rh ds _ _ q r')
  | .dict _, _, _, q, _ => by cases q
theorem DatAs.dp (rh : RelH K H h) : ∀ (ds : List PyData) (as : List A) (vs : List V), DatAs h as ds → RelAs K H as vs → DpAll K H vs ds
  | [], _, _, q, r => by cases q; cases r; exact .nil
  | d :: ds, _, _, q, r => by
    cases q with
    | cons q1 q2 => cases r with
      | cons r1 r2 => exact .cons (DatA.dp rh d _ _ q1 r1) (DatAs.dp rh ds _ _ q2 r2)
end
end
def nb (neg b : Bool) : Bool := match neg with
  | true => !b
  | false => b
def flatA : A → Bool
  | .non => true
  | .bl _ => true
  | .int _ => true
  | .str _ => true
  | _ => false
theorem flatA_rel {K : Frg} {H : Hp} {a : A} {v : V} (r : RelA K H a v) (f : flatA a = true) : flatV v = true := by cases r <;> first | rfl | (simp [flatA] at f)
/-! the same: of the same shape, or the same object -/
def SeqR (K : Frg) (H : Hp) (F : V → V → Prop) (x y : V) : Prop :=
  (∃ a b xs ys, x = .ref a ∧ y = .ref b ∧ SqL K H a xs ∧ SqL K H b ys ∧ Paired F xs ys) ∨
    ∃ a b xs ys, x = .ref a ∧ y = .ref b ∧ SqT K H a xs ∧ SqT K H b ys ∧ Paired F xs ys
def EqS (K : Frg) (H : Hp) : Nat → V → V → Prop
  | 0 => fun _ _ => False
  | n + 1 => fun x y => (x = y ∧ flatB x = true) ∨ (∃ a, x = .ref a ∧ y = .ref a) ∨ SeqR K H (EqS K H n) x y
section
variable {X : Cx} {pins : List (Addr × Obj)} {σ : L2.St} {H : Hp} {s : Shared}
theorem items_at {A : Around} {F : V → V → Prop} (ih : ∀ x y v u, F x y → RelV x v → RelV y u → SeqAt.EqAt A s v u true) {xs ys : List V} (hp : Paired F xs ys) :
    ∀ {us ws : List Value}, Vals xs us → Vals ys ws → ∀ j (h1 : j < us.length) (h2 : j < ws.length), SeqAt.EqAt A s us[j] ws[j] true := by
  induction hp with
  | nil =>
    intro us ws r1 r2 j h1 h2
    cases r1
    exact absurd h1 (Nat.not_lt_zero j)
  | cons h _ k =>
    intro us ws r1 r2 j h1 h2
    cases r1 with
    | cons a1 b1 =>
      cases r2 with
      | cons a2 b2 =>
        cases j with
        | zero => exact ih _ _ _ _ h a1 a2
        | succ j => exact k b1 b2 j (Nat.lt_of_succ_lt_succ h1) (Nat.lt_of_succ_lt_succ h2)
theorem all_true (n : Nat) : ((List.range n).all fun _ => true) = true := List.all_eq_true.mpr fun _ _ => rfl
theorem eqS_run (I : Inv X pins σ H s) : ∀ (n : Nat) (A : Around), A.units + n < cLine → ∀ (x y : V) (v u : Value), EqS X.K H n x y → RelV x v → RelV y u → SeqAt.EqAt A s v u true
  | 0, _, _, _, _, _, _, h, _, _ => (show False from h).elim
  | n + 1, A, hu, x, y, v, u, h, rx, ry => by
    rcases h with ⟨rfl, f⟩ | ⟨a, rfl, rfl⟩ | h
    · exact eqAt_same rx ry f
    · cases (show v = Value.ref a from rx)
      cases (show u = Value.ref a from ry)
      exact SeqAt.EqAt.same _
    · have ih : ∀ x y v u, EqS X.K H n x y → RelV x v → RelV y u → SeqAt.EqAt A.in1 s v u true := eqS_run I n A.in1 (by show A.units + 1 + n < cLine; omega)
      rcases h with ⟨a, b, xs, ys, rfl, rfl, ha, hb, hp⟩ | ⟨a, b, xs, ys, rfl, rfl, ha, hb, hp⟩
      · cases (show v = Value.ref a from rx)
        cases (show u = Value.ref b from ry)
        by_cases e : a = b
        · subst e; exact SeqAt.EqAt.same _
        obtain ⟨us, r1, p1, _⟩ := I.list ha
        obtain ⟨ws, r2, p2, _⟩ := I.list hb
        have hsz : us.toArray.size = ws.toArray.size := by
          rw [List.size_toArray, List.size_toArray, ← r1.length, ← r2.length]
          exact Paired.length hp
        have z := SeqAt.RcAt.lists (e := fun _ => true) p1.isList p2.isList hsz (by omega : A.units < cLine) fun j h1 h2 => by
          have k := items_at ih hp r1 r2 j (by simpa using h1) (by simpa using h2)
          simpa using k
        rw [all_true] at z
        exact SeqAt.EqAt.of_refs e z
      · cases (show v = Value.ref a from rx)
        cases (show u = Value.ref b from ry)
        by_cases e : a = b
        · subst e; exact SeqAt.EqAt.same _
        obtain ⟨us, r1, p1, _⟩ := I.tuple ha
        obtain ⟨ws, r2, p2, _⟩ := I.tuple hb
        have hsz : us.toArray.size = ws.toArray.size := by
          rw [List.size_toArray, List.size_toArray, ← r1.length, ← r2.length]
          exact Paired.length hp
        have z := SeqAt.RcAt.tuples (e := fun _ => true) (show s.heap.IsTuple a us.toArray from p1) (show s.heap.IsTuple b ws.toArray from p2) (by omega : A.units < cLine) fun j h1 h2 => by
          have k := items_at ih hp r1 r2 j (by simpa using h1) (by simpa using h2)
          simpa using k
        rw [all_true, hsz, beq_self_eq_true, Bool.and_self] at z
        exact SeqAt.EqAt.of_refs e z
end
def rEqS (K : Frg) (neg : Bool) : R2 := fun x y H Q => ∃ n, n ≤ 60 ∧ SeqR K H (EqS K H n) x y ∧ Q (.bl (!neg)) H
theorem op_eqS {X : Cx} (hu : X.A.units + 64 < cLine) : OpR X (compareOp .Eq) (rEqS X.K false) := by
  intro pins s σ H x y v u Q I rx ry h
  obtain ⟨n, hn, h, q⟩ := h
  have ih : ∀ x y v u, EqS X.K H n x y → RelV x v → RelV y u → SeqAt.EqAt X.A.in1 s v u true := eqS_run I n X.A.in1 (by show X.A.units + 1 + n < cLine; omega)
  rcases h with ⟨a, b, xs, ys, rfl, rfl, ha, hb, hp⟩ | ⟨a, b, xs, ys, rfl, rfl, ha, hb, hp⟩
  · cases (show v = Value.ref a from rx)
    cases (show u = Value.ref b from ry)
    obtain ⟨us, r1, p1, _⟩ := I.list ha
    obtain ⟨ws, r2, p2, _⟩ := I.list hb
    have hsz : us.toArray.size = ws.toArray.size := by
      rw [List.size_toArray, List.size_toArray, ← r1.length, ← r2.length]
      exact Paired.length hp
    have z := SeqAt.RcAt.lists (e := fun _ => true) p1.isList p2.isList hsz (by omega : X.A.units < cLine) fun j h1 h2 => by
      have k := items_at ih hp r1 r2 j (by simpa using h1) (by simpa using h2)
      simpa using k
    rw [all_true] at z
    exact z _ _ _ _ ⟨.bl true, H, I, rfl, q⟩
  · cases (show v = Value.ref a from rx)
    cases (show u = Value.ref b from ry)
    obtain ⟨us, r1, p1, _⟩ := I.tuple ha
    obtain ⟨ws, r2, p2, _⟩ := I.tuple hb
    have hsz : us.toArray.size = ws.toArray.size := by
      rw [List.size_toArray, List.size_toArray, ← r1.length, ← r2.length]
      exact Paired.length hp
    have z := SeqAt.RcAt.tuples (e := fun _ => true) (show s.heap.IsTuple a us.toArray from p1) (show s.heap.IsTuple b ws.toArray from p2) (by omega : X.A.units < cLine) fun j h1 h2 => by
      have k := items_at ih hp r1 r2 j (by simpa using h1) (by simpa using h2)
      simpa using k
    rw [all_true, hsz, beq_self_eq_true, Bool.and_self] at z
    exact z _ _ _ _ ⟨.bl true, H, I, rfl, q⟩
theorem op_neS {X : Cx} (hu : X.A.units + 64 < cLine) : OpR X (compareOp .NotEq) (rEqS X.K true) := by
  intro pins s σ H x y v u Q I rx ry h
  obtain ⟨n, hn, h, q⟩ := h
  have ih : ∀ x y v u, EqS X.K H n x y → RelV x v → RelV y u → SeqAt.EqAt X.A.in1 s v u true := eqS_run I n X.A.in1 (by show X.A.units + 1 + n < cLine; omega)
  rcases h with ⟨a, b, xs, ys, rfl, rfl, ha, hb, hp⟩ | ⟨a, b, xs, ys, rfl, rfl, ha, hb, hp⟩
  · cases (show v = Value.ref a from rx)
    cases (show u = Value.ref b from ry)
    obtain ⟨us, r1, p1, _⟩ := I.list ha
    obtain ⟨ws, r2, p2, _⟩ := I.list hb
    have hsz : us.toArray.size = ws.toArray.size := by
      rw [List.size_toArray, List.size_toArray, ← r1.length, ← r2.length]
      exact Paired.length hp
    have z := SeqAt.RcNeAt.lists (e := fun _ => true) p1.isList p2.isList hsz (by omega : X.A.units < cLine) fun j h1 h2 => by
      have k := items_at ih hp r1 r2 j (by simpa using h1) (by simpa using h2)
      simpa using k
    rw [all_true] at z
    exact z _ _ _ _ ⟨.bl false, H, I, rfl, q⟩
  · cases (show v = Value.ref a from rx)
    cases (show u = Value.ref b from ry)
    obtain ⟨us, r1, p1, _⟩ := I.tuple ha
    obtain ⟨ws, r2, p2, _⟩ := I.tuple hb
    have hsz : us.toArray.size = ws.toArray.size := by
      rw [List.size_toArray, List.size_toArray, ← r1.length, ← r2.length]
      exact Paired.length hp
    have z := SeqAt.RcNeAt.tuples (e := fun _ => true) (show s.heap.IsTuple a us.toArray from p1) (show s.heap.IsTuple b ws.toArray from p2) (by omega : X.A.units < cLine) fun j h1 h2 => by
      have k := items_at ih hp r1 r2 j (by simpa using h1) (by simpa using h2)
      simpa using k
    rw [all_true, hsz, beq_self_eq_true, Bool.and_self] at z
    exact z _ _ _ _ ⟨.bl false, H, I, rfl, q⟩
def SamR (h : AH) (F : A → A → Prop) (x y : A) : Prop :=
  (∃ a b xs ys, x = .ref a ∧ y = .ref b ∧ LstA h a xs ∧ LstA h b ys ∧ Paired F xs ys) ∨ ∃ xs ys, x = .tup xs ∧ y = .tup ys ∧ Paired F xs ys
def SamA (h : AH) : Nat → A → A → Prop
  | 0 => fun _ _ => False
  | n + 1 => fun x y => (x = y ∧ flatA x = true) ∨ (∃ a, x = .ref a ∧ y = .ref a) ∨ SamR h (SamA h n) x y
section
variable {K : Frg} {H : Hp} {h : AH}
theorem sam_all {F : A → A → Prop} {G : V → V → Prop} (ih : ∀ x y v u, F x y → RelA K H x v → RelA K H y u → G v u) {xs ys : List A} (hp : Paired F xs ys) : ∀ {vs us : List V}, RelAs K H xs vs → RelAs K H ys us → Paired G vs us := by
  induction hp with
  | nil =>
    intro vs us r1 r2
    cases r1
    cases r2
    exact .nil
  | cons h _ k =>
    intro vs us r1 r2
    cases r1 with
    | cons a1 b1 => cases r2 with
      | cons a2 b2 => exact .cons (ih _ _ _ _ h a1 a2) (k b1 b2)
theorem samR_rel (rh : RelH K H h) {F : A → A → Prop} {G : V → V → Prop} (ih : ∀ x y v u, F x y → RelA K H x v → RelA K H y u → G v u) {x y : A} {v u : V} (s : SamR h F x y) (rx : RelA K H x v) (ry : RelA K H y u) : SeqR K H G v u := by
  rcases s with ⟨a, b, xs, ys, rfl, rfl, ha, hb, hp⟩ | ⟨xs, ys, rfl, rfl, hp⟩
  · cases rx
    cases ry
    obtain ⟨vs, e1, r1⟩ := rh.rd ha
    obtain ⟨us, e2, r2⟩ := rh.rd hb
    exact .inl ⟨a, b, vs, us, rfl, rfl, e1, e2, sam_all ih hp r1 r2⟩
  · cases rx with
    | tup e1 r1 => cases ry with
      | tup e2 r2 => exact .inr ⟨_, _, _, _, rfl, rfl, e1.sq, e2.sq, sam_all ih hp r1 r2⟩
theorem samA_rel (rh : RelH K H h) : ∀ (n : Nat) (x y : A) (v u : V), SamA h n x y → RelA K H x v → RelA K H y u → EqS K H n v u
  | 0, _, _, _, _, s, _, _ => (show False from s).elim
  | n + 1, x, y, v, u, s, rx, ry => by
    rcases s with ⟨rfl, f⟩ | ⟨a, rfl, rfl⟩ | s
    · refine .inl ?_
      cases rx <;> cases ry <;> first | exact ⟨rfl, rfl⟩ | (simp [flatA] at f; done)
    · cases rx
      cases ry
      exact .inr (.inl ⟨a, rfl, rfl⟩)
    · exact .inr (.inr (samR_rel rh (samA_rel rh n) s rx ry))
end
def eqA (neg : Bool) : AR2 := fun x y h Q => match x, y with
  | .int i, .int j => Q (.bl (nb neg (decide (i = j)))) h
  | .str a, .str b => Q (.bl (nb neg (decide (a = b)))) h
  | x, y => (∃ d e, DatA h x d ∧ DatA h y e ∧ SeqAt.shaped d = true ∧ SeqAt.shaped e = true ∧ Q (.bl (nb neg (PyData.eqv d e))) h) ∨ ∃ n, n ≤ 60 ∧ SamR h (SamA h n) x y ∧ Q (.bl (!neg)) h
def rEqAll (K : Frg) : R2 := fun x y H Q => rEq x y H Q ∨ rEqD K x y H Q ∨ rEqS K false x y H Q
def rNeAll (K : Frg) : R2 := fun x y H Q => rNe x y H Q ∨ rNeD K x y H Q ∨ rEqS K true x y H Q
theorem opr_eq {X : Cx} (hu : X.A.units + 64 < cLine) : OpR X (compareOp .Eq) (rEqAll X.K) := op_eq.or ((op_eqD hu).or (op_eqS hu))
theorem opr_ne {X : Cx} (hu : X.A.units + 64 < cLine) : OpR X (compareOp .NotEq) (rNeAll X.K) := op_ne.or ((op_neD hu).or (op_neS hu))
theorem eqA_inv {K : Frg} {H : Hp} {h : AH} {a b : A} {x y : V} {Q : AVK} {neg : Bool} (rh : RelH K H h) (ra : RelA K H a x) (rb : RelA K H b y) (q : eqA neg a b h Q) :
    (scal x y = true ∧ Q (.bl (nb neg (decide (x = y)))) h) ∨ (∃ d e, Dp K H x d ∧ Dp K H y e ∧ SeqAt.shaped d = true ∧ SeqAt.shaped e = true ∧ Q (.bl (nb neg (PyData.eqv d e))) h) ∨
      ∃ n, n ≤ 60 ∧ SeqR K H (EqS K H n) x y ∧ Q (.bl (!neg)) h := by
  have gen : ((∃ d e, DatA h a d ∧ DatA h b e ∧ SeqAt.shaped d = true ∧ SeqAt.shaped e = true ∧ Q (.bl (nb neg (PyData.eqv d e))) h) ∨ ∃ n, n ≤ 60 ∧ SamR h (SamA h n) a b ∧ Q (.bl (!neg)) h) →
      (∃ d e, Dp K H x d ∧ Dp K H y e ∧ SeqAt.shaped d = true ∧ SeqAt.shaped e = true ∧ Q (.bl (nb neg (PyData.eqv d e))) h) ∨ ∃ n, n ≤ 60 ∧ SeqR K H (EqS K H n) x y ∧ Q (.bl (!neg)) h := fun z => by
    rcases z with ⟨d, e, hd, he, sd, se, q⟩ | ⟨n, hn, s, q⟩
    · exact .inl ⟨d, e, DatA.dp rh d a x hd ra, DatA.dp rh e b y he rb, sd, se, q⟩
    · exact .inr ⟨n, hn, samR_rel rh (samA_rel rh n) s ra rb, q⟩
  cases ra with
  | int i => cases rb with
    | int j =>
      refine .inl ⟨rfl, ?_⟩
      have e : decide (V.int i = V.int j) = decide (i = j) := by by_cases z : i = j <;> simp [z]
      rw [e]
      exact q
    | _ => exact .inr (gen q)
  | str i => cases rb with
    | str j =>
      refine .inl ⟨rfl, ?_⟩
      have e : decide (V.str i = V.str j) = decide (i = j) := by by_cases z : i = j <;> simp [z]
      rw [e]
      exact q
    | _ => exact .inr (gen q)
  | _ => exact .inr (gen q)
theorem o_eq {K : Frg} : Op2 K (rEqAll K) (eqA false) := fun H h x y a b Q Qv ra rb rh k q => by
  rcases eqA_inv rh ra rb q with ⟨s, q⟩ | ⟨d, e, hd, he, sd, se, q⟩ | ⟨n, hn, s, q⟩
  · exact .inl ⟨s, k _ _ ⟨_, h, Mono.refl H, .bl _, rh, q⟩⟩
  · exact .inr (.inl ⟨d, e, hd, he, sd, se, k _ _ ⟨_, h, Mono.refl H, .bl _, rh, q⟩⟩)
  · exact .inr (.inr ⟨n, hn, s, k _ _ ⟨_, h, Mono.refl H, .bl _, rh, q⟩⟩)
theorem o_ne {K : Frg} : Op2 K (rNeAll K) (eqA true) := fun H h x y a b Q Qv ra rb rh k q => by
  rcases eqA_inv rh ra rb q with ⟨s, q⟩ | ⟨d, e, hd, he, sd, se, q⟩ | ⟨n, hn, s, q⟩
  · exact .inl ⟨s, k _ _ ⟨_, h, Mono.refl H, .bl _, rh, q⟩⟩
  · exact .inr (.inl ⟨d, e, hd, he, sd, se, k _ _ ⟨_, h, Mono.refl H, .bl _, rh, q⟩⟩)
  · exact .inr (.inr ⟨n, hn, s, k _ _ ⟨_, h, Mono.refl H, .bl _, rh, q⟩⟩)
/-- x is None -/
def isNonA (neg : Bool) : AR2 := fun x y h Q => match y with
  | .non => Q (.bl (match x with
    | .non => !neg
    | _ => neg)) h
  | _ => False
theorem o_isN {K : Frg} : Op2 K (fun x y H Q => y = .non ∧ Q (.bl (decide (x = .non))) H) (isNonA false) := fun H h x y a b Q Qv ra rb rh k q => by
  cases rb with
  | non =>
    refine ⟨rfl, k _ _ ⟨_, h, Mono.refl H, .bl _, rh, ?_⟩⟩
    cases ra <;> exact q
  | _ => exact (show False from q).elim
theorem o_notN {K : Frg} : Op2 K (fun x y H Q => y = .non ∧ Q (.bl (!decide (x = .non))) H) (isNonA true) := fun H h x y a b Q Qv ra rb rh k q => by
  cases rb with
  | non =>
    refine ⟨rfl, k _ _ ⟨_, h, Mono.refl H, .bl _, rh, ?_⟩⟩
    cases ra <;> exact q
  | _ => exact (show False from q).elim
/-! ### in: lists and tuples of flat things -/
def eqFA : A → A → Bool
  | .non, .non => true
  | .bl a, .bl b => a == b
  | .bl a, .int b => (if a then 1 else 0) == b
  | .int a, .bl b => a == (if b then 1 else 0)
  | .int a, .int b => a == b
  | .str a, .str b => a == b
  | _, _ => false
def inA (x : A) (xs : List A) : Bool := xs.any fun y => eqFA y x
theorem eqFA_rel {K : Frg} {H : Hp} {a b : A} {v w : V} (r : RelA K H a v) (r' : RelA K H b w) (f : flatA a = true) (f' : flatA b = true) : eqV v w = eqFA a b := by
  cases r <;> cases r' <;> first | rfl | (simp [flatA] at f; done) | (simp [flatA] at f'; done)
theorem flatAs_rel {K : Frg} {H : Hp} : ∀ {as : List A} {vs : List V}, RelAs K H as vs → as.all flatA = true → vs.all flatV = true
  | _, _, .nil, _ => rfl
  | _, _, .cons r t, f => by
    rw [List.all_cons, Bool.and_eq_true] at f ⊢
    exact ⟨flatA_rel r f.1, flatAs_rel t f.2⟩
theorem inA_rel {K : Frg} {H : Hp} {b : A} {w : V} (r' : RelA K H b w) (f' : flatA b = true) : ∀ {as : List A} {vs : List V}, RelAs K H as vs → as.all flatA = true → inV w vs = inA b as
  | _, _, .nil, _ => rfl
  | _, _, .cons r t, f => by
    rw [List.all_cons, Bool.and_eq_true] at f
    unfold inV inA
    rw [List.any_cons, List.any_cons, eqFA_rel r r' f.1 f']
    have := inA_rel r' f' t f.2
    unfold inV inA at this
    rw [this]
def inSA (neg : Bool) : AR2 := fun x y h Q => match y with
  | .ref p => ∃ xs, LstA h p xs ∧ (flatA x = true ∧ xs.all flatA = true) ∧ Q (.bl (nb neg (inA x xs))) h
  | y => asT y fun xs => (flatA x = true ∧ xs.all flatA = true) ∧ Q (.bl (nb neg (inA x xs))) h
theorem o_in {K : Frg} (neg : Bool) : Op2 K (rIn K neg) (inSA neg) := fun H h x y a b Q Qv ra rb rh k q => by
  have fin : ∀ {p : Addr} {xs : List A} {vs : List V}, y = .ref p → (SqL K H p vs ∨ SqT K H p vs) → RelAs K H xs vs → (flatA a = true ∧ xs.all flatA = true) → Q (.bl (nb neg (inA a xs))) h → rIn K neg x y H Qv :=
    fun {p xs vs} ey e r f q => ⟨p, vs, ey, e, flatA_rel ra f.1, flatAs_rel r f.2, k _ _ ⟨_, h, Mono.refl H, .bl _, rh, by rw [inA_rel ra f.1 r f.2]; cases neg <;> exact q⟩⟩
  cases rb with
  | ref p =>
    obtain ⟨xs, e, f, q⟩ := (show ∃ xs, LstA h p xs ∧ (flatA a = true ∧ xs.all flatA = true) ∧ Q (.bl (nb neg (inA a xs))) h from q)
    obtain ⟨vs, e', r⟩ := rh.rd e
    exact fin rfl (.inl e') r f q
  | @tup p xs vs e r => exact fin rfl (.inr e.sq) r q.1 q.2
  | @kt p ks e => exact fin rfl (.inr (SqT.of e)) (rel_keysV ks) q.1 q.2
  | _ => exact (show False from q).elim
end G
namespace G
open PySem PySem.Spec L2

/-! ### statements -/
structure AEnds where
  nx : ASt → AH → Prop
  rt : AVK
  bk : ASt → AH → Prop := fun _ _ => False
  ct : ASt → AH → Prop := fun _ _ => False
  ex : AX := fun _ _ _ => False
abbrev ATS := AEnds → ASt → AH → Prop
def lowD (K : Frg) (H : Hp) (D : AEnds) : Ends := { nx := LN K H D.nx, rt := LQ K H D.rt, bk := LN K H D.bk, ct := LN K H D.ct }
structure AS (X : Cx) (st : Stmt) (t : ATS) : Prop where
  run : ∀ (pins : List (Addr × Obj)) (s : Shared) (σ : L2.St) (H : Hp) (α : ASt) (h : AH) (D : AEnds), Inv X pins σ H s → RelS X.K H α σ → RelH X.K H h → TakesS X H D.ex → t D α h →
    wpAny (model X.prog X.w) X.A (exec st X.env) (SP X pins (lowD X.K H D)) X.xe s
structure ASs (X : Cx) (st : List Stmt) (t : ATS) : Prop where
  run : ∀ (pins : List (Addr × Obj)) (s : Shared) (σ : L2.St) (H : Hp) (α : ASt) (h : AH) (D : AEnds), Inv X pins σ H s → RelS X.K H α σ → RelH X.K H h → TakesS X H D.ex → t D α h →
    wpAny (model X.prog X.w) X.A (execs st X.env) (SP X pins (lowD X.K H D)) X.xe s
/-- ends that are reached from H by the abstract ends -/
structure Reach (K : Frg) (H : Hp) (DA : AEnds) (D : Ends) : Prop where
  nx : ∀ σ' H', LN K H DA.nx σ' H' → D.nx σ' H'
  rt : ∀ v H', LQ K H DA.rt v H' → D.rt v H'
  bk : ∀ σ' H', LN K H DA.bk σ' H' → D.bk σ' H'
  ct : ∀ σ' H', LN K H DA.ct σ' H' → D.ct σ' H'
theorem Reach.self {K : Frg} {H : Hp} {DA : AEnds} : Reach K H DA (lowD K H DA) := ⟨fun _ _ z => z, fun _ _ z => z, fun _ _ z => z, fun _ _ z => z⟩
theorem Reach.up {K : Frg} {H H' : Hp} {DA : AEnds} {D : Ends} (r : Reach K H DA D) (m : Mono H H') : Reach K H' DA D := ⟨fun _ _ z => r.nx _ _ (z.up m), fun _ _ z => r.rt _ _ (z.up m), fun _ _ z => r.bk _ _ (z.up m), fun _ _ z => r.ct _ _ (z.up m)⟩
theorem SP.imp {X : Cx} {pins : List (Addr × Obj)} {D D' : Ends} {f : Flow} {s : Shared} (h : SP X pins D f s) (n : ∀ σ H, D.nx σ H → D'.nx σ H) (r : ∀ v H, D.rt v H → D'.rt v H) (b : ∀ σ H, D.bk σ H → D'.bk σ H) (c : ∀ σ H, D.ct σ H → D'.ct σ H) : SP X pins D' f s := by
  cases f with
  | next => obtain ⟨σ', H', I', q⟩ := h; exact ⟨σ', H', I', n _ _ q⟩
  | brk => obtain ⟨σ', H', I', q⟩ := h; exact ⟨σ', H', I', b _ _ q⟩
  | cont => obtain ⟨σ', H', I', q⟩ := h; exact ⟨σ', H', I', c _ _ q⟩
  | ret u => obtain ⟨v, σ', H', I', rv, q⟩ := h; exact ⟨v, σ', H', I', rv, r _ _ q⟩
def lowS (X : Cx) (t : ATS) : TS := fun D σ H => ∃ α h DA, RelS X.K H α σ ∧ RelH X.K H h ∧ TakesS X H DA.ex ∧ t DA α h ∧ Reach X.K H DA D
section
variable {X : Cx} {st : Stmt} {rest sts : List Stmt} {t u : ATS} {e a b : Expr} {pos : Pos} {te ta tb : ATE}
theorem AS.ps (a : AS X st t) : PS X st (lowS X t) := ⟨fun pins s σ H D I ⟨α, h, DA, rs, rh, tk, ht, k⟩ => thn (a.run pins s σ H α h DA I rs rh tk ht) fun f s' q => SP.imp q k.nx k.rt k.bk k.ct⟩
theorem ASs.pss (a : ASs X sts t) : PSs X sts (lowS X t) := ⟨fun pins s σ H D I ⟨α, h, DA, rs, rh, tk, ht, k⟩ => thn (a.run pins s σ H α h DA I rs rh tk ht) fun f s' q => SP.imp q k.nx k.rt k.bk k.ct⟩
theorem AS.of {t' : TS} (p : PS X st t') (k : ∀ D σ H, lowS X t D σ H → t' D σ H) : AS X st t := ⟨fun pins s σ H α h D I rs rh tk ht => p.run pins s σ H _ I (k _ _ _ ⟨α, h, D, rs, rh, tk, ht, .self⟩)⟩
theorem ASs.of {t' : TS} (p : PSs X sts t') (k : ∀ D σ H, lowS X t D σ H → t' D σ H) : ASs X sts t := ⟨fun pins s σ H α h D I rs rh tk ht => p.run pins s σ H _ I (k _ _ _ ⟨α, h, D, rs, rh, tk, ht, .self⟩)⟩
def aNext : ATS := fun D α h => D.nx α h
def aSeq (t u : ATS) : ATS := fun D α h => t { D with nx := u D } α h
theorem ass_nil : ASs X [] aNext := .of pss_nil fun D σ H ⟨α, h, DA, rs, rh, tk, ht, k⟩ => k.nx _ _ ⟨α, h, Mono.refl H, rs, rh, ht⟩
theorem ass_cons (h1 : AS X st t) (h2 : ASs X rest u) : ASs X (st :: rest) (aSeq t u) := .of (pss_cons h1.ps h2.pss) fun D σ H ⟨α, h, DA, rs, rh, tk, ht, k⟩ =>
  ⟨α, h, { DA with nx := u DA }, rs, rh, tk, ht, ⟨fun σ' H' ⟨α', h', m, rs', rh', q⟩ => ⟨α', h', DA, rs', rh', tk.up m, q, k.up m⟩, k.rt, k.bk, k.ct⟩⟩
theorem ass_one (h1 : AS X st t) : ASs X [st] t := .of (pss_one h1.ps) fun _ _ _ x => x
def aBreak : ATS := fun D α h => D.bk α h
def aCont : ATS := fun D α h => D.ct α h
theorem as_pass : AS X (.Pass pos) aNext := .of ps_pass fun D σ H ⟨α, h, DA, rs, rh, tk, ht, k⟩ => k.nx _ _ ⟨α, h, Mono.refl H, rs, rh, ht⟩
theorem as_break : AS X (.Break pos) aBreak := .of ps_break fun D σ H ⟨α, h, DA, rs, rh, tk, ht, k⟩ => k.bk _ _ ⟨α, h, Mono.refl H, rs, rh, ht⟩
theorem as_continue : AS X (.Continue pos) aCont := .of ps_continue fun D σ H ⟨α, h, DA, rs, rh, tk, ht, k⟩ => k.ct _ _ ⟨α, h, Mono.refl H, rs, rh, ht⟩
def aDrop (te : ATE) : ATS := fun D α h => te α h (fun _ h1 => D.nx α h1) fun c h1 => D.ex c α h1
theorem as_expr (he : AE X e te) (hs : swapsWith e none pos.line X.env = pure false := by rfl) : AS X (.Expr e pos) (aDrop te) := .of (ps_expr he.pe hs) fun D σ H ⟨α, h, DA, rs, rh, tk, ht, k⟩ =>
  low.then (H0 := H) rs rh (tk.e α) ht fun v H1 x h1 m1 r1 rh1 rs1 q1 => k.nx _ _ ⟨α, h1, m1, rs1, rh1, q1⟩
def aRet (te : ATE) : ATS := fun D α h => te α h D.rt fun c h1 => D.ex c α h1
theorem as_ret (he : AE X e te) : AS X (.Return (some e) pos) (aRet te) := .of (ps_ret he.pe) fun D σ H ⟨α, h, DA, rs, rh, tk, ht, k⟩ => ⟨α, h, _, _, rs, rh, tk.e α, ht, k.rt⟩
def aRetN : ATS := fun D _ h => D.rt .non h
theorem as_retN : AS X (.Return none pos) aRetN := .of ps_retN fun D σ H ⟨α, h, DA, rs, rh, tk, ht, k⟩ => k.rt _ _ ⟨.non, h, Mono.refl H, .non, rh, ht⟩
def aIfS (c : ATT) (t u : ATS) : ATS := fun D α h => c α h (fun b h1 => if b = true then t D α h1 else u D α h1) fun c h1 => D.ex c α h1
theorem as_if {c : Expr} {x y : List Stmt} {tc : ATT} (hc : AT X c tc) (ha : ASs X x t) (hb : ASs X y u) : AS X (.If c x y pos) (aIfS tc t u) := .of (ps_if hc.pt ha.pss hb.pss) fun D σ H ⟨α, h, DA, rs, rh, tk, ht, k⟩ =>
  lowT.then rs rh (tk.e α) ht fun b H1 h1 m1 rh1 rs1 q1 => by
    cases b with
    | true => exact ⟨α, h1, DA, rs1, rh1, tk.up m1, by rw [if_pos rfl] at q1; exact q1, k.up m1⟩
    | false => exact ⟨α, h1, DA, rs1, rh1, tk.up m1, by rw [if_neg Bool.false_ne_true] at q1; exact q1, k.up m1⟩
end

/-! ### targets -/
abbrev ATG := A → ASt → AH → (ASt → AH → Prop) → Prop
abbrev ATGs := List A → ASt → AH → (ASt → AH → Prop) → Prop
/-- the slots but those at is are kept -/
def Kept (is : List Nat) (σ σ' : L2.St) : Prop := σ'.length = σ.length ∧ ∀ j, j ∉ is → σ'[j]? = σ[j]?
def lowG (X : Cx) (is : List Nat) (t : ATG) : TG := fun v σ H Qv => ∃ a α h Q, RelA X.K H a v ∧ RelS X.K H α σ ∧ RelH X.K H h ∧ t a α h Q ∧ ∀ σ' H', LN X.K H Q σ' H' → Kept is σ σ' → Qv σ' H'
def lowGs (X : Cx) (is : List Nat) (t : ATGs) : TGs := fun vs σ H Qv => ∃ as α h Q, RelAs X.K H as vs ∧ RelS X.K H α σ ∧ RelH X.K H h ∧ t as α h Q ∧ ∀ σ' H', LN X.K H Q σ' H' → Kept is σ σ' → Qv σ' H'
structure AG (X : Cx) (target : Expr) (is : List Nat) (t : ATG) : Prop where
  pg : PG X target (lowG X is t)
structure AGs (X : Cx) (ts : List Expr) (is : List Nat) (t : ATGs) : Prop where
  pgs : PGs X ts (lowGs X is t)
theorem pgImp {X : Cx} {e : Expr} {t t' : TG} (h : PG X e t) (k : ∀ v σ H Q, t' v σ H Q → t v σ H Q) : PG X e t' := ⟨fun pins s σ H v u Q I r q => h.run pins s σ H v u Q I r (k _ _ _ _ q)⟩
theorem pgsImp {X : Cx} {e : List Expr} {t t' : TGs} (h : PGs X e t) (k : ∀ v σ H Q, t' v σ H Q → t v σ H Q) : PGs X e t' := ⟨fun pins s σ H v u Q I r q => h.run pins s σ H v u Q I r (k _ _ _ _ q)⟩
section
variable {X : Cx} {pos : Pos}
def agN (i : Nat) : ATG := fun a α h Q => Q (α.set i (some a)) h
theorem kept_set {i : Nat} {σ : L2.St} {v : V} : Kept [i] σ (σ.set i (some v)) := ⟨List.length_set, fun j hj => List.getElem?_set_ne (fun e => hj (by simp [e]))⟩
theorem ag_name (i : Nat) {x : Str} (hN : X.N.Nodup) (hi : X.N[i]? = some x) (hx : Loc X.env.scope x) (hf : X.fn x = true ∨ X.env.scope.names.lookup x = some .local := by first | exact .inl rfl | exact .inr rfl | assumption) : AG X (.Name x pos) [i] (agN i) :=
  ⟨pgImp (pg_name hN hi hx hf) fun v σ H Q ⟨a, α, h, q, r, rs, rh, ht, k⟩ => k _ _ ⟨_, h, Mono.refl H, rs.set i r, rh, ht⟩ kept_set⟩
def agNil : ATGs := fun vs α h Q => vs = [] ∧ Q α h
def agCons (t : ATG) (u : ATGs) : ATGs := fun vs α h Q => match vs with
  | v :: r => t v α h fun α' h' => u r α' h' Q
  | [] => False
theorem ags_nil : AGs X [] [] agNil := ⟨pgsImp pgs_nil fun v σ H Q ⟨as, α, h, q, r, rs, rh, ⟨e, ht⟩, k⟩ => by
  subst e
  cases r
  exact ⟨rfl, k _ _ ⟨α, h, Mono.refl H, rs, rh, ht⟩ ⟨rfl, fun _ _ => rfl⟩⟩⟩
theorem ags_cons {e : Expr} {es : List Expr} {is js : List Nat} {t : ATG} {u : ATGs} (h1 : AG X e is t) (h2 : AGs X es js u)
    (hs : (assignEach (e :: es) X.env).map (·.2) = assign e X.env :: (assignEach es X.env).map (·.2) := by rfl) : AGs X (e :: es) (is ++ js) (agCons t u) := ⟨pgsImp (pgs_cons h1.pg h2.pgs hs) fun v σ H Q ⟨as, α, h, q, r, rs, rh, ht, k⟩ => by
  cases r with
  | nil => exact ht.elim
  | @cons a as v vs r1 r2 =>
    refine ⟨v, vs, rfl, a, α, h, _, r1, rs, rh, ht, fun σ1 H1 ⟨α1, g1, m1, rs1, rh1, q1⟩ k1 => ?_⟩
    refine ⟨as, α1, g1, q, r2.up m1, rs1, rh1, q1, fun σ2 H2 z k2 => k _ _ (z.up m1) ⟨k2.1.trans k1.1, fun j hj => ?_⟩⟩
    rw [k2.2 j (fun z => hj (List.mem_append_right _ z)), k1.2 j (fun z => hj (List.mem_append_left _ z))]⟩
def agTup (n : Nat) (t : ATGs) : ATG := fun v α h Q => asT v fun xs => xs.length = n ∧ t xs α h Q
theorem ag_tup {es : List Expr} {k : Nat} {is : List Nat} {t : ATGs} {n : Nat} (hc : X.calm = true) (h : AGs X es is t)
    (hn : (assignEach es X.env).length = n := by rfl) (hst : (assignEach es X.env).findIdx? (·.1) = none := by rfl) : AG X (.Tuple es k pos) is (agTup n t) := ⟨pgImp (pg_tup hc h.pgs hn hst) fun v σ H Q ⟨a, α, h, q, r, rs, rh, ht, k⟩ => by
  obtain ⟨p, xs, vs, rfl, hq, rv, l, q1⟩ := tup_of r ht
  exact ⟨p, vs, rfl, hq, by rw [← rv.len]; exact l, xs, α, h, q, rv, rs, rh, q1, k⟩⟩
/-- target = value -/
def aAsg (te : ATE) (g : ATG) : ATS := fun D α h => te α h (fun x h1 => g x α h1 D.nx) fun c h1 => D.ex c α h1
theorem as_asg {tg e : Expr} {te : ATE} {is : List Nat} {g : ATG} (he : AE X e te) (hg : AG X tg is g) (hs : swapsWithSole [tg] e pos.line X.env = pure false := by rfl) (hw : swappedStores [tg] e X.env = pure none := by rfl)
    (h1 : (assignEach [tg] X.env).map (·.2) = [assign tg X.env] := by rfl) : AS X (.Assign [tg] e pos) (aAsg te g) := .of (ps_asg he.pe hg.pg hs hw h1) fun D σ H ⟨α, h, DA, rs, rh, tk, ht, k⟩ =>
  low.then (H0 := H) rs rh (tk.e α) ht fun v H1 x h1 m1 r1 rh1 rs1 q1 => ⟨x, α, h1, _, r1, rs1, rh1, q1, fun σ' H' z _ => k.nx _ _ (z.up m1)⟩
theorem as_set (i : Nat) {x : Str} {e : Expr} {te : ATE} {pos' : Pos} (hN : X.N.Nodup) (hi : X.N[i]? = some x) (hx : Loc X.env.scope x) (he : AE X e te) (hs : swapsWith e (some (.Name x pos')) pos.line X.env = pure false := by rfl) (hf : X.fn x = true ∨ X.env.scope.names.lookup x = some .local := by first | exact .inl rfl | exact .inr rfl | assumption) :
    AS X (.Assign [.Name x pos'] e pos) (aAsg te (agN i)) := .of (ps_set (i := i) hN hi hx he.pe hs hf) fun D σ H ⟨α, h, DA, rs, rh, tk, ht, k⟩ =>
  low.then (H0 := H) rs rh (tk.e α) ht fun v H1 x h1 m1 r1 rh1 rs1 q1 => k.nx _ _ ⟨_, h1, m1, rs1.set i r1, rh1, q1⟩
/-- a, b = x, y: two local names -/
def aPar (i j : Nat) (ta : ATA) : ATS := fun D α h => ta α h (fun vs h1 => match vs with
  | [v, w] => D.nx ((α.set i (some v)).set j (some w)) h1
  | _ => False) fun c h1 => D.ex c α h1
theorem as_par (i j : Nat) {x y : Str} {a b : Expr} {ta : ATA} {px py pt : Pos} {kt k2 pt2} (hc : X.calm = true) (hN : X.N.Nodup) (hi : X.N[i]? = some x) (hj : X.N[j]? = some y) (hij : i ≠ j)
    (hx : X.env.scope.names.lookup x = some .local) (hy : X.env.scope.names.lookup y = some .local) (ha : AAs X [a, b] ta)
    (hw : swappedStores [.Tuple [.Name x px, .Name y py] kt pt] (.Tuple [a, b] k2 pt2) X.env = pure (some [x, y]))
    (hs : swapsWithSole [.Tuple [.Name x px, .Name y py] kt pt] (.Tuple [a, b] k2 pt2) pos.line X.env = pure false := by rfl) :
    AS X (.Assign [.Tuple [.Name x px, .Name y py] kt pt] (.Tuple [a, b] k2 pt2) pos) (aPar i j ta) := .of (ps_par hc hN hi hj hij hx hy ha.pa hw hs) fun D σ H ⟨α, h, DA, rs, rh, tk, ht, k⟩ =>
  lowA.then rs rh (tk.e α) ht fun vs H1 xs h1 m1 r1 rh1 rs1 q1 => by
    cases r1 with
    | nil => exact q1.elim
    | cons r1 t1 => cases t1 with
      | nil => exact q1.elim
      | cons r2 t2 => cases t2 with
        | cons _ _ => exact q1.elim
        | nil => exact ⟨_, _, rfl, k.nx _ _ ⟨_, h1, m1, (rs1.set i r1).set j r2, rh1, q1⟩⟩
/-- x op= e -/
def aAug (i : Nat) (te : ATE) (r : AR2) : ATS := fun D α h => match α[i]? with
  | some (some x) => te α h (fun y h1 => r x y h1 fun z h2 => D.nx (α.set i (some z)) h2) fun c h1 => D.ex c α h1
  | _ => False
theorem as_aug (i : Nat) {x : Str} {e : Expr} {te : ATE} {op : Operator} {ti : TIp} {rA : AR2} {pos' : Pos} (hN : X.N.Nodup) (hi : X.N[i]? = some x) (hx : Loc X.env.scope x) (he : AE X e te) (ho : PIp X op ti) (hr : Op2 X.K ti rA)
    (hf : X.fn x = true ∨ X.env.scope.names.lookup x = some .local := by first | exact .inl rfl | exact .inr rfl | assumption) : AS X (.AugAssign (.Name x pos') op e pos) (aAug i te rA) :=
  .of (ps_aug hN hi hx he.pe ho hf) fun D σ H ⟨α, h, DA, rs, rh, tk, ht, k⟩ => by
    unfold aAug at ht
    cases e1 : α[i]? with
    | none => rw [e1] at ht; exact ht.elim
    | some o => cases o with
      | none => rw [e1] at ht; exact ht.elim
      | some a =>
        rw [e1] at ht
        obtain ⟨v, e2, r⟩ := rs.get i a e1
        refine ⟨v, e2, low.then (H0 := H) rs rh (tk.e α) ht fun w H1 y h1 m1 r1 rh1 rs1 q1 => ?_⟩
        exact hr H1 h1 v w a y _ _ (r.up m1) r1 rh1 (fun z H' ⟨z', h2, m2, r2, rh2, q2⟩ => k.nx _ _ ⟨_, h2, m1.trans m2, (rs1.up m2).set i r2, rh2, q2⟩) q1
theorem pip_add : PIp X .Add (ipI fun i j => i + j) := ip_add
theorem o_ipadd {K : Frg} : Op2 K (ipI fun i j => i + j) (iA0 fun i j => .int (i + j)) := fun H h x y a b Q Qv ra rb rh k q => by
  obtain ⟨i, j, rfl, rfl, q⟩ := iA0_inv ra rb q
  exact ⟨i, j, rfl, rfl, k _ _ ⟨_, h, Mono.refl H, .int _, rh, q⟩⟩
theorem o_ipsub {K : Frg} : Op2 K (ipI fun i j => i - j) (iA0 fun i j => .int (i - j)) := fun H h x y a b Q Qv ra rb rh k q => by
  obtain ⟨i, j, rfl, rfl, q⟩ := iA0_inv ra rb q
  exact ⟨i, j, rfl, rfl, k _ _ ⟨_, h, Mono.refl H, .int _, rh, q⟩⟩
/-- xs[i] = e, xs a list -/
def aSetL (to ti tv : ATE) : ATS := fun D α h => tv α h (fun v h1 => to α h1 (fun o h2 => ti α h2 (fun i h3 => match o, i with
  | .ref p, .int k => ∃ xs j, h3 p = some (.lst xs) ∧ ixN xs.length k = some j ∧ D.nx α (updA h3 p (.lst (xs.set j v)))
  | _, _ => False) fun c h3 => D.ex c α h3) fun c h3 => D.ex c α h3) fun c h3 => D.ex c α h3
theorem as_setL {o i e : Expr} {to ti te : ATE} {pos' : Pos} (he : AE X e te) (ho : AE X o to) (hi : AE X i ti) (hs : swapsWithSole [.Subscript o i pos'] e pos.line X.env = pure false := by rfl) (hw : swappedStores [.Subscript o i pos'] e X.env = pure none := by rfl)
    (h1 : (assignEach [.Subscript o i pos'] X.env).map (·.2) = [assign (.Subscript o i pos') X.env] := by rfl)
    (ha : ∀ v, assign (.Subscript o i pos') X.env v = (do
      let ov ← holding [v] (eval o X.env)
      let iv ← holding [v, ov] (eval i X.env)
      standAt pos'
      holding [v, ov, iv] (setItem ov iv v)
      release [v, ov, iv] []) := by intro _; rfl) : AS X (.Assign [.Subscript o i pos'] e pos) (aSetL to ti te) :=
  .of (ps_asg he.pe (pg_sub ho.pe hi.pe set_list ha) hs hw h1) fun D σ H ⟨α, h, DA, rs, rh, tk, ht, k⟩ =>
    low.then (H0 := H) rs rh (tk.e α) ht fun v H1 x h1 m1 r1 rh1 rs1 q1 => low.then (H0 := H) rs1 rh1 ((tk.up m1).e α) q1 fun ov H2 y h2 m2 r2 rh2 rs2 q2 => low.then (H0 := H) rs2 rh2 ((tk.up (m1.trans m2)).e α) q2 fun iv H3 z h3 m3 r3 rh3 rs3 q3 => by
      have r2' := r2.up m3
      cases r2' with
      | ref p => cases r3 with
        | int n =>
          obtain ⟨xs, j, e1, e2, q⟩ := (show ∃ xs j, h3 p = some (.lst xs) ∧ ixN xs.length n = some j ∧ DA.nx α (updA h3 p (.lst (xs.set j x))) from q3)
          obtain ⟨vs, f1, rv⟩ := rh3.lst e1
          refine ⟨p, vs, n, j, rfl, rfl, f1, by rw [← rv.len]; exact e2, k.nx _ _ ⟨α, _, ((m1.trans m2).trans m3).trans (Mono.wr f1 ns_lst), rs3.up (Mono.wr f1 ns_lst), rh3.wr f1 ns_lst (.lst (rv.set ((r1.up m2).up m3) j)), q⟩⟩
        | _ => exact (show False from q3).elim
      | _ => cases r3 <;> exact (show False from q3).elim
end

/-! ### fields of own instances -/
def ClsF (K : Frg) (C : Addr) (f : Str) : Prop := Cls K C ∧ NoAttr K C f
theorem RelH.ins {K : Frg} {H : Hp} {h : AH} {p C : Addr} {fs : List (Str × A)} (r : RelH K H h) (e : h p = some (.ins C fs)) : ∃ dx vs, H p = some (.ins C dx vs) ∧ RelK K H fs vs := by
  obtain ⟨u, e', q⟩ := r p _ e
  cases q with
  | ins q => exact ⟨_, _, e', q⟩
theorem RelK.look {K : Frg} {H : Hp} {f : Str} {a : A} : ∀ {fs : List (Str × A)} {vs : List (Str × V)}, RelK K H fs vs → fs.lookup f = some a → ∃ v, vs.lookup f = some v ∧ RelA K H a v
  | _, _, .nil, e => by simp at e
  | (g, x) :: fs, (g', y) :: vs, .cons r t, e => by
    obtain ⟨e1, r⟩ := r
    have e1 : g = g' := e1
    subst e1
    by_cases q : f = g
    · have hb : (f == g) = true := beq_iff_eq.mpr q
      simp only [List.lookup, hb] at e ⊢
      cases e
      exact ⟨y, rfl, r⟩
    · have hb : (f == g) = false := beq_eq_false_iff_ne.mpr q
      simp only [List.lookup, hb] at e ⊢
      exact RelK.look t e
theorem RelK.lookN {K : Frg} {H : Hp} {f : Str} : ∀ {fs : List (Str × A)} {vs : List (Str × V)}, RelK K H fs vs → fs.lookup f = none → vs.lookup f = none
  | _, _, .nil, e => rfl
  | (g, x) :: fs, (g', y) :: vs, .cons r t, e => by
    obtain ⟨e1, r⟩ := r
    have e1 : g = g' := e1
    subst e1
    by_cases q : f = g
    · have hb : (f == g) = true := beq_iff_eq.mpr q
      simp only [List.lookup, hb] at e
      cases e
    · have hb : (f == g) = false := beq_eq_false_iff_ne.mpr q
      simp only [List.lookup, hb] at e ⊢
      exact RelK.lookN t e
def putFA (f : Str) (v : A) : List (Str × A) → List (Str × A)
  | [] => [(f, v)]
  | (g, x) :: r => if g = f then (g, v) :: r else (g, x) :: putFA f v r
theorem RelK.putF {K : Frg} {H : Hp} {f : Str} {a : A} {v : V} (ra : RelA K H a v) : ∀ {fs : List (Str × A)} {vs : List (Str × V)}, RelK K H fs vs → RelK K H (putFA f a fs) (L2.putF f v vs)
  | _, _, .nil => .cons ⟨rfl, ra⟩ .nil
  | (g, x) :: fs, (g', y) :: vs, .cons r t => by
    obtain ⟨e1, r⟩ := r
    have e1 : g = g' := e1
    subst e1
    unfold putFA L2.putF
    by_cases q : g = f
    · rw [if_pos q, if_pos q]; exact .cons ⟨rfl, ra⟩ t
    · rw [if_neg q, if_neg q]; exact .cons ⟨rfl, r⟩ (RelK.putF ra t)
section
variable {X : Cx} {o e value : Expr} {f : Str} {pos pos' : Pos} {ta tv : ATE}
def aFld (K : Frg) (ta : ATE) (f : Str) : ATE := fun α h Q E => ta α h (fun x h1 => match x with
  | .ref p => ∃ C fs v, h1 p = some (.ins C fs) ∧ ClsF K C f ∧ fs.lookup f = some v ∧ Q v h1
  | _ => False) E
theorem ae_fld (he : AE X e ta) (hb : attributeBase e f X.env (eval e X.env) = eval e X.env) : AE X (.Attribute e f pos) (aFld X.K ta f) := .of (pe_fld he.pe hb) fun σ H Qv ⟨α, h, q, E, rs, rh, tk, ht, k⟩ =>
  low.then (H0 := H) rs rh tk ht fun v H1 x h1 m1 r1 rh1 rs1 q1 => by
    cases r1 with
    | ref p =>
      obtain ⟨C, fs, v, e1, c, l, q⟩ := (show ∃ C fs v, h1 p = some (.ins C fs) ∧ ClsF X.K C f ∧ fs.lookup f = some v ∧ q v h1 from q1)
      obtain ⟨dx, vs, f1, rk⟩ := rh1.ins e1
      obtain ⟨w, l', rw'⟩ := rk.look l
      exact ⟨p, C, dx, vs, w, rfl, f1, c.1, c.2, l', k _ _ ⟨v, h1, m1, rw', rh1, q⟩⟩
    | _ => exact (show False from q1).elim
def aSetF (K : Frg) (ta tv : ATE) (f : Str) : ATS := fun D α h => tv α h (fun y h1 => ta α h1 (fun x h2 => match x with
  | .ref p => ∃ C fs, h2 p = some (.ins C fs) ∧ ClsF K C f ∧ fs.length < 1000 ∧ D.nx α (updA h2 p (.ins C (putFA f y fs)))
  | _ => False) fun c h3 => D.ex c α h3) fun c h3 => D.ex c α h3
theorem Paired.len {α β : Type} {F : α → β → Prop} {l₁ : List α} {l₂ : List β} (h : Paired F l₁ l₂) : l₁.length = l₂.length := h.length
theorem as_fld (ha : AE X o ta) (hv : AE X value tv) (hs : swapsWith value (some (.Attribute o f pos')) pos.line X.env = pure false) : AS X (.Assign [.Attribute o f pos'] value pos) (aSetF X.K ta tv f) := .of (ps_fld ha.pe hv.pe hs) fun D σ H ⟨α, h, DA, rs, rh, tk, ht, k⟩ =>
  low.then (H0 := H) rs rh (tk.e α) ht fun v H1 y h1 m1 r1 rh1 rs1 q1 => low.then (H0 := H) rs1 rh1 ((tk.up m1).e α) q1 fun ov H2 x h2 m2 r2 rh2 rs2 q2 => by
    cases r2 with
    | ref p =>
      obtain ⟨C, fs, e1, c, l, q⟩ := (show ∃ C fs, h2 p = some (.ins C fs) ∧ ClsF X.K C f ∧ fs.length < 1000 ∧ DA.nx α (updA h2 p (.ins C (putFA f y fs))) from q2)
      obtain ⟨dx, vs, f1, rk⟩ := rh2.ins e1
      refine ⟨p, C, dx, vs, rfl, f1, c.1, c.2, by rw [← Paired.len rk]; exact l, k.nx _ _ ⟨α, _, (m1.trans m2).trans (Mono.wr f1 ns_ins), rs2.up (Mono.wr f1 ns_ins), rh2.wr f1 ns_ins (.ins (RelK.putF (r1.up m2) rk)), q⟩⟩
    | _ => exact (show False from q2).elim
end
end G
namespace G
open PySem PySem.Spec L2

/-! ### what is walked -/
structure ASrc where
  n : Nat
  item : Nat → A → Prop
  stay : AH → Prop := fun _ => True
structure SrcOk (K : Frg) (Hb : Hp) (S : ASrc) (J : It) : Prop where
  go : ∀ (i : Nat) (H : Hp) (h : AH), Mono Hb H → RelH K H h → S.stay h → i < S.n → J.go i H
  yld : ∀ (i : Nat) (H H' : Hp) (h : AH) (x : V), Mono Hb H → RelH K H h → S.stay h → i < S.n → J.yld i H x H' → ∃ a, S.item i a ∧ Mono H H' ∧ RelA K H' a x ∧ RelH K H' h
  stop : ∀ (i : Nat) (H : Hp) (h : AH), Mono Hb H → RelH K H h → S.stay h → S.n ≤ i → J.stop i H
abbrev ATI := ASt → AH → (ASrc → AH → Prop) → AXK → Prop
def lowI (X : Cx) (w : ATI) : TI := fun σ H R => ∃ α h RA E, RelS X.K H α σ ∧ RelH X.K H h ∧ TakesE X H α E ∧ w α h RA E ∧ ∀ J S H' h', Mono H H' → RelH X.K H' h' → SrcOk X.K H' S J → RA S h' → R J H'
structure AI (X : Cx) (tg iter : Expr) (w : ATI) : Prop where
  pi : PI X tg iter (lowI X w)
theorem piImp {X : Cx} {tg e : Expr} {t t' : TI} (h : PI X tg e t) (k : ∀ σ H Q, t' σ H Q → t σ H Q) : PI X tg e t' := ⟨fun pins s σ H R I q => h.run pins s σ H R I (k _ _ _ q)⟩
/-- a list or a tuple -/
def seqOf (x : A) (h : AH) (R : ASrc → Prop) : Prop := match x with
  | .ref p => ∃ xs, LstA h p xs ∧ R ⟨xs.length, fun i a => xs[i]? = some a, fun h' => LstA h' p xs⟩
  | .fls xs => R ⟨xs.length, fun i a => xs[i]? = some a, fun _ => True⟩
  | x => asT x fun xs => R ⟨xs.length, fun i a => xs[i]? = some a, fun _ => True⟩
theorem src_list {K : Frg} {H : Hp} {p : Addr} {xs : List A} : SrcOk K H ⟨xs.length, fun i a => xs[i]? = some a, fun h' => LstA h' p xs⟩ (Itl K p) where
  go := fun i H h _ rh st hi => by
    obtain ⟨vs, e, r⟩ := rh.rd st
    obtain ⟨v, e', _⟩ := r.get (i := i) (a := xs[i]'hi) (List.getElem?_eq_getElem hi)
    exact ⟨vs, v, e, e'⟩
  yld := fun i H H' h x _ rh st hi y => by
    obtain ⟨rfl, y⟩ := y
    obtain ⟨vs, e, r⟩ := rh.rd st
    obtain ⟨a, e', ra⟩ := r.getV (y vs e)
    exact ⟨a, e', Mono.refl _, ra, rh⟩
  stop := fun i H h _ rh st hi => by
    obtain ⟨vs, e, r⟩ := rh.rd st
    exact ⟨vs, e, by rw [← r.len]; exact hi⟩
theorem src_fls {K : Frg} {Hb : Hp} {p : Addr} {xs : List A} {vs : List V} (ht : FlAt K Hb p vs) (r : RelAs K Hb xs vs) : SrcOk K Hb ⟨xs.length, fun i a => xs[i]? = some a, fun _ => True⟩ (Itl K p) where
  go := fun i H h m rh st hi => by
    obtain ⟨v, e', _⟩ := r.get (i := i) (a := xs[i]'hi) (List.getElem?_eq_getElem hi)
    exact ⟨vs, v, (ht.mono m).sq, e'⟩
  yld := fun i H H' h x m rh st hi y => by
    obtain ⟨rfl, y⟩ := y
    obtain ⟨a, e', ra⟩ := r.getV (y vs (ht.mono m).sq)
    exact ⟨a, e', Mono.refl _, ra.up m, rh⟩
  stop := fun i H h m rh st hi => ⟨vs, (ht.mono m).sq, by rw [← r.len]; exact hi⟩
theorem src_tup {K : Frg} {Hb : Hp} {p : Addr} {xs : List A} {vs : List V} (ht : TupAt K Hb p vs) (r : RelAs K Hb xs vs) : SrcOk K Hb ⟨xs.length, fun i a => xs[i]? = some a, fun _ => True⟩ (Itt K p) where
  go := fun i H h m rh st hi => by
    obtain ⟨v, e', _⟩ := r.get (i := i) (a := xs[i]'hi) (List.getElem?_eq_getElem hi)
    exact ⟨vs, v, (ht.mono m).sq, e'⟩
  yld := fun i H H' h x m rh st hi y => by
    obtain ⟨rfl, y⟩ := y
    obtain ⟨a, e', ra⟩ := r.getV (y vs (ht.mono m).sq)
    exact ⟨a, e', Mono.refl _, ra.up m, rh⟩
  stop := fun i H h m rh st hi => ⟨vs, (ht.mono m).sq, by rw [← r.len]; exact hi⟩
theorem src_range {K : Frg} {H : Hp} {lo : Int} {n : Nat} : SrcOk K H ⟨n, fun i a => a = .int (lo + i), fun _ => True⟩ (Itr lo n) where
  go := fun i H h _ rh st hi => hi
  yld := fun i H H' h x _ rh st hi y => by
    obtain ⟨rfl, rfl⟩ := y
    exact ⟨_, rfl, Mono.refl _, .int _, rh⟩
  stop := fun i H h _ rh st hi => hi
theorem src_enum {K : Frg} {H : Hp} {p : Addr} {xs : List A} : SrcOk K H ⟨xs.length, fun i a => ∃ x, a = .tup [.int (i : Nat), x] ∧ xs[i]? = some x, fun h' => LstA h' p xs⟩ (Ite K p) where
  go := fun i H h _ rh st hi => by
    obtain ⟨vs, e, r⟩ := rh.rd st
    obtain ⟨v, e', _⟩ := r.get (i := i) (a := xs[i]'hi) (List.getElem?_eq_getElem hi)
    exact ⟨vs, v, e, e'⟩
  yld := fun i H H' h x _ rh st hi y => by
    obtain ⟨T, x', rfl, hT, rfl, y⟩ := y
    obtain ⟨vs, e, r⟩ := rh.rd st
    obtain ⟨a, e', ra⟩ := r.getV (y vs e)
    exact ⟨_, ⟨a, rfl, e'⟩, Mono.new hT, .tup (.of upd_same) (.cons (.int _) (.one (ra.up (Mono.new hT)))), rh.skip hT⟩
  stop := fun i H h _ rh st hi => by
    obtain ⟨vs, e, r⟩ := rh.rd st
    exact ⟨vs, e, by rw [← r.len]; exact hi⟩
theorem tupAt_of {K : Frg} {H : Hp} {x : A} {v : V} {Q : List A → Prop} (r : RelA K H x v) (q : asT x Q) : ∃ p xs vs, v = .ref p ∧ TupAt K H p vs ∧ RelAs K H xs vs ∧ Q xs := by
  cases r with
  | @tup p xs vs h r => exact ⟨p, xs, vs, rfl, h, r, q⟩
  | @kt p ks h => exact ⟨p, ks.map keyV, ks.map kV, rfl, .of h, rel_keysV ks, q⟩
  | _ => exact (show False from q).elim
section
variable {X : Cx} {tg : Expr}
def aiSeq (te : ATE) : ATI := fun α h R E => te α h (fun x h1 => seqOf x h1 fun S => R S h1) E
theorem ai_seq {l : Expr} {te : ATE} (he : AE X l te) : AI X tg l (aiSeq te) := by
  refine ⟨⟨fun pins s σ H R I hw => ?_⟩⟩
  obtain ⟨α, h, RA, E, rs, rh, tk, ht, k⟩ := hw
  refine thn (he.run pins s σ H α h _ E I rs rh tk ht) fun v s1 ⟨x, H1, I1, r1, a, h1, m1, ra, rh1, q⟩ => ?_
  have tupCase : ∀ (q : asT a fun xs => RA ⟨xs.length, fun i a => xs[i]? = some a, fun _ => True⟩ h1), wpAny (model X.prog X.w) X.A (pyIter v) (PIE X pins σ tg R) X.xe s1 := fun q => by
    obtain ⟨p, xs, vs, rfl, hT, rv, q⟩ := tupAt_of ra q
    cases r1
    obtain ⟨its, rvv, pt, hz⟩ := I1.tuple hT.sq
    refine wpAny_pyIter_tuple (show s1.heap.IsTuple p its.toArray from pt) ?_
    refine ⟨s1.heap.objs.size, [s1.heap.objs.size], _, _, H1, rfl, I1.kept (t' := s1.toks) fun b o e => Heap.get?_push_of_some _ e, turn_tuple p _, ⟨_, Heap.get?_push_size _ rfl, rfl, rfl⟩, fun b hb => ?_, k _ _ H1 h1 m1 rh1 (src_tup hT rv) q⟩
    have e : b = s1.heap.objs.size := by simpa using hb
    subst e
    exact I1.fpOk (Nat.le_refl _) (I1.hok.fresh (Nat.le_refl _))
  cases ra with
  | ref p =>
    obtain ⟨xs, e, q⟩ := (show ∃ xs, LstA h1 p xs ∧ RA ⟨xs.length, fun i a => xs[i]? = some a, fun h' => LstA h' p xs⟩ h1 from q)
    obtain ⟨vs, hq, rv⟩ := rh1.rd e
    cases r1
    obtain ⟨its, rvv, pl, hz⟩ := I1.list hq
    refine wpAny_pyIter_list pl.isList ?_
    refine ⟨s1.heap.objs.size, [s1.heap.objs.size], _, _, H1, rfl, I1.kept (t' := s1.toks) fun b o e => Heap.get?_push_of_some _ e, turn_list p _, ⟨_, Heap.get?_push_size _ rfl, rfl, rfl⟩, fun b hb => ?_, k _ _ H1 h1 m1 rh1 src_list q⟩
    have e : b = s1.heap.objs.size := by simpa using hb
    subst e
    exact I1.fpOk (Nat.le_refl _) (I1.hok.fresh (Nat.le_refl _))
  | @fls p xs vs eF rv =>
    have q : RA ⟨xs.length, fun i a => xs[i]? = some a, fun _ => True⟩ h1 := q
    cases r1
    obtain ⟨its, rvv, pl, hz⟩ := I1.list eF.sq
    refine wpAny_pyIter_list pl.isList ?_
    refine ⟨s1.heap.objs.size, [s1.heap.objs.size], _, _, H1, rfl, I1.kept (t' := s1.toks) fun b o e => Heap.get?_push_of_some _ e, turn_list p _, ⟨_, Heap.get?_push_size _ rfl, rfl, rfl⟩, fun b hb => ?_, k _ _ H1 h1 m1 rh1 (src_fls eF rv) q⟩
    have e : b = s1.heap.objs.size := by simpa using hb
    subst e
    exact I1.fpOk (Nat.le_refl _) (I1.hok.fresh (Nat.le_refl _))
  | _ => exact tupCase q
/-- range(n), range(a, b) -/
def aiRng1 (t : ATA) : ATI := fun α h R E => t α h (fun xs h1 => match xs with
  | [.int n] => (-(2 ^ 62) ≤ n ∧ n < 2 ^ 62) ∧ R ⟨n.toNat, fun i a => a = .int (0 + i), fun _ => True⟩ h1
  | _ => False) E
theorem ai_range1 {a : Expr} {ta : ATA} {p pos : Pos} (hg : Gl X "range") (hm : X.mg "range" = none) (ha : AAs X [a] ta) (hs : starEach [a] X.env = [(false, eval a X.env)] := by rfl) : AI X tg (.Call (.Name "range" p) [a] [] pos) (aiRng1 ta) :=
  ⟨piImp (pi_range1 hg hm ha.pa hs) fun σ H R ⟨α, h, RA, E, rs, rh, tk, ht, k⟩ => lowA.then rs rh tk ht fun v H1 xs h1 m1 r1 rh1 rs1 q1 => by
    cases r1 with
    | nil => exact q1.elim
    | cons r t => cases t with
      | cons _ _ => cases r <;> exact (show False from q1).elim
      | nil => cases r with
        | int n => exact ⟨n, rfl, q1.1.1, q1.1.2, k _ _ H1 h1 m1 rh1 src_range q1.2⟩
        | _ => exact (show False from q1).elim⟩
def aiRng2 (t : ATA) : ATI := fun α h R E => t α h (fun xs h1 => match xs with
  | [.int i, .int j] => (-(2 ^ 62) ≤ i ∧ i < 2 ^ 62 ∧ -(2 ^ 62) ≤ j ∧ j < 2 ^ 62) ∧ R ⟨(j - i).toNat, fun k a => a = .int (i + k), fun _ => True⟩ h1
  | _ => False) E
theorem ai_range2 {a b : Expr} {ta : ATA} {p pos : Pos} (hg : Gl X "range") (hm : X.mg "range" = none) (ha : AAs X [a, b] ta) (hs : starEach [a, b] X.env = [(false, eval a X.env), (false, eval b X.env)] := by rfl) (hs2 : starEach [b] X.env = [(false, eval b X.env)] := by rfl) :
    AI X tg (.Call (.Name "range" p) [a, b] [] pos) (aiRng2 ta) :=
  ⟨piImp (pi_range2 hg hm ha.pa hs hs2) fun σ H R ⟨α, h, RA, E, rs, rh, tk, ht, k⟩ => lowA.then rs rh tk ht fun v H1 xs h1 m1 r1 rh1 rs1 q1 => by
    cases r1 with
    | nil => exact q1.elim
    | cons r t => cases t with
      | nil => cases r <;> exact (show False from q1).elim
      | cons r' t => cases t with
        | cons _ _ => cases r <;> cases r' <;> exact (show False from q1).elim
        | nil => cases r with
          | int n => cases r' with
            | int m => exact ⟨n, m, rfl, q1.1, k _ _ H1 h1 m1 rh1 src_range q1.2⟩
            | _ => exact (show False from q1).elim
          | _ => cases r' <;> exact (show False from q1).elim⟩
/-- enumerate(xs) of a list -/
def aiEnum (t : ATA) : ATI := fun α h R E => t α h (fun xs h1 => match xs with
  | [.ref p] => ∃ xs, LstA h1 p xs ∧ R ⟨xs.length, fun i a => ∃ x, a = .tup [.int (i : Nat), x] ∧ xs[i]? = some x, fun h' => LstA h' p xs⟩ h1
  | _ => False) E
theorem ai_enum {e : Expr} {ta : ATA} {p pos tpos : Pos} {elts : List Expr} {kk : Nat} (hg : Gl X "enumerate") (hm : X.mg "enumerate" = none) (ha : AAs X [e] ta) (hs : starEach [e] X.env = [(false, eval e X.env)] := by rfl) :
    AI X (.Tuple elts kk tpos) (.Call (.Name "enumerate" p) [e] [] pos) (aiEnum ta) :=
  ⟨piImp (pi_enum hg hm ha.pa hs) fun σ H R ⟨α, h, RA, E, rs, rh, tk, ht, k⟩ => lowA.then rs rh tk ht fun v H1 xs h1 m1 r1 rh1 rs1 q1 => by
    cases r1 with
    | nil => exact q1.elim
    | cons r t => cases t with
      | cons _ _ => cases r <;> exact (show False from q1).elim
      | nil => cases r with
        | ref p =>
          obtain ⟨ys, e, q⟩ := (show ∃ ys, LstA h1 p ys ∧ RA ⟨ys.length, fun i a => ∃ x, a = .tup [.int (i : Nat), x] ∧ ys[i]? = some x, fun h' => LstA h' p ys⟩ h1 from q1)
          obtain ⟨vs, hq, rv⟩ := rh1.rd e
          exact ⟨p, vs, rfl, hq, k _ _ H1 h1 m1 rh1 src_enum q⟩
        | _ => exact (show False from q1).elim⟩
end

/-! ### for -/
def loopS (S : ASrc) (g : ATG) (tb : ATS) (D : AEnds) (α : ASt) (h : AH) : Prop := ∃ Pv : Nat → ASt → AH → Prop, Pv 0 α h ∧ (∀ i α h, i ≤ S.n → Pv i α h → S.stay h) ∧
  (∀ i x α h, i < S.n → S.item i x → Pv i α h → g x α h fun α2 h2 => tb { D with nx := Pv (i + 1), ct := Pv (i + 1), bk := D.nx } α2 h2) ∧ ∀ α h, Pv S.n α h → D.nx α h
def aFor (w : ATI) (g : ATG) (tb : ATS) : ATS := fun D α h => w α h (fun S h1 => loopS S g tb D α h1) fun c h1 => D.ex c α h1
theorem as_for {X : Cx} {tg iter : Expr} {body : List Stmt} {w : ATI} {is : List Nat} {g : ATG} {tb : ATS} {pos : Pos} (hp : PassesOwn (model X.prog X.w) X.A X.env X.xe) (hc : X.calm = true) (hi : AI X tg iter w) (hg : AG X tg is g) (hb : ASs X body tb)
    (hs : ∀ x, foldedSetIterable iter X.env x = pure x := by intro _; rfl) : AS X (.For tg iter body [] pos) (aFor w g tb) :=
  .of (ps_for hp hc hi.pi hg.pg hb.pss hs) fun D σ H ⟨α, h, DA, rs, rh, tk, ht, k⟩ => by
    refine ⟨α, h, _, _, rs, rh, tk.e α, ht, fun J S H1 h1 m1 rh1 ok q => ?_⟩
    obtain ⟨Pv, p0, stay, step, done⟩ := q
    refine ⟨fun i m σ' H' => m = S.n - i ∧ i ≤ S.n ∧ LN X.K H1 (Pv i) σ' H', ⟨S.n, by simp, Nat.zero_le _, α, h1, Mono.refl H1, rs.up m1, rh1, p0⟩, ?_⟩
    rintro i m σ' H' ⟨rfl, hi, α', h', m', rs', rh', pv⟩
    by_cases hlt : i < S.n
    · refine .inr ⟨ok.go i H' h' m' rh' (stay i α' h' hi pv) hlt, LN X.K H1 (Pv (i + 1)), fun σ2 H2 z => ⟨S.n - (i + 1), by omega, rfl, hlt, z⟩, fun x H2 y => ?_⟩
      obtain ⟨a, it, m2, ra, rh2⟩ := ok.yld i H' H2 h' x m' rh' (stay i α' h' hi pv) hlt y
      refine ⟨a, α', h', _, ra, rs'.up m2, rh2, step i a α' h' hlt it pv, fun σ3 H3 ⟨α3, h3, m3, rs3, rh3, q3⟩ _ => ?_⟩
      have mm : Mono H H3 := ((m1.trans m').trans m2).trans m3
      refine ⟨α3, h3, { DA with nx := Pv (i + 1), ct := Pv (i + 1), bk := DA.nx }, rs3, rh3, tk.up mm, q3, ?_⟩
      exact ⟨fun _ _ z => z.up ((m'.trans m2).trans m3), fun _ _ z => k.rt _ _ (z.up mm), fun _ _ z => k.nx _ _ (z.up mm), fun _ _ z => z.up ((m'.trans m2).trans m3)⟩
    · have e : i = S.n := by omega
      subst e
      exact .inl ⟨ok.stop S.n H' h' m' rh' (stay S.n α' h' hi pv) (Nat.le_refl _), k.nx _ _ ⟨α', h', m1.trans m', rs', rh', done α' h' pv⟩⟩

/-! ### while -/
def aWhile (c : ATT) (tb : ATS) : ATS := fun D α h => ∃ W : Nat → ASt → AH → Prop, (∃ m, W m α h) ∧ ∀ m α h, W m α h →
  c α h (fun b h1 => if b = true then tb { D with nx := fun α' h' => ∃ m', m' < m ∧ W m' α' h', ct := fun α' h' => ∃ m', m' < m ∧ W m' α' h', bk := D.nx } α h1 else D.nx α h1) fun c h1 => D.ex c α h1
theorem as_while {X : Cx} {c : Expr} {body : List Stmt} {tc : ATT} {tb : ATS} {pos : Pos} (hp : PassesOwn (model X.prog X.w) X.A X.env X.xe) (hc : AT X c tc) (hb : ASs X body tb) : AS X (.While c body [] pos) (aWhile tc tb) :=
  .of (ps_while hp hc.pt hb.pss) fun D σ H ⟨α, h, DA, rs, rh, tk, ⟨W, ⟨m0, w0⟩, step⟩, k⟩ => by
    refine ⟨fun m σ' H' => LN X.K H (W m) σ' H', ⟨m0, α, h, Mono.refl H, rs, rh, w0⟩, ?_⟩
    rintro m σ' H' ⟨α', h', m', rs', rh', w'⟩
    refine lowT.then rs' rh' ((tk.up m').e α') (step m α' h' w') fun b H1 h1 m1 rh1 rs1 q1 => ?_
    cases b with
    | true =>
      rw [if_pos rfl] at q1 ⊢
      refine ⟨LN X.K H (fun α' h' => ∃ m', m' < m ∧ W m' α' h'), fun σ2 H2 ⟨α2, h2, m2, rs2, rh2, n, hn, w2⟩ => ⟨n, hn, α2, h2, m2, rs2, rh2, w2⟩, α', h1, _, rs1, rh1, ?_, q1, ?_⟩
      · exact tk.up (m'.trans m1)
      · have mm : Mono H H1 := m'.trans m1
        exact ⟨fun _ _ z => z.up mm, fun _ _ z => k.rt _ _ (z.up mm), fun _ _ z => k.nx _ _ (z.up mm), fun _ _ z => z.up mm⟩
    | false =>
      rw [if_neg Bool.false_ne_true] at q1 ⊢
      exact k.nx _ _ ⟨α', h1, m'.trans m1, rs1, rh1, q1⟩

/-! ### comprehensions -/
def wipeA (α : ASt) : List Nat → ASt
  | [] => α
  | v :: vs => (wipeA α vs).set v none
theorem rel_wipe {K : Frg} {H : Hp} {α : ASt} {σ : L2.St} (r : RelS K H α σ) : ∀ vs : List Nat, RelS K H (wipeA α vs) (wipe σ vs)
  | [] => r
  | v :: vs => (rel_wipe r vs).gone v
theorem wipe_at (σ : L2.St) (j : Nat) : ∀ vs : List Nat, (wipe σ vs)[j]? = if j ∈ vs then (if j < σ.length then some none else none) else σ[j]?
  | [] => by simp [wipe]
  | v :: vs => by
    unfold wipe
    by_cases hv : v = j
    · subst hv
      rw [if_pos List.mem_cons_self]
      by_cases hl : v < σ.length
      · rw [if_pos hl, List.getElem?_set_self (by rw [wipe_length]; exact hl)]
      · rw [if_neg hl, List.getElem?_eq_none (by rw [List.length_set, wipe_length]; omega)]
    · rw [List.getElem?_set_ne hv, wipe_at σ j vs]
      by_cases hm : j ∈ vs
      · rw [if_pos hm, if_pos (List.mem_cons_of_mem _ hm)]
      · rw [if_neg hm, if_neg (fun z => (List.mem_cons.mp z).elim (fun e => hv e.symm) hm)]
theorem wipe_kept {σ σ2 : L2.St} {is vs : List Nat} (hk : Kept is (wipe σ vs) σ2) (hs : ∀ i ∈ is, i ∈ vs) : wipe σ2 vs = wipe σ vs := by
  have hl : σ2.length = σ.length := hk.1.trans (wipe_length σ vs)
  refine List.ext_getElem? fun j => ?_
  rw [wipe_at, wipe_at, hl]
  by_cases hm : j ∈ vs
  · rw [if_pos hm, if_pos hm]
  · rw [if_neg hm, if_neg hm, hk.2 j (fun z => hm (hs j z)), wipe_at, if_neg hm]
structure ATs (X : Cx) (ifs : List Expr) (t : ATT) : Prop where
  pts : PTs X ifs (lowT X t)
def aYes : ATT := fun _ h Q _ => Q true h
theorem ptsImp {X : Cx} {ifs : List Expr} {t t' : TT} (p : PTs X ifs t) (k : ∀ σ H Q, t' σ H Q → t σ H Q) : PTs X ifs t' := ⟨fun pins s σ H Q I h => p.run pins s σ H Q I (k _ _ _ h)⟩
theorem ats_nil {X : Cx} : ATs X [] aYes := ⟨ptsImp pts_nil fun σ H Q ⟨α, h, q, E, rs, rh, tk, ht, k⟩ => k _ _ ⟨h, Mono.refl H, rh, ht⟩⟩
theorem ats_one {X : Cx} {c : Expr} {t : ATT} (h : AT X c t) : ATs X [c] t := ⟨pts_one h.pt⟩
def lcS (S : ASrc) (g : ATG) (tt : ATT) (te : ATE) (vs : List Nat) (α : ASt) (h1 : AH) (D : Addr) (Q : AH → Prop) : Prop := ∃ Pv : Nat → AH → Prop, Pv 0 (updA h1 D (.lst [])) ∧ (∀ i h, i ≤ S.n → Pv i h → S.stay h) ∧
  (∀ i x h, i < S.n → S.item i x → Pv i h → g x (wipeA α vs) h fun α2 h2 => tt α2 h2 (fun b h3 => if b = true then te α2 h3 (fun y h4 => ∃ acc, h4 D = some (.lst acc) ∧ acc.length < sizeLine ∧ Pv (i + 1) (updA h4 D (.lst (acc ++ [y])))) AE0 else Pv (i + 1) h3) AE0) ∧
  ∀ h, Pv S.n h → Q h
def aLc (w : ATI) (g : ATG) (tt : ATT) (te : ATE) (vs : List Nat) : ATE := fun α h Q E => w α h (fun S h1 => ∀ D, h1 D = none → lcS S g tt te vs α h1 D fun h2 => Q (.ref D) h2) E
/-! in a block no exception leaves -/
def lowB (K : Frg) (t : ATE) : TE := fun σ H Qv => ∃ α h Q, RelS K H α σ ∧ RelH K H h ∧ t α h Q AE0 ∧ ∀ v H', LQ K H Q v H' → Qv v H'
def lowTB (K : Frg) (t : ATT) : TT := fun σ H Qv => ∃ α h Q, RelS K H α σ ∧ RelH K H h ∧ t α h Q AE0 ∧ ∀ v H', LB K H Q v H' → Qv v H'
theorem peImp {X : Cx} {e : Expr} {t t' : TE} (h : PE X e t) (k : ∀ σ H Q, t' σ H Q → t σ H Q) : PE X e t' := ⟨fun pins s σ H Q I q => h.run pins s σ H Q I (k _ _ _ q)⟩
theorem psImp {X : Cx} {e : Stmt} {t t' : TS} (h : PS X e t) (k : ∀ D σ H, t' D σ H → t D σ H) : PS X e t' := ⟨fun pins s σ H D I q => h.run pins s σ H D I (k _ _ _ q)⟩
theorem AE.blk {X : Cx} {e : Expr} {t : ATE} (a : AE X e t) : PE X e (lowB X.K t) := peImp a.pe fun σ H Q ⟨α, h, q, rs, rh, ht, k⟩ => ⟨α, h, q, AE0, rs, rh, TakesE.none, ht, k⟩
theorem ATs.blk {X : Cx} {ifs : List Expr} {t : ATT} (a : ATs X ifs t) : PTs X ifs (lowTB X.K t) := ptsImp a.pts fun σ H Q ⟨α, h, q, rs, rh, ht, k⟩ => ⟨α, h, q, AE0, rs, rh, TakesE.none, ht, k⟩
section
variable {X : Cx} {elt tg iter : Expr} {ifs : List Expr} {scope : Scope} {own : List (Str × Nat)} {pos : Pos} {w : ATI} {is : List Nat} {g : ATG} {tt : ATT} {te : ATE}
theorem low_lc (hs : ∀ i ∈ is, i ∈ own.map (·.2)) {σ : L2.St} {H : Hp} {Q : VK} (z : low X (aLc w g tt te (own.map (·.2))) σ H Q) : tLc (lowI X w) (lowG X is g) (lowTB X.K tt) (lowB X.K te) (own.map (·.2)) σ H Q := by
  obtain ⟨α, h, q, E, rs, rh, tk, ht, k⟩ := z
  refine ⟨α, h, _, E, rs, rh, tk, ht, fun J S H1 h1 m1 rh1 ok q => ?_⟩
  intro D hD
  obtain ⟨Pv, p0, stay, step, done⟩ := q D (rh1.free hD)
  refine ⟨fun i m H' => m = S.n - i ∧ i ≤ S.n ∧ ∃ h', Mono H1 H' ∧ RelH X.K H' h' ∧ Pv i h', ⟨S.n, by simp, Nat.zero_le _, _, Mono.new hD, rh1.new hD (.lst .nil), p0⟩, ?_⟩
  rintro i m H' ⟨rfl, hi, h', m', rh', pv⟩
  by_cases hlt : i < S.n
  · refine .inr ⟨ok.go i H' h' m' rh' (stay i h' hi pv) hlt, fun H2 => ∃ h2, Mono H1 H2 ∧ RelH X.K H2 h2 ∧ Pv (i + 1) h2, fun H2 z => ⟨S.n - (i + 1), by omega, rfl, hlt, z⟩, fun x H2 y => ?_⟩
    obtain ⟨a, it, m2, ra, rh2⟩ := ok.yld i H' H2 h' x m' rh' (stay i h' hi pv) hlt y
    refine ⟨a, wipeA α (own.map (·.2)), h', _, ra, rel_wipe (((rs.up m1).up m').up m2) _, rh2, step i a h' hlt it pv, fun σ3 H3 ⟨α3, h3, m3, rs3, rh3, q3⟩ kp => ⟨wipe_kept kp hs, ?_⟩⟩
    refine ⟨α3, h3, _, rs3, rh3, q3, fun b H4 ⟨h4, m4, rh4, q4⟩ => ?_⟩
    have mm : Mono H1 H4 := ((m'.trans m2).trans m3).trans m4
    cases b with
    | false =>
      rw [if_neg Bool.false_ne_true] at q4
      refine iteF ?_
      exact ⟨h4, mm, rh4, q4⟩
    | true =>
      rw [if_pos rfl] at q4
      refine iteT ?_
      refine ⟨α3, h4, _, rs3.up m4, rh4, q4, fun v H5 ⟨y, h5, m5, r5, rh5, q5⟩ => ?_⟩
      obtain ⟨acc, e, z, pv5⟩ := q5
      obtain ⟨vs, f, rv⟩ := rh5.lst e
      have mw : Mono H5 (upd H5 D (.lst (vs ++ [v]))) := Mono.wr f ns_lst
      exact ⟨vs, f, by rw [← rv.len]; exact z, _, (mm.trans m5).trans mw, rh5.wr f ns_lst (.lst (rv.app (.one r5))), pv5⟩
  · have e : i = S.n := by omega
    subst e
    exact .inl ⟨ok.stop S.n H' h' m' rh' (stay S.n h' hi pv) (Nat.le_refl _), k _ _ ⟨.ref D, h', m1.trans m', .ref D, rh', done h' pv⟩⟩
theorem ae_lc (hc : X.calm = true) (hN : X.N.Nodup) (hi : AI X tg iter w) (ok : BlkOk X.N X.env.scope scope own)
    (hg : ∀ (s : Shared) (H : Hp) (C : Addr) (cl : List (Str × Addr)) (fp : List Addr), AG (X.blk s H scope (compEnvC scope cl C X.env) fp) tg is g) (ht : ∀ (s : Shared) (H : Hp) (C : Addr) (cl : List (Str × Addr)) (fp : List Addr), ATs (X.blk s H scope (compEnvC scope cl C X.env) fp) ifs tt)
    (he : ∀ (s : Shared) (H : Hp) (C : Addr) (cl : List (Str × Addr)) (fp : List Addr), AE (X.blk s H scope (compEnvC scope cl C X.env) fp) elt te) (hsub : ∀ i ∈ is, i ∈ own.map (·.2)) (hs : ∀ x, foldedSetIterable iter X.env x = pure x := by intro _; rfl) :
    AE X (.ListComp elt [⟨tg, iter, ifs, 0⟩] scope pos) (aLc w g tt te (own.map (·.2))) :=
  .of (pe_lc hc hN hi.pi ok (fun s H C cl fp => (hg s H C cl fp).pg) (fun s H C cl fp => (ht s H C cl fp).blk) (fun s H C cl fp => (he s H C cl fp).blk) hs) fun σ H Q z => low_lc hsub z
/-- y = [..], y a local name -/
theorem as_setLc (i : Nat) {y : Str} {py : Pos} {spos : Pos} (hc : X.calm = true) (hN : X.N.Nodup) (hy : X.N[i]? = some y) (hyl : X.env.scope.names.lookup y = some .local)
    (hsw : swapsWith (.ListComp elt [⟨tg, iter, ifs, 0⟩] scope pos) (some (.Name y py)) spos.line X.env = pure true) (hi : AI X tg iter w) (ok : BlkOk X.N X.env.scope scope own)
    (hg : ∀ (s : Shared) (H : Hp) (C : Addr) (cl : List (Str × Addr)) (fp : List Addr), AG (X.blk s H scope (compEnvC scope cl C X.env) fp) tg is g) (ht : ∀ (s : Shared) (H : Hp) (C : Addr) (cl : List (Str × Addr)) (fp : List Addr), ATs (X.blk s H scope (compEnvC scope cl C X.env) fp) ifs tt)
    (he : ∀ (s : Shared) (H : Hp) (C : Addr) (cl : List (Str × Addr)) (fp : List Addr), AE (X.blk s H scope (compEnvC scope cl C X.env) fp) elt te) (hsub : ∀ i ∈ is, i ∈ own.map (·.2)) (hs : ∀ x, foldedSetIterable iter X.env x = pure x := by intro _; rfl) :
    AS X (.Assign [.Name y py] (.ListComp elt [⟨tg, iter, ifs, 0⟩] scope pos) spos) (aAsg (aLc w g tt te (own.map (·.2))) (agN i)) :=
  .of (ps_setLc (i := i) hc hN hy hyl hsw hi.pi ok (fun s H C cl fp => (hg s H C cl fp).pg) (fun s H C cl fp => (ht s H C cl fp).blk) (fun s H C cl fp => (he s H C cl fp).blk) hs) fun D σ H ⟨α, h, DA, rs, rh, tk, ht, k⟩ =>
    low_lc hsub ⟨α, h, _, _, rs, rh, tk.e α, ht, fun v H' ⟨a, h', m, r, rh', q⟩ => k.nx _ _ ⟨_, h', m, (rs.up m).set i r, rh', q⟩⟩
end

/-! ### defs -/
abbrev ASp := List A → AH → AVK → AXK → Prop
def LX (K : Frg) (H : Hp) (E : AXK) : XK := fun cls d H' => d = none ∧ ∃ h', Mono H H' ∧ RelH K H' h' ∧ E cls h'
def lowSp (K : Frg) (sp : ASp) : Sp := fun vs H Q E => ∃ as h QA EA, RelAs K H as vs ∧ RelH K H h ∧ sp as h QA EA ∧ (∀ v H', LQ K H QA v H' → Q v H') ∧ ∀ cls d H', LX K H EA cls d H' → E cls d H'
abbrev AFn (P : Program) (w : World) (K : Frg) (mg : Str → Option Value) (base : Heap) (k : Nat) (f : Addr) (fd : FuncData) (ps : List Str) (sp : ASp) : Prop := FnOk P w K mg base (L2.CX P w) k f fd ps (lowSp K sp)
def startA (N : List Str) (as : List A) : ASt := as.map some ++ List.replicate (N.length - as.length) none
theorem rel_start {K : Frg} {H : Hp} {N : List Str} {as : List A} {vs : List V} (r : RelAs K H as vs) : RelS K H (startA N as) (L2.start N vs) := by
  refine ⟨?_, fun i a e => ?_⟩
  · unfold startA L2.start
    rw [List.length_append, List.length_append, List.length_map, List.length_map, List.length_replicate, List.length_replicate, r.len]
  · unfold startA at e
    by_cases hi : i < as.length
    · rw [List.getElem?_append_left (by simpa using hi), List.getElem?_map] at e
      cases q : as[i]? with
      | none => rw [q] at e; cases e
      | some b =>
        rw [q] at e
        cases e
        obtain ⟨v, e', r'⟩ := r.get q
        refine ⟨v, ?_, r'⟩
        unfold L2.start
        rw [List.getElem?_append_left (by rw [List.length_map, ← r.len]; exact hi), List.getElem?_map, e']
        rfl
    · rw [List.getElem?_append_right (by simpa using hi), List.getElem?_replicate] at e
      split at e <;> cases e
theorem AFn.mono {P : Program} {w : World} {K : Frg} {mg : Str → Option Value} {base : Heap} {j k : Nat} {f : Addr} {fd : FuncData} {ps : List Str} {sp : ASp} (F : AFn P w K mg base j f fd ps sp) (h : j ≤ k) : AFn P w K mg base k f fd ps sp := FnOk.mono F h
theorem AFn.imp {P : Program} {w : World} {K : Frg} {mg : Str → Option Value} {base : Heap} {k : Nat} {f : Addr} {fd : FuncData} {ps : List Str} {sp sp' : ASp} (F : AFn P w K mg base k f fd ps sp) (h : ∀ as h Q E, sp' as h Q E → sp as h Q E) : AFn P w K mg base k f fd ps sp' :=
  FnOk.imp F fun vs H Q E ⟨as, h', QA, EA, r, rh, hs, kQ, kE⟩ => ⟨as, h', QA, EA, r, rh, h _ _ _ _ hs, kQ, kE⟩
/-- a def by its body's derivation and its reading -/
theorem fnA {P : Program} {w : World} {K : Frg} {mg : Str → Option Value} {base : Heap} {x qual : Str} {params : Arguments} {body : List Stmt} {scope : Scope} {dvs : List V} {kws : List (Str × V)} {f : Addr} {fd : FuncData} {N ps : List Str} {k : Nat} {sp : ASp} {t : ATS}
    (F : FunD K x qual params body scope dvs kws f fd) (S : FnScope N ps scope)
    (walk : ∀ (X : Cx), X.prog = P → X.w = w → (∃ (cdv : Value) (A : Around) (outer : List Env) (s : Shared) (H : Hp) (E : XK), X = cxOf (L2.CX P w) P w K mg base N qual scope f cdv A outer s H E) → Room k X.A → PassesOwn (model X.prog X.w) X.A X.env X.xe → ASs X body t)
    (len : ∀ as h Q E, sp as h Q E → as.length = ps.length)
    (read : ∀ as h Q E, sp as h Q E → t { nx := fun _ h' => Q .non h', rt := Q, ex := fun c _ h' => E c h' } (startA N as) h) : AFn P w K mg base (k + 1) f fd ps sp := by
  refine F.ok S (fun vs H Q E ⟨as, h, QA, EA, r, _, hs, _⟩ => by rw [← r.len]; exact len _ _ _ _ hs) fun cdv A outer s H vs Q E hr ⟨as, h, QA, EA, r, rh, hs, kQ, kE⟩ => ?_
  refine ⟨lowS _ t, (walk _ rfl rfl ⟨cdv, A, outer, s, H, E, rfl⟩ hr (passes_of rfl)).pss, startA N as, h, _, rel_start r, rh, ?_, read as h QA EA hs, ⟨fun σ' H' ⟨α', h', m, rs', rh', q⟩ => kQ _ _ ⟨.non, h', m, .non, rh', q⟩, kQ, fun _ _ ⟨_, _, _, _, _, q⟩ => q.elim, fun _ _ ⟨_, _, _, _, _, q⟩ => q.elim⟩⟩
  refine ⟨H, Mono.refl H, Takes.imp (takes_of rfl rfl rfl rfl) fun cls d σ H' ⟨ed, m, α', h', rs', rh', q⟩ => kE _ _ _ ⟨ed, h', m, rh', q⟩⟩
section
variable {X : Cx} {k : Nat} {f C : Addr} {fd : FuncData} {ps : List Str} {sp : ASp} {dvs : List V} {ds : List Value} {das : List A} {x m : Str} {p pos apos : Pos} {e o : Expr} {es : List Expr} {ta : ATE} {t : ATA}
theorem runA {pins : List (Addr × Obj)} {σ : L2.St} {H : Hp} {s : Shared} {α : ASt} {h : AH} {Q : AVK} {E : AXK} {us : List Value} {vs : List V} {as : List A} (F : AFn X.prog X.w X.K X.mg X.base k f fd ps sp) (hr : Room k X.A) (hb : Binds X.K fd ps ds) (hd : Vals dvs ds) (hda : ∀ H, RelAs X.K H das dvs)
    (I : Inv X pins σ H s) (rs : RelS X.K H α σ) (rh : RelH X.K H h) (tk : TakesE X H α E) (r : Vals vs us) (ra : RelAs X.K H as vs) (q : sp (as ++ das) h Q E) : wpAny (model X.prog X.w) X.A (call (.ref f) us) (EP X pins σ (LQ X.K H Q)) X.xe s := by
  have hsp : lowSp X.K sp (vs ++ dvs) H (LQ X.K H Q) (LX X.K H E) := ⟨as ++ das, h, Q, E, ra.app (hda H), rh, q, fun _ _ z => z, fun _ _ _ z => z⟩
  have r2 : Vals (vs ++ dvs) (us ++ ds) := r.append hd
  have hl : (us ++ ds).length = ps.length := by rw [← r2.length]; exact F.len _ _ _ _ hsp
  refine wpAny_call (codeAny_mono (F.run X.A X.stack s H ⟨us, []⟩ (us ++ ds) (vs ++ dvs) _ _ hr I.env0 (hb s us I.kIn hl) r2 hsp) fun r s' hq => ?_)
  cases r with
  | error e =>
    obtain ⟨Hb, mb, tk⟩ := tk
    exact tk e s' (XE.of_call I (fun cls d H' ⟨ed, h', m, rh', q⟩ => ⟨ed, mb.trans m, rs.up m, h', rh', q⟩) hq)
  | ok fl =>
    cases fl with
    | ret u => exact I.after hq
    | next => exact False.elim hq
    | brk => exact False.elim hq
    | cont => exact False.elim hq
def aCall (sp : ASp) (das : List A) (t : ATA) : ATE := fun α h Q E => t α h (fun vs h1 => sp (vs ++ das) h1 Q E) E
theorem ae_call (F : AFn X.prog X.w X.K X.mg X.base k f fd ps sp) (hr : Room k X.A) (hg : Gl X x) (hm : X.mg x = some (.ref f)) (hk : PySem.W.keepIn X.K (.ref f) = true) (hb : Binds X.K fd ps ds) (hd : Vals dvs ds) (hda : ∀ H, RelAs X.K H das dvs)
    (ha : AAs X (e :: es) t) (hdb : (x == ("__debug__" : Str)) = false := by decide) (he : starEach (e :: es) X.env = (false, eval e X.env) :: starEach es X.env := by rfl) (hpl : (backTo pos (starEach es X.env)).any (·.1) = false := by rfl) :
    AE X (.Call (.Name x p) (e :: es) [] pos) (aCall sp das t) := by
  refine ⟨fun pins s σ H α h Q E I rs rh tk ht => ?_⟩
  refine wpAny_Call_Name_kw (ld_glob I hg hm ?_ hdb)
  refine PySem.W.callWith_K (h₀ := X.base) I.ok.mod.kin hk (thn (ha.run pos pins s σ H α h _ E I rs rh tk ht) fun us s1 ⟨vs, H1, I1, r, as, h1, m1, ras, rh1, q⟩ => ⟨I1.kIn, ?_⟩) he hpl
  exact thn (runA F hr hb hd hda I1 (rs.up m1) rh1 (tk.up m1) r ras q) fun u s2 ⟨v, H2, I2, r2, q2⟩ => ⟨v, H2, I2, r2, q2.up m1⟩
theorem ae_call0 (F : AFn X.prog X.w X.K X.mg X.base k f fd ps sp) (hr : Room k X.A) (hg : Gl X x) (hm : X.mg x = some (.ref f)) (hk : PySem.W.keepIn X.K (.ref f) = true) (hb : Binds X.K fd ps ds) (hd : Vals dvs ds) (hda : ∀ H, RelAs X.K H das dvs)
    (hdb : (x == ("__debug__" : Str)) = false := by decide) : AE X (.Call (.Name x p) [] [] pos) (aCall sp das aNil) := by
  refine ⟨fun pins s σ H α h Q E I rs rh tk ht => ?_⟩
  refine wpAny_Call_Name_kw (ld_glob I hg hm ?_ hdb)
  exact PySem.W.callWith_K0 I.kIn hk (runA (us := []) (vs := []) (as := []) F hr hb hd hda I rs rh tk .nil .nil ht)
/-- o.m(..) of an own instance of the class at C -/
def aMeth (C : Addr) (m : Str) (sp : ASp) (das : List A) (ta : ATE) (t : ATA) : ATE := fun α h Q E => ta α h (fun x h1 => match x with
  | .ref p => ∃ fs, h1 p = some (.ins C fs) ∧ fs.lookup m = none ∧ t α h1 (fun vs h2 => sp (.ref p :: (vs ++ das)) h2 Q E) E
  | _ => False) E
theorem ae_meth {pl : Sem Bool} (he : AE X o ta) (c : Cls X.K C) (hm : Meth X.K C m f) (F : AFn X.prog X.w X.K X.mg X.base k f fd ps sp) (hr : Room k X.A) (hb : Binds X.K fd ps ds) (hd : Vals dvs ds) (hda : ∀ H, RelAs X.K H das dvs) (ha : AAs X (e :: es) t)
    (hst : starEach (e :: es) X.env = (false, eval e X.env) :: starEach es X.env := by rfl) (hpl : (backTo pos (starEach es X.env)).any (·.1) = false := by rfl)
    (ht : eval (.Call (.Attribute o m apos) (e :: es) [] pos) X.env = (do
      let ov ← eval o X.env
      standAt apos.atName
      let (f, first) ← holding [ov] (getMethod ov m pl)
      callWith pos f first (backTo pos (starEach (e :: es) X.env)) (backToKw pos (keywordEach [] X.env))) := by rfl) :
    AE X (.Call (.Attribute o m apos) (e :: es) [] pos) (aMeth C m sp das ta t) := by
  refine ⟨fun pins s σ H α h Q E I rs rh tk hh => ?_⟩
  refine PySem.W.methodCall_KW (pl := pl) (thn (he.run pins s σ H α h _ E I rs rh tk hh) fun u s1 ⟨x, H1, I1, rx, a, h1, m1, ra, rh1, q⟩ => ?_) ht
  cases ra with
  | ref a =>
    obtain ⟨fs, ea, l, q⟩ := (show ∃ fs, h1 a = some (.ins C fs) ∧ fs.lookup m = none ∧ t α h1 (fun vs h2 => sp (.ref a :: (vs ++ das)) h2 Q E) E from q)
    obtain ⟨dx, vs0, f1, rk⟩ := rh1.ins ea
    obtain rfl : u = Value.ref a := rx
    refine getmeth_ok I1 f1 c hm (rk.lookN l) ?_
    refine PySem.W.callWith_K (first := [.ref a]) (h₀ := X.base) I.ok.mod.kin hm.kp (thn (ha.run pos pins s1 σ H1 α h1 _ E I1 (rs.up m1) rh1 (tk.up m1) q) fun us s2 ⟨vs, H2, I2, r, as, h2, m2, ras, rh2, q2⟩ => ⟨I2.kIn, ?_⟩) hst hpl
    exact thn (runA (us := .ref a :: us) (vs := .ref a :: vs) (as := .ref a :: as) F hr hb hd hda I2 ((rs.up m1).up m2) rh2 ((tk.up m1).up m2) (.cons rfl r) (.cons (.ref a) ras) q2) fun u s3 ⟨v, H3, I3, r3, q3⟩ => ⟨v, H3, I3, r3, q3.up (m1.trans m2)⟩
  | _ => exact (show False from q).elim
theorem ae_meth0 {pl : Sem Bool} (he : AE X o ta) (c : Cls X.K C) (hm : Meth X.K C m f) (F : AFn X.prog X.w X.K X.mg X.base k f fd ps sp) (hr : Room k X.A) (hb : Binds X.K fd ps ds) (hd : Vals dvs ds) (hda : ∀ H, RelAs X.K H das dvs)
    (ht : eval (.Call (.Attribute o m apos) [] [] pos) X.env = (do
      let ov ← eval o X.env
      standAt apos.atName
      let (f, first) ← holding [ov] (getMethod ov m pl)
      callWith pos f first (backTo pos (starEach [] X.env)) (backToKw pos (keywordEach [] X.env))) := by rfl) :
    AE X (.Call (.Attribute o m apos) [] [] pos) (aMeth C m sp das ta aNil) := by
  refine ⟨fun pins s σ H α h Q E I rs rh tk hh => ?_⟩
  refine PySem.W.methodCall_KW (pl := pl) (thn (he.run pins s σ H α h _ E I rs rh tk hh) fun u s1 ⟨x, H1, I1, rx, a, h1, m1, ra, rh1, q⟩ => ?_) ht
  cases ra with
  | ref a =>
    obtain ⟨fs, ea, l, q⟩ := (show ∃ fs, h1 a = some (.ins C fs) ∧ fs.lookup m = none ∧ sp (.ref a :: ([] ++ das)) h1 Q E from q)
    obtain ⟨dx, vs0, f1, rk⟩ := rh1.ins ea
    obtain rfl : u = Value.ref a := rx
    refine getmeth_ok I1 f1 c hm (rk.lookN l) ?_
    exact PySem.W.callWith_K0 (first := [.ref a]) I1.kIn hm.kp (thn (runA (us := [.ref a]) (vs := [.ref a]) (as := [.ref a]) F hr hb hd hda I1 (rs.up m1) rh1 (tk.up m1) (.cons rfl .nil) (.one (.ref a)) q) fun u s3 ⟨v, H3, I3, r3, q3⟩ => ⟨v, H3, I3, r3, q3.up m1⟩)
  | _ => exact (show False from q).elim
/-- C(..) with an own __init__ -/
def aMake (C : Addr) (sp : ASp) (das : List A) (t : ATA) : ATE := fun α h Q E => t α h (fun vs h1 => ∀ x, h1 x = none → sp (.ref x :: (vs ++ das)) (updA h1 x (.ins C [])) (fun v h2 => match v with
  | .non => Q (.ref x) h2
  | _ => False) E) E
theorem make_runA {pins : List (Addr × Obj)} {σ : L2.St} {H : Hp} {s : Shared} {α : ASt} {h : AH} {Q : AVK} {E : AXK} {us : List Value} {vs : List V} {as : List A} (M : Mk X.K C f) (F : AFn X.prog X.w X.K X.mg X.base k f fd ps sp) (hr : Room (k + 1) X.A) (hb : Binds X.K fd ps ds) (hd : Vals dvs ds) (hda : ∀ H, RelAs X.K H das dvs)
    (I : Inv X pins σ H s) (rs : RelS X.K H α σ) (rh : RelH X.K H h) (tk : TakesE X H α E) (r : Vals vs us) (ra : RelAs X.K H as vs)
    (q : ∀ x, h x = none → sp (.ref x :: (as ++ das)) (updA h x (.ins C [])) (fun v h2 => match v with
      | .non => Q (.ref x) h2
      | _ => False) E) : wpAny (model X.prog X.w) X.A (call (.ref C) us) (EP X pins σ (LQ X.K H Q)) X.xe s := by
  have f1 : H (s.heap.objs.size + 1) = none := I.hok.fresh (Nat.le_succ _)
  have f2 : H s.heap.objs.size = none := I.hok.fresh (Nat.le_refl _)
  have ne : s.heap.objs.size ≠ s.heap.objs.size + 1 := Nat.ne_of_lt (Nat.lt_succ_self _)
  have I2 := Inv.made (C := C) I
  have f3 : (upd H s.heap.objs.size (.own (s.heap.objs.size + 1))) (s.heap.objs.size + 1) = none := by rw [upd_ne (Ne.symm ne)]; exact f1
  have m2 : Mono H (upd (upd H s.heap.objs.size (.own (s.heap.objs.size + 1))) (s.heap.objs.size + 1) (.ins C s.heap.objs.size [])) := (Mono.new f2).trans (Mono.new f3)
  have rh2 : RelH X.K (upd (upd H s.heap.objs.size (.own (s.heap.objs.size + 1))) (s.heap.objs.size + 1) (.ins C s.heap.objs.size [])) (updA h (s.heap.objs.size + 1) (.ins C [])) := (rh.skip f2).new f3 (.ins .nil)
  have hsp : lowSp X.K sp (V.ref (s.heap.objs.size + 1) :: (vs ++ dvs)) _ (LQ X.K _ _) (LX X.K _ E) := ⟨A.ref (s.heap.objs.size + 1) :: (as ++ das), _, _, E, .cons (.ref _) ((ra.up m2).app (hda _)), rh2, q (s.heap.objs.size + 1) (rh.free f1), fun _ _ z => z, fun _ _ _ z => z⟩
  have r2 : Vals (V.ref (s.heap.objs.size + 1) :: (vs ++ dvs)) (Value.ref (s.heap.objs.size + 1) :: (us ++ ds)) := .cons rfl (r.append hd)
  have hl : (Value.ref (s.heap.objs.size + 1) :: us ++ ds).length = ps.length := by
    have e := r2.length
    rw [F.len _ _ _ _ hsp] at e
    exact e.symm
  refine wpAny_call (make_map (f := f) I.kIn M.makes M.init (beq_iff_eq.mp M.fn) (codeAny_mono (F.run _ X.stack _ _ ⟨Value.ref (s.heap.objs.size + 1) :: us, []⟩ (Value.ref (s.heap.objs.size + 1) :: (us ++ ds)) _ _ _ (hr.make C us [])
    (I2.env0.make C us []) (hb _ (Value.ref (s.heap.objs.size + 1) :: us) I2.kIn hl) r2 hsp) fun r s' hq' => ?_))
  cases r with
  | error e =>
    obtain ⟨Hb, mb, tk⟩ := tk
    exact tk e s' (XE.of_call I2 (fun cls d H' ⟨ed, h', m, rh', q⟩ => ⟨ed, (mb.trans m2).trans m, (rs.up m2).up m, h', rh', q⟩) hq')
  | ok fl =>
    cases fl with
    | ret u =>
      obtain ⟨v, H', I3, rv, a, h', m3, ra3, rh3, q3⟩ := I2.after hq'
      cases ra3 with
      | non => exact ⟨rv, ⟨V.ref (s.heap.objs.size + 1), H', I3, rfl, .ref _, h', m2.trans m3, .ref _, rh3, q3⟩⟩
      | _ => exact (show False from q3).elim
    | next => exact False.elim hq'
    | brk => exact False.elim hq'
    | cont => exact False.elim hq'
theorem ae_make (M : Mk X.K C f) (F : AFn X.prog X.w X.K X.mg X.base k f fd ps sp) (hr : Room (k + 1) X.A) (hg : Gl X x) (hm : X.mg x = some (.ref C)) (hb : Binds X.K fd ps ds) (hd : Vals dvs ds) (hda : ∀ H, RelAs X.K H das dvs)
    (ha : AAs X (e :: es) t) (hdb : (x == ("__debug__" : Str)) = false := by decide) (he : starEach (e :: es) X.env = (false, eval e X.env) :: starEach es X.env := by rfl) (hpl : (backTo pos (starEach es X.env)).any (·.1) = false := by rfl) :
    AE X (.Call (.Name x p) (e :: es) [] pos) (aMake C sp das t) := by
  refine ⟨fun pins s σ H α h Q E I rs rh tk ht => ?_⟩
  refine wpAny_Call_Name_kw (ld_glob I hg hm ?_ hdb)
  refine PySem.W.callWith_K (h₀ := X.base) I.ok.mod.kin M.kp (thn (ha.run pos pins s σ H α h _ E I rs rh tk ht) fun us s1 ⟨vs, H1, I1, r, as, h1, m1, ras, rh1, q⟩ => ⟨I1.kIn, ?_⟩) he hpl
  exact thn (make_runA M F hr hb hd hda I1 (rs.up m1) rh1 (tk.up m1) r ras q) fun u s2 ⟨v, H2, I2, r2, q2⟩ => ⟨v, H2, I2, r2, q2.up m1⟩
theorem ae_make0 (M : Mk X.K C f) (F : AFn X.prog X.w X.K X.mg X.base k f fd ps sp) (hr : Room (k + 1) X.A) (hg : Gl X x) (hm : X.mg x = some (.ref C)) (hb : Binds X.K fd ps ds) (hd : Vals dvs ds) (hda : ∀ H, RelAs X.K H das dvs)
    (hdb : (x == ("__debug__" : Str)) = false := by decide) : AE X (.Call (.Name x p) [] [] pos) (aMake C sp das aNil) := by
  refine ⟨fun pins s σ H α h Q E I rs rh tk ht => ?_⟩
  refine wpAny_Call_Name_kw (ld_glob I hg hm ?_ hdb)
  exact PySem.W.callWith_K0 I.kIn M.kp (make_runA (us := []) (vs := []) (as := []) M F hr hb hd hda I rs rh tk .nil .nil ht)
end
end G
namespace G
open PySem PySem.Spec L2

/-! ### built-in functions and types, called -/
/-- the items of a list or a tuple -/
def seqA (x : A) (h : AH) (R : List A → Prop) : Prop := match x with
  | .ref p => ∃ xs, LstA h p xs ∧ R xs
  | .fls xs => R xs
  | x => asT x R
theorem seqA_inv {K : Frg} {H : Hp} {h : AH} {x : A} {v : V} {R : List A → Prop} (rh : RelH K H h) (r : RelA K H x v) (q : seqA x h R) : ∃ p vs xs, v = .ref p ∧ (SqL K H p vs ∨ SqT K H p vs) ∧ RelAs K H xs vs ∧ R xs := by
  cases r with
  | ref p =>
    obtain ⟨xs, e, q⟩ := (show ∃ xs, LstA h p xs ∧ R xs from q)
    obtain ⟨vs, e', rv⟩ := rh.rd e
    exact ⟨p, vs, xs, rfl, .inl e', rv, q⟩
  | @tup p xs vs e r => exact ⟨p, vs, xs, rfl, .inr e.sq, r, q⟩
  | @fls p xs vs e r => exact ⟨p, vs, xs, rfl, .inl e.sq, r, q⟩
  | @kt p ks e => exact ⟨p, _, _, rfl, .inr (SqT.of e), rel_keysV ks, q⟩
  | _ => exact (show False from q).elim
def one (R : A → AH → AVK → Prop) : ARs := fun as h Q => match as with
  | [x] => R x h Q
  | _ => False
theorem one_inv {K : Frg} {H : Hp} {h : AH} {as : List A} {vs : List V} {Q : AVK} {R : A → AH → AVK → Prop} (r : RelAs K H as vs) (q : one R as h Q) : ∃ x v, vs = [v] ∧ RelA K H x v ∧ R x h Q := by
  cases r with
  | nil => exact q.elim
  | cons r t => cases t with
    | nil => exact ⟨_, _, rfl, r, q⟩
    | cons _ _ => exact (show False from q).elim
def two (R : A → A → AH → AVK → Prop) : ARs := fun as h Q => match as with
  | [x, y] => R x y h Q
  | _ => False
theorem two_inv {K : Frg} {H : Hp} {h : AH} {as : List A} {vs : List V} {Q : AVK} {R : A → A → AH → AVK → Prop} (r : RelAs K H as vs) (q : two R as h Q) : ∃ x y v w, vs = [v, w] ∧ RelA K H x v ∧ RelA K H y w ∧ R x y h Q := by
  cases r with
  | nil => exact q.elim
  | cons r t => cases t with
    | nil => exact (show False from q).elim
    | cons r2 t => cases t with
      | nil => exact ⟨_, _, _, _, rfl, r, r2, q⟩
      | cons _ _ => exact (show False from q).elim
section
variable {K : Frg}
abbrev lenA : ARs := one fun x h Q => seqA x h fun xs => Q (.int xs.length) h
theorem o_len : OpN K (fun xs H Q => ∃ p ys, xs = [.ref p] ∧ (SqL K H p ys ∨ SqT K H p ys) ∧ Q (.int ys.length) H) lenA := fun H h vs as Q Qv r rh k q => by
  obtain ⟨x, v, rfl, rx, q⟩ := one_inv r q
  obtain ⟨p, vs, xs, rfl, e, rv, q⟩ := seqA_inv rh rx q
  exact ⟨p, vs, rfl, e, k _ _ ⟨_, h, Mono.refl H, .int _, rh, by rw [← rv.len]; exact q⟩⟩
def absA : ARs := one fun x h Q => match x with
  | .int i => Q (.int (if i < 0 then -i else i)) h
  | _ => False
theorem o_abs : OpN K (fun xs H Q => ∃ i, xs = [.int i] ∧ Q (.int (if i < 0 then -i else i)) H) absA := fun H h vs as Q Qv r rh k q => by
  obtain ⟨x, v, rfl, rx, q⟩ := one_inv r q
  cases rx with
  | int i => exact ⟨i, rfl, k _ _ ⟨_, h, Mono.refl H, .int _, rh, q⟩⟩
  | _ => exact (show False from q).elim
/-- int(x) of an int or a truth -/
def intA : ARs := one fun x h Q => match x with
  | .int i => Q (.int i) h
  | .bl b => Q (.int (if b then 1 else 0)) h
  | _ => False
theorem o_int : OpN K (fun xs H Q => (∃ i, xs = [.int i] ∧ Q (.int i) H) ∨ ∃ k, xs = [.bl k] ∧ Q (.int (if k then 1 else 0)) H) intA := fun H h vs as Q Qv r rh k q => by
  obtain ⟨x, v, rfl, rx, q⟩ := one_inv r q
  cases rx with
  | int i => exact .inl ⟨i, rfl, k _ _ ⟨_, h, Mono.refl H, .int _, rh, q⟩⟩
  | bl b => exact .inr ⟨b, rfl, k _ _ ⟨_, h, Mono.refl H, .int _, rh, q⟩⟩
  | _ => exact (show False from q).elim
/-- all(xs) of a list of truths -/
def blsA (as : List A) : List A := as
theorem rel_bls {H : Hp} : ∀ {bs : List Bool} {vs : List V}, RelAs K H (bs.map A.bl) vs → vs = bs.map V.bl
  | [], _, .nil => rfl
  | b :: bs, _, .cons r t => by cases r; rw [List.map_cons, rel_bls t]
theorem rel_ints {H : Hp} : ∀ {bs : List Int} {vs : List V}, RelAs K H (bs.map A.int) vs → vs = bs.map V.int
  | [], _, .nil => rfl
  | b :: bs, _, .cons r t => by cases r; rw [List.map_cons, rel_ints t]
def allA : ARs := one fun x h Q => match x with
  | .ref p => ∃ bs : List Bool, LstA h p (bs.map A.bl) ∧ Q (.bl (bs.all id)) h
  | _ => False
theorem o_all : OpN K (rAll K) allA := fun H h vs as Q Qv r rh k q => by
  obtain ⟨x, v, rfl, rx, q⟩ := one_inv r q
  cases rx with
  | ref p =>
    obtain ⟨bs, e, q⟩ := (show ∃ bs : List Bool, LstA h p (bs.map A.bl) ∧ Q (.bl (bs.all id)) h from q)
    obtain ⟨vs, e', rv⟩ := rh.rd e
    have ev := rel_bls rv
    subst ev
    exact ⟨p, bs, rfl, e', k _ _ ⟨_, h, Mono.refl H, .bl _, rh, q⟩⟩
  | _ => exact (show False from q).elim
/-- list(x), tuple(x) of a list or a tuple -/
abbrev listA : ARs := one fun x h Q => seqA x h fun xs => ∀ p, h p = none → Q (.ref p) (updA h p (.lst xs))
theorem o_list : OpN K (fun xs H Q => ∃ p ys, xs = [.ref p] ∧ (SqL K H p ys ∨ SqT K H p ys) ∧ ∀ l, H l = none → Q (.ref l) (upd H l (.lst ys))) listA := fun H h vs as Q Qv r rh k q => by
  obtain ⟨x, v, rfl, rx, q⟩ := one_inv r q
  obtain ⟨p, vs, xs, rfl, e, rv, q⟩ := seqA_inv rh rx q
  exact ⟨p, vs, rfl, e, fun l hl => k _ _ ⟨.ref l, _, Mono.new hl, .ref l, rh.new hl (.lst rv), q l (rh.free hl)⟩⟩
def tupleA : ARs := one fun x h Q => match x with
  | .ref p => ∃ xs, LstA h p xs ∧ Q (.tup xs) h
  | .tup xs => Q (.tup xs) h
  | .kt ks => Q (.kt ks) h
  | _ => False
theorem o_tuple : OpN K (fun xs H Q => ∃ p ys, xs = [.ref p] ∧ ((SqL K H p ys ∧ ∀ l, H l = none → Q (.ref l) (upd H l (.tup ys))) ∨ (SqT K H p ys ∧ Q (.ref p) H))) tupleA := fun H h vs as Q Qv r rh k q => by
  obtain ⟨x, v, rfl, rx, q⟩ := one_inv r q
  cases rx with
  | ref p =>
    obtain ⟨xs, e, q⟩ := (show ∃ xs, LstA h p xs ∧ Q (.tup xs) h from q)
    obtain ⟨vs, e', rv⟩ := rh.rd e
    exact ⟨p, vs, rfl, .inl ⟨e', fun l hl => k _ _ ⟨_, h, Mono.new hl, .tup (.of upd_same) (rv.up (Mono.new hl)), rh.skip hl, q⟩⟩⟩
  | @tup p xs vs e rv => exact ⟨p, vs, rfl, .inr ⟨e.sq, k _ _ ⟨_, h, Mono.refl H, .tup e rv, rh, q⟩⟩⟩
  | @kt p ks e => exact ⟨p, _, rfl, .inr ⟨SqT.of e, k _ _ ⟨_, h, Mono.refl H, .kt e, rh, q⟩⟩⟩
  | _ => exact (show False from q).elim

/-! ### isinstance -/
/-- an own class whose instances isinstance asks rightly -/
def InsCls (K : Frg) (C : Addr) : Prop := Cls K C ∧ PySem.W.findIn K (.ref C) "__class__" = some (some (.builtin "object.__class__")) ∧
  PySem.W.specialIn K (.builtin "object.__class__") "__get__" = some (some (.builtin "getset_descriptor.__get__")) ∧ PySem.W.takesIn K (.builtin "object.__class__") = some true ∧ PySem.W.mroIn K C (.type "object") = some true
def tyU (K : Frg) (x : A) (h : AH) (t : Value) : Prop := match x with
  | .non => t = .type "NoneType"
  | .bl _ => t = .type "bool"
  | .int _ => t = .type "int"
  | .str _ => t = .type "str"
  | .tup _ => t = .type "tuple"
  | .kt _ => t = .type "tuple"
  | .ref p => ((∃ xs, LstA h p xs) ∧ t = .type "list") ∨ (((∃ xs, h p = some (.dK xs)) ∨ ∃ xs, h p = some (.dT xs)) ∧ t = .type "dict") ∨ ∃ C fs, h p = some (.ins C fs) ∧ InsCls K C ∧ t = .ref C
  | .ty _ => False
  | .fls _ => False
theorem tyU_rel {H : Hp} {h : AH} {x : A} {v : V} {t : Value} (rh : RelH K H h) (r : RelA K H x v) (q : tyU K x h t) : TyX K H v t := by
  cases r with
  | non => cases (show t = _ from q); exact .base .non
  | bl b => cases (show t = _ from q); exact .base (.bl b)
  | int i => cases (show t = _ from q); exact .base (.int i)
  | str z => cases (show t = _ from q); exact .base (.str z)
  | kt e => cases (show t = _ from q); exact .base (.tup e)
  | tup e _ =>
    cases (show t = _ from q)
    rcases e with e | ⟨o, its, n, lk, c, _⟩
    · exact .base (.tup e)
    · exact .kTuple lk c
  | ty _ => exact (show False from q).elim
  | fls _ _ => exact (show False from q).elim
  | ref p =>
    rcases q with ⟨⟨xs, e⟩, rfl⟩ | ⟨e, rfl⟩ | ⟨C, fs, e, c, rfl⟩
    · obtain ⟨vs, e', _⟩ := rh.lst e
      exact .base (.lst e')
    · rcases e with ⟨xs, e⟩ | ⟨xs, e⟩
      · obtain ⟨u, e', ro⟩ := rh p _ e
        cases ro
        exact .base (.dK e')
      · obtain ⟨u, e', ro⟩ := rh p _ e
        cases ro
        exact .base (.dT e')
    · obtain ⟨dx, vs, e', _⟩ := rh.ins e
      exact .base (.ins e' c.1 c.2.1 c.2.2.1 c.2.2.2.1 c.2.2.2.2)
/-- a class as a value -/
def clsU : A → Value
  | .ty n => .type n
  | .ref C => .ref C
  | _ => .none
def isCls : A → Bool
  | .ty _ => true
  | .ref _ => true
  | _ => false
theorem cls_rel {H : Hp} {c : A} {v : V} (r : RelA K H c v) (e : isCls c = true) : ClsV v (clsU c) := by
  cases r <;> first | exact .ty _ | exact .own _ | (simp [isCls] at e)
theorem clss_rel {H : Hp} : ∀ {cs : List A} {vs : List V}, RelAs K H cs vs → cs.all isCls = true → Paired ClsV vs (cs.map clsU)
  | _, _, .nil, _ => .nil
  | _, _, .cons r t, e => by
    rw [List.all_cons, Bool.and_eq_true] at e
    exact .cons (cls_rel r e.1) (clss_rel t e.2)
def isiA (K : Frg) : ARs := two fun x c h Q => match c with
  | .tup cs => cs.all isCls = true ∧ ∃ t b, tyU K x h t ∧ PySem.W.kitAny K t (cs.map clsU) = some b ∧ Q (.bl b) h
  | c => isCls c = true ∧ ∃ t b, tyU K x h t ∧ PySem.W.kitOne K t (clsU c) = some b ∧ Q (.bl b) h
def rIsiAll (K : Frg) : List V → Hp → VK → Prop := fun xs H Q => rIsi K xs H Q ∨ rIsiT K xs H Q ∨ rIsiK K xs H Q
theorem callr_isi {X : Cx} : CallR X (.builtin "isinstance") (rIsiAll X.K) := call_isi.or (call_isiT.or call_isiK)
theorem vals_cls {cs : List V} {us us' : List Value} (k : Paired ClsV cs us) (r : Vals cs us') : us' = us := ClsV.all k r
theorem o_isi : OpN K (rIsiAll K) (isiA K) := fun H h vs as Q Qv r rh k q => by
  obtain ⟨x, c, v, w, rfl, rx, rc, q⟩ := two_inv r q
  have gen : (isCls c = true ∧ ∃ t b, tyU K x h t ∧ PySem.W.kitOne K t (clsU c) = some b ∧ Q (.bl b) h) → rIsiAll K [v, w] H Qv := fun ⟨e, t, b, ty, kt, q⟩ =>
    .inl ⟨v, w, t, clsU c, b, rfl, cls_rel rc e, tyU_rel rh rx ty, kt, k _ _ ⟨_, h, Mono.refl H, .bl _, rh, q⟩⟩
  cases rc with
  | @tup p xs vs e rv =>
    obtain ⟨ec, t, b, ty, kt, q⟩ := (show xs.all isCls = true ∧ ∃ t b, tyU K x h t ∧ PySem.W.kitAny K t (xs.map clsU) = some b ∧ Q (.bl b) h from q)
    rcases e with e | ⟨o, its, n, lk, c, hd, hz, rvv⟩
    · exact .inr (.inl ⟨v, p, vs, t, _, b, rfl, e, clss_rel rv ec, tyU_rel rh rx ty, kt, k _ _ ⟨_, h, Mono.refl H, .bl _, rh, q⟩⟩)
    · have eu : its.toList = xs.map clsU := vals_cls (clss_rel rv ec) rvv
      obtain ⟨oc, od, oda, osl⟩ := o
      dsimp only at c hd
      subst c hd
      refine .inr (.inr ⟨v, p, od, xs.map clsU, n, osl, t, b, rfl, ?_, tyU_rel rh rx ty, kt, k _ _ ⟨_, h, Mono.refl H, .bl _, rh, q⟩⟩)
      rw [← eu]
      exact lk
  | _ => exact gen q
end

/-! ### slices -/
abbrev ATO := ASt → AH → (Option Int → AH → Prop) → AXK → Prop
def lowO (X : Cx) (t : ATO) : TO := fun σ H Qv => ∃ α h Q E, RelS X.K H α σ ∧ RelH X.K H h ∧ TakesE X H α E ∧ t α h Q E ∧ ∀ o H' h', Mono H H' → RelH X.K H' h' → Q o h' → Qv o H'
structure AOp (X : Cx) (e : Option Expr) (t : ATO) : Prop where
  po : PO X e (lowO X t)
theorem poImp {X : Cx} {e : Option Expr} {t t' : TO} (h : PO X e t) (k : ∀ σ H Q, t' σ H Q → t σ H Q) : PO X e t' := ⟨fun pins s σ H Q I q => h.run pins s σ H Q I (k _ _ _ q)⟩
def aNoPart : ATO := fun _ h Q _ => Q none h
def aPart (t : ATE) : ATO := fun α h Q E => t α h (fun x h1 => match x with
  | .int i => Q (some i) h1
  | _ => False) E
section
variable {X : Cx} {e lo hi : Expr} {pos p2 : Pos} {te : ATE} {tl th : ATO}
theorem ao_none : AOp X none aNoPart := ⟨poImp po_none fun σ H Q ⟨α, h, q, E, rs, rh, tk, ht, k⟩ => k _ H h (Mono.refl H) rh ht⟩
theorem ao_some (h : AE X e te) : AOp X (some e) (aPart te) := ⟨poImp (po_some h.pe) fun σ H Q ⟨α, h, q, E, rs, rh, tk, ht, k⟩ => low.then (H0 := H) rs rh tk ht fun v H1 x h1 m1 r1 rh1 rs1 q1 => by
  cases r1 with
  | int i => exact ⟨i, rfl, k _ _ h1 m1 rh1 q1⟩
  | _ => exact (show False from q1).elim⟩
def cutA (xs : List A) (lo hi : Option Int) : List A := (xs.drop (HT.sIx xs.length 0 lo)).take (HT.sIx xs.length xs.length hi - HT.sIx xs.length 0 lo)
theorem cut_rel {K : Frg} {H : Hp} {xs : List A} {vs : List V} (r : RelAs K H xs vs) (lo hi : Option Int) : RelAs K H (cutA xs lo hi) (cutV vs lo hi) := by
  unfold cutA cutV
  rw [r.len]
  exact (r.drop _).take _
def aSlL (te : ATE) (tl th : ATO) : ATE := fun α h Q E => te α h (fun x h1 => match x with
  | .ref p => tl α h1 (fun l h2 => th α h2 (fun u h3 => ∃ xs, LstA h3 p xs ∧ ∀ r, h3 r = none → Q (.ref r) (updA h3 r (.lst (cutA xs l u)))) E) E
  | .fls xs => tl α h1 (fun l h2 => th α h2 (fun u h3 => ∀ r, h3 r = none → Q (.ref r) (updA h3 r (.lst (cutA xs l u)))) E) E
  | _ => False) E
theorem ae_slL {lo hi : Option Expr} (he : AE X e te) (hl : AOp X lo tl) (hh : AOp X hi th) : AE X (.Subscript e (.Slice lo hi none p2) pos) (aSlL te tl th) :=
  .of (pe_slice sl_list he.pe hl.po hh.po) fun σ H Q ⟨α, h, q, E, rs, rh, tk, ht, k⟩ => low.then (H0 := H) rs rh tk ht fun v H1 x h1 m1 r1 rh1 rs1 q1 => by
    cases r1 with
    | ref p =>
      refine ⟨α, h1, _, E, rs1, rh1, tk.up m1, q1, fun l H2 h2 m2 rh2 q2 => ⟨α, h2, _, E, rs1.up m2, rh2, (tk.up m1).up m2, q2, fun u H3 h3 m3 rh3 q3 => ?_⟩⟩
      obtain ⟨xs, e, q⟩ := q3
      obtain ⟨vs, e', rv⟩ := rh3.rd e
      exact ⟨p, vs, rfl, e', fun r hr => k _ _ ⟨.ref r, _, ((m1.trans m2).trans m3).trans (Mono.new hr), .ref r, rh3.new hr (.lst (cut_rel rv l u)), q r (rh3.free hr)⟩⟩
    | @fls p xs vs eF rv =>
      refine ⟨α, h1, _, E, rs1, rh1, tk.up m1, q1, fun l H2 h2 m2 rh2 q2 => ⟨α, h2, _, E, rs1.up m2, rh2, (tk.up m1).up m2, q2, fun u H3 h3 m3 rh3 q3 => ?_⟩⟩
      exact ⟨p, vs, rfl, (eF.mono (m2.trans m3)).sq, fun r hr => k _ _ ⟨.ref r, _, ((m1.trans m2).trans m3).trans (Mono.new hr), .ref r, rh3.new hr (.lst (cut_rel (rv.up (m2.trans m3)) l u)), q3 r (rh3.free hr)⟩⟩
    | _ => exact (show False from q1).elim
/-- xs[::-1] -/
def aRev (te : ATE) : ATE := fun α h Q E => te α h (fun x h1 => match x with
  | .ref p => ∃ xs, LstA h1 p xs ∧ ∀ r, h1 r = none → Q (.ref r) (updA h1 r (.lst xs.reverse))
  | _ => False) E
theorem ae_rev {k : Nat} {p1 p2 p3 : Pos} (he : AE X e te) : AE X (.Subscript e (.Slice none none (some (.UnaryOp .USub (.Constant (.int 1) k p1) p2)) p3) pos) (aRev te) :=
  .of (pe_revL he.pe) fun σ H Q ⟨α, h, q, E, rs, rh, tk, ht, k⟩ => low.then (H0 := H) rs rh tk ht fun v H1 x h1 m1 r1 rh1 rs1 q1 => by
    cases r1 with
    | ref p =>
      obtain ⟨xs, e, q⟩ := (show ∃ xs, LstA h1 p xs ∧ ∀ r, h1 r = none → q (.ref r) (updA h1 r (.lst xs.reverse)) from q1)
      obtain ⟨vs, e', rv⟩ := rh1.rd e
      exact ⟨p, vs, rfl, e', fun r hr => k _ _ ⟨.ref r, _, m1.trans (Mono.new hr), .ref r, rh1.new hr (.lst rv.rev), q r (rh1.free hr)⟩⟩
    | _ => exact (show False from q1).elim
end

/-! ### methods of lists -/
abbrev ARm := A → List A → AH → AVK → Prop
def OpM (K : Frg) (r : V → List V → Hp → VK → Prop) (rA : ARm) : Prop := ∀ (H : Hp) (h : AH) (x : V) (a : A) (xs : List V) (as : List A) (Q : AVK) (Qv : VK), RelA K H a x → RelAs K H as xs → RelH K H h → (∀ v H', LQ K H Q v H' → Qv v H') → rA a as h Q → r x xs H Qv
def isLst (x : A) (h : AH) : Prop := match x with
  | .ref p => ∃ xs, LstA h p xs
  | _ => False
def aBmL (rA : ARm) (to : ATE) (t : ATA) : ATE := fun α h Q E => to α h (fun x h1 => isLst x h1 ∧ t α h1 (fun xs h2 => rA x xs h2 Q) E) E
section
variable {X : Cx} {o e : Expr} {es : List Expr} {to : ATE} {t : ATA} {name : Str} {apos cpos : Pos} {id : String} {r : V → List V → Hp → VK → Prop} {rA : ARm}
theorem isLst_rel {K : Frg} {H : Hp} {h : AH} {x : A} {v : V} (rh : RelH K H h) (r : RelA K H x v) (q : isLst x h) : tyV K "list" v H := by
  cases r with
  | ref p =>
    obtain ⟨xs, e⟩ := (show ∃ xs, LstA h p xs from q)
    obtain ⟨vs, e', _⟩ := rh.rd e
    exact .inl ⟨rfl, vs, e'⟩
  | _ => exact (show False from q).elim
theorem ae_bm (slot : Slot "list" name id) (hty : typeOf (.builtin id) = pure (.type "method_descriptor")) (hm : MtR X id r) (hr : OpM X.K r rA) (ho : AE X o to) (ha : AAs X (e :: es) t)
    (hbase : attributeBase o name X.env (eval o X.env) = eval o X.env := by rfl)
    (hfew : ((backTo cpos (starEach (e :: es) X.env)).all (fun x => !x.1) && (backToKw cpos (keywordEach [] X.env)).all (fun x => x.1.isSome)
      && decide ((e :: es).length + ([] : List Keyword).length + (if ([] : List Keyword).isEmpty then 0 else 1) < 30)) = true := by rfl)
    (hline : (apos.endLine == cpos.line) = true := by rfl) (hs : starEach (e :: es) X.env = (false, eval e X.env) :: starEach es X.env := by rfl) (hplain : (backTo cpos (starEach es X.env)).any (·.1) = false := by rfl) :
    AE X (.Call (.Attribute o name apos) (e :: es) [] cpos) (aBmL rA to t) := .of (pe_bm PySem.F.plainAttrs_list slot hty hm ho.pe ha.pa hbase hfew hline hs hplain) fun σ H Q ⟨α, h, q, E, rs, rh, tk, ht, k⟩ =>
  low.then (H0 := H) rs rh tk ht fun v H1 x h1 m1 r1 rh1 rs1 ⟨il, q1⟩ => ⟨isLst_rel rh1 r1 il, lowA.then rs1 rh1 (tk.up m1) q1 fun vs H2 xs h2 m2 r2 rh2 rs2 q2 => hr H2 h2 v x vs xs q Q (r1.up m2) r2 rh2 (fun z H' g => k _ _ (g.up (m1.trans m2))) q2⟩
theorem ae_bm0 (slot : Slot "list" name id) (hty : typeOf (.builtin id) = pure (.type "method_descriptor")) (hm : MtR X id r) (hr : OpM X.K r rA) (ho : AE X o to)
    (hbase : attributeBase o name X.env (eval o X.env) = eval o X.env := by rfl) (hline : (apos.endLine == cpos.line) = true := by rfl) : AE X (.Call (.Attribute o name apos) [] [] cpos) (aBmL rA to aNil) := .of (pe_bm0 PySem.F.plainAttrs_list slot hty hm ho.pe hbase hline) fun σ H Q ⟨α, h, q, E, rs, rh, tk, ht, k⟩ =>
  low.then (H0 := H) rs rh tk ht fun v H1 x h1 m1 r1 rh1 rs1 ⟨il, q1⟩ => ⟨isLst_rel rh1 r1 il, hr H1 h1 v x [] [] q Q r1 .nil rh1 (fun z H' g => k _ _ (g.up m1)) q1⟩
end
section
variable {K : Frg}
def appendA : ARm := fun x as h Q => match x, as with
  | .ref p, [y] => ∃ xs, h p = some (.lst xs) ∧ xs.length < sizeLine ∧ Q .non (updA h p (.lst (xs ++ [y])))
  | _, _ => False
theorem o_append : OpM K rAppend appendA := fun H h x a xs as Q Qv ra ras rh k q => by
  cases ra with
  | ref p => cases ras with
    | nil => exact (show False from q).elim
    | cons r1 t => cases t with
      | cons _ _ => exact (show False from q).elim
      | nil =>
        obtain ⟨ys, e, z, q⟩ := (show ∃ xs, h p = some (.lst xs) ∧ xs.length < sizeLine ∧ Q .non (updA h p (.lst (xs ++ [_]))) from q)
        obtain ⟨vs, f, rv⟩ := rh.lst e
        exact ⟨p, vs, _, rfl, rfl, f, by rw [← rv.len]; exact z, k _ _ ⟨.non, _, Mono.wr f ns_lst, .non, rh.wr f ns_lst (.lst (rv.app (.one r1))), q⟩⟩
  | _ => cases ras <;> exact (show False from q).elim
def reverseA : ARm := fun x as h Q => match x, as with
  | .ref p, [] => ∃ xs, h p = some (.lst xs) ∧ Q .non (updA h p (.lst xs.reverse))
  | _, _ => False
theorem o_reverse : OpM K rReverse reverseA := fun H h x a xs as Q Qv ra ras rh k q => by
  cases ra with
  | ref p => cases ras with
    | cons _ _ => exact (show False from q).elim
    | nil =>
      obtain ⟨ys, e, q⟩ := (show ∃ xs, h p = some (.lst xs) ∧ Q .non (updA h p (.lst xs.reverse)) from q)
      obtain ⟨vs, f, rv⟩ := rh.lst e
      exact ⟨p, vs, rfl, rfl, f, k _ _ ⟨.non, _, Mono.wr f ns_lst, .non, rh.wr f ns_lst (.lst rv.rev), q⟩⟩
  | _ => cases ras <;> exact (show False from q).elim
def clearA : ARm := fun x as h Q => match x, as with
  | .ref p, [] => ∃ xs, h p = some (.lst xs) ∧ Q .non (updA h p (.lst []))
  | _, _ => False
theorem o_clear : OpM K rClear clearA := fun H h x a xs as Q Qv ra ras rh k q => by
  cases ra with
  | ref p => cases ras with
    | cons _ _ => exact (show False from q).elim
    | nil =>
      obtain ⟨ys, e, q⟩ := (show ∃ xs, h p = some (.lst xs) ∧ Q .non (updA h p (.lst [])) from q)
      obtain ⟨vs, f, rv⟩ := rh.lst e
      exact ⟨p, vs, rfl, rfl, f, k _ _ ⟨.non, _, Mono.wr f ns_lst, .non, rh.wr f ns_lst (.lst .nil), q⟩⟩
  | _ => cases ras <;> exact (show False from q).elim
end

/-! ### raise, try -/
structure ExcK (K : Frg) (mg : Str → Option Value) (x : Str) (C : Addr) : Prop where
  q : PySem.W.excIn K C [.type "ValueError", .type "Exception", .type "BaseException", .type "object"] "ValueError.__new__" = true
  g : mg x = some (.ref C)
  kp : PySem.W.keepIn K (.ref C) = true
  b : PySem.W.subIn K (.ref C) (.type "BaseException") = some true
  t : PySem.W.typeIn K (.ref C) = some (.type "type")
def aRaise (C : Addr) : ATS := fun D α h => D.ex (.ref C) α h
theorem as_raise {X : Cx} {x m : Str} {C : Addr} {j : Nat} {p p2 pos pos' : Pos} (hc : X.calm = true) (T : ExcK X.K X.mg x C) (hg : Gl X x) (hdb : (x == ("__debug__" : Str)) = false := by decide) :
    AS X (.Raise (some (.Call (.Name x p) [.Constant (.str m) j p2] [] pos)) none pos') (aRaise C) :=
  ⟨fun pins s σ H α h D I rs rh ⟨Hb, mb, tk⟩ ht => (ps_raise hc tk (pmk_own PySem.F.excBase_ValueError T.q T.g T.kp (raises_own T.b T.t) hg hdb)).run pins s σ H _ I ⟨rfl, mb, α, h, rs, rh, ht⟩⟩
/-- the class of a caught exception: own, without a dict -/
def aTryOnly (K : Frg) (c : Value) (tb : ATS) (ts : Addr → Addr → ATS) : ATS := fun D α h => tb { D with ex := fun cls α' h' => ∃ b, PySem.W.exmOne K cls c = some b ∧
  (b = true → ∃ C, cls = .ref C ∧ ExcC K C ∧ ∀ a, h' a = none → ts a C { D with ex := fun _ _ _ => False } α' h') ∧ (b = false → D.ex cls α' h') } α h
def aTryAs (K : Frg) (c : Value) (i : Nat) (tb : ATS) (ts : Addr → Addr → ATS) : ATS := fun D α h => tb { D with ex := fun cls α' h' => ∃ b, PySem.W.exmOne K cls c = some b ∧
  (b = true → ∃ C, cls = .ref C ∧ ExcC K C ∧ ∀ a, h' a = none → ts a C { nx := fun α2 h2 => D.nx (α2.set i none) h2, rt := D.rt, bk := fun α2 h2 => D.bk (α2.set i none) h2, ct := fun α2 h2 => D.ct (α2.set i none) h2 } (α'.set i (some (.ref a))) h') ∧ (b = false → D.ex cls α' h') } α h
/-- a try body's reading, for any wish -/
def lowTry (X : Cx) (tb : ATS) (W : WX) : TS := fun D σ H => ∃ α h DA, RelS X.K H α σ ∧ RelH X.K H h ∧ tb DA α h ∧ (∀ cls d σ H', (d = none ∧ Mono H H' ∧ ∃ α h, RelS X.K H' α σ ∧ RelH X.K H' h ∧ DA.ex cls α h) → W cls d σ H') ∧ Reach X.K H DA D
theorem try_body {X : Cx} {body : List Stmt} {tb : ATS} (hb : ∀ (pn : List (Addr × Obj)) (xe : Value → Shared → Prop), PassesOwn (model X.prog X.w) X.A X.env xe → ASs (X.tr pn xe) body tb) :
    ∀ (W : WX) (pn : List (Addr × Obj)) (xe : Value → Shared → Prop), Takes (X.tr pn xe) W → PassesOwn (model X.prog X.w) X.A X.env xe → PSs (X.tr pn xe) body (lowTry X tb W) := fun W pn xe tk hp =>
  ⟨fun pins s σ H D I ⟨α, h, DA, rs, rh, ht, kW, k⟩ => thn ((hb pn xe hp).run pins s σ H α h DA I rs rh ⟨H, Mono.refl H, Takes.imp tk (kW)⟩ ht) fun f s' q => SP.imp q k.nx k.rt k.bk k.ct⟩
def lowSuite (X : Cx) (ts : Addr → Addr → ATS) (a : Addr) (cls : Value) (d : Option Addr) : TS := fun D σ H => ∃ C, cls = .ref C ∧ d = none ∧ ExcC X.K C ∧ ∃ α h DA, RelS X.K H α σ ∧ RelH X.K H h ∧ ts a C DA α h ∧ (∀ c α h, ¬ DA.ex c α h) ∧ Reach X.K H DA D
theorem try_suite {X : Cx} {b₀ : Stmt} {suite : List Stmt} {ts : Addr → Addr → ATS}
    (hsu : ∀ (a : Addr) (oe : Obj) (C : Addr) (pn : List (Addr × Obj)), ExcC X.K C → Zc (.ref C) none oe → (∃ vs, oe.data = .fields vs) → ASs (X.suite a ((a, oe) :: pn)) (b₀ :: suite) (ts a C)) :
    ∀ (a : Addr) (oe : Obj) (cls : Value) (d : Option Addr) (pn : List (Addr × Obj)), Zc cls d oe → (∃ vs, oe.data = .fields vs) → PSs (X.suite a ((a, oe) :: pn)) (b₀ :: suite) (lowSuite X ts a cls d) := fun a oe cls d pn hz hf =>
  ⟨fun pins s σ H D I ⟨C, e1, e2, ec, α, h, DA, rs, rh, ht, nx, k⟩ => by
    subst e1 e2
    refine thn ((hsu a oe C pn ec hz hf).run pins s σ H α h DA I rs rh ⟨H, Mono.refl H, fun u s' ⟨_, _, _, _, _, _, _, _, _, _, _, _, _, _, _, _, _, _, _, _, _, _, w⟩ => (nx _ _ _ w).elim⟩ ht) fun f s' q => SP.imp q k.nx k.rt k.bk k.ct⟩
section
variable {X : Cx} {x n : Str} {c : Value} {i : Nat} {body suite : List Stmt} {b₀ : Stmt} {np pos pos' : Pos} {tb : ATS} {ts : Addr → Addr → ATS}
theorem as_try_only (hs : X.stack = X.env :: X.outer) (hf : X.env.frame = some X.env.locals) (hc : Names X x c)
    (hb : ∀ (pn : List (Addr × Obj)) (xe : Value → Shared → Prop), PassesOwn (model X.prog X.w) X.A X.env xe → ASs (X.tr pn xe) body tb)
    (hsu : ∀ (a : Addr) (oe : Obj) (C : Addr) (pn : List (Addr × Obj)), ExcC X.K C → Zc (.ref C) none oe → (∃ vs, oe.data = .fields vs) → ASs (X.suite a ((a, oe) :: pn)) (b₀ :: suite) (ts a C)) :
    AS X (.Try body [.ExceptHandler (some (.Name x np)) none (b₀ :: suite) pos'] [] [] pos) (aTryOnly X.K c tb ts) :=
  ⟨fun pins s σ H α h D I rs rh ⟨Hb, mb, tk⟩ ht => (ps_try_only hs hf hc tk (try_body hb) (try_suite hsu)).run pins s σ H _ I ⟨α, h, _, rs, rh, ht, fun cls d σ' H' ⟨ed, m, α', h', rs', rh', b, eb, y, nn⟩ => by
    refine ⟨b, eb, fun e a ha => ?_, fun e => ⟨ed, mb.trans m, α', h', rs', rh', nn e⟩⟩
    obtain ⟨C, ec, xc, q⟩ := y e
    exact ⟨C, ec, ed, xc, α', h', _, rs', rh', q a (rh'.free ha), fun _ _ _ z => z, ⟨fun _ _ z => z.up m, fun _ _ z => z.up m, fun _ _ z => z.up m, fun _ _ z => z.up m⟩⟩, .self⟩⟩
theorem as_try_as (hs : X.stack = X.env :: X.outer) (hf : X.env.frame = some X.env.locals) (hN : X.N.Nodup) (hi : X.N[i]? = some n) (hln : X.env.kindOf n = some .local) (hc : Names X x c)
    (hb : ∀ (pn : List (Addr × Obj)) (xe : Value → Shared → Prop), PassesOwn (model X.prog X.w) X.A X.env xe → ASs (X.tr pn xe) body tb)
    (hsu : ∀ (a : Addr) (oe : Obj) (C : Addr) (pn : List (Addr × Obj)), ExcC X.K C → Zc (.ref C) none oe → (∃ vs, oe.data = .fields vs) → ASs (X.suite a ((a, oe) :: pn)) (b₀ :: suite) (ts a C)) :
    AS X (.Try body [.ExceptHandler (some (.Name x np)) (some n) (b₀ :: suite) pos'] [] [] pos) (aTryAs X.K c i tb ts) :=
  ⟨fun pins s σ H α h D I rs rh ⟨Hb, mb, tk⟩ ht => (ps_try_as (i := i) hs hf hN hi hln hc tk (try_body hb) (try_suite hsu)).run pins s σ H _ I ⟨α, h, _, rs, rh, ht, fun cls d σ' H' ⟨ed, m, α', h', rs', rh', b, eb, y, nn⟩ => by
    refine ⟨b, eb, fun e a ha => ?_, fun e => ⟨ed, mb.trans m, α', h', rs', rh', nn e⟩⟩
    obtain ⟨C, ec, xc, q⟩ := y e
    refine ⟨C, ec, ed, xc, α'.set i (some (.ref a)), h', _, rs'.set i (.ref a), rh', q a (rh'.free ha), fun _ _ _ z => z, ⟨fun σ2 H2 ⟨α2, h2, m2, rs2, rh2, q2⟩ => ?_, fun _ _ z => z.up m, fun σ2 H2 ⟨α2, h2, m2, rs2, rh2, q2⟩ => ?_, fun σ2 H2 ⟨α2, h2, m2, rs2, rh2, q2⟩ => ?_⟩⟩
    all_goals exact ⟨_, h2, m.trans m2, rs2.gone i, rh2, q2⟩, .self⟩⟩
/-! isinstance of the caught exception -/
def rIsEA (K : Frg) (D a : Addr) : List V → Hp → VK → Prop := fun xs H Q => rIsE K D a xs H Q ∨ ∃ (tp : Addr) (vs : List V) (us : List Value) (b : Bool), xs = [.ref a, .ref tp] ∧ TupAt K H tp vs ∧ Paired ClsV vs us ∧ PySem.W.kitAny K (.ref D) us = some b ∧ Q (.bl b) H
theorem call_isEA {X : Cx} {a D : Addr} {oe : Obj} {pn : List (Addr × Obj)} (C : ExcC X.K D) (hz : Zc (.ref D) none oe) (hf : ∃ vs, oe.data = .fields vs) : CallR (X.suite a ((a, oe) :: pn)) (.builtin "isinstance") (rIsEA X.K D a) := by
  intro pins s σ H xs us Q I r h
  rcases h with h | ⟨tp, vs, ws, b, rfl, hT, hP, e, q⟩
  · exact call_isE C hz hf pins s σ H xs us Q I r h
  · obtain ⟨u1, u2, rfl, r1, r2⟩ := vals2 r
    cases r1
    cases r2
    obtain ⟨hget, _⟩ := I.pin (a, oe) (List.mem_append.mpr (.inl List.mem_cons_self))
    obtain ⟨fs, hv⟩ := hf
    have J : PySem.W.InstAt s.heap a oe D none := by
      obtain ⟨oc, od, oda, osl⟩ := oe
      obtain ⟨h1, h2⟩ := hz
      dsimp only at h1 h2 hv
      subst h1 h2 hv
      exact ⟨hget, rfl, rfl, trivial⟩
    obtain ⟨its, rvv, ⟨o, ho, hcl, n, hd⟩, _⟩ := I.tuple hT.sq
    have eu : its = ws := vals_cls hP rvv
    subst eu
    obtain ⟨oc, od, oda, osl⟩ := o
    dsimp only at hcl hd
    subst hcl hd
    exact PySem.W.kia_tup (PySem.W.handS_kitx_exc C.hg C.hk C.hs C.hd C.ha C.hn C.ht C.hm) I.kIn J ho e (fun z => nomatch z) fun tk => ⟨.bl b, H, I.kept (t' := tk) fun _ _ z => z, rfl, q⟩
def isEA (K : Frg) (D a : Addr) : ARs := two fun x c h Q => match x, c with
  | .ref p, .tup cs => p = a ∧ cs.all isCls = true ∧ ∃ b, PySem.W.kitAny K (.ref D) (cs.map clsU) = some b ∧ Q (.bl b) h
  | .ref p, c => p = a ∧ isCls c = true ∧ ∃ b, PySem.W.kitOne K (.ref D) (clsU c) = some b ∧ Q (.bl b) h
  | _, _ => False
theorem o_isE {K : Frg} {D a : Addr} : OpN K (rIsEA K D a) (isEA K D a) := fun H h vs as Q Qv r rh k q => by
  obtain ⟨x, c, v, w, rfl, rx, rc, q⟩ := two_inv r q
  cases rx with
  | ref p =>
    have gen : (p = a ∧ isCls c = true ∧ ∃ b, PySem.W.kitOne K (.ref D) (clsU c) = some b ∧ Q (.bl b) h) → rIsEA K D a [.ref p, w] H Qv := fun ⟨e, ec, b, kt, q'⟩ => by
      subst e
      exact .inl ⟨w, clsU c, b, rfl, fun u ru => (cls_rel rc ec).eq ru, kt, k _ _ ⟨_, h, Mono.refl H, .bl _, rh, q'⟩⟩
    cases rc with
    | @tup tp xs vs e rv =>
      obtain ⟨rfl, ec, b, kt, q⟩ := (show p = a ∧ xs.all isCls = true ∧ ∃ b, PySem.W.kitAny K (.ref D) (xs.map clsU) = some b ∧ Q (.bl b) h from q)
      exact .inr ⟨tp, vs, _, b, rfl, e, clss_rel rv ec, kt, k _ _ ⟨_, h, Mono.refl H, .bl _, rh, q⟩⟩
    | _ => exact gen q
  | _ => cases rc <;> exact (show False from q).elim
end
end G
namespace G
open PySem PySem.Spec L2

/-! ### a < b < c -/
section
variable {X : Cx} {a b c : Expr} {pos : Pos} {ta tb tc : ATE} {r r' : R2} {rA rB : AR2} {op op' : CmpOp}
def aChn (rA rB : AR2) (ta tb tc : ATE) : ATE := fun α h Q E => ta α h (fun x h1 => tb α h1 (fun y h2 => rA x y h2 fun z h3 => asB z fun k => if k = true then tc α h3 (fun w h4 => rB y w h4 Q) E else Q (.bl false) h3) E) E
theorem low_chain (hr : Op2 X.K r rA) (hr' : Op2 X.K r' rB) {σ : L2.St} {H : Hp} {Qv : VK} (z : low X (aChn rA rB ta tb tc) σ H Qv) : tChain r r' (low X ta) (low X tb) (low X tc) σ H Qv := by
  obtain ⟨α, h, q, E, rs, rh, tk, ht, k⟩ := z
  refine low.then (H0 := H) rs rh tk ht fun v H1 x h1 m1 r1 rh1 rs1 q1 => low.then (H0 := H) rs1 rh1 (tk.up m1) q1 fun w H2 y h2 m2 r2 rh2 rs2 q2 => ?_
  refine hr H2 h2 v w x y _ _ (r1.up m2) r2 rh2 (fun z H3 ⟨za, h3, m3, r3, rh3, q3⟩ => ?_) q2
  obtain ⟨b, rfl, q4⟩ := bl_of r3 q3
  refine ⟨b, rfl, ?_⟩
  have mm := (m1.trans m2).trans m3
  cases b with
  | true =>
    rw [if_pos rfl] at q4
    exact iteT (low.then (H0 := H) (rs2.up m3) rh3 (tk.up mm) q4 fun u H4 w4 h4 m4 r4 rh4 rs4 q5 => hr' H4 h4 w u y w4 _ _ ((r2.up m3).up m4) r4 rh4 (fun z H5 g => k _ _ (g.up (mm.trans m4))) q5)
  | false =>
    rw [if_neg Bool.false_ne_true] at q4
    exact iteF (k _ _ ⟨_, h3, mm, .bl _, rh3, q4⟩)
theorem ae_chain (ho : OpR X (compareOp op) r) (ho' : OpR X (compareOp op') r') (hr : Op2 X.K r rA) (hr' : Op2 X.K r' rB) (ha : AE X a ta) (hb : AE X b tb) (hc : AE X c tc) (hm : lastMarks [op, op'] [b, c] = false := by rfl) :
    AE X (.Compare a [op, op'] [b, c] pos) (aChn rA rB ta tb tc) := .of (pe_chain ho ho' ha.pe hb.pe hc.pe hm) fun σ H Q z => low_chain hr hr' z
theorem at_chain (ho : OpR X (compareOp op) r) (ho' : OpR X (compareOp op') r') (hr : Op2 X.K r rA) (hr' : Op2 X.K r' rB) (ha : AE X a ta) (hb : AE X b tb) (hc : AE X c tc) (hm : lastMarks [op, op'] [b, c] = false := by rfl) :
    AT X (.Compare a [op, op'] [b, c] pos) (aTest (aChn rA rB ta tb tc)) := .of (pt_chain ho ho' ha.pe hb.pe hc.pe hm) fun σ H Q ⟨α, h, q, E, rs, rh, tk, ht, k⟩ => low_chain hr hr' ⟨α, h, _, E, rs, rh, tk, ht, fun v H' ⟨x, h', m, r1, rh', q1⟩ => by
  obtain ⟨b, e, q2⟩ := bl_of r1 q1
  exact ⟨b, e, k _ _ ⟨h', m, rh', q2⟩⟩⟩
end

/-! ### names of the module -/
section
variable {X : Cx} {x : Str} {pos : Pos}
theorem ae_gint {i : Int} (hg : Gl X x) (h : ∃ t, X.mg x = some (.int i t)) (hd : (x == ("__debug__" : Str)) = false := by decide) : AE X (.Name x pos) (aC (.int i)) := by
  obtain ⟨t, h⟩ := h
  exact ae_glob (v := .int i) hg h ⟨t, rfl⟩ (fun _ => .int i) hd
theorem ae_gref {C : Addr} (hg : Gl X x) (h : X.mg x = some (.ref C)) (hd : (x == ("__debug__" : Str)) = false := by decide) : AE X (.Name x pos) (aC (.ref C)) := ae_glob (v := .ref C) hg h rfl (fun _ => .ref C) hd
theorem ae_gval {p : Addr} {a : A} (hg : Gl X x) (h : X.mg x = some (.ref p)) (r : ∀ H, RelA X.K H a (.ref p)) (hd : (x == ("__debug__" : Str)) = false := by decide) : AE X (.Name x pos) (aC a) := ae_glob (v := .ref p) hg h rfl r hd
theorem ae_bty {n : String} (hg : Gl X x) (hm : X.mg x = none) (hv : bootBuiltins x = some (.type n)) (hn : x ≠ "__name__" := by decide) (hd : (x == ("__debug__" : Str)) = false := by decide) : AE X (.Name x pos) (aC (.ty n)) := ae_bltn (v := .ty n) hg hm hv rfl (fun _ => .ty n) hn hd
/-- {} -/
def aNewK : ATE := fun _ h Q _ => ∀ p, h p = none → Q (.ref p) (updA h p (.dK []))
def aNewT : ATE := fun _ h Q _ => ∀ p, h p = none → Q (.ref p) (updA h p (.dT []))
theorem ae_newK : AE X (.Dict [] [] pos) aNewK := .of pe_dnewK fun σ H Q ⟨α, h, q, E, rs, rh, tk, ht, k⟩ => fun p hp => k _ _ ⟨.ref p, _, Mono.new hp, .ref p, rh.new hp (.dK .nil), ht p (rh.free hp)⟩
theorem ae_newT : AE X (.Dict [] [] pos) aNewT := .of pe_dnewT fun σ H Q ⟨α, h, q, E, rs, rh, tk, ht, k⟩ => fun p hp => k _ _ ⟨.ref p, _, Mono.new hp, .ref p, rh.new hp (.dT .nil), ht p (rh.free hp)⟩
end

/-! ### defs -/
/-- the def at f keeps its promise -/
structure DefOk (P : Program) (w : World) (K : Frg) (mg : Str → Option Value) (base : Heap) (f : Addr) (k : Nat) (ps : List Str) (sp : ASp) : Prop where
  ex : ∃ fd, PySem.W.keepIn K (.ref f) = true ∧ Binds K fd ps [] ∧ AFn P w K mg base k f fd ps sp
section
variable {P : Program} {w : World} {K : Frg} {mg : Str → Option Value} {base : Heap} {x qual : Str} {params : Arguments} {body : List Stmt} {scope : Scope} {f : Addr} {N ps : List Str} {k : Nat} {sp : ASp} {t : ATS}
theorem defOk (F : ∃ fd, FunD K x qual params body scope [] [] f fd)
    (bind : ∀ (kV doc pm : Value) (an : Option Addr) (cdv ct : Value) (us : List Value), us.length = ps.length → bindArgs (PySem.W.fnOf x qual params body scope .none kV doc pm an cdv ct) ⟨us, []⟩ = pure (ps.zip us)) (S : FnScope N ps scope)
    (walk : ∀ (cdv : Value) (A : Around) (outer : List Env) (s : Shared) (H : Hp) (E : XK), Room k (cxOf (L2.CX P w) P w K mg base N qual scope f cdv A outer s H E).A →
      PassesOwn (model P w) (cxOf (L2.CX P w) P w K mg base N qual scope f cdv A outer s H E).A (cxOf (L2.CX P w) P w K mg base N qual scope f cdv A outer s H E).env (cxOf (L2.CX P w) P w K mg base N qual scope f cdv A outer s H E).xe →
      ASs (cxOf (L2.CX P w) P w K mg base N qual scope f cdv A outer s H E) body t)
    (len : ∀ as h Q E, sp as h Q E → as.length = ps.length)
    (read : ∀ as h Q E, sp as h Q E → t { nx := fun _ h' => Q .non h', rt := Q, ex := fun c _ h' => E c h' } (startA N as) h) : DefOk P w K mg base f (k + 1) ps sp := by
  obtain ⟨fd, F⟩ := F
  refine ⟨fd, F.kp, F.bindsN bind, fnA F S (fun X _ _ ⟨cdv, A, outer, s, H, E, e⟩ hr hp => ?_) len read⟩
  subst e
  exact walk cdv A outer s H E hr hp
theorem DefOk.mono {j : Nat} (F : DefOk P w K mg base f j ps sp) (h : j ≤ k) : DefOk P w K mg base f k ps sp := let ⟨fd, kp, b, F⟩ := F.ex; ⟨fd, kp, b, F.mono h⟩
theorem DefOk.imp {sp' : ASp} (F : DefOk P w K mg base f k ps sp) (h : ∀ as h Q E, sp' as h Q E → sp as h Q E) : DefOk P w K mg base f k ps sp' := let ⟨fd, kp, b, F⟩ := F.ex; ⟨fd, kp, b, F.imp h⟩
end
section
variable {X : Cx} {k : Nat} {f C : Addr} {ps : List Str} {sp : ASp} {x m : Str} {p pos apos : Pos} {e o : Expr} {es : List Expr} {ta : ATE} {t : ATA}
theorem c_call (F : DefOk X.prog X.w X.K X.mg X.base f k ps sp) (hr : Room k X.A) (hm : X.mg x = some (.ref f)) (ha : AAs X (e :: es) t) (hg : Gl X x := by rfl) (hdb : (x == ("__debug__" : Str)) = false := by decide) (he : starEach (e :: es) X.env = (false, eval e X.env) :: starEach es X.env := by rfl) (hpl : (backTo pos (starEach es X.env)).any (·.1) = false := by rfl) :
    AE X (.Call (.Name x p) (e :: es) [] pos) (aCall sp [] t) := by
  obtain ⟨fd, kp, b, F⟩ := F.ex
  exact ae_call F hr hg hm kp b .nil (fun _ => .nil) ha hdb he hpl
theorem c_call0 (F : DefOk X.prog X.w X.K X.mg X.base f k ps sp) (hr : Room k X.A) (hm : X.mg x = some (.ref f)) (hg : Gl X x := by rfl) (hdb : (x == ("__debug__" : Str)) = false := by decide) :
    AE X (.Call (.Name x p) [] [] pos) (aCall sp [] aNil) := by
  obtain ⟨fd, kp, b, F⟩ := F.ex
  exact ae_call0 F hr hg hm kp b .nil (fun _ => .nil) hdb
theorem c_meth {pl : Sem Bool} (he : AE X o ta) (c : Cls X.K C) (hm : Meth X.K C m f) (F : DefOk X.prog X.w X.K X.mg X.base f k ps sp) (hr : Room k X.A) (ha : AAs X (e :: es) t)
    (hst : starEach (e :: es) X.env = (false, eval e X.env) :: starEach es X.env := by rfl) (hpl : (backTo pos (starEach es X.env)).any (·.1) = false := by rfl)
    (ht : eval (.Call (.Attribute o m apos) (e :: es) [] pos) X.env = (do
      let ov ← eval o X.env
      standAt apos.atName
      let (f, first) ← holding [ov] (getMethod ov m pl)
      callWith pos f first (backTo pos (starEach (e :: es) X.env)) (backToKw pos (keywordEach [] X.env))) := by rfl) :
    AE X (.Call (.Attribute o m apos) (e :: es) [] pos) (aMeth C m sp [] ta t) := by
  obtain ⟨fd, kp, b, F⟩ := F.ex
  exact ae_meth he c hm F hr b .nil (fun _ => .nil) ha hst hpl ht
theorem c_meth0 {pl : Sem Bool} (he : AE X o ta) (c : Cls X.K C) (hm : Meth X.K C m f) (F : DefOk X.prog X.w X.K X.mg X.base f k ps sp) (hr : Room k X.A)
    (ht : eval (.Call (.Attribute o m apos) [] [] pos) X.env = (do
      let ov ← eval o X.env
      standAt apos.atName
      let (f, first) ← holding [ov] (getMethod ov m pl)
      callWith pos f first (backTo pos (starEach [] X.env)) (backToKw pos (keywordEach [] X.env))) := by rfl) :
    AE X (.Call (.Attribute o m apos) [] [] pos) (aMeth C m sp [] ta aNil) := by
  obtain ⟨fd, kp, b, F⟩ := F.ex
  exact ae_meth0 he c hm F hr b .nil (fun _ => .nil) ht
theorem c_make (M : Mk X.K C f) (F : DefOk X.prog X.w X.K X.mg X.base f k ps sp) (hr : Room (k + 1) X.A) (hm : X.mg x = some (.ref C)) (ha : AAs X (e :: es) t) (hg : Gl X x := by rfl) (hdb : (x == ("__debug__" : Str)) = false := by decide) (he : starEach (e :: es) X.env = (false, eval e X.env) :: starEach es X.env := by rfl) (hpl : (backTo pos (starEach es X.env)).any (·.1) = false := by rfl) :
    AE X (.Call (.Name x p) (e :: es) [] pos) (aMake C sp [] t) := by
  obtain ⟨fd, kp, b, F⟩ := F.ex
  exact ae_make M F hr hg hm b .nil (fun _ => .nil) ha hdb he hpl
theorem c_make0 (M : Mk X.K C f) (F : DefOk X.prog X.w X.K X.mg X.base f k ps sp) (hr : Room (k + 1) X.A) (hm : X.mg x = some (.ref C)) (hg : Gl X x := by rfl) (hdb : (x == ("__debug__" : Str)) = false := by decide) :
    AE X (.Call (.Name x p) [] [] pos) (aMake C sp [] aNil) := by
  obtain ⟨fd, kp, b, F⟩ := F.ex
  exact ae_make0 M F hr hg hm b .nil (fun _ => .nil) hdb
end

/-! ### tests whose answer hangs on the data -/
theorem ifd {c : Prop} [Decidable c] {x y : Prop} (h1 : c → x) (h2 : ¬ c → y) : if decide c = true then x else y := by
  by_cases h : c
  · rw [if_pos (decide_eq_true h)]; exact h1 h
  · rw [if_neg (by rw [decide_eq_false h]; exact Bool.false_ne_true)]; exact h2 h
theorem ifnd {c : Prop} [Decidable c] {x y : Prop} (h1 : ¬ c → x) (h2 : c → y) : if (!decide c) = true then x else y := by
  by_cases h : c
  · rw [if_neg (by rw [decide_eq_true h]; exact Bool.false_ne_true)]; exact h2 h
  · rw [if_pos (by rw [decide_eq_false h]; rfl)]; exact h1 h
theorem ifb {c : Bool} {x y : Prop} (h1 : c = true → x) (h2 : c = false → y) : if c = true then x else y := by
  cases c with
  | true => exact (if_pos rfl).mpr (h1 rfl)
  | false => exact (if_neg Bool.false_ne_true).mpr (h2 rfl)
theorem ifT {x y : Prop} (h : x) : if true = true then x else y := (if_pos rfl).mpr h
theorem ifF {x y : Prop} (h : y) : if false = true then x else y := (if_neg Bool.false_ne_true).mpr h
end G
namespace G
open PySem PySem.Spec L2

/-! ### the head's facts, each a Bool of the written part -/
abbrev AlG : Type := Bool × List He.FnW
def obsF (fb : List (Frg → Bool)) (fn : List He.DefD) (K : Frg) : AlG := ((fb.all fun f => f K) && fn.all fun d => d.ok K, fn.map fun d => He.fnW K d.at_)
def valG (fn : List He.DefD) : AlG := (true, fn.map He.DefD.val)
def SaysG (fb : List (Frg → Bool)) (fn : List He.DefD) (K : Frg) : Prop := obsF fb fn K = valG fn
def obsG (n : Nat) (fb : List (Frg → Bool)) (fn : List He.DefD) (g : Addr → Option Obj) : AlG := obsF fb fn (He.frG g (He.asD g n))
def hookG (n : Nat) (fb : List (Frg → Bool)) (fn : List He.DefD) : PySem.W.Hook where
  α := AlG
  obs := fun s => obsG n fb fn s.heap.get?
  val := fun _ => valG fn
  says := fun _ h => ∃ K : Frg, K.In h ∧ SaysG fb fn K
  of := fun _ _ e => ⟨_, He.frG_in, e⟩
  keeps := fun _ _ _ ⟨K, hK, c⟩ k => ⟨K, PySem.W.Frag.In.keeps hK k, c⟩
theorem obsG_eq {n : Nat} {fb : List (Frg → Bool)} {fn : List He.DefD} {g : Addr → Option Obj} {s : Shared} (h : ∀ a, g a = s.heap.get? a) : obsG n fb fn g = (hookG n fb fn).obs s := by
  have e : g = s.heap.get? := funext h
  rw [e] <;> rfl
section
variable {fb : List (Frg → Bool)} {fn : List He.DefD} {K : Frg}
theorem SaysG.fact (c : SaysG fb fn K) (i : Nat) {f : Frg → Bool} (h : fb[i]? = some f := by rfl) : f K = true := by
  have c1 := (He.ba (show ((fb.all fun f => f K) && fn.all fun d => d.ok K) = true from congrArg (fun z : AlG => z.1) c)).1
  exact List.all_eq_true.mp c1 f (List.mem_of_getElem? h)
theorem SaysG.def_ (c : SaysG fb fn K) (i : Nat) {d : He.DefD} (h : fn[i]? = some d := by rfl) : ∃ fd, FunD K d.name d.qual d.params d.body d.scope (d.dvs K) (d.kws K) (He.fAd K d.at_) fd := by
  have c2 := (He.ba (show ((fb.all fun f => f K) && fn.all fun d => d.ok K) = true from congrArg (fun z : AlG => z.1) c)).2
  have e : fn.map (fun d => He.fnW K d.at_) = fn.map He.DefD.val := congrArg (fun z : AlG => z.2) c
  have e2 : (fn.map fun d => He.fnW K d.at_)[i]? = (fn.map He.DefD.val)[i]? := by rw [e]
  rw [List.getElem?_map, List.getElem?_map, h] at e2
  exact He.DefD.funD (Option.some.inj e2) (List.all_eq_true.mp c2 d (List.mem_of_getElem? h))
end
/-- a tuple constant of the written part -/
def relAB (K : Frg) : Nat → A → Value → Bool
  | 0, _, _ => false
  | n + 1, a, u => match a, u with
    | .non, .none => true
    | .bl b, .bool c => b == c
    | .int i, .int j _ => decide (i = j)
    | .str x, .str y _ => decide (x = y)
    | .tup xs, .ref p => (match K.lookup p with
      | some ⟨.type c, _, .seq its _, _⟩ => decide (c = "tuple") && (decide (its.size ≤ sizeLine) && (decide (xs.length = its.size) && ((xs.zip its.toList).all fun q => relAB K n q.1 q.2)))
      | _ => false)
    | _, _ => false
theorem relAB_ok {K : Frg} : ∀ (n : Nat) (a : A) (u : Value), relAB K n a u = true → ∃ v, RelV v u ∧ ∀ H, RelA K H a v
  | 0, _, _, h => nomatch h
  | n + 1, a, u, h => by
    unfold relAB at h
    split at h
    · exact ⟨.non, rfl, fun _ => .non⟩
    · obtain rfl := eq_of_beq h
      exact ⟨.bl _, rfl, fun _ => .bl _⟩
    · obtain rfl := of_decide_eq_true h
      exact ⟨.int _, ⟨_, rfl⟩, fun _ => .int _⟩
    · obtain rfl := of_decide_eq_true h
      exact ⟨.str _, ⟨_, rfl⟩, fun _ => .str _⟩
    · rename_i xs p
      split at h
      · rename_i c d its m sl q
        obtain ⟨g1, h2⟩ := He.ba h
        obtain ⟨g2, h3⟩ := He.ba h2
        obtain ⟨g3, g4⟩ := He.ba h3
        have gl : xs.length = its.toList.length := by rw [of_decide_eq_true g3]; simp
        have all : ∀ (ys : List A) (us : List Value), ys.length = us.length → ((ys.zip us).all fun q => relAB K n q.1 q.2) = true → ∃ vs, Vals vs us ∧ ∀ H, RelAs K H ys vs := by
          intro ys
          induction ys with
          | nil =>
            intro us hl _
            cases us with
            | nil => exact ⟨[], .nil, fun _ => .nil⟩
            | cons _ _ => cases hl
          | cons y ys ih =>
            intro us hl ha
            cases us with
            | nil => cases hl
            | cons u us =>
              rw [List.zip_cons_cons, List.all_cons, Bool.and_eq_true] at ha
              obtain ⟨v, r, rA⟩ := relAB_ok n y u ha.1
              obtain ⟨vs, rs, rAs⟩ := ih us (Nat.succ.inj hl) ha.2
              exact ⟨v :: vs, .cons r rs, fun H => .cons (rA H) (rAs H)⟩
        obtain ⟨vs, rs, rAs⟩ := all xs its.toList gl g4
        exact ⟨.ref p, rfl, fun H => .tup (.inr ⟨_, its, m, q, congrArg Value.type (of_decide_eq_true g1), rfl, of_decide_eq_true g2, rs⟩) (rAs H)⟩
      · cases h
    · cases h
/-- a module's constant -/
def constB (K : Frg) (x : Str) (a : A) : Bool := match PySem.W.nsIn K mainGlobals x with
  | some (some u) => relAB K 8 a u
  | _ => false
theorem constB_ok {K : Frg} {h : Heap} {mg : Str → Option Value} (X : K.In h) (G : h.Ns mainGlobals mg) {x : Str} {a : A} (c : constB K x a = true) : ∃ u v, mg x = some u ∧ RelV v u ∧ ∀ H, RelA K H a v := by
  unfold constB at c
  cases e : PySem.W.nsIn K mainGlobals x with
  | none => rw [e] at c; cases c
  | some o =>
    cases o with
    | none => rw [e] at c; cases c
    | some u =>
      rw [e] at c
      obtain ⟨v, r, rA⟩ := relAB_ok 8 a u c
      exact ⟨u, v, PySem.W.mg_of X G e, r, rA⟩
theorem ae_gcon {X : Cx} {x : Str} {pos : Pos} {a : A} (hg : Gl X x) (h : ∃ u v, X.mg x = some u ∧ RelV v u ∧ ∀ H, RelA X.K H a v) (hd : (x == ("__debug__" : Str)) = false := by decide) : AE X (.Name x pos) (aC a) := by
  obtain ⟨u, v, h, r, rA⟩ := h
  exact ae_glob hg h r rA hd
/-! exceptions -/
def excCB (K : Frg) (D : Addr) : Bool := He.eqO (PySem.W.findIn K (.ref D) "__getattribute__") (some (some (.builtin "BaseException.__getattribute__"))) && (He.eqO (PySem.W.findIn K (.ref D) "__getattr__") (some none) &&
  (decide (PySem.W.subIn K (.ref D) (.type "BaseException") = some true) && (PySem.W.hasDictIn K D && (He.eqO (PySem.W.findIn K (.ref D) "__class__") (some (some (.builtin "object.__class__"))) &&
  (He.eqO (PySem.W.specialIn K (.builtin "object.__class__") "__get__") (some (some (.builtin "getset_descriptor.__get__"))) && (decide (PySem.W.takesIn K (.builtin "object.__class__") = some true) && decide (PySem.W.mroIn K D (.type "object") = some true)))))))
theorem excCB_ok {K : Frg} {D : Addr} (c : excCB K D = true) : ExcC K D := by
  obtain ⟨c1, c⟩ := He.ba c
  obtain ⟨c2, c⟩ := He.ba c
  obtain ⟨c3, c⟩ := He.ba c
  obtain ⟨c4, c⟩ := He.ba c
  obtain ⟨c5, c⟩ := He.ba c
  obtain ⟨c6, c⟩ := He.ba c
  obtain ⟨c7, c8⟩ := He.ba c
  exact ⟨He.eqO_ok c1, He.eqO_ok c2, of_decide_eq_true c3, c4, He.eqO_ok c5, He.eqO_ok c6, of_decide_eq_true c7, of_decide_eq_true c8⟩
theorem excK_ok {K : Frg} {h : Heap} {mg : Str → Option Value} (X : K.In h) (G : h.Ns mainGlobals mg) {x : Str} (c0 : (He.Fa.glo x).ok K = true) (c : (He.Fa.exc x).ok K = true) : ExcK K mg x (He.ga K x) := by
  obtain ⟨q, kp, b, t⟩ := He.exc_ok c
  exact ⟨q, He.glo_ok X G c0, kp, b, t⟩
def insCB (K : Frg) (x : Str) : Bool := (He.Fa.cls x).ok K && (He.eqO (PySem.W.findIn K (.ref (He.ga K x)) "__class__") (some (some (.builtin "object.__class__"))) &&
  (He.eqO (PySem.W.specialIn K (.builtin "object.__class__") "__get__") (some (some (.builtin "getset_descriptor.__get__"))) && (decide (PySem.W.takesIn K (.builtin "object.__class__") = some true) && decide (PySem.W.mroIn K (He.ga K x) (.type "object") = some true))))
theorem insC_ok {K : Frg} {x : Str} (c : insCB K x = true) : InsCls K (He.ga K x) := by
  obtain ⟨c1, c⟩ := He.ba c
  obtain ⟨c2, c⟩ := He.ba c
  obtain ⟨c3, c⟩ := He.ba c
  obtain ⟨c4, c5⟩ := He.ba c
  exact ⟨He.cls_ok c1, He.eqO_ok c2, He.eqO_ok c3, of_decide_eq_true c4, of_decide_eq_true c5⟩
def clsFB (K : Frg) (x f : Str) : Bool := (He.Fa.cls x).ok K && (He.Fa.noat x f).ok K
theorem clsF_ok {K : Frg} {x f : Str} (c : clsFB K x f = true) : ClsF K (He.ga K x) f := by
  obtain ⟨c1, c2⟩ := He.ba c
  exact ⟨He.cls_ok c1, He.noat_ok c2⟩
def exKB (K : Frg) (x : Str) : Bool := (He.Fa.glo x).ok K && (He.Fa.exc x).ok K
theorem exK_ok {K : Frg} {h : Heap} {mg : Str → Option Value} (X : K.In h) (G : h.Ns mainGlobals mg) {x : Str} (c : exKB K x = true) : ExcK K mg x (He.ga K x) := by
  obtain ⟨c1, c2⟩ := He.ba c
  exact excK_ok X G c1 c2
def exmB (K : Frg) (c d : Value) (b : Bool) : Bool := decide (PySem.W.exmOne K c d = some b)
theorem exmB_ok {K : Frg} {c d : Value} {b : Bool} (h : exmB K c d b = true) : PySem.W.exmOne K c d = some b := of_decide_eq_true h
def oneB (K : Frg) (c d : Value) (b : Bool) : Bool := decide (PySem.W.kitOne K c d = some b)
theorem oneB_ok {K : Frg} {c d : Value} {b : Bool} (h : oneB K c d b = true) : PySem.W.kitOne K c d = some b := of_decide_eq_true h
/-! the law's own end -/
theorem law_end {l : PySem.W.OpenLaw} {k : Nat} {q : Program} {loose : List Str} {XP : (Str → Option Value) → Heap → Prop} {YP : World → Heap → Prop} {d : DefRec} {sp : Frg → ASp}
    (hn : l.most = some 63) (hdf : d.params.defaults = []) (hr : Room k callerA)
    (F : ∀ (w : World) (mg : Str → Option Value) (fa : Addr) (h : Heap), YP w h → h.Ns mainGlobals mg → mg d.name = some (.ref fa) →
      ∃ (K : Frg) (fd : FuncData), K.In h ∧ (∀ (s : Shared) (u : Value), BindsTo s fd ⟨[u], []⟩ [("script", u)]) ∧
        (∀ (ns : List Int), ns.length ≤ 63 → (∀ z ∈ ns, Builtin.Int.intBits z ≤ 1048576) → sp K [.fls (ns.map A.int)] (fun _ => none) (fun v _ => v = .bl true) AE0) ∧
        ∀ base : Heap, K.In base → base.Ns mainGlobals mg → AFn l.prog w K mg base k fa fd ["script"] (sp K)) :
    PySem.W.WalkO q loose XP YP l.row.toRowW d [] (fun f vs => PySem.call f vs) := by
  refine Att.attach_callB hn hdf fun w s₀ s₁ mg mb fa o pm cd doc a vs ns Gr Y ho hd hcd hmg hobj hints hlen hbits hg => ?_
  obtain ⟨K, fd, KX, hb, hsp, hF⟩ := F w mg fa _ Y Gr.T.g hmg
  refine law_call KX Gr.T.g Gr.T.b Gr.T.builtins Gr.T.nolimit hg hobj hints (Nat.le_trans hlen (by decide)) hr hF hb (fun H hO hS => ?_) ?_
  · have fl : FlAt K H a (ns.map V.int) := by
      rcases hS with (e | e) | e
      · rcases hO a with z | ⟨ob, xs, z⟩
        · rw [e] at z; cases z
        · rw [e] at z; cases z
      · exact .inl e
      · exact .inr e
    have rl : ∀ zs : List Int, RelAs K H (zs.map A.int) (zs.map V.int) := by
      intro zs
      induction zs with
      | nil => exact .nil
      | cons z zs ih => exact .cons (.int z) ih
    refine ⟨[.fls (ns.map A.int)], fun _ => none, _, _, .one (.fls fl (rl ns)), (fun b u z => by cases (show none = some u from z)), hsp ns hlen hbits, ?_, ?_⟩
    · rintro v H' ⟨x, h', m, r, _, e⟩
      have e : x = .bl true := e
      subst e
      cases r
      rfl
    · rintro c dd H' ⟨_, h', m, _, z⟩
      exact z
  · intro H e s' ⟨_, _, _, _, _, _, _, _, _, _, _, _, z⟩
    exact z
end G
namespace G
open PySem PySem.Spec L2

/-! ### promises by the number of arguments -/
abbrev Sp0 := AH → AVK → AXK → Prop
abbrev Sp1 := A → Sp0
abbrev Sp2 := A → Sp1
abbrev Sp3 := A → Sp2
abbrev Sp4 := A → Sp3
abbrev Sp5 := A → Sp4
abbrev Sp6 := A → Sp5
def sp0 (R : Sp0) : ASp := fun as h Q E => match as with
  | [] => R h Q E
  | _ => False
def sp1 (R : Sp1) : ASp := fun as h Q E => match as with
  | [a] => R a h Q E
  | _ => False
def sp2 (R : Sp2) : ASp := fun as h Q E => match as with
  | [a, b] => R a b h Q E
  | _ => False
def sp3 (R : Sp3) : ASp := fun as h Q E => match as with
  | [a, b, c] => R a b c h Q E
  | _ => False
def sp4 (R : Sp4) : ASp := fun as h Q E => match as with
  | [a, b, c, d] => R a b c d h Q E
  | _ => False
def sp5 (R : Sp5) : ASp := fun as h Q E => match as with
  | [a, b, c, d, e] => R a b c d e h Q E
  | _ => False
def sp6 (R : Sp6) : ASp := fun as h Q E => match as with
  | [a, b, c, d, e, f] => R a b c d e f h Q E
  | _ => False
theorem sp0_in {R : Sp0} {T : List A → AH → AVK → AXK → Prop} (h : ∀ h Q E, R h Q E → T [] h Q E) : ∀ as h Q E, sp0 R as h Q E → T as h Q E := fun as g Q E q => match as, q with
  | [], q => h g Q E q
theorem sp1_in {R : Sp1} {T : List A → AH → AVK → AXK → Prop} (h : ∀ a h Q E, R a h Q E → T [a] h Q E) : ∀ as h Q E, sp1 R as h Q E → T as h Q E := fun as g Q E q => match as, q with
  | [a], q => h a g Q E q
theorem sp2_in {R : Sp2} {T : List A → AH → AVK → AXK → Prop} (h : ∀ a b h Q E, R a b h Q E → T [a, b] h Q E) : ∀ as h Q E, sp2 R as h Q E → T as h Q E := fun as g Q E q => match as, q with
  | [a, b], q => h a b g Q E q
theorem sp3_in {R : Sp3} {T : List A → AH → AVK → AXK → Prop} (h : ∀ a b c h Q E, R a b c h Q E → T [a, b, c] h Q E) : ∀ as h Q E, sp3 R as h Q E → T as h Q E := fun as g Q E q => match as, q with
  | [a, b, c], q => h a b c g Q E q
theorem sp4_in {R : Sp4} {T : List A → AH → AVK → AXK → Prop} (h : ∀ a b c d h Q E, R a b c d h Q E → T [a, b, c, d] h Q E) : ∀ as h Q E, sp4 R as h Q E → T as h Q E := fun as g Q E q => match as, q with
  | [a, b, c, d], q => h a b c d g Q E q
theorem sp5_in {R : Sp5} {T : List A → AH → AVK → AXK → Prop} (h : ∀ a b c d e h Q E, R a b c d e h Q E → T [a, b, c, d, e] h Q E) : ∀ as h Q E, sp5 R as h Q E → T as h Q E := fun as g Q E q => match as, q with
  | [a, b, c, d, e], q => h a b c d e g Q E q
theorem sp6_in {R : Sp6} {T : List A → AH → AVK → AXK → Prop} (h : ∀ a b c d e f h Q E, R a b c d e f h Q E → T [a, b, c, d, e, f] h Q E) : ∀ as h Q E, sp6 R as h Q E → T as h Q E := fun as g Q E q => match as, q with
  | [a, b, c, d, e, f], q => h a b c d e f g Q E q

/-! ### heaps that grow -/
/-- but at M all that stands stays -/
def Fx (M : Addr → Prop) (h h' : AH) : Prop := ∀ a o, ¬ M a → h a = some o → h' a = some o
abbrev Ext (h h' : AH) : Prop := ∀ a o, h a = some o → h' a = some o
section
variable {M : Addr → Prop} {h h1 h2 h3 : AH} {a p : Addr} {o : AO}
theorem Ext.refl (h : AH) : Ext h h := fun _ _ e => e
theorem Ext.trans (a : Ext h h1) (b : Ext h1 h2) : Ext h h2 := fun c o e => b c o (a c o e)
theorem Ext.new (e : h p = none) : Ext h (updA h p o) := fun c u z => by
  rw [updA_ne (fun q => by subst q; rw [e] at z; cases z)]; exact z
theorem Fx.refl (h : AH) : Fx M h h := fun _ _ _ e => e
theorem Fx.trans (a : Fx M h h1) (b : Fx M h1 h2) : Fx M h h2 := fun c o n e => b c o n (a c o n e)
theorem Ext.fx (a : Ext h h1) : Fx M h h1 := fun c o _ e => a c o e
theorem Fx.wr (m : M p) : Fx M h (updA h p o) := fun c u n z => by
  rw [updA_ne (fun q => n (by rw [q]; exact m))]; exact z
theorem Fx.new (e : h p = none) : Fx M h (updA h p o) := (Ext.new e).fx
theorem Fx.ext (f : Fx (fun _ => False) h h1) : Ext h h1 := fun c o e => f c o (fun z => z) e
theorem ne_none {p q : Addr} (e : h p = some o) (n : h q = none) : p ≠ q := fun z => by subst z; rw [e] at n; cases n
end

/-! ### isinstance of the plain kinds -/
theorem kit_refl {K : Frg} (t : Value) : PySem.W.kitOne K t t = some true := by
  unfold PySem.W.kitOne
  rw [if_pos (beq_iff_eq.mpr rfl)]
/-- the built-in kind of a value -/
def kindA (h : AH) : A → Option String
  | .non => some "NoneType"
  | .bl _ => some "bool"
  | .int _ => some "int"
  | .str _ => some "str"
  | .tup _ => some "tuple"
  | .kt _ => some "tuple"
  | .ref p => match h p with
    | some (.lst _) => some "list"
    | some (.dK _) => some "dict"
    | some (.dT _) => some "dict"
    | _ => none
  | .ty _ => none
  | .fls _ => none
def kindIs (k c : String) : Bool := k == c || (k == "bool" && c == "int")
theorem kind_ty {K : Frg} {h : AH} {x : A} {k : String} (e : kindA h x = some k) : tyU K x h (.type k) := by
  cases x with
  | ref p =>
    simp only [kindA] at e
    cases q : h p with
    | none => rw [q] at e; cases e
    | some o =>
      rw [q] at e
      cases o with
      | lst xs => cases e; exact .inl ⟨⟨xs, q⟩, rfl⟩
      | dK xs => cases e; exact .inr (.inl ⟨.inl ⟨xs, q⟩, rfl⟩)
      | dT xs => cases e; exact .inr (.inl ⟨.inr ⟨xs, q⟩, rfl⟩)
      | _ => cases e
  | ty n => cases e
  | fls xs => cases e
  | _ => cases e; rfl
def kinds : List String := ["NoneType", "bool", "int", "str", "tuple", "list", "dict"]
def kindsC : List String := ["bool", "int", "str", "tuple", "list", "dict"]
theorem kit_all : (kinds.all fun k => kindsC.all fun c => decide (PySem.W.kitOne [] (.type k) (.type c) = some (kindIs k c))) = true := by decide +kernel
theorem kit_kind {K : Frg} {k c : String} (hk : k ∈ kinds) (hc : c ∈ kindsC) : PySem.W.kitOne K (.type k) (.type c) = some (kindIs k c) := by
  have e : PySem.W.kitOne K (.type k) (.type c) = PySem.W.kitOne [] (.type k) (.type c) := rfl
  rw [e]
  exact of_decide_eq_true (List.all_eq_true.mp (List.all_eq_true.mp kit_all k hk) c hc)
theorem kind_mem {h : AH} {x : A} {k : String} (e : kindA h x = some k) : k ∈ kinds := by
  cases x with
  | ref p =>
    simp only [kindA] at e
    cases q : h p with
    | none => rw [q] at e; cases e
    | some o =>
      rw [q] at e
      cases o <;> first | (cases e; done) | (cases e; decide)
  | ty n => cases e
  | fls xs => cases e
  | _ => cases e; decide
/-- isinstance(x, T), isinstance(x, (T, U)) of a plain value -/
theorem isi_kind {K : Frg} {h : AH} {x : A} {k c : String} {Q : AVK} (e : kindA h x = some k) (q : Q (.bl (kindIs k c)) h) (hc : c ∈ kindsC := by decide) : isiA K [x, .ty c] h Q :=
  ⟨rfl, .type k, kindIs k c, kind_ty e, kit_kind (kind_mem e) hc, q⟩
theorem isi_kind2 {K : Frg} {h : AH} {x : A} {k c d : String} {Q : AVK} (e : kindA h x = some k) (q : Q (.bl (kindIs k c || kindIs k d)) h) (hc : c ∈ kindsC := by decide) (hd : d ∈ kindsC := by decide) : isiA K [x, .tup [.ty c, .ty d]] h Q := by
  refine ⟨rfl, .type k, _, kind_ty e, ?_, q⟩
  show PySem.W.kitAny K (.type k) [.type c, .type d] = _
  unfold PySem.W.kitAny PySem.W.kitAny PySem.W.kitAny
  rw [kit_kind (kind_mem e) hc, kit_kind (kind_mem e) hd]
  cases kindIs k c <;> cases kindIs k d <;> rfl
end G
namespace G
open PySem PySem.Spec L2
open Classical

/-! ### ghost heaps -/
noncomputable def hid (M : Addr → Prop) (h : AH) : AH := fun p => if M p then none else h p
noncomputable def nw (h h' : AH) : AH := fun p => if h p = none then h' p else none
section
variable {M M' : Addr → Prop} {h h' h'' h1 h2 : AH} {a p : Addr} {o : AO}
theorem hid_get (n : ¬ M p) : hid M h p = h p := if_neg n
theorem hid_some (e : hid M h p = some o) : ¬ M p ∧ h p = some o := by
  unfold hid at e
  split at e
  · cases e
  · exact ⟨‹_›, e⟩
theorem hid_of (n : ¬ M p) (e : h p = some o) : hid M h p = some o := by rw [hid_get n]; exact e
theorem hid_ext : Ext (hid M h) h := fun _ _ e => (hid_some e).2
theorem hid_sub (k : ∀ p, M' p → M p) : Ext (hid M h) (hid M' h) := fun p _ e => hid_of (fun z => (hid_some e).1 (k p z)) (hid_some e).2
theorem Fx.hd (f : Fx M h h') : Ext (hid M h) (hid M h') := fun p o e => hid_of (hid_some e).1 (f p o (hid_some e).1 (hid_some e).2)
theorem Fx.hdX (f : Fx M h h') : Ext (hid M h) h' := fun p o e => f p o (hid_some e).1 (hid_some e).2
theorem Fx.sub (f : Fx M h h') (k : ∀ p, M p → M' p) : Fx M' h h' := fun p o n e => f p o (fun z => n (k p z)) e
theorem Ext.hd (e : Ext h h') : Ext (hid M h) (hid M h') := fun p o z => hid_of (hid_some z).1 (e p o (hid_some z).2)
theorem nw_some (e : nw h h' p = some o) : h p = none ∧ h' p = some o := by
  unfold nw at e
  split at e
  · exact ⟨‹_›, e⟩
  · cases e
theorem nw_of (n : h p = none) (e : h' p = some o) : nw h h' p = some o := by unfold nw; rw [if_pos n]; exact e
theorem nw_ext : Ext (nw h h') h' := fun _ _ e => (nw_some e).2
theorem nw_up (e : Ext h' h'') : Ext (nw h h') (nw h h'') := fun _ _ z => nw_of (nw_some z).1 (e _ _ (nw_some z).2)
/-- what was new stays where only old things change -/
theorem nw_fx (f : Fx M h' h'') (k : ∀ p, M p → h p ≠ none) : Ext (nw h h') (nw h h'') := fun p o z => nw_of (nw_some z).1 (f p o (fun m => k p m (nw_some z).1) (nw_some z).2)
theorem nw_less (e : Ext h h1) : Ext (nw h1 h') (nw h h') := fun p o z => nw_of (by
  cases q : h p with
  | none => rfl
  | some u => have k := (nw_some z).1; rw [e p u q] at k; cases k) (nw_some z).2
theorem Ext.isN (e : Ext h h') (n : h' p = none) : h p = none := by
  cases q : h p with
  | none => rfl
  | some u => rw [e p u q] at n; cases n
/-- the parts of a heap that stand -/
theorem kindA_up (e : Ext h h') {x : A} {k : String} (q : kindA h x = some k) : kindA h' x = some k := by
  cases x with
  | ref p =>
    simp only [kindA] at q ⊢
    cases z : h p with
    | none => rw [z] at q; cases q
    | some o => rw [z] at q; rw [e p o z]; exact q
  | _ => exact q
/-- the items of a list or a tuple -/
def itA (h : AH) : A → Option (List A)
  | .ref p => match h p with
    | some (.lst xs) => some xs
    | _ => none
  | .tup xs => some xs
  | _ => none
theorem itA_up (e : Ext h h') {x : A} {xs : List A} (q : itA h x = some xs) : itA h' x = some xs := by
  cases x with
  | ref p =>
    simp only [itA] at q ⊢
    cases z : h p with
    | none => rw [z] at q; cases q
    | some o => rw [z] at q; rw [e p o z]; exact q
  | _ => exact q
theorem itA_ref {p : Addr} {xs : List A} : itA h (.ref p) = some xs ↔ h p = some (.lst xs) := by
  constructor
  · intro q
    simp only [itA] at q
    cases z : h p with
    | none => rw [z] at q; cases q
    | some o =>
      rw [z] at q
      cases o with
      | lst ys => cases q; rfl
      | _ => cases q
  · intro q
    simp only [itA]
    rw [q]
/-- where an item is asked: x is a list or a tuple -/
theorem seqA_it {x : A} {xs : List A} {R : List A → Prop} (q : itA h x = some xs) (r : R xs) : seqA x h R := by
  cases x with
  | ref p => exact ⟨xs, itA_ref.mp q, r⟩
  | tup ys => cases q; exact r
  | _ => cases q
theorem kind_it {x : A} {xs : List A} (q : itA h x = some xs) : (kindA h x = some "list" ∧ ∃ p, x = .ref p ∧ h p = some (.lst xs)) ∨ (kindA h x = some "tuple" ∧ x = .tup xs) := by
  cases x with
  | ref p =>
    have e := itA_ref.mp q
    exact .inl ⟨by simp only [kindA]; rw [e], p, rfl, e⟩
  | tup ys => cases q; exact .inr ⟨rfl, rfl⟩
  | _ => cases q
theorem it_kind {x : A} {k : String} (q : kindA h x = some k) (s : kindIs k "list" = true ∨ (kindIs k "tuple" = true ∧ ∀ ks, x ≠ .kt ks)) : ∃ xs, itA h x = some xs := by
  cases x with
  | ref p =>
    simp only [kindA] at q
    cases z : h p with
    | none => rw [z] at q; cases q
    | some o =>
      rw [z] at q
      cases o with
      | lst ys => exact ⟨ys, itA_ref.mpr z⟩
      | lK _ => cases q
      | lT _ => cases q
      | ins _ _ => cases q
      | dK _ => cases q; rcases s with s | ⟨s, _⟩ <;> cases s
      | dT _ => cases q; rcases s with s | ⟨s, _⟩ <;> cases s
  | tup ys => exact ⟨ys, rfl⟩
  | kt ks =>
    cases q
    rcases s with s | ⟨_, s⟩
    · cases s
    · exact absurd rfl (s ks)
  | ty _ => cases q
  | fls _ => cases q
  | non => cases q; rcases s with s | ⟨s, _⟩ <;> cases s
  | bl _ => cases q; rcases s with s | ⟨s, _⟩ <;> cases s
  | int _ => cases q; rcases s with s | ⟨s, _⟩ <;> cases s
  | str _ => cases q; rcases s with s | ⟨s, _⟩ <;> cases s
end

/-- a def whose promise promises nothing -/
theorem defOk0 {P : Program} {w : World} {K : Frg} {mg : Str → Option Value} {base : Heap} {x qual : Str} {params : Arguments} {body : List Stmt} {scope : Scope} {f : Addr} {N ps : List Str} {k : Nat} {sp : ASp}
    (F : ∃ fd, FunD K x qual params body scope [] [] f fd)
    (bind : ∀ (kV doc pm : Value) (an : Option Addr) (cdv ct : Value) (us : List Value), us.length = ps.length → bindArgs (PySem.W.fnOf x qual params body scope .none kV doc pm an cdv ct) ⟨us, []⟩ = pure (ps.zip us)) (S : FnScope N ps scope)
    (no : ∀ as h Q E, sp as h Q E → False) : DefOk P w K mg base f (k + 1) ps sp := by
  obtain ⟨fd, F⟩ := F
  exact ⟨fd, F.kp, F.bindsN bind, F.ok S (fun vs H Q E ⟨as, h, QA, EA, r, _, hs, _⟩ => (no _ _ _ _ hs).elim) fun cdv A outer s H vs Q E hr ⟨as, h, QA, EA, r, rh, hs, kQ, kE⟩ => (no _ _ _ _ hs).elim⟩
/-! ### loops -/
section
variable {h : AH} {α : ASt}
/-- a walk over a list or a tuple -/
theorem for_it {x : A} {xs : List A} {g : ATG} {tb : ATS} {D : AEnds} (Pv : Nat → ASt → AH → Prop) (q : itA h x = some xs) (p0 : Pv 0 α h) (stay : ∀ p, x = .ref p → ∀ i α h, i ≤ xs.length → Pv i α h → h p = some (.lst xs))
    (step : ∀ i (hi : i < xs.length) α h, Pv i α h → g xs[i] α h fun α2 h2 => tb { D with nx := Pv (i + 1), ct := Pv (i + 1), bk := D.nx } α2 h2) (done : ∀ α h, Pv xs.length α h → D.nx α h) :
    seqOf x h fun S => loopS S g tb D α h := by
  have st : ∀ i x' α h, i < xs.length → xs[i]? = some x' → Pv i α h → g x' α h fun α2 h2 => tb { D with nx := Pv (i + 1), ct := Pv (i + 1), bk := D.nx } α2 h2 := fun i x' α h hi e pv => by
    rw [List.getElem?_eq_getElem hi] at e
    cases e
    exact step i hi α h pv
  cases x with
  | ref p => exact ⟨xs, itA_ref.mp q, Pv, p0, fun i α h hi pv => stay p rfl i α h hi pv, st, done⟩
  | tup ys => cases q; exact ⟨Pv, p0, fun _ _ _ _ _ => trivial, st, done⟩
  | _ => cases q
theorem for_fls {xs : List A} {g : ATG} {tb : ATS} {D : AEnds} (Pv : Nat → ASt → AH → Prop) (p0 : Pv 0 α h)
    (step : ∀ i (hi : i < xs.length) α h, Pv i α h → g xs[i] α h fun α2 h2 => tb { D with nx := Pv (i + 1), ct := Pv (i + 1), bk := D.nx } α2 h2) (done : ∀ α h, Pv xs.length α h → D.nx α h) :
    seqOf (.fls xs) h fun S => loopS S g tb D α h :=
  ⟨Pv, p0, fun _ _ _ _ _ => trivial, fun i x' α h hi e pv => by
    have e : xs[i]? = some x' := e
    rw [List.getElem?_eq_getElem hi] at e
    cases e
    exact step i hi α h pv, done⟩
/-- a list comprehension without a test -/
theorem lcS_mk {S : ASrc} {g : ATG} {te : ATE} {vs : List Nat} {D : Addr} {Q : AH → Prop} (Pv : Nat → AH → Prop) (p0 : Pv 0 (updA h D (.lst []))) (stay : ∀ i h', i ≤ S.n → Pv i h' → S.stay h')
    (step : ∀ i x h', i < S.n → S.item i x → Pv i h' → g x (wipeA α vs) h' fun α2 h2 => te α2 h2 (fun y h4 => ∃ acc, h4 D = some (.lst acc) ∧ acc.length < sizeLine ∧ Pv (i + 1) (updA h4 D (.lst (acc ++ [y])))) AE0)
    (done : ∀ h', Pv S.n h' → Q h') : lcS S g aYes te vs α h D Q := ⟨Pv, p0, stay, step, done⟩
theorem lc_it {x : A} {xs : List A} {g : ATG} {te : ATE} {vs : List Nat} {Q : Addr → AH → Prop} (Pv : Addr → Nat → AH → Prop) (q : itA h x = some xs) (p0 : ∀ D, h D = none → Pv D 0 (updA h D (.lst [])))
    (stay : ∀ D, h D = none → ∀ p, x = .ref p → ∀ i h', i ≤ xs.length → Pv D i h' → h' p = some (.lst xs))
    (step : ∀ D, h D = none → ∀ i (hi : i < xs.length) h', Pv D i h' → g xs[i] (wipeA α vs) h' fun α2 h2 => te α2 h2 (fun y h4 => ∃ acc, h4 D = some (.lst acc) ∧ acc.length < sizeLine ∧ Pv D (i + 1) (updA h4 D (.lst (acc ++ [y])))) AE0)
    (done : ∀ D, h D = none → ∀ h', Pv D xs.length h' → Q D h') : seqOf x h fun S => ∀ D, h D = none → lcS S g aYes te vs α h D fun h2 => Q D h2 := by
  have st : ∀ D, h D = none → ∀ i x' h', i < xs.length → xs[i]? = some x' → Pv D i h' → g x' (wipeA α vs) h' fun α2 h2 => te α2 h2 (fun y h4 => ∃ acc, h4 D = some (.lst acc) ∧ acc.length < sizeLine ∧ Pv D (i + 1) (updA h4 D (.lst (acc ++ [y])))) AE0 := fun D hD i x' h' hi e pv => by
    rw [List.getElem?_eq_getElem hi] at e
    cases e
    exact step D hD i hi h' pv
  cases x with
  | ref p => exact ⟨xs, itA_ref.mp q, fun D hD => lcS_mk (Pv D) (p0 D hD) (fun i h' hi pv => stay D hD p rfl i h' hi pv) (st D hD) (done D hD)⟩
  | tup ys => cases q; exact fun D hD => lcS_mk (Pv D) (p0 D hD) (fun _ _ _ _ => trivial) (st D hD) (done D hD)
  | _ => cases q
end
end G
namespace G
open PySem PySem.Spec L2
theorem bits_lt {i : Int} (h : i.natAbs < 2 ^ 64) : Builtin.Int.intBits i ≤ 64 := by
  unfold Builtin.Int.intBits
  split
  · omega
  · have := PySem.Flt.log2_lt_of (k := 64) (by decide) h
    omega
theorem mul_r {i j : Int} (h : j.natAbs < 2 ^ 64) : IntMulOk i j := IntMulOk.of_right (bits_lt h)
theorem mul_l {i j : Int} (h : i.natAbs < 2 ^ 64) : IntMulOk i j := IntMulOk.of_left (bits_lt h)
section
variable {h : AH} {p : Addr} {xs : List A} {i : Int} {v : A} {Q : AVK}
theorem ix_ref (e : h p = some (.lst xs)) (a : atI xs i = some v) (q : Q v h) : ixA (.ref p) (.int i) h Q := ⟨xs, v, e, a, q⟩
theorem ix_tup (a : atI xs i = some v) (q : Q v h) : ixA (.tup xs) (.int i) h Q := by
  show (match atI xs i with
    | some v => Q v h
    | none => False)
  rw [a]
  exact q
theorem ix_it {x : A} (e : itA h x = some xs) (a : atI xs i = some v) (q : Q v h) : ixA x (.int i) h Q := by
  cases x with
  | ref p => exact ix_ref (itA_ref.mp e) a q
  | tup ys => cases e; exact ix_tup a q
  | _ => cases e
/-- a valid index -/
theorem ixN_of {n : Nat} {i : Int} (h0 : 0 ≤ i) (h : i < n) : ixN n i = some i.toNat := by
  unfold ixN
  rw [if_pos h0, if_pos h]
theorem atI_of {α : Type} {xs : List α} {i : Int} (h0 : 0 ≤ i) (h : i < xs.length) : atI xs i = some (xs[i.toNat]'(by omega)) := by
  unfold atI
  rw [ixN_of h0 h]
  simp
end
theorem takeS {α : Type} {xs : List α} {i : Nat} (h : i < xs.length) : xs.take (i + 1) = xs.take i ++ [xs[i]] := by
  rw [List.take_succ, List.getElem?_eq_getElem h]
  rfl
theorem Ext.wr {h h' : AH} {p : Addr} {o : AO} (n : h p = none) (e : Ext h h') : Ext h (updA h' p o) := fun a u z => by
  rw [updA_ne (fun q => by subst q; rw [n] at z; cases z)]
  exact e a u z
theorem Fx.wr' {M : Addr → Prop} {h h' : AH} {p : Addr} {o : AO} (m : M p ∨ h p = none) (e : Fx M h h') : Fx M h (updA h' p o) := fun a u n z => by
  rw [updA_ne (fun q => by
    subst q
    rcases m with m | m
    · exact n m
    · rw [m] at z; cases z)]
  exact e a u n z
theorem Paired.of_get {α β : Type} {F : α → β → Prop} : ∀ {l₁ : List α} {l₂ : List β}, l₁.length = l₂.length → (∀ i (h1 : i < l₁.length) (h2 : i < l₂.length), F l₁[i] l₂[i]) → Paired F l₁ l₂
  | [], [], _, _ => .nil
  | [], _ :: _, h, _ => nomatch h
  | _ :: _, [], h, _ => nomatch h
  | a :: as, b :: bs, h, k => .cons (k 0 (Nat.zero_lt_succ _) (Nat.zero_lt_succ _)) (Paired.of_get (Nat.succ.inj h) fun i h1 h2 => k (i + 1) (Nat.succ_lt_succ h1) (Nat.succ_lt_succ h2))
theorem Paired.get {α β : Type} {F : α → β → Prop} : ∀ {l₁ : List α} {l₂ : List β}, Paired F l₁ l₂ → ∀ i (h1 : i < l₁.length) (h2 : i < l₂.length), F l₁[i] l₂[i]
  | _, _, .nil, _, h, _ => absurd h (Nat.not_lt_zero _)
  | _, _, .cons r t, 0, _, _ => r
  | _, _, .cons r t, i + 1, h1, h2 => Paired.get t i (Nat.lt_of_succ_lt_succ h1) (Nat.lt_of_succ_lt_succ h2)
theorem Paired.choose {α β : Type} {F : α → β → Prop} : ∀ {l : List α}, (∀ i (h : i < l.length), ∃ b, F l[i] b) → ∃ l₂, Paired F l l₂
  | [], _ => ⟨[], .nil⟩
  | a :: as, h => by
    obtain ⟨b, hb⟩ := h 0 (Nat.zero_lt_succ _)
    obtain ⟨bs, hbs⟩ := Paired.choose (l := as) fun i hi => h (i + 1) (Nat.succ_lt_succ hi)
    exact ⟨b :: bs, .cons hb hbs⟩
theorem atI_cons {α : Type} {x : α} {l : List α} : atI (x :: l) 0 = some x := by
  rw [atI_of (by decide) (by simp)]
  rfl
theorem ixN_zero {n : Nat} : ixN (n + 1) 0 = some 0 := by rw [ixN_of (by decide) (by omega)]; rfl
theorem cd {i j : Int} (a : 0 < j := by decide) (b : j.natAbs.log2 < 9000 := by decide) : CDivW i j := ⟨a, b⟩
section
variable {h : AH} {α : ASt} {g : ATG} {tb : ATS} {D : AEnds}
theorem loop_enum {p : Addr} {xs : List A} (Pv : Nat → ASt → AH → Prop) (p0 : Pv 0 α h) (stay : ∀ i α h, i ≤ xs.length → Pv i α h → h p = some (.lst xs))
    (step : ∀ i (hi : i < xs.length) α h, Pv i α h → g (.tup [.int (i : Nat), xs[i]]) α h fun α2 h2 => tb { D with nx := Pv (i + 1), ct := Pv (i + 1), bk := D.nx } α2 h2) (done : ∀ α h, Pv xs.length α h → D.nx α h) :
    loopS ⟨xs.length, fun i a => ∃ x, a = .tup [.int (i : Nat), x] ∧ xs[i]? = some x, fun h' => LstA h' p xs⟩ g tb D α h :=
  ⟨Pv, p0, stay, fun i x α h hi it pv => by
    obtain ⟨x', rfl, e⟩ := (show ∃ x', x = .tup [.int (i : Nat), x'] ∧ xs[i]? = some x' from it)
    rw [List.getElem?_eq_getElem hi] at e
    cases e
    exact step i hi α h pv, done⟩
theorem loop_rng {n : Nat} {lo : Int} (Pv : Nat → ASt → AH → Prop) (p0 : Pv 0 α h)
    (step : ∀ i (hi : i < n) α h, Pv i α h → g (.int (lo + (i : Nat))) α h fun α2 h2 => tb { D with nx := Pv (i + 1), ct := Pv (i + 1), bk := D.nx } α2 h2) (done : ∀ α h, Pv n α h → D.nx α h) :
    loopS ⟨n, fun i a => a = .int (lo + (i : Nat)), fun _ => True⟩ g tb D α h :=
  ⟨Pv, p0, fun _ _ _ _ _ => trivial, fun i x α h hi it pv => by
    have e : x = .int (lo + (i : Nat)) := it
    subst e
    exact step i hi α h pv, done⟩
end
/-- the rest of a suite behind a cut -/
theorem seq_cut {t u : ATS} {D : AEnds} {α : ASt} {h : AH} (P : ASt → AH → Prop) (first : ∀ J : ASt → AH → Prop, (∀ α h, P α h → J α h) → t { D with nx := J } α h) (rest : ∀ α h, P α h → u D α h) : aSeq t u D α h := first (u D) rest
/-- lists of a range -/
theorem lc_rng {h : AH} {α : ASt} {g : ATG} {te : ATE} {vs : List Nat} {D : Addr} {Q : AH → Prop} {n : Nat} {lo : Int} (Pv : Nat → AH → Prop) (p0 : Pv 0 (updA h D (.lst [])))
    (step : ∀ i (hi : i < n) h', Pv i h' → g (.int (lo + (i : Nat))) (wipeA α vs) h' fun α2 h2 => te α2 h2 (fun y h4 => ∃ acc, h4 D = some (.lst acc) ∧ acc.length < sizeLine ∧ Pv (i + 1) (updA h4 D (.lst (acc ++ [y])))) AE0)
    (done : ∀ h', Pv n h' → Q h') : lcS ⟨n, fun i a => a = .int (lo + (i : Nat)), fun _ => True⟩ g aYes te vs α h D Q :=
  lcS_mk Pv p0 (fun _ _ _ _ => trivial) (fun i x h' hi it pv => by
    have e : x = .int (lo + (i : Nat)) := it
    subst e
    exact step i hi h' pv) done
end G
namespace GL
open PySem PySem.Spec L2 G
def top (i : Nat) : Stmt := PySem.Challenge.pw_glazehall_k66_tips_of_any_form.main.body.getD i (.Pass ⟨0, 0, 0, 0⟩)
abbrev s_is_sixteenth : Stmt := top 17
abbrev s_is_weights : Stmt := top 20
abbrev s_Tip_init : Stmt := inClass (top 21) 0
abbrev s_Tip_spread : Stmt := inClass (top 21) 1
abbrev s_law_well : Stmt := top 23
abbrev s_law_draw : Stmt := top 24
abbrev s_law_weight : Stmt := top 25
abbrev s_law_no_weight : Stmt := top 26
abbrev s_law_rows : Stmt := top 27
abbrev s_law_good : Stmt := top 28
abbrev s_law_formed : Stmt := top 29
abbrev s_law_copied : Stmt := top 30
abbrev s_law_refused : Stmt := top 31
abbrev s_law_spot : Stmt := top 32
abbrev s_law_due : Stmt := top 33
abbrev s_law_told : Stmt := top 34
abbrev s_law_changed : Stmt := top 35
abbrev s_law : Stmt := top 36
def d_is_sixteenth : He.DefD := ⟨("is_sixteenth", none), "is_sixteenth", "is_sixteenth", defArgs s_is_sixteenth, defBody s_is_sixteenth, defScope s_is_sixteenth, [], []⟩
def d_is_weights : He.DefD := ⟨("is_weights", none), "is_weights", "is_weights", defArgs s_is_weights, defBody s_is_weights, defScope s_is_weights, [], []⟩
def d_Tip_init : He.DefD := ⟨("Tip", some "__init__"), "__init__", "Tip.__init__", defArgs s_Tip_init, defBody s_Tip_init, defScope s_Tip_init, [], []⟩
def d_Tip_spread : He.DefD := ⟨("Tip", some "spread"), "spread", "Tip.spread", defArgs s_Tip_spread, defBody s_Tip_spread, defScope s_Tip_spread, [], []⟩
def d_law_well : He.DefD := ⟨("_law_well", none), "_law_well", "_law_well", defArgs s_law_well, defBody s_law_well, defScope s_law_well, [], []⟩
def d_law_draw : He.DefD := ⟨("_law_draw", none), "_law_draw", "_law_draw", defArgs s_law_draw, defBody s_law_draw, defScope s_law_draw, [], []⟩
def d_law_weight : He.DefD := ⟨("_law_weight", none), "_law_weight", "_law_weight", defArgs s_law_weight, defBody s_law_weight, defScope s_law_weight, [], []⟩
def d_law_no_weight : He.DefD := ⟨("_law_no_weight", none), "_law_no_weight", "_law_no_weight", defArgs s_law_no_weight, defBody s_law_no_weight, defScope s_law_no_weight, [], []⟩
def d_law_rows : He.DefD := ⟨("_law_rows", none), "_law_rows", "_law_rows", defArgs s_law_rows, defBody s_law_rows, defScope s_law_rows, [], []⟩
def d_law_good : He.DefD := ⟨("_law_good", none), "_law_good", "_law_good", defArgs s_law_good, defBody s_law_good, defScope s_law_good, [], []⟩
def d_law_formed : He.DefD := ⟨("_law_formed", none), "_law_formed", "_law_formed", defArgs s_law_formed, defBody s_law_formed, defScope s_law_formed, [], []⟩
def d_law_copied : He.DefD := ⟨("_law_copied", none), "_law_copied", "_law_copied", defArgs s_law_copied, defBody s_law_copied, defScope s_law_copied, [], []⟩
def d_law_refused : He.DefD := ⟨("_law_refused", none), "_law_refused", "_law_refused", defArgs s_law_refused, defBody s_law_refused, defScope s_law_refused, [], []⟩
def d_law_spot : He.DefD := ⟨("_law_spot", none), "_law_spot", "_law_spot", defArgs s_law_spot, defBody s_law_spot, defScope s_law_spot, [], []⟩
def d_law_due : He.DefD := ⟨("_law_due", none), "_law_due", "_law_due", defArgs s_law_due, defBody s_law_due, defScope s_law_due, [], []⟩
def d_law_told : He.DefD := ⟨("_law_told", none), "_law_told", "_law_told", defArgs s_law_told, defBody s_law_told, defScope s_law_told, [], []⟩
def d_law_changed : He.DefD := ⟨("_law_changed", none), "_law_changed", "_law_changed", defArgs s_law_changed, defBody s_law_changed, defScope s_law_changed, [], []⟩
def d_law : He.DefD := ⟨("law", none), "law", "law", defArgs s_law, defBody s_law, defScope s_law, [], []⟩
abbrev N_is_sixteenth : List Str := ["number"]
abbrev a_is_sixteenth : List Str := ["number"]
theorem sc_is_sixteenth : FnScope N_is_sixteenth a_is_sixteenth (defScope s_is_sixteenth) := ⟨rfl, rfl, rfl, by decide +kernel, rfl, by decide +kernel, by decide +kernel⟩
abbrev N_is_weights : List Str := ["row", "many", "weight"]
abbrev a_is_weights : List Str := ["row", "many"]
theorem sc_is_weights : FnScope N_is_weights a_is_weights (defScope s_is_weights) := ⟨rfl, rfl, rfl, by decide +kernel, rfl, by decide +kernel, by decide +kernel⟩
abbrev N_Tip_init : List Str := ["self", "rows", "row"]
abbrev a_Tip_init : List Str := ["self", "rows"]
theorem sc_Tip_init : FnScope N_Tip_init a_Tip_init (defScope s_Tip_init) := ⟨rfl, rfl, rfl, by decide +kernel, rfl, by decide +kernel, by decide +kernel⟩
abbrev N_Tip_spread : List Str := ["self", "cell", "half", "found", "down", "row", "across", "weight"]
abbrev a_Tip_spread : List Str := ["self", "cell"]
theorem sc_Tip_spread : FnScope N_Tip_spread a_Tip_spread (defScope s_Tip_spread) := ⟨rfl, rfl, rfl, by decide +kernel, rfl, by decide +kernel, by decide +kernel⟩
abbrev N_law_well : List Str := ["cell"]
abbrev a_law_well : List Str := ["cell"]
theorem sc_law_well : FnScope N_law_well a_law_well (defScope s_law_well) := ⟨rfl, rfl, rfl, by decide +kernel, rfl, by decide +kernel, by decide +kernel⟩
abbrev N_law_draw : List Str := ["well", "many", "found", "number"]
abbrev a_law_draw : List Str := ["well", "many"]
theorem sc_law_draw : FnScope N_law_draw a_law_draw (defScope s_law_draw) := ⟨rfl, rfl, rfl, by decide +kernel, rfl, by decide +kernel, by decide +kernel⟩
abbrev N_law_weight : List Str := ["well"]
abbrev a_law_weight : List Str := ["well"]
theorem sc_law_weight : FnScope N_law_weight a_law_weight (defScope s_law_weight) := ⟨rfl, rfl, rfl, by decide +kernel, rfl, by decide +kernel, by decide +kernel⟩
abbrev N_law_no_weight : List Str := ["well", "far"]
abbrev a_law_no_weight : List Str := ["well"]
theorem sc_law_no_weight : FnScope N_law_no_weight a_law_no_weight (defScope s_law_no_weight) := ⟨rfl, rfl, rfl, by decide +kernel, rfl, by decide +kernel, by decide +kernel⟩
abbrev N_law_rows : List Str := ["well", "kind", "at", "place", "high", "wide", "rows", "y", "x"]
abbrev a_law_rows : List Str := ["well"]
theorem sc_law_rows : FnScope N_law_rows a_law_rows (defScope s_law_rows) := ⟨rfl, rfl, rfl, by decide +kernel, rfl, by decide +kernel, by decide +kernel⟩
abbrev N_law_good : List Str := ["rows", "row", "weight"]
abbrev a_law_good : List Str := ["rows"]
theorem sc_law_good : FnScope N_law_good a_law_good (defScope s_law_good) := ⟨rfl, rfl, rfl, by decide +kernel, rfl, by decide +kernel, by decide +kernel⟩
abbrev N_law_formed : List Str := ["well", "rows", "found", "row"]
abbrev a_law_formed : List Str := ["well", "rows"]
theorem sc_law_formed : FnScope N_law_formed a_law_formed (defScope s_law_formed) := ⟨rfl, rfl, rfl, by decide +kernel, rfl, by decide +kernel, by decide +kernel⟩
abbrev N_law_copied : List Str := ["some", "one"]
abbrev a_law_copied : List Str := ["some"]
theorem sc_law_copied : FnScope N_law_copied a_law_copied (defScope s_law_copied) := ⟨rfl, rfl, rfl, by decide +kernel, rfl, by decide +kernel, by decide +kernel⟩
abbrev N_law_refused : List Str := ["rows", "refused", "e", "other"]
abbrev a_law_refused : List Str := ["rows"]
theorem sc_law_refused : FnScope N_law_refused a_law_refused (defScope s_law_refused) := ⟨rfl, rfl, rfl, by decide +kernel, rfl, by decide +kernel, by decide +kernel⟩
abbrev N_law_spot : List Str := ["well", "far", "near"]
abbrev a_law_spot : List Str := ["well"]
theorem sc_law_spot : FnScope N_law_spot a_law_spot (defScope s_law_spot) := ⟨rfl, rfl, rfl, by decide +kernel, rfl, by decide +kernel, by decide +kernel⟩
abbrev N_law_due : List Str := ["rows", "cell", "half", "found", "down", "across"]
abbrev a_law_due : List Str := ["rows", "cell"]
theorem sc_law_due : FnScope N_law_due a_law_due (defScope s_law_due) := ⟨rfl, rfl, rfl, by decide +kernel, rfl, by decide +kernel, by decide +kernel⟩
abbrev N_law_told : List Str := ["tip", "rows", "cells", "cell", "found", "told"]
abbrev a_law_told : List Str := ["tip", "rows", "cells"]
theorem sc_law_told : FnScope N_law_told a_law_told (defScope s_law_told) := ⟨rfl, rfl, rfl, by decide +kernel, rfl, by decide +kernel, by decide +kernel⟩
abbrev N_law_changed : List Str := ["handed", "row"]
abbrev a_law_changed : List Str := ["handed"]
theorem sc_law_changed : FnScope N_law_changed a_law_changed (defScope s_law_changed) := ⟨rfl, rfl, rfl, by decide +kernel, rfl, by decide +kernel, by decide +kernel⟩
abbrev N_law : List Str := ["script", "kept", "cell", "well", "rows", "handed", "form", "cells", "tip", "some"]
abbrev a_law : List Str := ["script"]
theorem sc_law : FnScope N_law a_law (defScope s_law) := ⟨rfl, rfl, rfl, by decide +kernel, rfl, by decide +kernel, by decide +kernel⟩
abbrev c_HallError (K : Frg) : Addr := He.ga K "HallError"
abbrev c_NoFraction (K : Frg) : Addr := He.ga K "NoFraction"
abbrev c_NoShade (K : Frg) : Addr := He.ga K "NoShade"
abbrev c_NoManner (K : Frg) : Addr := He.ga K "NoManner"
abbrev c_NoGain (K : Frg) : Addr := He.ga K "NoGain"
abbrev c_NoSixteenth (K : Frg) : Addr := He.ga K "NoSixteenth"
abbrev c_NoTip (K : Frg) : Addr := He.ga K "NoTip"
abbrev c_NoTile (K : Frg) : Addr := He.ga K "NoTile"
abbrev c_NoLayer (K : Frg) : Addr := He.ga K "NoLayer"
abbrev c_NoPlace (K : Frg) : Addr := He.ga K "NoPlace"
abbrev c_Within (K : Frg) : Addr := He.ga K "Within"
abbrev c_TooMany (K : Frg) : Addr := He.ga K "TooMany"
abbrev c_NoStand (K : Frg) : Addr := He.ga K "NoStand"
abbrev c_NoBundle (K : Frg) : Addr := He.ga K "NoBundle"
abbrev c_Tip (K : Frg) : Addr := He.ga K "Tip"
abbrev f_is_sixteenth (K : Frg) : Addr := He.fAd K d_is_sixteenth.at_
abbrev f_is_weights (K : Frg) : Addr := He.fAd K d_is_weights.at_
abbrev f_Tip_init (K : Frg) : Addr := He.fAd K d_Tip_init.at_
abbrev f_Tip_spread (K : Frg) : Addr := He.fAd K d_Tip_spread.at_
abbrev f_law_well (K : Frg) : Addr := He.fAd K d_law_well.at_
abbrev f_law_draw (K : Frg) : Addr := He.fAd K d_law_draw.at_
abbrev f_law_weight (K : Frg) : Addr := He.fAd K d_law_weight.at_
abbrev f_law_no_weight (K : Frg) : Addr := He.fAd K d_law_no_weight.at_
abbrev f_law_rows (K : Frg) : Addr := He.fAd K d_law_rows.at_
abbrev f_law_good (K : Frg) : Addr := He.fAd K d_law_good.at_
abbrev f_law_formed (K : Frg) : Addr := He.fAd K d_law_formed.at_
abbrev f_law_copied (K : Frg) : Addr := He.fAd K d_law_copied.at_
abbrev f_law_refused (K : Frg) : Addr := He.fAd K d_law_refused.at_
abbrev f_law_spot (K : Frg) : Addr := He.fAd K d_law_spot.at_
abbrev f_law_due (K : Frg) : Addr := He.fAd K d_law_due.at_
abbrev f_law_told (K : Frg) : Addr := He.fAd K d_law_told.at_
abbrev f_law_changed (K : Frg) : Addr := He.fAd K d_law_changed.at_
abbrev f_law (K : Frg) : Addr := He.fAd K d_law.at_
def v_WIDTHS : A := .tup [.int 1, .int 3, .int 5]
def fb0 : List (Frg → Bool) := [(fun K => excCB K (c_NoTip K)),
  (fun K => (He.Fa.cls "Tip").ok K),
  (fun K => (He.Fa.mkr "Tip").ok K),
  (fun K => (He.Fa.meth "Tip" "spread").ok K),
  (fun K => clsFB K "Tip" "weights"),
  (fun K => exmB K (.ref (c_NoTip K)) (.ref (c_NoTip K)) true),
  (fun K => oneB K (.ref (c_NoTip K)) (.ref (c_NoBundle K)) false),
  (fun K => oneB K (.ref (c_NoTip K)) (.ref (c_NoFraction K)) false),
  (fun K => oneB K (.ref (c_NoTip K)) (.ref (c_NoGain K)) false),
  (fun K => oneB K (.ref (c_NoTip K)) (.ref (c_NoLayer K)) false),
  (fun K => oneB K (.ref (c_NoTip K)) (.ref (c_NoManner K)) false),
  (fun K => oneB K (.ref (c_NoTip K)) (.ref (c_NoPlace K)) false),
  (fun K => oneB K (.ref (c_NoTip K)) (.ref (c_NoShade K)) false),
  (fun K => oneB K (.ref (c_NoTip K)) (.ref (c_NoSixteenth K)) false),
  (fun K => oneB K (.ref (c_NoTip K)) (.ref (c_NoStand K)) false),
  (fun K => oneB K (.ref (c_NoTip K)) (.ref (c_NoTile K)) false),
  (fun K => oneB K (.ref (c_NoTip K)) (.ref (c_TooMany K)) false),
  (fun K => oneB K (.ref (c_NoTip K)) (.ref (c_Within K)) false),
  (fun K => oneB K (.ref (c_NoTip K)) (.ref (c_HallError K)) true),
  (fun K => oneB K (.ref (c_NoTip K)) (.type "ValueError") true),
  (fun K => (He.Fa.glo "is_sixteenth").ok K),
  (fun K => (He.Fa.glo "is_weights").ok K),
  (fun K => (He.Fa.glo "_law_well").ok K),
  (fun K => (He.Fa.glo "_law_draw").ok K),
  (fun K => (He.Fa.glo "_law_weight").ok K),
  (fun K => (He.Fa.glo "_law_no_weight").ok K),
  (fun K => (He.Fa.glo "_law_rows").ok K),
  (fun K => (He.Fa.glo "_law_good").ok K),
  (fun K => (He.Fa.glo "_law_formed").ok K),
  (fun K => (He.Fa.glo "_law_copied").ok K),
  (fun K => (He.Fa.glo "_law_refused").ok K),
  (fun K => (He.Fa.glo "_law_spot").ok K),
  (fun K => (He.Fa.glo "_law_due").ok K),
  (fun K => (He.Fa.glo "_law_told").ok K),
  (fun K => (He.Fa.glo "_law_changed").ok K),
  (fun K => (He.Fa.glo "law").ok K),
  (fun K => (He.Fa.glo "HallError").ok K),
  (fun K => (He.Fa.glo "NoFraction").ok K),
  (fun K => (He.Fa.glo "NoShade").ok K),
  (fun K => (He.Fa.glo "NoManner").ok K)]
def fb1 : List (Frg → Bool) := [(fun K => (He.Fa.glo "NoGain").ok K),
  (fun K => (He.Fa.glo "NoSixteenth").ok K),
  (fun K => (He.Fa.glo "NoTip").ok K),
  (fun K => (He.Fa.glo "NoTile").ok K),
  (fun K => (He.Fa.glo "NoLayer").ok K),
  (fun K => (He.Fa.glo "NoPlace").ok K),
  (fun K => (He.Fa.glo "Within").ok K),
  (fun K => (He.Fa.glo "TooMany").ok K),
  (fun K => (He.Fa.glo "NoStand").ok K),
  (fun K => (He.Fa.glo "NoBundle").ok K),
  (fun K => (He.Fa.glo "Tip").ok K),
  (fun K => (He.Fa.free "all").ok K),
  (fun K => (He.Fa.free "bool").ok K),
  (fun K => (He.Fa.free "enumerate").ok K),
  (fun K => (He.Fa.free "int").ok K),
  (fun K => (He.Fa.free "isinstance").ok K),
  (fun K => (He.Fa.free "len").ok K),
  (fun K => (He.Fa.free "list").ok K),
  (fun K => (He.Fa.free "range").ok K),
  (fun K => (He.Fa.free "tuple").ok K),
  (fun K => (He.Fa.free "ValueError").ok K),
  (fun K => (He.Fa.int "FULL" 16).ok K),
  (fun K => constB K "WIDTHS" v_WIDTHS),
  (fun K => exKB K "NoTip")]
def fb : List (Frg → Bool) := fb0 ++ fb1
def fn0 : List He.DefD := [d_is_sixteenth, d_is_weights, d_Tip_init, d_Tip_spread, d_law_well, d_law_draw, d_law_weight, d_law_no_weight, d_law_rows, d_law_good, d_law_formed, d_law_copied, d_law_refused, d_law_spot, d_law_due, d_law_told, d_law_changed, d_law]
def fn : List He.DefD := fn0
structure TK (K : Frg) : Prop where
  e_NoTip : ExcC K (c_NoTip K)
  cl_Tip : Cls K (c_Tip K)
  k_Tip : Mk K (c_Tip K) (f_Tip_init K)
  m_Tip_spread : Meth K (c_Tip K) "spread" (f_Tip_spread K)
  cf_Tip_weights : ClsF K (c_Tip K) "weights"
  em_NoTip_NoTip : PySem.W.exmOne K (.ref (c_NoTip K)) (.ref (c_NoTip K)) = some true
  ki_NoTip_NoBundle : PySem.W.kitOne K (.ref (c_NoTip K)) (.ref (c_NoBundle K)) = some false
  ki_NoTip_NoFraction : PySem.W.kitOne K (.ref (c_NoTip K)) (.ref (c_NoFraction K)) = some false
  ki_NoTip_NoGain : PySem.W.kitOne K (.ref (c_NoTip K)) (.ref (c_NoGain K)) = some false
  ki_NoTip_NoLayer : PySem.W.kitOne K (.ref (c_NoTip K)) (.ref (c_NoLayer K)) = some false
  ki_NoTip_NoManner : PySem.W.kitOne K (.ref (c_NoTip K)) (.ref (c_NoManner K)) = some false
  ki_NoTip_NoPlace : PySem.W.kitOne K (.ref (c_NoTip K)) (.ref (c_NoPlace K)) = some false
  ki_NoTip_NoShade : PySem.W.kitOne K (.ref (c_NoTip K)) (.ref (c_NoShade K)) = some false
  ki_NoTip_NoSixteenth : PySem.W.kitOne K (.ref (c_NoTip K)) (.ref (c_NoSixteenth K)) = some false
  ki_NoTip_NoStand : PySem.W.kitOne K (.ref (c_NoTip K)) (.ref (c_NoStand K)) = some false
  ki_NoTip_NoTile : PySem.W.kitOne K (.ref (c_NoTip K)) (.ref (c_NoTile K)) = some false
  ki_NoTip_TooMany : PySem.W.kitOne K (.ref (c_NoTip K)) (.ref (c_TooMany K)) = some false
  ki_NoTip_Within : PySem.W.kitOne K (.ref (c_NoTip K)) (.ref (c_Within K)) = some false
  ki_NoTip_HallError : PySem.W.kitOne K (.ref (c_NoTip K)) (.ref (c_HallError K)) = some true
  ki_NoTip_ValueError : PySem.W.kitOne K (.ref (c_NoTip K)) (.type "ValueError") = some true
structure Txt (K : Frg) (mg : Str → Option Value) : Prop extends TK K where
  g_is_sixteenth : mg "is_sixteenth" = some (.ref (f_is_sixteenth K))
  g_is_weights : mg "is_weights" = some (.ref (f_is_weights K))
  g__law_well : mg "_law_well" = some (.ref (f_law_well K))
  g__law_draw : mg "_law_draw" = some (.ref (f_law_draw K))
  g__law_weight : mg "_law_weight" = some (.ref (f_law_weight K))
  g__law_no_weight : mg "_law_no_weight" = some (.ref (f_law_no_weight K))
  g__law_rows : mg "_law_rows" = some (.ref (f_law_rows K))
  g__law_good : mg "_law_good" = some (.ref (f_law_good K))
  g__law_formed : mg "_law_formed" = some (.ref (f_law_formed K))
  g__law_copied : mg "_law_copied" = some (.ref (f_law_copied K))
  g__law_refused : mg "_law_refused" = some (.ref (f_law_refused K))
  g__law_spot : mg "_law_spot" = some (.ref (f_law_spot K))
  g__law_due : mg "_law_due" = some (.ref (f_law_due K))
  g__law_told : mg "_law_told" = some (.ref (f_law_told K))
  g__law_changed : mg "_law_changed" = some (.ref (f_law_changed K))
  g_law : mg "law" = some (.ref (f_law K))
  g_HallError : mg "HallError" = some (.ref (c_HallError K))
  g_NoFraction : mg "NoFraction" = some (.ref (c_NoFraction K))
  g_NoShade : mg "NoShade" = some (.ref (c_NoShade K))
  g_NoManner : mg "NoManner" = some (.ref (c_NoManner K))
  g_NoGain : mg "NoGain" = some (.ref (c_NoGain K))
  g_NoSixteenth : mg "NoSixteenth" = some (.ref (c_NoSixteenth K))
  g_NoTip : mg "NoTip" = some (.ref (c_NoTip K))
  g_NoTile : mg "NoTile" = some (.ref (c_NoTile K))
  g_NoLayer : mg "NoLayer" = some (.ref (c_NoLayer K))
  g_NoPlace : mg "NoPlace" = some (.ref (c_NoPlace K))
  g_Within : mg "Within" = some (.ref (c_Within K))
  g_TooMany : mg "TooMany" = some (.ref (c_TooMany K))
  g_NoStand : mg "NoStand" = some (.ref (c_NoStand K))
  g_NoBundle : mg "NoBundle" = some (.ref (c_NoBundle K))
  g_Tip : mg "Tip" = some (.ref (c_Tip K))
  n_all : mg "all" = none
  n_bool : mg "bool" = none
  n_enumerate : mg "enumerate" = none
  n_int : mg "int" = none
  n_isinstance : mg "isinstance" = none
  n_len : mg "len" = none
  n_list : mg "list" = none
  n_range : mg "range" = none
  n_tuple : mg "tuple" = none
  n_ValueError : mg "ValueError" = none
  c_FULL : ∃ t, mg "FULL" = some (.int 16 t)
  v_WIDTHS : ∃ u v, mg "WIDTHS" = some u ∧ RelV v u ∧ ∀ H, RelA K H v_WIDTHS v
  x_NoTip : ExcK K mg "NoTip" (c_NoTip K)
theorem fact {K : Frg} (c : SaysG fb fn K) (i : Nat) {f : Frg → Bool} (h : fb[i]? = some f := by rfl) : f K = true := c.fact i h
theorem tk {K : Frg} (c : SaysG fb fn K) : TK K := {
  e_NoTip := excCB_ok (fact c 0 (f := (fun K => excCB K (c_NoTip K))))
  cl_Tip := He.cls_ok (fact c 1 (f := (fun K => (He.Fa.cls "Tip").ok K)))
  k_Tip := He.mkr_ok (fact c 2 (f := (fun K => (He.Fa.mkr "Tip").ok K)))
  m_Tip_spread := He.meth_ok (fact c 3 (f := (fun K => (He.Fa.meth "Tip" "spread").ok K)))
  cf_Tip_weights := clsF_ok (fact c 4 (f := (fun K => clsFB K "Tip" "weights")))
  em_NoTip_NoTip := exmB_ok (fact c 5 (f := (fun K => exmB K (.ref (c_NoTip K)) (.ref (c_NoTip K)) true)))
  ki_NoTip_NoBundle := oneB_ok (fact c 6 (f := (fun K => oneB K (.ref (c_NoTip K)) (.ref (c_NoBundle K)) false)))
  ki_NoTip_NoFraction := oneB_ok (fact c 7 (f := (fun K => oneB K (.ref (c_NoTip K)) (.ref (c_NoFraction K)) false)))
  ki_NoTip_NoGain := oneB_ok (fact c 8 (f := (fun K => oneB K (.ref (c_NoTip K)) (.ref (c_NoGain K)) false)))
  ki_NoTip_NoLayer := oneB_ok (fact c 9 (f := (fun K => oneB K (.ref (c_NoTip K)) (.ref (c_NoLayer K)) false)))
  ki_NoTip_NoManner := oneB_ok (fact c 10 (f := (fun K => oneB K (.ref (c_NoTip K)) (.ref (c_NoManner K)) false)))
  ki_NoTip_NoPlace := oneB_ok (fact c 11 (f := (fun K => oneB K (.ref (c_NoTip K)) (.ref (c_NoPlace K)) false)))
  ki_NoTip_NoShade := oneB_ok (fact c 12 (f := (fun K => oneB K (.ref (c_NoTip K)) (.ref (c_NoShade K)) false)))
  ki_NoTip_NoSixteenth := oneB_ok (fact c 13 (f := (fun K => oneB K (.ref (c_NoTip K)) (.ref (c_NoSixteenth K)) false)))
  ki_NoTip_NoStand := oneB_ok (fact c 14 (f := (fun K => oneB K (.ref (c_NoTip K)) (.ref (c_NoStand K)) false)))
  ki_NoTip_NoTile := oneB_ok (fact c 15 (f := (fun K => oneB K (.ref (c_NoTip K)) (.ref (c_NoTile K)) false)))
  ki_NoTip_TooMany := oneB_ok (fact c 16 (f := (fun K => oneB K (.ref (c_NoTip K)) (.ref (c_TooMany K)) false)))
  ki_NoTip_Within := oneB_ok (fact c 17 (f := (fun K => oneB K (.ref (c_NoTip K)) (.ref (c_Within K)) false)))
  ki_NoTip_HallError := oneB_ok (fact c 18 (f := (fun K => oneB K (.ref (c_NoTip K)) (.ref (c_HallError K)) true)))
  ki_NoTip_ValueError := oneB_ok (fact c 19 (f := (fun K => oneB K (.ref (c_NoTip K)) (.type "ValueError") true)))
  }
theorem txt {K : Frg} {h : Heap} {mg : Str → Option Value} (X : K.In h) (Gm : h.Ns mainGlobals mg) (c : SaysG fb fn K) : Txt K mg := { tk c with
  g_is_sixteenth := He.glo_ok X Gm (fact c 20 (f := (fun K => (He.Fa.glo "is_sixteenth").ok K)))
  g_is_weights := He.glo_ok X Gm (fact c 21 (f := (fun K => (He.Fa.glo "is_weights").ok K)))
  g__law_well := He.glo_ok X Gm (fact c 22 (f := (fun K => (He.Fa.glo "_law_well").ok K)))
  g__law_draw := He.glo_ok X Gm (fact c 23 (f := (fun K => (He.Fa.glo "_law_draw").ok K)))
  g__law_weight := He.glo_ok X Gm (fact c 24 (f := (fun K => (He.Fa.glo "_law_weight").ok K)))
  g__law_no_weight := He.glo_ok X Gm (fact c 25 (f := (fun K => (He.Fa.glo "_law_no_weight").ok K)))
  g__law_rows := He.glo_ok X Gm (fact c 26 (f := (fun K => (He.Fa.glo "_law_rows").ok K)))
  g__law_good := He.glo_ok X Gm (fact c 27 (f := (fun K => (He.Fa.glo "_law_good").ok K)))
  g__law_formed := He.glo_ok X Gm (fact c 28 (f := (fun K => (He.Fa.glo "_law_formed").ok K)))
  g__law_copied := He.glo_ok X Gm (fact c 29 (f := (fun K => (He.Fa.glo "_law_copied").ok K)))
  g__law_refused := He.glo_ok X Gm (fact c 30 (f := (fun K => (He.Fa.glo "_law_refused").ok K)))
  g__law_spot := He.glo_ok X Gm (fact c 31 (f := (fun K => (He.Fa.glo "_law_spot").ok K)))
  g__law_due := He.glo_ok X Gm (fact c 32 (f := (fun K => (He.Fa.glo "_law_due").ok K)))
  g__law_told := He.glo_ok X Gm (fact c 33 (f := (fun K => (He.Fa.glo "_law_told").ok K)))
  g__law_changed := He.glo_ok X Gm (fact c 34 (f := (fun K => (He.Fa.glo "_law_changed").ok K)))
  g_law := He.glo_ok X Gm (fact c 35 (f := (fun K => (He.Fa.glo "law").ok K)))
  g_HallError := He.glo_ok X Gm (fact c 36 (f := (fun K => (He.Fa.glo "HallError").ok K)))
  g_NoFraction := He.glo_ok X Gm (fact c 37 (f := (fun K => (He.Fa.glo "NoFraction").ok K)))
  g_NoShade := He.glo_ok X Gm (fact c 38 (f := (fun K => (He.Fa.glo "NoShade").ok K)))
  g_NoManner := He.glo_ok X Gm (fact c 39 (f := (fun K => (He.Fa.glo "NoManner").ok K)))
  g_NoGain := He.glo_ok X Gm (fact c 40 (f := (fun K => (He.Fa.glo "NoGain").ok K)))
  g_NoSixteenth := He.glo_ok X Gm (fact c 41 (f := (fun K => (He.Fa.glo "NoSixteenth").ok K)))
  g_NoTip := He.glo_ok X Gm (fact c 42 (f := (fun K => (He.Fa.glo "NoTip").ok K)))
  g_NoTile := He.glo_ok X Gm (fact c 43 (f := (fun K => (He.Fa.glo "NoTile").ok K)))
  g_NoLayer := He.glo_ok X Gm (fact c 44 (f := (fun K => (He.Fa.glo "NoLayer").ok K)))
  g_NoPlace := He.glo_ok X Gm (fact c 45 (f := (fun K => (He.Fa.glo "NoPlace").ok K)))
  g_Within := He.glo_ok X Gm (fact c 46 (f := (fun K => (He.Fa.glo "Within").ok K)))
  g_TooMany := He.glo_ok X Gm (fact c 47 (f := (fun K => (He.Fa.glo "TooMany").ok K)))
  g_NoStand := He.glo_ok X Gm (fact c 48 (f := (fun K => (He.Fa.glo "NoStand").ok K)))
  g_NoBundle := He.glo_ok X Gm (fact c 49 (f := (fun K => (He.Fa.glo "NoBundle").ok K)))
  g_Tip := He.glo_ok X Gm (fact c 50 (f := (fun K => (He.Fa.glo "Tip").ok K)))
  n_all := He.free_ok X Gm (fact c 51 (f := (fun K => (He.Fa.free "all").ok K)))
  n_bool := He.free_ok X Gm (fact c 52 (f := (fun K => (He.Fa.free "bool").ok K)))
  n_enumerate := He.free_ok X Gm (fact c 53 (f := (fun K => (He.Fa.free "enumerate").ok K)))
  n_int := He.free_ok X Gm (fact c 54 (f := (fun K => (He.Fa.free "int").ok K)))
  n_isinstance := He.free_ok X Gm (fact c 55 (f := (fun K => (He.Fa.free "isinstance").ok K)))
  n_len := He.free_ok X Gm (fact c 56 (f := (fun K => (He.Fa.free "len").ok K)))
  n_list := He.free_ok X Gm (fact c 57 (f := (fun K => (He.Fa.free "list").ok K)))
  n_range := He.free_ok X Gm (fact c 58 (f := (fun K => (He.Fa.free "range").ok K)))
  n_tuple := He.free_ok X Gm (fact c 59 (f := (fun K => (He.Fa.free "tuple").ok K)))
  n_ValueError := He.free_ok X Gm (fact c 60 (f := (fun K => (He.Fa.free "ValueError").ok K)))
  c_FULL := He.int_ok X Gm (fact c 61 (f := (fun K => (He.Fa.int "FULL" 16).ok K)))
  v_WIDTHS := constB_ok X Gm (fact c 62 (f := (fun K => constB K "WIDTHS" v_WIDTHS)))
  x_NoTip := exK_ok X Gm (fact c 63 (f := (fun K => exKB K "NoTip")))
  }
end GL
namespace GL
open PySem PySem.Spec L2 G
/-! ### promises -/
def sixA : A → Bool
  | .int i => decide (0 ≤ i) && decide (i ≤ 16)
  | _ => false
def R_is_sixteenth (_ : Frg) : Sp1 := fun x h Q _ => (∃ k, kindA h x = some k) ∧ Q (.bl (sixA x)) h
def notSeq (h : AH) (x : A) : Prop := ∃ k, kindA h x = some k ∧ kindIs k "list" = false ∧ kindIs k "tuple" = false
def Kinds (h : AH) (xs : List A) : Prop := xs.length ≤ 1000 ∧ ∀ a ∈ xs, ∃ k, kindA h a = some k
def R_is_weights (_ : Frg) : Sp2 := fun x y h Q _ => ∃ n : Int, y = .int n ∧
  ((∃ xs, itA h x = some xs ∧ Kinds h xs ∧ ∀ h', Ext h h' → Q (.bl (decide ((xs.length : Int) = n) && xs.all sixA)) h') ∨ (notSeq h x ∧ Q (.bl false) h))
/-- a value of a known kind, its items too, theirs too -/
def KD (h : AH) (x : A) : Prop := notSeq h x ∨ ∃ xs, itA h x = some xs ∧ xs.length ≤ 1000 ∧ ∀ r ∈ xs, notSeq h r ∨ ∃ ws, itA h r = some ws ∧ Kinds h ws
/-- rows of 1, 3 or 5 rows of as many weights -/
def RowG (h : AH) (n : Nat) (r : A) (ws : List Int) : Prop := itA h r = some (ws.map A.int) ∧ ws.length = n ∧ ∀ i ∈ ws, 0 ≤ i ∧ i ≤ 16
def GoodG (h : AH) (x : A) (g : List (List Int)) : Prop := (g.length = 1 ∨ g.length = 3 ∨ g.length = 5) ∧ ∃ xs, itA h x = some xs ∧ Paired (RowG h g.length) xs g
/-- a list of lists of ints -/
def GridAt (h : AH) (W : Addr) (g : List (List Int)) : Prop := ∃ ps : List Addr, h W = some (.lst (ps.map A.ref)) ∧ Paired (fun p ws => h p = some (.lst (ws.map A.int))) ps g
def R_Tip_init (K : Frg) : Sp2 := fun x y h Q E => ∃ t, x = .ref t ∧ h t = some (.ins (c_Tip K) []) ∧ KD h y ∧ y ≠ .ref t ∧
  (∀ g, GoodG h y g → ∀ h' W, Fx (fun p => p = t) h h' → h' t = some (.ins (c_Tip K) [("weights", .ref W)]) → GridAt (nw h h') W g → Q .non h') ∧
  ((¬ ∃ g, GoodG h y g) → ∀ h', Ext h h' → E (.ref (c_NoTip K)) h')
def TipAt (K : Frg) (h : AH) (t : Addr) (g : List (List Int)) : Prop := ∃ W, h t = some (.ins (c_Tip K) [("weights", .ref W)]) ∧ GridAt h W g
/-- the due cells of one row, of all rows -/
def cellA (a b half : Int) (down across : Nat) (w : Int) : List A := if 0 < w then [.tup [.tup [.int (a + across - half), .int (b + down - half)], .int w]] else []
def rowA (a b half : Int) (down : Nat) : Nat → List Int → List A
  | _, [] => []
  | i, w :: ws => cellA a b half down i w ++ rowA a b half down (i + 1) ws
def allRows (a b half : Int) : Nat → List (List Int) → List A
  | _, [] => []
  | j, r :: rs => rowA a b half j 0 r ++ allRows a b half (j + 1) rs
def dueA (a b : Int) (g : List (List Int)) : List A := allRows a b ((g.length : Int) / 2) 0 g
def Sq (g : List (List Int)) : Prop := g.length ≤ 5 ∧ ∀ r ∈ g, r.length = g.length
def R_Tip_spread (K : Frg) : Sp2 := fun x y h Q _ => ∃ t a b g, x = .ref t ∧ y = .tup [.int a, .int b] ∧ TipAt K h t g ∧ Sq g ∧ ∀ p h', h p = none → Ext h h' → h' p = some (.lst (dueA a b g)) → Q (.ref p) h'
def WellAt (h : AH) (w : Addr) : Prop := ∃ a b c : Int, h w = some (.lst [.int a, .int b, .int c])
def Wl (w : Addr) (h h' : AH) : Prop := WellAt h' w ∧ Fx (fun p => p = w) h h'
def R_law_well (_ : Frg) : Sp1 := fun x h Q _ => ∃ i, x = .int i ∧ ∀ w h', h w = none → WellAt h' w → Ext h h' → Q (.ref w) h'
def R_law_draw (_ : Frg) : Sp2 := fun x y h Q _ => ∃ (w : Addr) (m : Int), x = .ref w ∧ y = .int m ∧ 0 < m ∧ m.natAbs.log2 < 9000 ∧ WellAt h w ∧ ∀ (r : Int) h', 0 ≤ r → r < m → Wl w h h' → Q (.int r) h'
def R_law_weight (_ : Frg) : Sp1 := fun x h Q _ => ∃ w : Addr, x = .ref w ∧ WellAt h w ∧ ∀ (r : Int) h', Wl w h h' → Q (.int r) h'
def R_law_no_weight (_ : Frg) : Sp1 := fun x h Q _ => ∃ w : Addr, x = .ref w ∧ WellAt h w ∧ ∀ a h', (∃ k, kindA (hid (fun p => p = w) h') a = some k) → (∀ xs, itA (hid (fun p => p = w) h') a = some xs → ∃ i : Int, xs = [.int i]) → (∀ ks, a ≠ .kt ks) → (∀ p, a = .ref p → h p = none) → Wl w h h' → Q a h'
/-- a weight as drawn: of a known kind; a list, a tuple of it holds plain things -/
def WtOk (h : AH) (a : A) : Prop := notSeq h a ∨ ∃ xs, itA h a = some xs ∧ xs.length ≤ 1000 ∧ ∀ b ∈ xs, notSeq h b
/-- rows as drawn: no tuple among them -/
def RowOk (h : AH) (r : A) : Prop := notSeq h r ∨ ∃ p ws, r = .ref p ∧ h p = some (.lst ws) ∧ ws.length ≤ 1000 ∧ ∀ a ∈ ws, WtOk h a
def RowsAt (h : AH) (R : Addr) (xs : List A) : Prop := h R = some (.lst xs) ∧ xs.length ≤ 1000 ∧ ∀ r ∈ xs, RowOk h r
def R_law_rows (_ : Frg) : Sp1 := fun x h Q _ => ∃ w : Addr, x = .ref w ∧ WellAt h w ∧ ∀ R xs h', RowsAt (hid (fun p => p = w) h') R xs → Wl w h h' → Q (.ref R) h'
def R_law_good (_ : Frg) : Sp1 := fun x h Q _ => ∃ R xs, x = .ref R ∧ RowsAt h R xs ∧ ∀ b h', (b = true ↔ ∃ g, GoodG h x g) → Ext h h' → Q (.bl b) h'
/-- a row as it is handed in -/
def FormOk (h0 h : AH) (r y : A) : Prop := (notSeq h r ∧ y = r) ∨ ∃ ws, itA h r = some ws ∧ (y = .tup ws ∨ ∃ p, y = .ref p ∧ h0 p = none ∧ h p = some (.lst ws))
def FormsAt (h0 h : AH) (x : A) (xs ys : List A) : Prop := itA h x = some ys ∧ (∀ p, x = .ref p → h0 p = none) ∧ Paired (FormOk h0 h) xs ys
def R_law_formed (_ : Frg) : Sp2 := fun x y h Q _ => ∃ (w R : Addr) (xs : List A), x = .ref w ∧ y = .ref R ∧ WellAt h w ∧ RowsAt (hid (fun p => p = w) h) R xs ∧ ∀ z ys h', FormsAt h (hid (fun p => p = w) h') z xs ys → Wl w h h' → Q z h'
/-- plain to the depth n -/
def PlD (h : AH) : Nat → A → Prop
  | 0, _ => False
  | n + 1, x => notSeq h x ∨ ∃ xs, itA h x = some xs ∧ xs.length ≤ 1000 ∧ ∀ a ∈ xs, PlD h n a
abbrev depth_law_copied : Nat := 4
def R_law_copied : Nat → Frg → Sp1
  | 0, _ => fun _ _ _ _ => False
  | n + 1, _ => fun x h Q _ => ∃ M : Addr → Prop, (∀ p, M p → h p ≠ none) ∧ PlD (hid M h) (n + 1) x ∧
    ∀ z h', Ext h h' → SamA (hid M h') (n + 1) x z → (∀ xs, itA h x = some xs → SamR (hid M h') (SamA (hid M h') n) x z) → Q z h'
def R_law_refused (_ : Frg) : Sp1 := fun x h Q _ => KD h x ∧ ∀ b h', (b = true ↔ ¬ ∃ g, GoodG h x g) → Ext h h' → Q (.bl b) h'
def R_law_spot (_ : Frg) : Sp1 := fun x h Q _ => ∃ w : Addr, x = .ref w ∧ WellAt h w ∧ ∀ (r : Int) h', Wl w h h' → Q (.int r) h'
def RowsInt (h : AH) (R : Addr) (g : List (List Int)) : Prop := GridAt h R g
def R_law_due (_ : Frg) : Sp2 := fun x y h Q _ => ∃ R a b g, x = .ref R ∧ y = .tup [.int a, .int b] ∧ GridAt h R g ∧ Sq g ∧ ∀ p h', h p = none → Ext h h' → h' p = some (.lst (dueA a b g)) → Q (.ref p) h'
def CellsAt (h : AH) (c : Addr) : Prop := ∃ xs, h c = some (.lst xs) ∧ ∀ x ∈ xs, ∃ a b : Int, x = .tup [.int a, .int b]
def R_law_told (K : Frg) : Sp3 := fun x y z h Q _ => ∃ t R c g, x = .ref t ∧ y = .ref R ∧ z = .ref c ∧ TipAt K h t g ∧ GridAt h R g ∧ Sq g ∧ CellsAt h c ∧ ∀ h', Ext h h' → Q (.bl true) h'
def R_law_changed (_ : Frg) : Sp1 := fun x h Q _ => ∃ xs, itA h x = some xs ∧ xs.length ≤ 1000 ∧ xs ≠ [] ∧ (∀ r ∈ xs, (∃ ws, r = .tup ws) ∨ ∃ p w ws, r = .ref p ∧ h p = some (.lst ((w :: ws : List Int).map A.int)) ∧ ws.length ≤ 1000) ∧
  ∀ h', Fx (fun p => x = .ref p ∨ A.ref p ∈ xs) h h' → Q .non h'
def R_law (_ : Frg) : Sp1 := fun x h Q _ => ∃ ns : List Int, x = .fls (ns.map A.int) ∧ ∀ h', Q (.bl true) h'
abbrev sp_is_sixteenth (K : Frg) : ASp := sp1 (R_is_sixteenth K)
abbrev sp_is_weights (K : Frg) : ASp := sp2 (R_is_weights K)
abbrev sp_Tip_init (K : Frg) : ASp := sp2 (R_Tip_init K)
abbrev sp_Tip_spread (K : Frg) : ASp := sp2 (R_Tip_spread K)
abbrev sp_law_well (K : Frg) : ASp := sp1 (R_law_well K)
abbrev sp_law_draw (K : Frg) : ASp := sp2 (R_law_draw K)
abbrev sp_law_weight (K : Frg) : ASp := sp1 (R_law_weight K)
abbrev sp_law_no_weight (K : Frg) : ASp := sp1 (R_law_no_weight K)
abbrev sp_law_rows (K : Frg) : ASp := sp1 (R_law_rows K)
abbrev sp_law_good (K : Frg) : ASp := sp1 (R_law_good K)
abbrev sp_law_formed (K : Frg) : ASp := sp2 (R_law_formed K)
abbrev sp_law_copied (n : Nat) (K : Frg) : ASp := sp1 (R_law_copied n K)
abbrev sp_law_refused (K : Frg) : ASp := sp1 (R_law_refused K)
abbrev sp_law_spot (K : Frg) : ASp := sp1 (R_law_spot K)
abbrev sp_law_due (K : Frg) : ASp := sp2 (R_law_due K)
abbrev sp_law_told (K : Frg) : ASp := sp3 (R_law_told K)
abbrev sp_law_changed (K : Frg) : ASp := sp1 (R_law_changed K)
abbrev sp_law (K : Frg) : ASp := sp1 (R_law K)
def t_is_sixteenth (K : Frg) : ATS := (aRet (aAndV (aN (isiA K) (aCons (aVar 0) (aCons (aC (.ty "int")) aNil))) (aAndV (aNotV (aN (isiA K) (aCons (aVar 0) (aCons (aC (.ty "bool")) aNil)))) (aChn leA leA (aC (.int 0)) (aVar 0) (aC (.int 16))))))
def t_is_weights (K : Frg) : ATS := (aSeq (aIfS (aOr (aNot (aTest (aN (isiA K) (aCons (aVar 0) (aCons (aTup (aCons (aC (.ty "list")) (aCons (aC (.ty "tuple")) aNil))) aNil))))) (aTest (a2 (eqA true) (aN lenA (aCons (aVar 0) aNil)) (aVar 1))))
  (aRet (aC (.bl false)))
  aNext)
  (aRet (aN allA (aCons (aLc (aiSeq (aVar 0)) (agN 2) aYes (aCall (sp_is_sixteenth K) [] (aCons (aVar 2) aNil)) [2]) aNil))))
def t_Tip_init (K : Frg) : ATS := (aSeq (aIfS (aOr (aNot (aTest (aN (isiA K) (aCons (aVar 1) (aCons (aTup (aCons (aC (.ty "list")) (aCons (aC (.ty "tuple")) aNil))) aNil))))) (aTest (a2 (inSA true) (aN lenA (aCons (aVar 1) aNil)) (aC v_WIDTHS))))
  (aRaise (c_NoTip K))
  aNext)
  (aSeq (aFor (aiSeq (aVar 1)) (agN 2)
  (aIfS (aNot (aTest (aCall (sp_is_weights K) [] (aCons (aVar 2) (aCons (aN lenA (aCons (aVar 1) aNil)) aNil)))))
  (aRaise (c_NoTip K))
  aNext))
  (aSetF K (aVar 0) (aLc (aiSeq (aVar 1)) (agN 2) aYes (aN listA (aCons (aVar 2) aNil)) [2]) "weights")))
def t_Tip_spread (K : Frg) : ATS := (aSeq (aAsg (a2 divP (aN lenA (aCons (aFld K (aVar 0) "weights") aNil)) (aC (.int 2))) (agN 2))
  (aSeq (aAsg (aLst aNil) (agN 3))
  (aSeq (aFor (aiEnum (aCons (aFld K (aVar 0) "weights") aNil)) (agTup 2 (agCons (agN 4) (agCons (agN 5) agNil)))
  (aFor (aiEnum (aCons (aVar 5) aNil)) (agTup 2 (agCons (agN 6) (agCons (agN 7) agNil)))
  (aIfS (aTest (a2 gtA (aVar 7) (aC (.int 0))))
  (aDrop (aBmL appendA (aVar 3) (aCons (aTup (aCons (aTup (aCons (a2 subA (a2 addA (a2 ixA (aVar 1) (aC (.int 0))) (aVar 6)) (aVar 2)) (aCons (a2 subA (a2 addA (a2 ixA (aVar 1) (aC (.int 1))) (aVar 4)) (aVar 2)) aNil))) (aCons (aVar 7) aNil))) aNil)))
  aNext)))
  (aRet (aVar 3)))))
def t_law_well (K : Frg) : ATS := (aRet (aLst (aCons (a2 mulA (aVar 0) (aN intA (aCons (a2 geA (aVar 0) (a2 powA (aC (.int 10)) (aC (.int 18)))) aNil))) (aCons (a2 modP (aVar 0) (aC (.int 2147483647))) (aCons (aC (.int 0)) aNil)))))
def t_law_draw (K : Frg) : ATS := (aSeq (aIfS (aTest (a2 gtA (a2 ixA (aVar 0) (aC (.int 0))) (aC (.int 0))))
  (aSeq (aAsg (a2 modA (a2 ixA (aVar 0) (aC (.int 0))) (aVar 1)) (agN 2))
  (aSeq (aSetL (aVar 0) (aC (.int 0)) (a2 divA (a2 ixA (aVar 0) (aC (.int 0))) (aVar 1)))
  (aRet (aVar 2))))
  aNext)
  (aSeq (aSetL (aVar 0) (aC (.int 2)) (a2 addA (a2 ixA (aVar 0) (aC (.int 2))) (aC (.int 1))))
  (aSeq (aAsg (a2 modP (a2 mulA (a2 addA (a2 addA (a2 ixA (aVar 0) (aC (.int 1))) (a2 mulA (aC (.int 7919)) (a2 ixA (aVar 0) (aC (.int 2))))) (aC (.int 1))) (aC (.int 48271))) (aC (.int 2147483647))) (agN 3))
  (aSeq (aAsg (a2 modP (a2 mulA (aVar 3) (a2 addA (a2 divP (aVar 3) (aC (.int 1009))) (aC (.int 69621)))) (aC (.int 2147483647))) (agN 3))
  (aRet (a2 modA (a2 modP (a2 mulA (aVar 3) (a2 addA (a2 divP (aVar 3) (aC (.int 2003))) (aC (.int 40692)))) (aC (.int 2147483399))) (aVar 1)))))))
def t_law_weight (K : Frg) : ATS := (aRet (a2 ixA (aLst (aCons (aC (.int 0)) (aCons (aC (.int 16)) (aCons (a2 addA (aC (.int 1)) (aCall (sp_law_draw K) [] (aCons (aVar 0) (aCons (aC (.int 16)) aNil)))) (aCons (a2 addA (aC (.int 1)) (aCall (sp_law_draw K) [] (aCons (aVar 0) (aCons (aC (.int 16)) aNil)))) aNil))))) (aCall (sp_law_draw K) [] (aCons (aVar 0) (aCons (aC (.int 4)) aNil)))))
def t_law_no_weight (K : Frg) : ATS := (aSeq (aAsg (a2 addA (aC (.int 17)) (aCall (sp_law_draw K) [] (aCons (aVar 0) (aCons (a2 powA (aC (.int 10)) (aC (.int 20))) aNil)))) (agN 1))
  (aRet (a2 ixA (aLst (aCons (aC (.int 17)) (aCons (a1 negA (aC (.int 1))) (aCons (aVar 1) (aCons (a2 subA (aC (.int 0)) (aVar 1)) (aCons (aC (.bl true)) (aCons (aC (.bl false)) (aCons (aC (.str "4")) (aCons (aC .non) (aCons (aLst (aCons (aC (.int 3)) aNil)) (aCons (aTup (aCons (aC (.int 16)) aNil)) (aCons (aC (.str "")) aNil)))))))))))) (aCall (sp_law_draw K) [] (aCons (aVar 0) (aCons (aC (.int 11)) aNil))))))
def t_law_rows (K : Frg) : ATS := (aSeq (aAsg (aCall (sp_law_draw K) [] (aCons (aVar 0) (aCons (aC (.int 8)) aNil))) (agN 1))
  (aSeq (aAsg (aCall (sp_law_draw K) [] (aCons (aVar 0) (aCons (aC (.int 7)) aNil))) (agN 2))
  (aSeq (aAsg (aCall (sp_law_draw K) [] (aCons (aVar 0) (aCons (aC (.int 7)) aNil))) (agN 3))
  (aSeq (aAsg (a2 ixA (aLst (aCons (aC (.int 1)) (aCons (aC (.int 3)) (aCons (aC (.int 5)) aNil)))) (aCall (sp_law_draw K) [] (aCons (aVar 0) (aCons (aC (.int 3)) aNil)))) (agN 4))
  (aSeq (aAsg (aVar 4) (agN 5))
  (aSeq (aIfS (aTest (a2 (eqA false) (aVar 1) (aC (.int 1))))
  (aAsg (aCall (sp_law_draw K) [] (aCons (aVar 0) (aCons (aC (.int 8)) aNil))) (agN 4))
  aNext)
  (aSeq (aIfS (aTest (a2 (eqA false) (aVar 1) (aC (.int 2))))
  (aAsg (aCall (sp_law_draw K) [] (aCons (aVar 0) (aCons (aC (.int 8)) aNil))) (agN 5))
  aNext)
  (aSeq (aIfS (aTest (a2 (eqA false) (aVar 1) (aC (.int 3))))
  (aSeq (aAsg (a2 ixA (aLst (aCons (aC (.int 2)) (aCons (aC (.int 4)) (aCons (aC (.int 6)) (aCons (aC (.int 7)) aNil))))) (a2 modP (aVar 2) (aC (.int 4)))) (agN 4))
  (aAsg (aVar 4) (agN 5)))
  aNext)
  (aSeq (aAsg (aLc (aiRng1 (aCons (aVar 4) aNil)) (agN 7) aYes (aLc (aiRng1 (aCons (aVar 5) aNil)) (agN 8) aYes (aCall (sp_law_weight K) [] (aCons (aVar 0) aNil)) [8]) [7]) (agN 6))
  (aSeq (aIfS (aTest (a2 (eqA false) (aVar 1) (aC (.int 4))))
  (aSetL (aVar 6) (a2 modA (aVar 2) (aVar 4)) (aLc (aiRng1 (aCons (aVar 3) aNil)) (agN 8) aYes (aCall (sp_law_weight K) [] (aCons (aVar 0) aNil)) [8]))
  aNext)
  (aSeq (aIfS (aTest (a2 (eqA false) (aVar 1) (aC (.int 5))))
  (aSetL (a2 ixA (aVar 6) (a2 modA (aVar 2) (aVar 4))) (a2 modA (aVar 3) (aVar 5)) (aCall (sp_law_no_weight K) [] (aCons (aVar 0) aNil)))
  aNext)
  (aSeq (aIfS (aAnd (aTest (a2 (eqA false) (aVar 1) (aC (.int 6)))) (aTest (a2 ltA (aVar 3) (aC (.int 4)))))
  (aSetL (aVar 6) (a2 modA (aVar 2) (aVar 4)) (a2 ixA (aLst (aCons (aC .non) (aCons (aC (.int 16)) (aCons (aC (.str "16")) (aCons aNewK aNil))))) (aVar 3)))
  aNext)
  (aRet (aVar 6))))))))))))))
def t_law_good (K : Frg) : ATS := (aSeq (aIfS (aTest (a2 (inSA true) (aN lenA (aCons (aVar 0) aNil)) (aLst (aCons (aC (.int 1)) (aCons (aC (.int 3)) (aCons (aC (.int 5)) aNil))))))
  (aRet (aC (.bl false)))
  aNext)
  (aSeq (aFor (aiSeq (aVar 0)) (agN 1)
  (aSeq (aIfS (aOr (aNot (aTest (aN (isiA K) (aCons (aVar 1) (aCons (aC (.ty "list")) aNil))))) (aTest (a2 (eqA true) (aN lenA (aCons (aVar 1) aNil)) (aN lenA (aCons (aVar 0) aNil)))))
  (aRet (aC (.bl false)))
  aNext)
  (aFor (aiSeq (aVar 1)) (agN 2)
  (aIfS (aOr (aNot (aTest (aN (isiA K) (aCons (aVar 2) (aCons (aC (.ty "int")) aNil))))) (aOr (aTest (aN (isiA K) (aCons (aVar 2) (aCons (aC (.ty "bool")) aNil)))) (aOr (aTest (a2 ltA (aVar 2) (aC (.int 0)))) (aTest (a2 gtA (aVar 2) (aC (.int 16)))))))
  (aRet (aC (.bl false)))
  aNext))))
  (aRet (aC (.bl true)))))
def t_law_formed (K : Frg) : ATS := (aSeq (aAsg (aLst aNil) (agN 2))
  (aSeq (aFor (aiSeq (aVar 1)) (agN 3)
  (aIfS (aAnd (aTest (aN (isiA K) (aCons (aVar 3) (aCons (aC (.ty "list")) aNil)))) (aTest (a2 (eqA false) (aCall (sp_law_draw K) [] (aCons (aVar 0) (aCons (aC (.int 2)) aNil))) (aC (.int 0)))))
  (aDrop (aBmL appendA (aVar 2) (aCons (aN tupleA (aCons (aVar 3) aNil)) aNil)))
  (aIfS (aTest (aN (isiA K) (aCons (aVar 3) (aCons (aC (.ty "list")) aNil))))
  (aDrop (aBmL appendA (aVar 2) (aCons (aN listA (aCons (aVar 3) aNil)) aNil)))
  (aDrop (aBmL appendA (aVar 2) (aCons (aVar 3) aNil))))))
  (aSeq (aIfS (aTest (a2 (eqA false) (aCall (sp_law_draw K) [] (aCons (aVar 0) (aCons (aC (.int 2)) aNil))) (aC (.int 0))))
  (aRet (aN tupleA (aCons (aVar 2) aNil)))
  aNext)
  (aRet (aVar 2)))))
def t_law_copied (n : Nat) (K : Frg) : ATS := (aSeq (aIfS (aTest (aN (isiA K) (aCons (aVar 0) (aCons (aC (.ty "list")) aNil))))
  (aRet (aLc (aiSeq (aVar 0)) (agN 1) aYes (aCall (sp_law_copied n K) [] (aCons (aVar 1) aNil)) [1]))
  aNext)
  (aSeq (aIfS (aTest (aN (isiA K) (aCons (aVar 0) (aCons (aC (.ty "tuple")) aNil))))
  (aRet (aN tupleA (aCons (aLc (aiSeq (aVar 0)) (agN 1) aYes (aCall (sp_law_copied n K) [] (aCons (aVar 1) aNil)) [1]) aNil)))
  aNext)
  (aRet (aVar 0))))
def t_law_refused (K : Frg) : ATS := (aSeq (aAsg (aC (.bl false)) (agN 1))
  (aSeq (aTryAs K (.ref (c_NoTip K)) 2
  (aDrop (aMake (c_Tip K) (sp_Tip_init K) [] (aCons (aVar 0) aNil))) (fun a C =>
  (aSeq (aAsg (aN (isEA K C a) (aCons (aVar 2) (aCons (aTup (aCons (aC (.ref (c_NoBundle K))) (aCons (aC (.ref (c_NoFraction K))) (aCons (aC (.ref (c_NoGain K))) (aCons (aC (.ref (c_NoLayer K))) (aCons (aC (.ref (c_NoManner K))) (aCons (aC (.ref (c_NoPlace K))) (aCons (aC (.ref (c_NoShade K))) aNil)))))))) aNil))) (agN 3))
  (aSeq (aAsg (aOrV (aVar 3) (aN (isEA K C a) (aCons (aVar 2) (aCons (aTup (aCons (aC (.ref (c_NoSixteenth K))) (aCons (aC (.ref (c_NoStand K))) (aCons (aC (.ref (c_NoTile K))) (aCons (aC (.ref (c_TooMany K))) (aCons (aC (.ref (c_Within K))) aNil)))))) aNil)))) (agN 3))
  (aAsg (aAndV (aN (isEA K C a) (aCons (aVar 2) (aCons (aC (.ref (c_HallError K))) aNil))) (aAndV (aN (isEA K C a) (aCons (aVar 2) (aCons (aC (.ty "ValueError")) aNil))) (aNotV (aVar 3)))) (agN 1))))))
  (aRet (aVar 1))))
def t_law_spot (K : Frg) : ATS := (aSeq (aAsg (a2 addA (a2 mulA (aCall (sp_law_draw K) [] (aCons (aVar 0) (aCons (a2 powA (aC (.int 10)) (aC (.int 9))) aNil))) (a2 powA (aC (.int 10)) (aC (.int 21)))) (aCall (sp_law_draw K) [] (aCons (aVar 0) (aCons (a2 powA (aC (.int 10)) (aC (.int 9))) aNil)))) (agN 1))
  (aSeq (aAsg (a2 subA (aCall (sp_law_draw K) [] (aCons (aVar 0) (aCons (aC (.int 41)) aNil))) (aC (.int 20))) (agN 2))
  (aRet (a2 ixA (aLst (aCons (aVar 2) (aCons (aVar 2) (aCons (aVar 1) (aCons (a2 subA (aC (.int 0)) (aVar 1)) aNil))))) (aCall (sp_law_draw K) [] (aCons (aVar 0) (aCons (aC (.int 4)) aNil)))))))
def t_law_due (K : Frg) : ATS := (aSeq (aAsg (a2 divP (aN lenA (aCons (aVar 0) aNil)) (aC (.int 2))) (agN 2))
  (aSeq (aAsg (aLst aNil) (agN 3))
  (aSeq (aFor (aiRng1 (aCons (aN lenA (aCons (aVar 0) aNil)) aNil)) (agN 4)
  (aFor (aiRng1 (aCons (aN lenA (aCons (aVar 0) aNil)) aNil)) (agN 5)
  (aIfS (aTest (a2 gtA (a2 ixA (a2 ixA (aVar 0) (aVar 4)) (aVar 5)) (aC (.int 0))))
  (aDrop (aBmL appendA (aVar 3) (aCons (aTup (aCons (aTup (aCons (a2 subA (a2 addA (a2 ixA (aVar 1) (aC (.int 0))) (aVar 5)) (aVar 2)) (aCons (a2 subA (a2 addA (a2 ixA (aVar 1) (aC (.int 1))) (aVar 4)) (aVar 2)) aNil))) (aCons (a2 ixA (a2 ixA (aVar 0) (aVar 4)) (aVar 5)) aNil))) aNil)))
  aNext)))
  (aRet (aVar 3)))))
def t_law_told (K : Frg) : ATS := (aSeq (aFor (aiSeq (aVar 2)) (agN 3)
  (aSeq (aAsg (aMeth (c_Tip K) "spread" (sp_Tip_spread K) [] (aVar 0) (aCons (aVar 3) aNil)) (agN 4))
  (aSeq (aIfS (aOr (aNot (aTest (aN (isiA K) (aCons (aVar 4) (aCons (aC (.ty "list")) aNil))))) (aTest (a2 (eqA true) (aVar 4) (aCall (sp_law_due K) [] (aCons (aVar 1) (aCons (aVar 3) aNil))))))
  (aRet (aC (.bl false)))
  aNext)
  (aSeq (aFor (aiSeq (aVar 4)) (agN 5)
  (aIfS (aOr (aNot (aTest (aN (isiA K) (aCons (aVar 5) (aCons (aC (.ty "tuple")) aNil))))) (aTest (aN (isiA K) (aCons (a2 ixA (aVar 5) (aC (.int 1))) (aCons (aC (.ty "bool")) aNil)))))
  (aRet (aC (.bl false)))
  aNext))
  (aDrop (aBmL appendA (aVar 4) (aCons (aTup (aCons (aTup (aCons (aC (.int 0)) (aCons (aC (.int 0)) aNil))) (aCons (aC (.int 16)) aNil))) aNil)))))))
  (aRet (aC (.bl true))))
def t_law_changed (K : Frg) : ATS := (aSeq (aFor (aiSeq (aVar 0)) (agN 1)
  (aIfS (aTest (aN (isiA K) (aCons (aVar 1) (aCons (aC (.ty "list")) aNil))))
  (aSeq (aDrop (aBmL appendA (aVar 1) (aCons (aC (.int 5)) aNil)))
  (aSetL (aVar 1) (aC (.int 0)) (a2 subA (aC (.int 16)) (a2 ixA (aVar 1) (aC (.int 0))))))
  aNext))
  (aIfS (aTest (aN (isiA K) (aCons (aVar 0) (aCons (aC (.ty "list")) aNil))))
  (aSeq (aDrop (aBmL reverseA (aVar 0) aNil))
  (aDrop (aBmL appendA (aVar 0) (aCons (aLst (aCons (aC (.int 3)) aNil)) aNil))))
  aNext))
def t_law (K : Frg) : ATS := (aSeq (aAsg (aLst aNil) (agN 1))
  (aSeq (aFor (aiSeq (a2 addA (aSlL (aVar 0) aNoPart (aPart (aC (.int 16)))) (aLst (aCons (aC (.int 0)) (aCons (aC (.int 4)) (aCons (aC (.int 11)) aNil)))))) (agN 2)
  (aSeq (aAsg (aCall (sp_law_well K) [] (aCons (aVar 2) aNil)) (agN 3))
  (aSeq (aAsg (aCall (sp_law_rows K) [] (aCons (aVar 3) aNil)) (agN 4))
  (aSeq (aAsg (aCall (sp_law_formed K) [] (aCons (aVar 3) (aCons (aVar 4) aNil))) (agN 5))
  (aSeq (aAsg (aCall (sp_law_copied depth_law_copied K) [] (aCons (aVar 5) aNil)) (agN 6))
  (aIfS (aNot (aTest (aCall (sp_law_good K) [] (aCons (aVar 4) aNil))))
  (aIfS (aOr (aNot (aTest (aCall (sp_law_refused K) [] (aCons (aVar 5) aNil)))) (aTest (a2 (eqA true) (aVar 5) (aVar 6))))
  (aRet (aC (.bl false)))
  aNext)
  (aSeq (aAsg (aLst (aCons (aTup (aCons (aCall (sp_law_spot K) [] (aCons (aVar 3) aNil)) (aCons (aCall (sp_law_spot K) [] (aCons (aVar 3) aNil)) aNil))) (aCons (aTup (aCons (aCall (sp_law_spot K) [] (aCons (aVar 3) aNil)) (aCons (aC (.int 0)) aNil))) aNil))) (agN 7))
  (aSeq (aAsg (aMake (c_Tip K) (sp_Tip_init K) [] (aCons (aVar 5) aNil)) (agN 8))
  (aSeq (aIfS (aOr (aTest (a2 (eqA true) (aVar 5) (aVar 6))) (aNot (aTest (aCall (sp_law_told K) [] (aCons (aVar 8) (aCons (aVar 4) (aCons (aVar 7) aNil)))))))
  (aRet (aC (.bl false)))
  aNext)
  (aSeq (aDrop (aCall (sp_law_changed K) [] (aCons (aVar 5) aNil)))
  (aSeq (aIfS (aNot (aTest (aCall (sp_law_told K) [] (aCons (aVar 8) (aCons (aVar 4) (aCons (a2 addA (aVar 7) (aSlL (aVar 7) aNoPart (aPart (aC (.int 1))))) aNil))))))
  (aRet (aC (.bl false)))
  aNext)
  (aDrop (aBmL appendA (aVar 1) (aCons (aTup (aCons (aVar 8) (aCons (aVar 4) (aCons (aVar 7) aNil)))) aNil))))))))))))))
  (aSeq (aFor (aiSeq (aLst (aCons (aC .non) (aCons (aC (.int 5)) (aCons (aC (.bl true)) (aCons (aC (.str "")) (aCons (aC (.str "16")) (aCons aNewK (aCons (aTup aNil) (aCons (aLst aNil) (aCons (aLst (aCons (aLst aNil) aNil)) (aCons (aTup (aCons (aTup aNil) aNil)) aNil)))))))))))) (agN 9)
  (aIfS (aNot (aTest (aCall (sp_law_refused K) [] (aCons (aVar 9) aNil))))
  (aRet (aC (.bl false)))
  aNext))
  (aRet (aN allA (aCons (aLc (aiSeq (aRev (aVar 1))) (agTup 3 (agCons (agN 8) (agCons (agN 4) (agCons (agN 7) agNil)))) aYes (aCall (sp_law_told K) [] (aCons (aVar 8) (aCons (aVar 4) (aCons (aRev (aVar 7)) aNil)))) [8, 4, 7]) aNil))))))
end GL
namespace GL
open PySem PySem.Spec L2 G
theorem rd_is_sixteenth {K : Frg} (T : TK K) {x0 : A} {h : AH} {Q : AVK} {E : AXK} (hR : R_is_sixteenth K x0 h Q E) : t_is_sixteenth K { nx := fun _ h' => Q .non h', rt := Q, ex := fun c _ h' => E c h' } [some x0] h := by
  obtain ⟨⟨k, hk⟩, q⟩ := hR
  unfold t_is_sixteenth
  dsimp only [nb, aRet, aRetN, aSeq, aIfS, aNext, aBreak, aCont, aDrop, aAsg, aPar, aAug, aSetL, aSetF, aFld, aVar, aC, aNil, aCons, aTup, aLst, a1, a2, aN, aAndV, aOrV, aNotV, aIf, aAnd, aOr, aNot, aTest, aChn, aCall, aMeth, aMake, aBmL, aRaise, aTryOnly, aTryAs, aFor, aiSeq, aiRng1, aiRng2, aiEnum, agN, agNil, agCons, agTup, aSlL, aRev, aNoPart, aPart, aNewK, aNewT, aLc, aWhile, asB, asT, iA, iA0, subA, modA, modP, divP, divA, powA, ltA, leA, gtA, geA, addA, mulA, negA, lenA, absA, intA, allA, listA, tupleA, one, two, sp0, sp1, sp2, sp3, sp4, sp5, sp6, appendA, reverseA, clearA, wipeA, putFA, List.getElem?_cons_zero, List.getElem?_cons_succ, List.set_cons_zero, List.set_cons_succ, List.cons_append, List.nil_append, List.append_nil]
  refine isi_kind hk ?_
  cases x0 with
  | int i =>
    cases hk
    refine ifT (isi_kind rfl ?_)
    refine ifT ?_
    dsimp only [nb, aRet, aRetN, aSeq, aIfS, aNext, aBreak, aCont, aDrop, aAsg, aPar, aAug, aSetL, aSetF, aFld, aVar, aC, aNil, aCons, aTup, aLst, a1, a2, aN, aAndV, aOrV, aNotV, aIf, aAnd, aOr, aNot, aTest, aChn, aCall, aMeth, aMake, aBmL, aRaise, aTryOnly, aTryAs, aFor, aiSeq, aiRng1, aiRng2, aiEnum, agN, agNil, agCons, agTup, aSlL, aRev, aNoPart, aPart, aNewK, aNewT, aLc, aWhile, asB, asT, iA, iA0, subA, modA, modP, divP, divA, powA, ltA, leA, gtA, geA, addA, mulA, negA, lenA, absA, intA, allA, listA, tupleA, one, two, sp0, sp1, sp2, sp3, sp4, sp5, sp6, appendA, reverseA, clearA, wipeA, putFA, List.getElem?_cons_zero, List.getElem?_cons_succ, List.set_cons_zero, List.set_cons_succ, List.cons_append, List.nil_append, List.append_nil]
    unfold sixA at q
    refine ifd (fun h1 => ?_) fun h1 => ?_
    · simpa [h1] using q
    · simpa [h1] using q
  | bl b => cases hk; exact ifT (isi_kind rfl (ifF q))
  | ref p =>
    simp only [kindA] at hk
    split at hk <;> cases hk <;> exact ifF q
  | ty n => cases hk
  | fls n => cases hk
  | _ => cases hk; exact ifF q
theorem rd_law_well {K : Frg} (T : TK K) {x0 : A} {h : AH} {Q : AVK} {E : AXK} (hR : R_law_well K x0 h Q E) : t_law_well K { nx := fun _ h' => Q .non h', rt := Q, ex := fun c _ h' => E c h' } [some x0] h := by
  obtain ⟨i, rfl, q⟩ := hR
  unfold t_law_well
  dsimp only [nb, aRet, aRetN, aSeq, aIfS, aNext, aBreak, aCont, aDrop, aAsg, aPar, aAug, aSetL, aSetF, aFld, aVar, aC, aNil, aCons, aTup, aLst, a1, a2, aN, aAndV, aOrV, aNotV, aIf, aAnd, aOr, aNot, aTest, aChn, aCall, aMeth, aMake, aBmL, aRaise, aTryOnly, aTryAs, aFor, aiSeq, aiRng1, aiRng2, aiEnum, agN, agNil, agCons, agTup, aSlL, aRev, aNoPart, aPart, aNewK, aNewT, aLc, aWhile, asB, asT, iA, iA0, subA, modA, modP, divP, divA, powA, ltA, leA, gtA, geA, addA, mulA, negA, lenA, absA, intA, allA, listA, tupleA, one, two, sp0, sp1, sp2, sp3, sp4, sp5, sp6, appendA, reverseA, clearA, wipeA, putFA, List.getElem?_cons_zero, List.getElem?_cons_succ, List.set_cons_zero, List.set_cons_succ, List.cons_append, List.nil_append, List.append_nil]
  refine ⟨⟨by decide, by decide, by decide⟩, mul_r ?_, by decide, (by simp; decide), fun p hp => q p _ hp ⟨_, _, _, updA_same⟩ (Ext.new hp)⟩
  split <;> decide
theorem fmod_pos {i m : Int} (h : 0 < m) : 0 ≤ i.fmod m ∧ i.fmod m < m := ⟨Int.fmod_nonneg_of_pos i h, Int.fmod_lt_of_pos i h⟩
theorem rd_law_draw {K : Frg} (T : TK K) {x0 x1 : A} {h : AH} {Q : AVK} {E : AXK} (hR : R_law_draw K x0 x1 h Q E) : t_law_draw K { nx := fun _ h' => Q .non h', rt := Q, ex := fun c _ h' => E c h' } [some x0, some x1, none, none] h := by
  obtain ⟨w, m, rfl, rfl, hm, hl, ⟨a, b, c, hw⟩, q⟩ := hR
  unfold t_law_draw
  dsimp only [nb, aRet, aRetN, aSeq, aIfS, aNext, aBreak, aCont, aDrop, aAsg, aPar, aAug, aSetL, aSetF, aFld, aVar, aC, aNil, aCons, aTup, aLst, a1, a2, aN, aAndV, aOrV, aNotV, aIf, aAnd, aOr, aNot, aTest, aChn, aCall, aMeth, aMake, aBmL, aRaise, aTryOnly, aTryAs, aFor, aiSeq, aiRng1, aiRng2, aiEnum, agN, agNil, agCons, agTup, aSlL, aRev, aNoPart, aPart, aNewK, aNewT, aLc, aWhile, asB, asT, iA, iA0, subA, modA, modP, divP, divA, powA, ltA, leA, gtA, geA, addA, mulA, negA, lenA, absA, intA, allA, listA, tupleA, one, two, sp0, sp1, sp2, sp3, sp4, sp5, sp6, appendA, reverseA, clearA, wipeA, putFA, List.getElem?_cons_zero, List.getElem?_cons_succ, List.set_cons_zero, List.set_cons_succ, List.cons_append, List.nil_append, List.append_nil]
  refine ix_ref hw rfl ?_
  dsimp only [nb, aRet, aRetN, aSeq, aIfS, aNext, aBreak, aCont, aDrop, aAsg, aPar, aAug, aSetL, aSetF, aFld, aVar, aC, aNil, aCons, aTup, aLst, a1, a2, aN, aAndV, aOrV, aNotV, aIf, aAnd, aOr, aNot, aTest, aChn, aCall, aMeth, aMake, aBmL, aRaise, aTryOnly, aTryAs, aFor, aiSeq, aiRng1, aiRng2, aiEnum, agN, agNil, agCons, agTup, aSlL, aRev, aNoPart, aPart, aNewK, aNewT, aLc, aWhile, asB, asT, iA, iA0, subA, modA, modP, divP, divA, powA, ltA, leA, gtA, geA, addA, mulA, negA, lenA, absA, intA, allA, listA, tupleA, one, two, sp0, sp1, sp2, sp3, sp4, sp5, sp6, appendA, reverseA, clearA, wipeA, putFA, List.getElem?_cons_zero, List.getElem?_cons_succ, List.set_cons_zero, List.set_cons_succ, List.cons_append, List.nil_append, List.append_nil]
  refine ifd (fun h1 => ?_) fun h1 => ?_
  · refine ix_ref hw rfl ?_
    dsimp only [nb, aRet, aRetN, aSeq, aIfS, aNext, aBreak, aCont, aDrop, aAsg, aPar, aAug, aSetL, aSetF, aFld, aVar, aC, aNil, aCons, aTup, aLst, a1, a2, aN, aAndV, aOrV, aNotV, aIf, aAnd, aOr, aNot, aTest, aChn, aCall, aMeth, aMake, aBmL, aRaise, aTryOnly, aTryAs, aFor, aiSeq, aiRng1, aiRng2, aiEnum, agN, agNil, agCons, agTup, aSlL, aRev, aNoPart, aPart, aNewK, aNewT, aLc, aWhile, asB, asT, iA, iA0, subA, modA, modP, divP, divA, powA, ltA, leA, gtA, geA, addA, mulA, negA, lenA, absA, intA, allA, listA, tupleA, one, two, sp0, sp1, sp2, sp3, sp4, sp5, sp6, appendA, reverseA, clearA, wipeA, putFA, List.getElem?_cons_zero, List.getElem?_cons_succ, List.set_cons_zero, List.set_cons_succ, List.cons_append, List.nil_append, List.append_nil]
    refine ⟨by omega, ix_ref hw rfl ?_⟩
    dsimp only [nb, aRet, aRetN, aSeq, aIfS, aNext, aBreak, aCont, aDrop, aAsg, aPar, aAug, aSetL, aSetF, aFld, aVar, aC, aNil, aCons, aTup, aLst, a1, a2, aN, aAndV, aOrV, aNotV, aIf, aAnd, aOr, aNot, aTest, aChn, aCall, aMeth, aMake, aBmL, aRaise, aTryOnly, aTryAs, aFor, aiSeq, aiRng1, aiRng2, aiEnum, agN, agNil, agCons, agTup, aSlL, aRev, aNoPart, aPart, aNewK, aNewT, aLc, aWhile, asB, asT, iA, iA0, subA, modA, modP, divP, divA, powA, ltA, leA, gtA, geA, addA, mulA, negA, lenA, absA, intA, allA, listA, tupleA, one, two, sp0, sp1, sp2, sp3, sp4, sp5, sp6, appendA, reverseA, clearA, wipeA, putFA, List.getElem?_cons_zero, List.getElem?_cons_succ, List.set_cons_zero, List.set_cons_succ, List.cons_append, List.nil_append, List.append_nil]
    refine .inl ⟨⟨hm, hl⟩, _, _, hw, rfl, ?_⟩
    exact q _ _ (fmod_pos hm).1 (fmod_pos hm).2 ⟨⟨_, _, _, updA_same⟩, Fx.wr rfl⟩
  · refine ix_ref hw rfl ?_
    dsimp only [nb, aRet, aRetN, aSeq, aIfS, aNext, aBreak, aCont, aDrop, aAsg, aPar, aAug, aSetL, aSetF, aFld, aVar, aC, aNil, aCons, aTup, aLst, a1, a2, aN, aAndV, aOrV, aNotV, aIf, aAnd, aOr, aNot, aTest, aChn, aCall, aMeth, aMake, aBmL, aRaise, aTryOnly, aTryAs, aFor, aiSeq, aiRng1, aiRng2, aiEnum, agN, agNil, agCons, agTup, aSlL, aRev, aNoPart, aPart, aNewK, aNewT, aLc, aWhile, asB, asT, iA, iA0, subA, modA, modP, divP, divA, powA, ltA, leA, gtA, geA, addA, mulA, negA, lenA, absA, intA, allA, listA, tupleA, one, two, sp0, sp1, sp2, sp3, sp4, sp5, sp6, appendA, reverseA, clearA, wipeA, putFA, List.getElem?_cons_zero, List.getElem?_cons_succ, List.set_cons_zero, List.set_cons_succ, List.cons_append, List.nil_append, List.append_nil]
    refine ⟨_, _, hw, rfl, ix_ref updA_same rfl (ix_ref updA_same rfl ?_)⟩
    dsimp only [nb, aRet, aRetN, aSeq, aIfS, aNext, aBreak, aCont, aDrop, aAsg, aPar, aAug, aSetL, aSetF, aFld, aVar, aC, aNil, aCons, aTup, aLst, a1, a2, aN, aAndV, aOrV, aNotV, aIf, aAnd, aOr, aNot, aTest, aChn, aCall, aMeth, aMake, aBmL, aRaise, aTryOnly, aTryAs, aFor, aiSeq, aiRng1, aiRng2, aiEnum, agN, agNil, agCons, agTup, aSlL, aRev, aNoPart, aPart, aNewK, aNewT, aLc, aWhile, asB, asT, iA, iA0, subA, modA, modP, divP, divA, powA, ltA, leA, gtA, geA, addA, mulA, negA, lenA, absA, intA, allA, listA, tupleA, one, two, sp0, sp1, sp2, sp3, sp4, sp5, sp6, appendA, reverseA, clearA, wipeA, putFA, List.getElem?_cons_zero, List.getElem?_cons_succ, List.set_cons_zero, List.set_cons_succ, List.cons_append, List.nil_append, List.append_nil]
    have e : ∀ z : Int, 0 ≤ z % 2147483647 ∧ z % 2147483647 < 2147483647 := fun z => ⟨Int.emod_nonneg _ (by decide), Int.emod_lt_of_pos _ (by decide)⟩
    refine ⟨mul_l (by decide), mul_r (by decide), by decide, ⟨by decide, by decide⟩, mul_l ?_, by decide, ⟨by decide, by decide⟩, mul_l ?_, by decide, by omega, ?_⟩
    · have := e ((b + 7919 * (c + 1) + 1) * 48271)
      omega
    · have := e ((b + 7919 * (c + 1) + 1) * 48271 % 2147483647 * ((b + 7919 * (c + 1) + 1) * 48271 % 2147483647 / 1009 + 69621))
      omega
    · exact q _ _ (fmod_pos hm).1 (fmod_pos hm).2 ⟨⟨_, _, _, updA_same⟩, Fx.wr rfl⟩
theorem Wl.trans {w : Addr} {h h1 h2 : AH} (a : Wl w h h1) (b : Wl w h1 h2) : Wl w h h2 := ⟨b.1, a.2.trans b.2⟩
theorem Wl.ext {w : Addr} {h h1 : AH} (hw : WellAt h w) (e : Ext h h1) : Wl w h h1 := ⟨let ⟨a, b, c, z⟩ := hw; ⟨a, b, c, e _ _ z⟩, e.fx⟩
theorem Wl.refl {w : Addr} {h : AH} (hw : WellAt h w) : Wl w h h := ⟨hw, Fx.refl h⟩
theorem rd_law_weight {K : Frg} (T : TK K) {x0 : A} {h : AH} {Q : AVK} {E : AXK} (hR : R_law_weight K x0 h Q E) : t_law_weight K { nx := fun _ h' => Q .non h', rt := Q, ex := fun c _ h' => E c h' } [some x0] h := by
  obtain ⟨w, rfl, hw, q⟩ := hR
  unfold t_law_weight
  dsimp only [nb, aRet, aRetN, aSeq, aIfS, aNext, aBreak, aCont, aDrop, aAsg, aPar, aAug, aSetL, aSetF, aFld, aVar, aC, aNil, aCons, aTup, aLst, a1, a2, aN, aAndV, aOrV, aNotV, aIf, aAnd, aOr, aNot, aTest, aChn, aCall, aMeth, aMake, aBmL, aRaise, aTryOnly, aTryAs, aFor, aiSeq, aiRng1, aiRng2, aiEnum, agN, agNil, agCons, agTup, aSlL, aRev, aNoPart, aPart, aNewK, aNewT, aLc, aWhile, asB, asT, iA, iA0, subA, modA, modP, divP, divA, powA, ltA, leA, gtA, geA, addA, mulA, negA, lenA, absA, intA, allA, listA, tupleA, one, two, sp0, sp1, sp2, sp3, sp4, sp5, sp6, appendA, reverseA, clearA, wipeA, putFA, List.getElem?_cons_zero, List.getElem?_cons_succ, List.set_cons_zero, List.set_cons_succ, List.cons_append, List.nil_append, List.append_nil, R_law_draw]
  refine ⟨w, 16, rfl, rfl, by decide, by decide, hw, fun r h1 r0 r1 W1 => ⟨w, 16, rfl, rfl, by decide, by decide, W1.1, fun s h2 s0 s1 W2 => ⟨by simp; decide, fun p hp => ?_⟩⟩⟩
  have W3 : Wl w h2 (updA h2 p (.lst [.int 0, .int 16, .int (1 + r), .int (1 + s)])) := Wl.ext W2.1 (Ext.new hp)
  refine ⟨w, 4, rfl, rfl, by decide, by decide, W3.1, fun t h3 t0 t1 W4 => ?_⟩
  have hne : p ≠ w := fun z => by subst z; obtain ⟨_, _, _, z⟩ := W2.1; rw [hp] at z; cases z
  have e := W4.2 p _ hne updA_same
  have W5 := ((W1.trans W2).trans W3).trans W4
  have : t = 0 ∨ t = 1 ∨ t = 2 ∨ t = 3 := by omega
  rcases this with rfl | rfl | rfl | rfl <;> exact ix_ref e rfl (q _ _ W5)
theorem rd_law_no_weight {K : Frg} (T : TK K) {x0 : A} {h : AH} {Q : AVK} {E : AXK} (hR : R_law_no_weight K x0 h Q E) : t_law_no_weight K { nx := fun _ h' => Q .non h', rt := Q, ex := fun c _ h' => E c h' } [some x0, none] h := by
  obtain ⟨w, rfl, hw, q⟩ := hR
  unfold t_law_no_weight
  dsimp only [nb, aRet, aRetN, aSeq, aIfS, aNext, aBreak, aCont, aDrop, aAsg, aPar, aAug, aSetL, aSetF, aFld, aVar, aC, aNil, aCons, aTup, aLst, a1, a2, aN, aAndV, aOrV, aNotV, aIf, aAnd, aOr, aNot, aTest, aChn, aCall, aMeth, aMake, aBmL, aRaise, aTryOnly, aTryAs, aFor, aiSeq, aiRng1, aiRng2, aiEnum, agN, agNil, agCons, agTup, aSlL, aRev, aNoPart, aPart, aNewK, aNewT, aLc, aWhile, asB, asT, iA, iA0, subA, modA, modP, divP, divA, powA, ltA, leA, gtA, geA, addA, mulA, negA, lenA, absA, intA, allA, listA, tupleA, one, two, sp0, sp1, sp2, sp3, sp4, sp5, sp6, appendA, reverseA, clearA, wipeA, putFA, List.getElem?_cons_zero, List.getElem?_cons_succ, List.set_cons_zero, List.set_cons_succ, List.cons_append, List.nil_append, List.append_nil, R_law_draw]
  refine ⟨⟨by decide, by decide, by decide⟩, w, _, rfl, rfl, by decide, by decide, hw, fun r h1 r0 r1 W1 => ⟨by simp; decide, fun p3 hp3 => ⟨by simp; decide, by simp; decide, fun p hp => ?_⟩⟩⟩
  have W2 := Wl.ext W1.1 (Ext.new (o := .lst [.int 3]) hp3)
  have W3 := Wl.ext W2.1 (Ext.new (o := .lst [.int 17, .int (-1), .int (17 + r), .int (0 - (17 + r)), .bl true, .bl false, .str "4", .non, .ref p3, .tup [.int 16], .str ""]) hp)
  refine ⟨w, 11, rfl, rfl, by decide, by decide, W3.1, fun t h3 t0 t1 W4 => ?_⟩
  have nw3 : p3 ≠ w := fun z => by subst z; obtain ⟨_, _, _, z⟩ := W1.1; rw [hp3] at z; cases z
  have nwp : p ≠ w := fun z => by subst z; obtain ⟨_, _, _, z⟩ := W2.1; rw [hp] at z; cases z
  have e := W4.2 p _ nwp updA_same
  have e3 : h3 p3 = some (.lst [.int 3]) := W4.2 p3 _ nw3 (Ext.new hp _ _ updA_same)
  have e3h : hid (fun p => p = w) h3 p3 = some (.lst [.int 3]) := hid_of nw3 e3
  have W5 := ((W1.trans W2).trans W3).trans W4
  have pl : ∀ a : A, kindA (hid (fun p => p = w) h3) a ≠ none → itA (hid (fun p => p = w) h3) a = none → (∀ ks, a ≠ .kt ks) → (∀ p, a ≠ .ref p) → Q a h3 := fun a k i n nr => q a h3 (by
    cases z : kindA (hid (fun p => p = w) h3) a with
    | none => exact absurd z k
    | some k => exact ⟨k, rfl⟩) (fun xs z => by rw [i] at z; cases z) n (fun p z => absurd z (nr p)) W5
  have : t = 0 ∨ t = 1 ∨ t = 2 ∨ t = 3 ∨ t = 4 ∨ t = 5 ∨ t = 6 ∨ t = 7 ∨ t = 8 ∨ t = 9 ∨ t = 10 := by omega
  rcases this with rfl | rfl | rfl | rfl | rfl | rfl | rfl | rfl | rfl | rfl | rfl
  all_goals first
    | (refine ix_ref e rfl (pl _ ?_ rfl ?_ ?_); (exact fun z => nomatch z); (exact fun ks z => nomatch z); (exact fun ks z => nomatch z); done)
    | skip
  · refine ix_ref e rfl (q _ _ ⟨"list", by simp only [kindA]; rw [e3h]⟩ (fun xs z => ?_) (fun ks z => nomatch z) (fun p z => by
      cases z
      cases y : h p3 with
      | none => rfl
      | some o => rw [W1.2 _ _ nw3 y] at hp3; cases hp3) W5)
    rw [itA_ref.mpr e3h] at z
    cases z
    exact ⟨_, rfl⟩
  · refine ix_ref e rfl (q _ _ ⟨"tuple", rfl⟩ (fun xs z => ?_) (fun ks z => nomatch z) (fun p z => nomatch z) W5)
    cases z
    exact ⟨_, rfl⟩
theorem rd_law_spot {K : Frg} (T : TK K) {x0 : A} {h : AH} {Q : AVK} {E : AXK} (hR : R_law_spot K x0 h Q E) : t_law_spot K { nx := fun _ h' => Q .non h', rt := Q, ex := fun c _ h' => E c h' } [some x0, none, none] h := by
  obtain ⟨w, rfl, hw, q⟩ := hR
  unfold t_law_spot
  dsimp only [nb, aRet, aRetN, aSeq, aIfS, aNext, aBreak, aCont, aDrop, aAsg, aPar, aAug, aSetL, aSetF, aFld, aVar, aC, aNil, aCons, aTup, aLst, a1, a2, aN, aAndV, aOrV, aNotV, aIf, aAnd, aOr, aNot, aTest, aChn, aCall, aMeth, aMake, aBmL, aRaise, aTryOnly, aTryAs, aFor, aiSeq, aiRng1, aiRng2, aiEnum, agN, agNil, agCons, agTup, aSlL, aRev, aNoPart, aPart, aNewK, aNewT, aLc, aWhile, asB, asT, iA, iA0, subA, modA, modP, divP, divA, powA, ltA, leA, gtA, geA, addA, mulA, negA, lenA, absA, intA, allA, listA, tupleA, one, two, sp0, sp1, sp2, sp3, sp4, sp5, sp6, appendA, reverseA, clearA, wipeA, putFA, List.getElem?_cons_zero, List.getElem?_cons_succ, List.set_cons_zero, List.set_cons_succ, List.cons_append, List.nil_append, List.append_nil, R_law_draw]
  refine ⟨⟨by decide, by decide, by decide⟩, w, _, rfl, rfl, by decide, by decide, hw, fun r h1 r0 r1 W1 => ⟨⟨by decide, by decide, by decide⟩, mul_l ?_, ⟨by decide, by decide, by decide⟩, w, _, rfl, rfl, by decide, by decide, W1.1, fun s h2 s0 s1 W2 =>
    ⟨w, _, rfl, rfl, by decide, by decide, W2.1, fun t h3 t0 t1 W3 => ⟨by simp; decide, fun p hp => ?_⟩⟩⟩⟩
  · have e : (10 : Int) ^ (9 : Int).toNat = 1000000000 := by decide
    rw [e] at r1
    omega
  have W4 := Wl.ext W3.1 (Ext.new (o := .lst [.int (t - 20), .int (t - 20), .int (r * 10 ^ (21 : Int).toNat + s), .int (0 - (r * 10 ^ (21 : Int).toNat + s))]) hp)
  refine ⟨w, 4, rfl, rfl, by decide, by decide, W4.1, fun u h4 u0 u1 W5 => ?_⟩
  have nwp : p ≠ w := fun z => by subst z; obtain ⟨_, _, _, z⟩ := W3.1; rw [hp] at z; cases z
  have e := W5.2 p _ nwp updA_same
  have W6 := (((W1.trans W2).trans W3).trans W4).trans W5
  have : u = 0 ∨ u = 1 ∨ u = 2 ∨ u = 3 := by omega
  rcases this with rfl | rfl | rfl | rfl <;> exact ix_ref e rfl (q _ _ W6)
end GL
namespace GL
open PySem PySem.Spec L2 G
theorem rd_is_weights {K : Frg} (T : TK K) {x0 x1 : A} {h : AH} {Q : AVK} {E : AXK} (hR : R_is_weights K x0 x1 h Q E) : t_is_weights K { nx := fun _ h' => Q .non h', rt := Q, ex := fun c _ h' => E c h' } [some x0, some x1, none] h := by
  obtain ⟨n, rfl, ⟨xs, hx, ⟨hl, hk⟩, q⟩ | ⟨⟨k, hk, k1, k2⟩, q⟩⟩ := hR
  · unfold t_is_weights
    dsimp only [nb, aRet, aRetN, aSeq, aIfS, aNext, aBreak, aCont, aDrop, aAsg, aPar, aAug, aSetL, aSetF, aFld, aVar, aC, aNil, aCons, aTup, aLst, a1, a2, aN, aAndV, aOrV, aNotV, aIf, aAnd, aOr, aNot, aTest, aChn, aCall, aMeth, aMake, aBmL, aRaise, aTryOnly, aTryAs, aFor, aiSeq, aiRng1, aiRng2, aiEnum, agN, agNil, agCons, agTup, aSlL, aRev, aNoPart, aPart, aNewK, aNewT, aLc, aWhile, asB, asT, iA, iA0, subA, modA, modP, divP, divA, powA, ltA, leA, gtA, geA, addA, mulA, negA, lenA, absA, intA, allA, listA, tupleA, one, two, sp0, sp1, sp2, sp3, sp4, sp5, sp6, appendA, reverseA, clearA, wipeA, putFA, List.getElem?_cons_zero, List.getElem?_cons_succ, List.set_cons_zero, List.set_cons_succ, List.cons_append, List.nil_append, List.append_nil, R_is_sixteenth, eqA]
    have hkk : ∃ k, kindA h x0 = some k ∧ (kindIs k "list" || kindIs k "tuple") = true := by
      rcases kind_it hx with ⟨e, _⟩ | ⟨e, _⟩
      · exact ⟨_, e, by decide⟩
      · exact ⟨_, e, by decide⟩
    obtain ⟨k, ek, kk⟩ := hkk
    refine ⟨by simp; decide, isi_kind2 ek ?_⟩
    rw [kk]
    refine ifF ?_
    refine seqA_it hx ?_
    refine ifnd (fun hne => ?_) fun hne => ?_
    · have e : (decide ((xs.length : Int) = n) && xs.all sixA) = false := by rw [decide_eq_false hne]; rfl
      rw [e] at q
      exact q h (Ext.refl h)
    · have e : (decide ((xs.length : Int) = n) && xs.all sixA) = ((xs.map sixA).all id) := by rw [decide_eq_true hne, List.all_map]; rfl
      rw [e] at q
      refine lc_it (fun D i h' => Ext h h' ∧ h' D = some (.lst (((xs.take i).map sixA).map A.bl))) hx (fun D hD => ⟨Ext.new hD, updA_same⟩) (fun D hD p e i h' _ pv => by subst e; exact pv.1 _ _ (itA_ref.mp hx)) (fun D hD i hi h' pv => ?_) fun D hD h' pv => ?_
      · dsimp only [nb, aRet, aRetN, aSeq, aIfS, aNext, aBreak, aCont, aDrop, aAsg, aPar, aAug, aSetL, aSetF, aFld, aVar, aC, aNil, aCons, aTup, aLst, a1, a2, aN, aAndV, aOrV, aNotV, aIf, aAnd, aOr, aNot, aTest, aChn, aCall, aMeth, aMake, aBmL, aRaise, aTryOnly, aTryAs, aFor, aiSeq, aiRng1, aiRng2, aiEnum, agN, agNil, agCons, agTup, aSlL, aRev, aNoPart, aPart, aNewK, aNewT, aLc, aWhile, asB, asT, iA, iA0, subA, modA, modP, divP, divA, powA, ltA, leA, gtA, geA, addA, mulA, negA, lenA, absA, intA, allA, listA, tupleA, one, two, sp0, sp1, sp2, sp3, sp4, sp5, sp6, appendA, reverseA, clearA, wipeA, putFA, List.getElem?_cons_zero, List.getElem?_cons_succ, List.set_cons_zero, List.set_cons_succ, List.cons_append, List.nil_append, List.append_nil, R_is_sixteenth]
        obtain ⟨k, ek⟩ := hk xs[i] (List.getElem_mem hi)
        refine ⟨⟨k, kindA_up pv.1 ek⟩, _, pv.2, ?_, Ext.wr hD pv.1, ?_⟩
        · rw [List.length_map, List.length_map, List.length_take]
          exact Nat.lt_of_le_of_lt (Nat.le_trans (Nat.min_le_right _ _) hl) (by decide)
        · rw [updA_same, takeS hi, List.map_append, List.map_append]
          rfl
      · rw [List.take_length] at pv
        exact ⟨xs.map sixA, pv.2, q h' pv.1⟩
  · unfold t_is_weights
    dsimp only [nb, aRet, aRetN, aSeq, aIfS, aNext, aBreak, aCont, aDrop, aAsg, aPar, aAug, aSetL, aSetF, aFld, aVar, aC, aNil, aCons, aTup, aLst, a1, a2, aN, aAndV, aOrV, aNotV, aIf, aAnd, aOr, aNot, aTest, aChn, aCall, aMeth, aMake, aBmL, aRaise, aTryOnly, aTryAs, aFor, aiSeq, aiRng1, aiRng2, aiEnum, agN, agNil, agCons, agTup, aSlL, aRev, aNoPart, aPart, aNewK, aNewT, aLc, aWhile, asB, asT, iA, iA0, subA, modA, modP, divP, divA, powA, ltA, leA, gtA, geA, addA, mulA, negA, lenA, absA, intA, allA, listA, tupleA, one, two, sp0, sp1, sp2, sp3, sp4, sp5, sp6, appendA, reverseA, clearA, wipeA, putFA, List.getElem?_cons_zero, List.getElem?_cons_succ, List.set_cons_zero, List.set_cons_succ, List.cons_append, List.nil_append, List.append_nil, R_is_sixteenth, eqA]
    refine ⟨by simp; decide, isi_kind2 hk ?_⟩
    rw [k1, k2]
    exact ifT (ifT q)
theorem good_len {h : AH} {x : A} {xs : List A} {g : List (List Int)} (e : itA h x = some xs) (G : GoodG h x g) : xs.length = g.length := by
  obtain ⟨_, ys, e2, p⟩ := G
  rw [e] at e2
  cases e2
  exact p.length
theorem good_row {h : AH} {x : A} {xs : List A} {g : List (List Int)} (e : itA h x = some xs) (G : GoodG h x g) {i : Nat} (hi : i < xs.length) : ∃ ws : List Int, itA h xs[i] = some (ws.map A.int) ∧ ws.length = xs.length ∧ ∀ i ∈ ws, 0 ≤ i ∧ i ≤ 16 := by
  have hl := good_len e G
  obtain ⟨_, ys, e2, p⟩ := G
  rw [e] at e2
  cases e2
  have r := Paired.get p i hi (by rw [← hl]; exact hi)
  exact ⟨_, r.1, r.2.1.trans hl.symm, r.2.2⟩
theorem all_six : ∀ {ws : List A}, ws.all sixA = true → ∃ is : List Int, ws = is.map A.int ∧ ∀ i ∈ is, 0 ≤ i ∧ i ≤ 16
  | [], _ => ⟨[], rfl, fun _ h => nomatch h⟩
  | w :: ws, h => by
    rw [List.all_cons, Bool.and_eq_true] at h
    obtain ⟨is, e, k⟩ := all_six h.2
    have h1 := h.1
    unfold sixA at h1
    split at h1
    · rename_i i
      rw [Bool.and_eq_true, decide_eq_true_eq, decide_eq_true_eq] at h1
      exact ⟨i :: is, by rw [e]; rfl, fun j hj => (List.mem_cons.mp hj).elim (fun z => z ▸ h1) (k j)⟩
    · cases h1
theorem six_all {is : List Int} (h : ∀ i ∈ is, 0 ≤ i ∧ i ≤ 16) : (is.map A.int).all sixA = true := by
  rw [List.all_map]
  refine List.all_eq_true.mpr fun i hi => ?_
  have := h i hi
  simp [sixA, this.1, this.2]
theorem rd_Tip_init {K : Frg} (T : TK K) {x0 x1 : A} {h : AH} {Q : AVK} {E : AXK} (hR : R_Tip_init K x0 x1 h Q E) : t_Tip_init K { nx := fun _ h' => Q .non h', rt := Q, ex := fun c _ h' => E c h' } [some x0, some x1, none] h := by
  obtain ⟨t, rfl, ht, hk, hn, q1, q2⟩ := hR
  unfold t_Tip_init
  dsimp only [nb, aRet, aRetN, aSeq, aIfS, aNext, aBreak, aCont, aDrop, aAsg, aPar, aAug, aSetL, aSetF, aFld, aVar, aC, aNil, aCons, aTup, aLst, a1, a2, aN, aAndV, aOrV, aNotV, aIf, aAnd, aOr, aNot, aTest, aChn, aCall, aMeth, aMake, aBmL, aRaise, aTryOnly, aTryAs, aFor, aiSeq, aiRng1, aiRng2, aiEnum, agN, agNil, agCons, agTup, aSlL, aRev, aNoPart, aPart, aNewK, aNewT, aLc, aWhile, asB, asT, iA, iA0, subA, modA, modP, divP, divA, powA, ltA, leA, gtA, geA, addA, mulA, negA, lenA, absA, intA, allA, listA, tupleA, one, two, sp0, sp1, sp2, sp3, sp4, sp5, sp6, appendA, reverseA, clearA, wipeA, putFA, List.getElem?_cons_zero, List.getElem?_cons_succ, List.set_cons_zero, List.set_cons_succ, List.cons_append, List.nil_append, List.append_nil, R_is_weights]
  rcases hk with ⟨k, hk, k1, k2⟩ | ⟨xs, hx, hl, hr⟩
  · refine ⟨by simp; decide, isi_kind2 hk ?_⟩
    rw [k1, k2]
    refine ifT (ifT (q2 ?_ h (Ext.refl h)))
    rintro ⟨g, _, xs, hx, _⟩
    rcases kind_it hx with ⟨e, _⟩ | ⟨e, _⟩ <;> rw [hk] at e <;> cases e
    · cases k1
    · cases k2
  · have hkk : ∃ k, kindA h x1 = some k ∧ (kindIs k "list" || kindIs k "tuple") = true := by
      rcases kind_it hx with ⟨e, _⟩ | ⟨e, _⟩
      · exact ⟨_, e, by decide⟩
      · exact ⟨_, e, by decide⟩
    obtain ⟨k, ek, kk⟩ := hkk
    refine ⟨by simp; decide, isi_kind2 ek ?_⟩
    rw [kk]
    refine ifF ?_
    refine seqA_it hx ?_
    dsimp only [nb, aRet, aRetN, aSeq, aIfS, aNext, aBreak, aCont, aDrop, aAsg, aPar, aAug, aSetL, aSetF, aFld, aVar, aC, aNil, aCons, aTup, aLst, a1, a2, aN, aAndV, aOrV, aNotV, aIf, aAnd, aOr, aNot, aTest, aChn, aCall, aMeth, aMake, aBmL, aRaise, aTryOnly, aTryAs, aFor, aiSeq, aiRng1, aiRng2, aiEnum, agN, agNil, agCons, agTup, aSlL, aRev, aNoPart, aPart, aNewK, aNewT, aLc, aWhile, asB, asT, iA, iA0, subA, modA, modP, divP, divA, powA, ltA, leA, gtA, geA, addA, mulA, negA, lenA, absA, intA, allA, listA, tupleA, one, two, sp0, sp1, sp2, sp3, sp4, sp5, sp6, appendA, reverseA, clearA, wipeA, putFA, List.getElem?_cons_zero, List.getElem?_cons_succ, List.set_cons_zero, List.set_cons_succ, List.cons_append, List.nil_append, List.append_nil, inSA, v_WIDTHS]
    refine ⟨⟨rfl, rfl⟩, ?_⟩
    have hin : inA (.int (xs.length : Int)) [.int 1, .int 3, .int 5] = decide (xs.length = 1 ∨ xs.length = 3 ∨ xs.length = 5) := by
      rw [Bool.eq_iff_iff]
      simp [inA, eqFA]
      omega
    rw [hin]
    refine ifnd (fun bad => ?_) fun good => ?_
    · refine q2 (fun ⟨g, G⟩ => bad ?_) h (Ext.refl h)
      rw [good_len hx G]
      exact G.1
    · refine for_it (fun i α h' => (∃ o, α = [some (.ref t), some x1, o]) ∧ Ext h h' ∧ ∀ j (hj : j < xs.length), j < i → ∃ ws : List Int, itA h xs[j] = some (ws.map A.int) ∧ ws.length = xs.length ∧ ∀ i ∈ ws, 0 ≤ i ∧ i ≤ 16) hx ⟨⟨_, rfl⟩, Ext.refl h, fun _ _ z => absurd z (Nat.not_lt_zero _)⟩ (fun p e i α h' _ pv => by subst e; exact pv.2.1 _ _ (itA_ref.mp hx)) (fun i hi α h' pv => ?_) fun α h' pv => ?_
      · obtain ⟨⟨o, rfl⟩, ex, done⟩ := pv
        dsimp only [nb, aRet, aRetN, aSeq, aIfS, aNext, aBreak, aCont, aDrop, aAsg, aPar, aAug, aSetL, aSetF, aFld, aVar, aC, aNil, aCons, aTup, aLst, a1, a2, aN, aAndV, aOrV, aNotV, aIf, aAnd, aOr, aNot, aTest, aChn, aCall, aMeth, aMake, aBmL, aRaise, aTryOnly, aTryAs, aFor, aiSeq, aiRng1, aiRng2, aiEnum, agN, agNil, agCons, agTup, aSlL, aRev, aNoPart, aPart, aNewK, aNewT, aLc, aWhile, asB, asT, iA, iA0, subA, modA, modP, divP, divA, powA, ltA, leA, gtA, geA, addA, mulA, negA, lenA, absA, intA, allA, listA, tupleA, one, two, sp0, sp1, sp2, sp3, sp4, sp5, sp6, appendA, reverseA, clearA, wipeA, putFA, List.getElem?_cons_zero, List.getElem?_cons_succ, List.set_cons_zero, List.set_cons_succ, List.cons_append, List.nil_append, List.append_nil, R_is_weights]
        refine seqA_it (itA_up ex hx) ?_
        have bad : (¬ ∃ ws : List Int, itA h xs[i] = some (ws.map A.int) ∧ ws.length = xs.length ∧ ∀ i ∈ ws, 0 ≤ i ∧ i ≤ 16) → ∀ h', Ext h h' → E (.ref (c_NoTip K)) h' := fun no => q2 fun ⟨g, G⟩ => no (good_row hx G hi)
        refine ⟨_, rfl, ?_⟩
        rcases hr xs[i] (List.getElem_mem hi) with ⟨k, z1, z2, z3⟩ | ⟨ws, hw, hkk⟩
        · refine .inr ⟨⟨k, kindA_up ex z1, z2, z3⟩, ?_⟩
          dsimp only [nb, aRet, aRetN, aSeq, aIfS, aNext, aBreak, aCont, aDrop, aAsg, aPar, aAug, aSetL, aSetF, aFld, aVar, aC, aNil, aCons, aTup, aLst, a1, a2, aN, aAndV, aOrV, aNotV, aIf, aAnd, aOr, aNot, aTest, aChn, aCall, aMeth, aMake, aBmL, aRaise, aTryOnly, aTryAs, aFor, aiSeq, aiRng1, aiRng2, aiEnum, agN, agNil, agCons, agTup, aSlL, aRev, aNoPart, aPart, aNewK, aNewT, aLc, aWhile, asB, asT, iA, iA0, subA, modA, modP, divP, divA, powA, ltA, leA, gtA, geA, addA, mulA, negA, lenA, absA, intA, allA, listA, tupleA, one, two, sp0, sp1, sp2, sp3, sp4, sp5, sp6, appendA, reverseA, clearA, wipeA, putFA, List.getElem?_cons_zero, List.getElem?_cons_succ, List.set_cons_zero, List.set_cons_succ, List.cons_append, List.nil_append, List.append_nil]
          refine ifT (bad ?_ _ ex)
          rintro ⟨ws, e, _⟩
          rcases kind_it e with ⟨e, _⟩ | ⟨e, _⟩ <;> rw [z1] at e <;> cases e
          · cases z2
          · cases z3
        · refine .inl ⟨ws, itA_up ex hw, ⟨hkk.1, fun a ha => let ⟨k, e⟩ := hkk.2 a ha; ⟨k, kindA_up ex e⟩⟩, fun h2 ex2 => ?_⟩
          dsimp only [nb, aRet, aRetN, aSeq, aIfS, aNext, aBreak, aCont, aDrop, aAsg, aPar, aAug, aSetL, aSetF, aFld, aVar, aC, aNil, aCons, aTup, aLst, a1, a2, aN, aAndV, aOrV, aNotV, aIf, aAnd, aOr, aNot, aTest, aChn, aCall, aMeth, aMake, aBmL, aRaise, aTryOnly, aTryAs, aFor, aiSeq, aiRng1, aiRng2, aiEnum, agN, agNil, agCons, agTup, aSlL, aRev, aNoPart, aPart, aNewK, aNewT, aLc, aWhile, asB, asT, iA, iA0, subA, modA, modP, divP, divA, powA, ltA, leA, gtA, geA, addA, mulA, negA, lenA, absA, intA, allA, listA, tupleA, one, two, sp0, sp1, sp2, sp3, sp4, sp5, sp6, appendA, reverseA, clearA, wipeA, putFA, List.getElem?_cons_zero, List.getElem?_cons_succ, List.set_cons_zero, List.set_cons_succ, List.cons_append, List.nil_append, List.append_nil]
          refine ifb (fun z => bad ?_ _ (ex.trans ex2)) fun z => ?_
          · rintro ⟨is, e, el, k⟩
            rw [hw] at e
            cases e
            rw [List.length_map, decide_eq_true (by rw [el] : ((is.length : Int) = xs.length)), six_all k] at z
            cases z
          · have z : (decide ((ws.length : Int) = xs.length) && ws.all sixA) = true := by
              revert z
              cases (decide ((ws.length : Int) = xs.length) && ws.all sixA) <;> simp
            rw [Bool.and_eq_true, decide_eq_true_eq] at z
            obtain ⟨is, e, k⟩ := all_six z.2
            refine ⟨⟨_, rfl⟩, ex.trans ex2, fun j hj hji => ?_⟩
            by_cases hj2 : j < i
            · exact done j hj hj2
            · have : j = i := by omega
              subst this
              subst e
              exact ⟨is, hw, by have := z.1; rw [List.length_map] at this; omega, k⟩
      · obtain ⟨⟨o, rfl⟩, ex, done⟩ := pv
        dsimp only [nb, aRet, aRetN, aSeq, aIfS, aNext, aBreak, aCont, aDrop, aAsg, aPar, aAug, aSetL, aSetF, aFld, aVar, aC, aNil, aCons, aTup, aLst, a1, a2, aN, aAndV, aOrV, aNotV, aIf, aAnd, aOr, aNot, aTest, aChn, aCall, aMeth, aMake, aBmL, aRaise, aTryOnly, aTryAs, aFor, aiSeq, aiRng1, aiRng2, aiEnum, agN, agNil, agCons, agTup, aSlL, aRev, aNoPart, aPart, aNewK, aNewT, aLc, aWhile, asB, asT, iA, iA0, subA, modA, modP, divP, divA, powA, ltA, leA, gtA, geA, addA, mulA, negA, lenA, absA, intA, allA, listA, tupleA, one, two, sp0, sp1, sp2, sp3, sp4, sp5, sp6, appendA, reverseA, clearA, wipeA, putFA, List.getElem?_cons_zero, List.getElem?_cons_succ, List.set_cons_zero, List.set_cons_succ, List.cons_append, List.nil_append, List.append_nil]
        obtain ⟨g, hg⟩ := Paired.choose (F := RowG h xs.length) fun j hj => done j hj hj
        have hlg : xs.length = g.length := hg.length
        have G : GoodG h x1 g := ⟨by rw [← hlg]; exact good, xs, hx, by rw [← hlg]; exact hg⟩
        have ht' := ex _ _ ht
        refine lc_it (fun D i h2 => Ext h' h2 ∧ ∃ ps : List Addr, h2 D = some (.lst (ps.map A.ref)) ∧ Paired (fun p ws => nw h h2 p = some (.lst (ws.map A.int)) ∧ p ≠ D) ps (g.take i)) (itA_up ex hx) (fun D hD => ⟨Ext.new hD, [], updA_same, .nil⟩)
          (fun D hD p e i h2 _ pv => by subst e; exact pv.1 _ _ (itA_ref.mp (itA_up ex hx))) (fun D hD i hi h2 pv => ?_) fun D hD h2 pv => ?_
        · obtain ⟨ex2, ps, e, pp⟩ := pv
          have hig : i < g.length := by rw [← hlg]; exact hi
          have r := Paired.get hg i hi hig
          dsimp only [nb, aRet, aRetN, aSeq, aIfS, aNext, aBreak, aCont, aDrop, aAsg, aPar, aAug, aSetL, aSetF, aFld, aVar, aC, aNil, aCons, aTup, aLst, a1, a2, aN, aAndV, aOrV, aNotV, aIf, aAnd, aOr, aNot, aTest, aChn, aCall, aMeth, aMake, aBmL, aRaise, aTryOnly, aTryAs, aFor, aiSeq, aiRng1, aiRng2, aiEnum, agN, agNil, agCons, agTup, aSlL, aRev, aNoPart, aPart, aNewK, aNewT, aLc, aWhile, asB, asT, iA, iA0, subA, modA, modP, divP, divA, powA, ltA, leA, gtA, geA, addA, mulA, negA, lenA, absA, intA, allA, listA, tupleA, one, two, sp0, sp1, sp2, sp3, sp4, sp5, sp6, appendA, reverseA, clearA, wipeA, putFA, List.getElem?_cons_zero, List.getElem?_cons_succ, List.set_cons_zero, List.set_cons_succ, List.cons_append, List.nil_append, List.append_nil]
          refine seqA_it (itA_up (ex.trans ex2) r.1) fun p hp => ⟨_, (Ext.new hp) _ _ e, ?_, ?_⟩
          · rw [List.length_map, pp.length, List.length_take]
            exact Nat.lt_of_le_of_lt (Nat.le_trans (Nat.min_le_left _ _) (Nat.le_trans (Nat.le_of_lt hi) hl)) (by decide)
          · have npD : p ≠ D := fun z => by subst z; rw [e] at hp; cases hp
            refine ⟨Ext.wr hD (ex2.trans (Ext.new hp)), ps ++ [p], by rw [updA_same, List.map_append]; rfl, ?_⟩
            rw [takeS hig]
            refine Paired.snoc (Paired.mapP pp fun a ws z => ⟨?_, z.2⟩) ⟨nw_of ((ex.trans ex2).isN hp) (by rw [updA_ne npD, updA_same]), npD⟩
            have z1 := nw_some z.1
            refine nw_of z1.1 ?_
            rw [updA_ne z.2, updA_ne (fun q => by subst q; rw [hp] at z1; cases z1.2)]
            exact z1.2
        · obtain ⟨ex2, ps, e, pp⟩ := pv
          rw [hlg, List.take_length] at pp
          have nD : D ≠ t := fun z => by subst z; rw [ht'] at hD; cases hD
          refine ⟨c_Tip K, [], ex2 _ _ ht', T.cf_Tip_weights, by decide, ?_⟩
          dsimp only [nb, aRet, aRetN, aSeq, aIfS, aNext, aBreak, aCont, aDrop, aAsg, aPar, aAug, aSetL, aSetF, aFld, aVar, aC, aNil, aCons, aTup, aLst, a1, a2, aN, aAndV, aOrV, aNotV, aIf, aAnd, aOr, aNot, aTest, aChn, aCall, aMeth, aMake, aBmL, aRaise, aTryOnly, aTryAs, aFor, aiSeq, aiRng1, aiRng2, aiEnum, agN, agNil, agCons, agTup, aSlL, aRev, aNoPart, aPart, aNewK, aNewT, aLc, aWhile, asB, asT, iA, iA0, subA, modA, modP, divP, divA, powA, ltA, leA, gtA, geA, addA, mulA, negA, lenA, absA, intA, allA, listA, tupleA, one, two, sp0, sp1, sp2, sp3, sp4, sp5, sp6, appendA, reverseA, clearA, wipeA, putFA, List.getElem?_cons_zero, List.getElem?_cons_succ, List.set_cons_zero, List.set_cons_succ, List.cons_append, List.nil_append, List.append_nil]
          refine q1 g G _ D (Fx.trans (ex.trans ex2).fx (Fx.wr rfl)) updA_same ⟨ps, nw_of (ex.isN hD) (by rw [updA_ne nD]; exact e), Paired.mapP pp fun p ws z => ?_⟩
          have z1 := nw_some z.1
          refine nw_of z1.1 ?_
          rw [updA_ne (fun q => by subst q; rw [ht] at z1; cases z1.1)]
          exact z1.2
end GL
namespace GL
open PySem PySem.Spec L2 G
theorem rowA_snoc (a b half : Int) (down : Nat) (w : Int) : ∀ (ws : List Int) (i : Nat), rowA a b half down i (ws ++ [w]) = rowA a b half down i ws ++ cellA a b half down (i + ws.length) w
  | [], i => by simp [rowA]
  | v :: ws, i => by
    rw [List.cons_append]
    unfold rowA
    rw [rowA_snoc a b half down w ws (i + 1), List.append_assoc, List.length_cons]
    congr 3
    omega
theorem allRows_snoc (a b half : Int) (r : List Int) : ∀ (g : List (List Int)) (j : Nat), allRows a b half j (g ++ [r]) = allRows a b half j g ++ rowA a b half (j + g.length) 0 r
  | [], j => by simp [allRows]
  | v :: g, j => by
    rw [List.cons_append]
    unfold allRows
    rw [allRows_snoc a b half r g (j + 1), List.append_assoc, List.length_cons]
    congr 3
    omega
theorem cellA_len (a b half : Int) (down i : Nat) (w : Int) : (cellA a b half down i w).length ≤ 1 := by
  unfold cellA
  split <;> simp
theorem rowA_len (a b half : Int) (down : Nat) : ∀ (ws : List Int) (i : Nat), (rowA a b half down i ws).length ≤ ws.length
  | [], i => by simp [rowA]
  | v :: ws, i => by
    unfold rowA
    rw [List.length_append, List.length_cons]
    have := rowA_len a b half down ws (i + 1)
    have := cellA_len a b half down i v
    omega
theorem allRows_len (a b half : Int) : ∀ (g : List (List Int)) (j : Nat), (∀ r ∈ g, r.length ≤ 5) → (allRows a b half j g).length ≤ 5 * g.length
  | [], j, _ => by simp [allRows]
  | r :: g, j, h => by
    unfold allRows
    rw [List.length_append, List.length_cons]
    have := allRows_len a b half g (j + 1) fun r hr => h r (List.mem_cons_of_mem _ hr)
    have := rowA_len a b half j r 0
    have := h r List.mem_cons_self
    omega
theorem rd_Tip_spread {K : Frg} (T : TK K) {x0 x1 : A} {h : AH} {Q : AVK} {E : AXK} (hR : R_Tip_spread K x0 x1 h Q E) : t_Tip_spread K { nx := fun _ h' => Q .non h', rt := Q, ex := fun c _ h' => E c h' } [some x0, some x1, none, none, none, none, none, none] h := by
  obtain ⟨t, a, b, g, rfl, rfl, ⟨W, ht, ps, hW, hp⟩, hs, q⟩ := hR
  unfold t_Tip_spread
  dsimp only [nb, aRet, aRetN, aSeq, aIfS, aNext, aBreak, aCont, aDrop, aAsg, aPar, aAug, aSetL, aSetF, aFld, aVar, aC, aNil, aCons, aTup, aLst, a1, a2, aN, aAndV, aOrV, aNotV, aIf, aAnd, aOr, aNot, aTest, aChn, aCall, aMeth, aMake, aBmL, aRaise, aTryOnly, aTryAs, aFor, aiSeq, aiRng1, aiRng2, aiEnum, agN, agNil, agCons, agTup, aSlL, aRev, aNoPart, aPart, aNewK, aNewT, aLc, aWhile, asB, asT, iA, iA0, subA, modA, modP, divP, divA, powA, ltA, leA, gtA, geA, addA, mulA, negA, lenA, absA, intA, allA, listA, tupleA, one, two, sp0, sp1, sp2, sp3, sp4, sp5, sp6, appendA, reverseA, clearA, wipeA, putFA, List.getElem?_cons_zero, List.getElem?_cons_succ, List.set_cons_zero, List.set_cons_succ, List.cons_append, List.nil_append, List.append_nil]
  refine ⟨_, _, _, ht, T.cf_Tip_weights, rfl, ?_⟩
  refine seqA_it (itA_ref.mpr hW) ?_
  refine ⟨cd, by decide, fun f hf => ?_⟩
  have hlp : ps.length = g.length := hp.length
  have hf0 : ∀ o, Ext h (updA h f o) := fun o => Ext.new hf
  refine ⟨_, _, _, hf0 _ _ _ ht, T.cf_Tip_weights, rfl, ?_⟩
  dsimp only [nb, aRet, aRetN, aSeq, aIfS, aNext, aBreak, aCont, aDrop, aAsg, aPar, aAug, aSetL, aSetF, aFld, aVar, aC, aNil, aCons, aTup, aLst, a1, a2, aN, aAndV, aOrV, aNotV, aIf, aAnd, aOr, aNot, aTest, aChn, aCall, aMeth, aMake, aBmL, aRaise, aTryOnly, aTryAs, aFor, aiSeq, aiRng1, aiRng2, aiEnum, agN, agNil, agCons, agTup, aSlL, aRev, aNoPart, aPart, aNewK, aNewT, aLc, aWhile, asB, asT, iA, iA0, subA, modA, modP, divP, divA, powA, ltA, leA, gtA, geA, addA, mulA, negA, lenA, absA, intA, allA, listA, tupleA, one, two, sp0, sp1, sp2, sp3, sp4, sp5, sp6, appendA, reverseA, clearA, wipeA, putFA, List.getElem?_cons_zero, List.getElem?_cons_succ, List.set_cons_zero, List.set_cons_succ, List.cons_append, List.nil_append, List.append_nil]
  refine ⟨_, hf0 _ _ _ hW, ?_⟩
  have e0 : (((ps.map A.ref).length : Nat) : Int) / 2 = (g.length : Int) / 2 := by rw [List.length_map, hlp]
  rw [e0]
  refine loop_enum (fun j α h' => (∃ o4 o5 o6 o7, α = [some (.ref t), some (.tup [.int a, .int b]), some (.int ((g.length : Int) / 2)), some (.ref f), o4, o5, o6, o7]) ∧ Ext h h' ∧ h' f = some (.lst (allRows a b ((g.length : Int) / 2) 0 (g.take j))))
    ⟨⟨_, _, _, _, rfl⟩, hf0 _, updA_same⟩ (fun i α h' _ pv => pv.2.1 _ _ hW) (fun j hj α h' pv => ?_) fun α h' pv => ?_
  · obtain ⟨⟨o4, o5, o6, o7, rfl⟩, ex, ef⟩ := pv
    rw [List.length_map] at hj
    have hjg : j < g.length := by rw [← hlp]; exact hj
    have r := Paired.get hp j hj hjg
    have hw5 : ∀ r ∈ g, r.length ≤ 5 := fun r hr => by rw [hs.2 r hr]; exact hs.1
    have hw : (g[j]).length ≤ 5 := hw5 _ (List.getElem_mem hjg)
    rw [List.getElem_map]
    dsimp only [nb, aRet, aRetN, aSeq, aIfS, aNext, aBreak, aCont, aDrop, aAsg, aPar, aAug, aSetL, aSetF, aFld, aVar, aC, aNil, aCons, aTup, aLst, a1, a2, aN, aAndV, aOrV, aNotV, aIf, aAnd, aOr, aNot, aTest, aChn, aCall, aMeth, aMake, aBmL, aRaise, aTryOnly, aTryAs, aFor, aiSeq, aiRng1, aiRng2, aiEnum, agN, agNil, agCons, agTup, aSlL, aRev, aNoPart, aPart, aNewK, aNewT, aLc, aWhile, asB, asT, iA, iA0, subA, modA, modP, divP, divA, powA, ltA, leA, gtA, geA, addA, mulA, negA, lenA, absA, intA, allA, listA, tupleA, one, two, sp0, sp1, sp2, sp3, sp4, sp5, sp6, appendA, reverseA, clearA, wipeA, putFA, List.getElem?_cons_zero, List.getElem?_cons_succ, List.set_cons_zero, List.set_cons_succ, List.cons_append, List.nil_append, List.append_nil]
    refine ⟨rfl, rfl, _, ex _ _ r, ?_⟩
    refine loop_enum (fun i α h' => (∃ o6 o7, α = [some (.ref t), some (.tup [.int a, .int b]), some (.int ((g.length : Int) / 2)), some (.ref f), some (.int j), some (.ref ps[j]), o6, o7]) ∧ Ext h h' ∧ h' f = some (.lst (allRows a b ((g.length : Int) / 2) 0 (g.take j) ++ rowA a b ((g.length : Int) / 2) j 0 (g[j].take i))))
      ⟨⟨_, _, rfl⟩, ex, by rw [ef]; simp [rowA]⟩ (fun i α h' _ pv => pv.2.1 _ _ r) (fun i hi α h' pv => ?_) fun α h' pv => ?_
    · obtain ⟨⟨o6, o7, rfl⟩, ex2, ef2⟩ := pv
      rw [List.length_map] at hi
      rw [List.getElem_map]
      dsimp only [nb, aRet, aRetN, aSeq, aIfS, aNext, aBreak, aCont, aDrop, aAsg, aPar, aAug, aSetL, aSetF, aFld, aVar, aC, aNil, aCons, aTup, aLst, a1, a2, aN, aAndV, aOrV, aNotV, aIf, aAnd, aOr, aNot, aTest, aChn, aCall, aMeth, aMake, aBmL, aRaise, aTryOnly, aTryAs, aFor, aiSeq, aiRng1, aiRng2, aiEnum, agN, agNil, agCons, agTup, aSlL, aRev, aNoPart, aPart, aNewK, aNewT, aLc, aWhile, asB, asT, iA, iA0, subA, modA, modP, divP, divA, powA, ltA, leA, gtA, geA, addA, mulA, negA, lenA, absA, intA, allA, listA, tupleA, one, two, sp0, sp1, sp2, sp3, sp4, sp5, sp6, appendA, reverseA, clearA, wipeA, putFA, List.getElem?_cons_zero, List.getElem?_cons_succ, List.set_cons_zero, List.set_cons_succ, List.cons_append, List.nil_append, List.append_nil]
      refine ⟨rfl, rfl, ?_⟩
      have hlt : (g[j].take i).length = i := by rw [List.length_take]; omega
      have sn := rowA_snoc a b ((g.length : Int) / 2) j g[j][i] (g[j].take i) 0
      rw [← takeS hi, hlt, Nat.zero_add] at sn
      refine ifd (fun hpos => ?_) fun hnp => ?_
      · refine ⟨⟨_, ef2⟩, ix_tup rfl ?_⟩
        dsimp only [nb, aRet, aRetN, aSeq, aIfS, aNext, aBreak, aCont, aDrop, aAsg, aPar, aAug, aSetL, aSetF, aFld, aVar, aC, aNil, aCons, aTup, aLst, a1, a2, aN, aAndV, aOrV, aNotV, aIf, aAnd, aOr, aNot, aTest, aChn, aCall, aMeth, aMake, aBmL, aRaise, aTryOnly, aTryAs, aFor, aiSeq, aiRng1, aiRng2, aiEnum, agN, agNil, agCons, agTup, aSlL, aRev, aNoPart, aPart, aNewK, aNewT, aLc, aWhile, asB, asT, iA, iA0, subA, modA, modP, divP, divA, powA, ltA, leA, gtA, geA, addA, mulA, negA, lenA, absA, intA, allA, listA, tupleA, one, two, sp0, sp1, sp2, sp3, sp4, sp5, sp6, appendA, reverseA, clearA, wipeA, putFA, List.getElem?_cons_zero, List.getElem?_cons_succ, List.set_cons_zero, List.set_cons_succ, List.cons_append, List.nil_append, List.append_nil]
        refine ix_tup rfl ?_
        dsimp only [nb, aRet, aRetN, aSeq, aIfS, aNext, aBreak, aCont, aDrop, aAsg, aPar, aAug, aSetL, aSetF, aFld, aVar, aC, aNil, aCons, aTup, aLst, a1, a2, aN, aAndV, aOrV, aNotV, aIf, aAnd, aOr, aNot, aTest, aChn, aCall, aMeth, aMake, aBmL, aRaise, aTryOnly, aTryAs, aFor, aiSeq, aiRng1, aiRng2, aiEnum, agN, agNil, agCons, agTup, aSlL, aRev, aNoPart, aPart, aNewK, aNewT, aLc, aWhile, asB, asT, iA, iA0, subA, modA, modP, divP, divA, powA, ltA, leA, gtA, geA, addA, mulA, negA, lenA, absA, intA, allA, listA, tupleA, one, two, sp0, sp1, sp2, sp3, sp4, sp5, sp6, appendA, reverseA, clearA, wipeA, putFA, List.getElem?_cons_zero, List.getElem?_cons_succ, List.set_cons_zero, List.set_cons_succ, List.cons_append, List.nil_append, List.append_nil]
        refine ⟨by simp; decide, by simp; decide, _, ef2, ?_, ⟨_, _, rfl⟩, Ext.wr hf ex2, ?_⟩
        · rw [List.length_append]
          have l1 := allRows_len a b ((g.length : Int) / 2) (g.take j) 0 fun r hr => hw5 r (List.mem_of_mem_take hr)
          have l2 := rowA_len a b ((g.length : Int) / 2) j (g[j].take i) 0
          rw [List.length_take] at l1 l2
          have := hs.1
          exact Nat.lt_of_le_of_lt (by omega : _ ≤ 100) (by decide)
        · rw [updA_same, sn, List.append_assoc]
          unfold cellA
          rw [if_pos hpos]
      · refine ⟨⟨_, _, rfl⟩, ex2, ?_⟩
        rw [ef2, sn]
        unfold cellA
        rw [if_neg hnp, List.append_nil]
    · obtain ⟨⟨o6, o7, rfl⟩, ex2, ef2⟩ := pv
      refine ⟨⟨_, _, _, _, rfl⟩, ex2, ?_⟩
      rw [List.length_map, List.take_length] at ef2
      have sn := allRows_snoc a b ((g.length : Int) / 2) g[j] (g.take j) 0
      rw [← takeS hjg, List.length_take, Nat.min_eq_left (Nat.le_of_lt hjg), Nat.zero_add] at sn
      rw [ef2, sn]
  · obtain ⟨⟨o4, o5, o6, o7, rfl⟩, ex, ef⟩ := pv
    rw [List.length_map, hlp, List.take_length] at ef
    exact q f h' hf ex ef
theorem rd_law_due {K : Frg} (T : TK K) {x0 x1 : A} {h : AH} {Q : AVK} {E : AXK} (hR : R_law_due K x0 x1 h Q E) : t_law_due K { nx := fun _ h' => Q .non h', rt := Q, ex := fun c _ h' => E c h' } [some x0, some x1, none, none, none, none] h := by
  obtain ⟨R, a, b, g, rfl, rfl, ⟨ps, hW, hp⟩, hs, q⟩ := hR
  unfold t_law_due
  dsimp only [nb, aRet, aRetN, aSeq, aIfS, aNext, aBreak, aCont, aDrop, aAsg, aPar, aAug, aSetL, aSetF, aFld, aVar, aC, aNil, aCons, aTup, aLst, a1, a2, aN, aAndV, aOrV, aNotV, aIf, aAnd, aOr, aNot, aTest, aChn, aCall, aMeth, aMake, aBmL, aRaise, aTryOnly, aTryAs, aFor, aiSeq, aiRng1, aiRng2, aiEnum, agN, agNil, agCons, agTup, aSlL, aRev, aNoPart, aPart, aNewK, aNewT, aLc, aWhile, asB, asT, iA, iA0, subA, modA, modP, divP, divA, powA, ltA, leA, gtA, geA, addA, mulA, negA, lenA, absA, intA, allA, listA, tupleA, one, two, sp0, sp1, sp2, sp3, sp4, sp5, sp6, appendA, reverseA, clearA, wipeA, putFA, List.getElem?_cons_zero, List.getElem?_cons_succ, List.set_cons_zero, List.set_cons_succ, List.cons_append, List.nil_append, List.append_nil]
  refine seqA_it (itA_ref.mpr hW) ?_
  refine ⟨cd, by decide, fun f hf => ?_⟩
  have hlp : ps.length = g.length := hp.length
  have hf0 : ∀ o, Ext h (updA h f o) := fun o => Ext.new hf
  refine seqA_it (itA_ref.mpr (hf0 _ _ _ hW)) ?_
  have hg5 := hs.1
  refine ⟨by rw [List.length_map]; omega, ?_⟩
  have e0 : (((ps.map A.ref).length : Nat) : Int) / 2 = (g.length : Int) / 2 := by rw [List.length_map, hlp]
  have e1 : ((((ps.map A.ref).length : Nat) : Int)).toNat = g.length := by rw [List.length_map, hlp]; omega
  rw [e0, e1]
  refine loop_rng (fun j α h' => (∃ o4 o5, α = [some (.ref R), some (.tup [.int a, .int b]), some (.int ((g.length : Int) / 2)), some (.ref f), o4, o5]) ∧ Ext h h' ∧ h' f = some (.lst (allRows a b ((g.length : Int) / 2) 0 (g.take j))))
    ⟨⟨_, _, rfl⟩, hf0 _, updA_same⟩ (fun j hjg α h' pv => ?_) fun α h' pv => ?_
  · obtain ⟨⟨o4, o5, rfl⟩, ex, ef⟩ := pv
    have hj : j < ps.length := by rw [hlp]; exact hjg
    have r := Paired.get hp j hj hjg
    have hw5 : ∀ r ∈ g, r.length ≤ 5 := fun r hr => by rw [hs.2 r hr]; exact hs.1
    have hwl : (g[j]).length = g.length := hs.2 _ (List.getElem_mem hjg)
    rw [Int.zero_add]
    dsimp only [nb, aRet, aRetN, aSeq, aIfS, aNext, aBreak, aCont, aDrop, aAsg, aPar, aAug, aSetL, aSetF, aFld, aVar, aC, aNil, aCons, aTup, aLst, a1, a2, aN, aAndV, aOrV, aNotV, aIf, aAnd, aOr, aNot, aTest, aChn, aCall, aMeth, aMake, aBmL, aRaise, aTryOnly, aTryAs, aFor, aiSeq, aiRng1, aiRng2, aiEnum, agN, agNil, agCons, agTup, aSlL, aRev, aNoPart, aPart, aNewK, aNewT, aLc, aWhile, asB, asT, iA, iA0, subA, modA, modP, divP, divA, powA, ltA, leA, gtA, geA, addA, mulA, negA, lenA, absA, intA, allA, listA, tupleA, one, two, sp0, sp1, sp2, sp3, sp4, sp5, sp6, appendA, reverseA, clearA, wipeA, putFA, List.getElem?_cons_zero, List.getElem?_cons_succ, List.set_cons_zero, List.set_cons_succ, List.cons_append, List.nil_append, List.append_nil]
    refine seqA_it (itA_ref.mpr (ex _ _ hW)) ?_
    refine ⟨by rw [List.length_map]; omega, ?_⟩
    rw [e1]
    refine loop_rng (fun i α h' => (∃ o5, α = [some (.ref R), some (.tup [.int a, .int b]), some (.int ((g.length : Int) / 2)), some (.ref f), some (.int j), o5]) ∧ Ext h h' ∧ h' f = some (.lst (allRows a b ((g.length : Int) / 2) 0 (g.take j) ++ rowA a b ((g.length : Int) / 2) j 0 (g[j].take i))))
      ⟨⟨_, rfl⟩, ex, by rw [ef]; simp [rowA]⟩ (fun i hig α h' pv => ?_) fun α h' pv => ?_
    · obtain ⟨⟨o5, rfl⟩, ex2, ef2⟩ := pv
      have hi : i < (g[j]).length := by rw [hwl]; exact hig
      rw [Int.zero_add]
      dsimp only [nb, aRet, aRetN, aSeq, aIfS, aNext, aBreak, aCont, aDrop, aAsg, aPar, aAug, aSetL, aSetF, aFld, aVar, aC, aNil, aCons, aTup, aLst, a1, a2, aN, aAndV, aOrV, aNotV, aIf, aAnd, aOr, aNot, aTest, aChn, aCall, aMeth, aMake, aBmL, aRaise, aTryOnly, aTryAs, aFor, aiSeq, aiRng1, aiRng2, aiEnum, agN, agNil, agCons, agTup, aSlL, aRev, aNoPart, aPart, aNewK, aNewT, aLc, aWhile, asB, asT, iA, iA0, subA, modA, modP, divP, divA, powA, ltA, leA, gtA, geA, addA, mulA, negA, lenA, absA, intA, allA, listA, tupleA, one, two, sp0, sp1, sp2, sp3, sp4, sp5, sp6, appendA, reverseA, clearA, wipeA, putFA, List.getElem?_cons_zero, List.getElem?_cons_succ, List.set_cons_zero, List.set_cons_succ, List.cons_append, List.nil_append, List.append_nil]
      have hlt : (g[j].take i).length = i := by rw [List.length_take]; omega
      have sn := rowA_snoc a b ((g.length : Int) / 2) j g[j][i] (g[j].take i) 0
      rw [← takeS hi, hlt, Nat.zero_add] at sn
      have at1 : atI (ps.map A.ref) (j : Int) = some (.ref ps[j]) := by
        rw [atI_of (by omega) (by rw [List.length_map]; omega)]
        simp
      have at2 : atI ((g[j]).map A.int) (i : Int) = some (.int g[j][i]) := by
        rw [atI_of (by omega) (by rw [List.length_map]; omega)]
        simp
      refine ix_ref (ex2 _ _ hW) at1 (ix_ref (ex2 _ _ r) at2 ?_)
      dsimp only [nb, aRet, aRetN, aSeq, aIfS, aNext, aBreak, aCont, aDrop, aAsg, aPar, aAug, aSetL, aSetF, aFld, aVar, aC, aNil, aCons, aTup, aLst, a1, a2, aN, aAndV, aOrV, aNotV, aIf, aAnd, aOr, aNot, aTest, aChn, aCall, aMeth, aMake, aBmL, aRaise, aTryOnly, aTryAs, aFor, aiSeq, aiRng1, aiRng2, aiEnum, agN, agNil, agCons, agTup, aSlL, aRev, aNoPart, aPart, aNewK, aNewT, aLc, aWhile, asB, asT, iA, iA0, subA, modA, modP, divP, divA, powA, ltA, leA, gtA, geA, addA, mulA, negA, lenA, absA, intA, allA, listA, tupleA, one, two, sp0, sp1, sp2, sp3, sp4, sp5, sp6, appendA, reverseA, clearA, wipeA, putFA, List.getElem?_cons_zero, List.getElem?_cons_succ, List.set_cons_zero, List.set_cons_succ, List.cons_append, List.nil_append, List.append_nil]
      refine ifd (fun hpos => ?_) fun hnp => ?_
      · refine ⟨⟨_, ef2⟩, ix_tup rfl ?_⟩
        dsimp only [nb, aRet, aRetN, aSeq, aIfS, aNext, aBreak, aCont, aDrop, aAsg, aPar, aAug, aSetL, aSetF, aFld, aVar, aC, aNil, aCons, aTup, aLst, a1, a2, aN, aAndV, aOrV, aNotV, aIf, aAnd, aOr, aNot, aTest, aChn, aCall, aMeth, aMake, aBmL, aRaise, aTryOnly, aTryAs, aFor, aiSeq, aiRng1, aiRng2, aiEnum, agN, agNil, agCons, agTup, aSlL, aRev, aNoPart, aPart, aNewK, aNewT, aLc, aWhile, asB, asT, iA, iA0, subA, modA, modP, divP, divA, powA, ltA, leA, gtA, geA, addA, mulA, negA, lenA, absA, intA, allA, listA, tupleA, one, two, sp0, sp1, sp2, sp3, sp4, sp5, sp6, appendA, reverseA, clearA, wipeA, putFA, List.getElem?_cons_zero, List.getElem?_cons_succ, List.set_cons_zero, List.set_cons_succ, List.cons_append, List.nil_append, List.append_nil]
        refine ix_tup rfl ?_
        dsimp only [nb, aRet, aRetN, aSeq, aIfS, aNext, aBreak, aCont, aDrop, aAsg, aPar, aAug, aSetL, aSetF, aFld, aVar, aC, aNil, aCons, aTup, aLst, a1, a2, aN, aAndV, aOrV, aNotV, aIf, aAnd, aOr, aNot, aTest, aChn, aCall, aMeth, aMake, aBmL, aRaise, aTryOnly, aTryAs, aFor, aiSeq, aiRng1, aiRng2, aiEnum, agN, agNil, agCons, agTup, aSlL, aRev, aNoPart, aPart, aNewK, aNewT, aLc, aWhile, asB, asT, iA, iA0, subA, modA, modP, divP, divA, powA, ltA, leA, gtA, geA, addA, mulA, negA, lenA, absA, intA, allA, listA, tupleA, one, two, sp0, sp1, sp2, sp3, sp4, sp5, sp6, appendA, reverseA, clearA, wipeA, putFA, List.getElem?_cons_zero, List.getElem?_cons_succ, List.set_cons_zero, List.set_cons_succ, List.cons_append, List.nil_append, List.append_nil]
        refine ⟨by simp; decide, ix_ref (ex2 _ _ hW) at1 (ix_ref (ex2 _ _ r) at2 ⟨by simp; decide, _, ef2, ?_, ⟨_, rfl⟩, Ext.wr hf ex2, ?_⟩)⟩
        · rw [List.length_append]
          have l1 := allRows_len a b ((g.length : Int) / 2) (g.take j) 0 fun r hr => hw5 r (List.mem_of_mem_take hr)
          have l2 := rowA_len a b ((g.length : Int) / 2) j (g[j].take i) 0
          rw [List.length_take] at l1 l2
          exact Nat.lt_of_le_of_lt (by omega : _ ≤ 100) (by decide)
        · rw [updA_same, sn, List.append_assoc]
          unfold cellA
          rw [if_pos hpos]
      · refine ⟨⟨_, rfl⟩, ex2, ?_⟩
        rw [ef2, sn]
        unfold cellA
        rw [if_neg hnp, List.append_nil]
    · obtain ⟨⟨o5, rfl⟩, ex2, ef2⟩ := pv
      refine ⟨⟨_, _, rfl⟩, ex2, ?_⟩
      rw [← hwl, List.take_length] at ef2
      have sn := allRows_snoc a b ((g.length : Int) / 2) g[j] (g.take j) 0
      rw [← takeS hjg, List.length_take, Nat.min_eq_left (Nat.le_of_lt hjg), Nat.zero_add] at sn
      rw [ef2, sn, hwl]
  · obtain ⟨⟨o4, o5, rfl⟩, ex, ef⟩ := pv
    rw [List.take_length] at ef
    exact q f h' hf ex ef
end GL
namespace GL
open PySem PySem.Spec L2 G
def CellS (x : A) : Prop := ∃ u v w : Int, x = .tup [.tup [.int u, .int v], .int w]
theorem rowA_cell (a b half : Int) (down : Nat) : ∀ (ws : List Int) (i : Nat), ∀ x ∈ rowA a b half down i ws, CellS x
  | [], i, x, h => by simp [rowA] at h
  | v :: ws, i, x, h => by
    unfold rowA at h
    rcases List.mem_append.mp h with h | h
    · unfold cellA at h
      split at h
      · exact ⟨_, _, _, List.mem_singleton.mp h⟩
      · cases h
    · exact rowA_cell a b half down ws (i + 1) x h
theorem allRows_cell (a b half : Int) : ∀ (g : List (List Int)) (j : Nat), ∀ x ∈ allRows a b half j g, CellS x
  | [], j, x, h => by simp [allRows] at h
  | r :: g, j, x, h => by
    unfold allRows at h
    rcases List.mem_append.mp h with h | h
    · exact rowA_cell a b half j r 0 x h
    · exact allRows_cell a b half g (j + 1) x h
theorem paired_refl {α : Type} {F : α → α → Prop} : ∀ {l : List α}, (∀ x ∈ l, F x x) → Paired F l l
  | [], _ => .nil
  | a :: l, h => .cons (h a List.mem_cons_self) (paired_refl fun x hx => h x (List.mem_cons_of_mem _ hx))
theorem cell_same {h : AH} {x : A} (c : CellS x) : SamA h 3 x x := by
  obtain ⟨u, v, w, rfl⟩ := c
  refine .inr (.inr (.inr ⟨_, _, rfl, rfl, .cons ?_ (.cons (.inl ⟨rfl, rfl⟩) .nil)⟩))
  exact .inr (.inr (.inr ⟨_, _, rfl, rfl, .cons (.inl ⟨rfl, rfl⟩) (.cons (.inl ⟨rfl, rfl⟩) .nil)⟩))
theorem list_kind {h : AH} {p : Addr} {xs : List A} (e : h p = some (.lst xs)) : kindA h (.ref p) = some "list" := by simp only [kindA]; rw [e]
theorem GridAt.up {h h' : AH} {W : Addr} {g : List (List Int)} (e : Ext h h') (a : GridAt h W g) : GridAt h' W g := let ⟨ps, h1, h2⟩ := a; ⟨ps, e _ _ h1, Paired.mapP h2 fun _ _ z => e _ _ z⟩
theorem TipAt.up {K : Frg} {h h' : AH} {t : Addr} {g : List (List Int)} (e : Ext h h') (a : TipAt K h t g) : TipAt K h' t g := let ⟨W, h1, h2⟩ := a; ⟨W, e _ _ h1, h2.up e⟩
theorem due_len {g : List (List Int)} (hs : Sq g) (a b : Int) : (dueA a b g).length ≤ 25 := by
  have := allRows_len a b ((g.length : Int) / 2) g 0 fun r hr => by rw [hs.2 r hr]; exact hs.1
  have := hs.1
  unfold dueA
  omega
theorem rd_law_told {K : Frg} (T : TK K) {x0 x1 x2 : A} {h : AH} {Q : AVK} {E : AXK} (hR : R_law_told K x0 x1 x2 h Q E) : t_law_told K { nx := fun _ h' => Q .non h', rt := Q, ex := fun c _ h' => E c h' } [some x0, some x1, some x2, none, none, none] h := by
  obtain ⟨t, R, c, g, rfl, rfl, rfl, ⟨W, ht, hW⟩, hR, hs, ⟨xs, hc, hx⟩, q⟩ := hR
  unfold t_law_told
  dsimp only [nb, aRet, aRetN, aSeq, aIfS, aNext, aBreak, aCont, aDrop, aAsg, aPar, aAug, aSetL, aSetF, aFld, aVar, aC, aNil, aCons, aTup, aLst, a1, a2, aN, aAndV, aOrV, aNotV, aIf, aAnd, aOr, aNot, aTest, aChn, aCall, aMeth, aMake, aBmL, aRaise, aTryOnly, aTryAs, aFor, aiSeq, aiRng1, aiRng2, aiEnum, agN, agNil, agCons, agTup, aSlL, aRev, aNoPart, aPart, aNewK, aNewT, aLc, aWhile, asB, asT, iA, iA0, subA, modA, modP, divP, divA, powA, ltA, leA, gtA, geA, addA, mulA, negA, lenA, absA, intA, allA, listA, tupleA, one, two, sp0, sp1, sp2, sp3, sp4, sp5, sp6, appendA, reverseA, clearA, wipeA, putFA, List.getElem?_cons_zero, List.getElem?_cons_succ, List.set_cons_zero, List.set_cons_succ, List.cons_append, List.nil_append, List.append_nil]
  refine for_it (fun i α h' => (∃ o3 o4 o5, α = [some (.ref t), some (.ref R), some (.ref c), o3, o4, o5]) ∧ Ext h h') (itA_ref.mpr hc) ⟨⟨_, _, _, rfl⟩, Ext.refl h⟩ (fun p e i α h' _ pv => by cases e; exact pv.2 _ _ hc) (fun i hi α h' pv => ?_) fun α h' pv => ?_
  · obtain ⟨⟨o3, o4, o5, rfl⟩, ex⟩ := pv
    obtain ⟨a, b, e⟩ := hx xs[i] (List.getElem_mem hi)
    rw [e]
    dsimp only [nb, aRet, aRetN, aSeq, aIfS, aNext, aBreak, aCont, aDrop, aAsg, aPar, aAug, aSetL, aSetF, aFld, aVar, aC, aNil, aCons, aTup, aLst, a1, a2, aN, aAndV, aOrV, aNotV, aIf, aAnd, aOr, aNot, aTest, aChn, aCall, aMeth, aMake, aBmL, aRaise, aTryOnly, aTryAs, aFor, aiSeq, aiRng1, aiRng2, aiEnum, agN, agNil, agCons, agTup, aSlL, aRev, aNoPart, aPart, aNewK, aNewT, aLc, aWhile, asB, asT, iA, iA0, subA, modA, modP, divP, divA, powA, ltA, leA, gtA, geA, addA, mulA, negA, lenA, absA, intA, allA, listA, tupleA, one, two, sp0, sp1, sp2, sp3, sp4, sp5, sp6, appendA, reverseA, clearA, wipeA, putFA, List.getElem?_cons_zero, List.getElem?_cons_succ, List.set_cons_zero, List.set_cons_succ, List.cons_append, List.nil_append, List.append_nil]
    refine ⟨_, ex _ _ ht, rfl, t, a, b, g, rfl, rfl, ⟨W, ex _ _ ht, hW.up ex⟩, hs, fun f h2 hf ex2 ef => isi_kind (list_kind ef) (ifF ?_)⟩
    refine ⟨R, a, b, g, rfl, rfl, hR.up (ex.trans ex2), hs, fun f2 h3 hf2 ex3 ef2 => ?_⟩
    refine .inr ⟨3, by decide, .inl ⟨f, f2, _, _, rfl, rfl, ex3 _ _ ef, ef2, paired_refl fun x hx => cell_same (allRows_cell _ _ _ _ _ x hx)⟩, ifF ?_⟩
    have hdl := due_len hs a b
    have ex13 := (ex.trans ex2).trans ex3
    refine for_it (fun j α h' => (∃ o5, α = [some (.ref t), some (.ref R), some (.ref c), some (.tup [.int a, .int b]), some (.ref f), o5]) ∧ h' f = some (.lst (dueA a b g)) ∧ Ext h h') (itA_ref.mpr (ex3 _ _ ef)) ⟨⟨_, rfl⟩, ex3 _ _ ef, ex13⟩
      (fun p e i α h' _ pv => by cases e; exact pv.2.1) (fun j hj α h' pv => ?_) fun α h' pv => ?_
    · obtain ⟨⟨o5, rfl⟩, ef3, ex4⟩ := pv
      obtain ⟨u, v, w, e⟩ := allRows_cell _ _ _ _ _ _ (List.getElem_mem hj)
      rw [e]
      dsimp only [nb, aRet, aRetN, aSeq, aIfS, aNext, aBreak, aCont, aDrop, aAsg, aPar, aAug, aSetL, aSetF, aFld, aVar, aC, aNil, aCons, aTup, aLst, a1, a2, aN, aAndV, aOrV, aNotV, aIf, aAnd, aOr, aNot, aTest, aChn, aCall, aMeth, aMake, aBmL, aRaise, aTryOnly, aTryAs, aFor, aiSeq, aiRng1, aiRng2, aiEnum, agN, agNil, agCons, agTup, aSlL, aRev, aNoPart, aPart, aNewK, aNewT, aLc, aWhile, asB, asT, iA, iA0, subA, modA, modP, divP, divA, powA, ltA, leA, gtA, geA, addA, mulA, negA, lenA, absA, intA, allA, listA, tupleA, one, two, sp0, sp1, sp2, sp3, sp4, sp5, sp6, appendA, reverseA, clearA, wipeA, putFA, List.getElem?_cons_zero, List.getElem?_cons_succ, List.set_cons_zero, List.set_cons_succ, List.cons_append, List.nil_append, List.append_nil]
      refine isi_kind rfl (ifF (ix_tup rfl (isi_kind rfl (ifF ⟨⟨_, rfl⟩, ef3, ex4⟩))))
    · obtain ⟨⟨o5, rfl⟩, ef3, ex4⟩ := pv
      dsimp only [nb, aRet, aRetN, aSeq, aIfS, aNext, aBreak, aCont, aDrop, aAsg, aPar, aAug, aSetL, aSetF, aFld, aVar, aC, aNil, aCons, aTup, aLst, a1, a2, aN, aAndV, aOrV, aNotV, aIf, aAnd, aOr, aNot, aTest, aChn, aCall, aMeth, aMake, aBmL, aRaise, aTryOnly, aTryAs, aFor, aiSeq, aiRng1, aiRng2, aiEnum, agN, agNil, agCons, agTup, aSlL, aRev, aNoPart, aPart, aNewK, aNewT, aLc, aWhile, asB, asT, iA, iA0, subA, modA, modP, divP, divA, powA, ltA, leA, gtA, geA, addA, mulA, negA, lenA, absA, intA, allA, listA, tupleA, one, two, sp0, sp1, sp2, sp3, sp4, sp5, sp6, appendA, reverseA, clearA, wipeA, putFA, List.getElem?_cons_zero, List.getElem?_cons_succ, List.set_cons_zero, List.set_cons_succ, List.cons_append, List.nil_append, List.append_nil]
      refine ⟨⟨_, ef3⟩, by simp; decide, by simp; decide, _, ef3, Nat.lt_of_le_of_lt hdl (by decide), ⟨_, _, _, rfl⟩, Ext.wr (ex.isN hf) ex4⟩
  · obtain ⟨⟨o3, o4, o5, rfl⟩, ex⟩ := pv
    exact q h' ex
theorem rd_law_changed {K : Frg} (T : TK K) {x0 : A} {h : AH} {Q : AVK} {E : AXK} (hR : R_law_changed K x0 h Q E) : t_law_changed K { nx := fun _ h' => Q .non h', rt := Q, ex := fun c _ h' => E c h' } [some x0, none] h := by
  obtain ⟨xs, hx, hl, hne, hr, q⟩ := hR
  unfold t_law_changed
  dsimp only [nb, aRet, aRetN, aSeq, aIfS, aNext, aBreak, aCont, aDrop, aAsg, aPar, aAug, aSetL, aSetF, aFld, aVar, aC, aNil, aCons, aTup, aLst, a1, a2, aN, aAndV, aOrV, aNotV, aIf, aAnd, aOr, aNot, aTest, aChn, aCall, aMeth, aMake, aBmL, aRaise, aTryOnly, aTryAs, aFor, aiSeq, aiRng1, aiRng2, aiEnum, agN, agNil, agCons, agTup, aSlL, aRev, aNoPart, aPart, aNewK, aNewT, aLc, aWhile, asB, asT, iA, iA0, subA, modA, modP, divP, divA, powA, ltA, leA, gtA, geA, addA, mulA, negA, lenA, absA, intA, allA, listA, tupleA, one, two, sp0, sp1, sp2, sp3, sp4, sp5, sp6, appendA, reverseA, clearA, wipeA, putFA, List.getElem?_cons_zero, List.getElem?_cons_succ, List.set_cons_zero, List.set_cons_succ, List.cons_append, List.nil_append, List.append_nil]
  have rowsOk : ∀ p, A.ref p ∈ xs → ∃ (w : Int) (ws : List Int), h p = some (.lst ((w :: ws).map A.int)) ∧ ws.length ≤ 1000 + 0 := fun p hp => by
    rcases hr _ hp with ⟨ws, e⟩ | ⟨p2, w, ws, e, e2, l⟩
    · cases e
    · cases e
      exact ⟨w, ws, e2, l⟩
  have apart : ∀ (h' : AH) (p p2 : Addr) (w : Int) (ws : List Int), h' p = some (.lst xs) → h' p2 = some (.lst ((w :: ws).map A.int)) → p ≠ p2 := fun h' p p2 w ws e1 e2 z => by
    subst z
    rw [e1] at e2
    have e3 : xs = (w :: ws).map A.int := by injection e2 with e; injection e
    rcases hr (.int w) (by rw [e3]; exact List.mem_cons_self) with ⟨_, z⟩ | ⟨_, _, _, z, _⟩ <;> cases z
  refine for_it (fun i α h' => (∃ o1, α = [some x0, o1]) ∧ Fx (fun p => x0 = .ref p ∨ A.ref p ∈ xs) h h' ∧ (∀ p, x0 = .ref p → h' p = some (.lst xs)) ∧ ∀ p, A.ref p ∈ xs → ∃ (w : Int) (ws : List Int), h' p = some (.lst ((w :: ws).map A.int)) ∧ ws.length ≤ 1000 + i)
    hx ⟨⟨_, rfl⟩, Fx.refl h, fun p e => by subst e; exact itA_ref.mp hx, rowsOk⟩ (fun p e i α h' _ pv => pv.2.2.1 p e) (fun i hi α h' pv => ?_) fun α h' pv => ?_
  · obtain ⟨⟨o1, rfl⟩, fx, px, pr⟩ := pv
    have hm := List.getElem_mem hi
    rcases hr _ hm with ⟨ws, e⟩ | ⟨p, _, _, e, _, _⟩
    · rw [e]
      dsimp only [nb, aRet, aRetN, aSeq, aIfS, aNext, aBreak, aCont, aDrop, aAsg, aPar, aAug, aSetL, aSetF, aFld, aVar, aC, aNil, aCons, aTup, aLst, a1, a2, aN, aAndV, aOrV, aNotV, aIf, aAnd, aOr, aNot, aTest, aChn, aCall, aMeth, aMake, aBmL, aRaise, aTryOnly, aTryAs, aFor, aiSeq, aiRng1, aiRng2, aiEnum, agN, agNil, agCons, agTup, aSlL, aRev, aNoPart, aPart, aNewK, aNewT, aLc, aWhile, asB, asT, iA, iA0, subA, modA, modP, divP, divA, powA, ltA, leA, gtA, geA, addA, mulA, negA, lenA, absA, intA, allA, listA, tupleA, one, two, sp0, sp1, sp2, sp3, sp4, sp5, sp6, appendA, reverseA, clearA, wipeA, putFA, List.getElem?_cons_zero, List.getElem?_cons_succ, List.set_cons_zero, List.set_cons_succ, List.cons_append, List.nil_append, List.append_nil]
      exact isi_kind rfl (ifF ⟨⟨_, rfl⟩, fx, px, fun p hp => let ⟨w, ws, e, l⟩ := pr p hp; ⟨w, ws, e, by omega⟩⟩)
    · rw [e] at hm ⊢
      obtain ⟨w, ws, e2, l⟩ := pr p hm
      have e2c := e2
      rw [List.map_cons] at e2
      dsimp only [nb, aRet, aRetN, aSeq, aIfS, aNext, aBreak, aCont, aDrop, aAsg, aPar, aAug, aSetL, aSetF, aFld, aVar, aC, aNil, aCons, aTup, aLst, a1, a2, aN, aAndV, aOrV, aNotV, aIf, aAnd, aOr, aNot, aTest, aChn, aCall, aMeth, aMake, aBmL, aRaise, aTryOnly, aTryAs, aFor, aiSeq, aiRng1, aiRng2, aiEnum, agN, agNil, agCons, agTup, aSlL, aRev, aNoPart, aPart, aNewK, aNewT, aLc, aWhile, asB, asT, iA, iA0, subA, modA, modP, divP, divA, powA, ltA, leA, gtA, geA, addA, mulA, negA, lenA, absA, intA, allA, listA, tupleA, one, two, sp0, sp1, sp2, sp3, sp4, sp5, sp6, appendA, reverseA, clearA, wipeA, putFA, List.getElem?_cons_zero, List.getElem?_cons_succ, List.set_cons_zero, List.set_cons_succ, List.cons_append, List.nil_append, List.append_nil]
      refine isi_kind (list_kind e2) (ifT ?_)
      refine ⟨⟨_, e2⟩, _, e2, ?_, ?_⟩
      · rw [List.length_cons, List.length_map]
        exact Nat.lt_of_le_of_lt (by omega : _ ≤ 2002) (by decide)
      · dsimp only [nb, aRet, aRetN, aSeq, aIfS, aNext, aBreak, aCont, aDrop, aAsg, aPar, aAug, aSetL, aSetF, aFld, aVar, aC, aNil, aCons, aTup, aLst, a1, a2, aN, aAndV, aOrV, aNotV, aIf, aAnd, aOr, aNot, aTest, aChn, aCall, aMeth, aMake, aBmL, aRaise, aTryOnly, aTryAs, aFor, aiSeq, aiRng1, aiRng2, aiEnum, agN, agNil, agCons, agTup, aSlL, aRev, aNoPart, aPart, aNewK, aNewT, aLc, aWhile, asB, asT, iA, iA0, subA, modA, modP, divP, divA, powA, ltA, leA, gtA, geA, addA, mulA, negA, lenA, absA, intA, allA, listA, tupleA, one, two, sp0, sp1, sp2, sp3, sp4, sp5, sp6, appendA, reverseA, clearA, wipeA, putFA, List.getElem?_cons_zero, List.getElem?_cons_succ, List.set_cons_zero, List.set_cons_succ, List.cons_append, List.nil_append, List.append_nil]
        refine ix_ref updA_same atI_cons ?_
        refine ⟨_, _, updA_same, ixN_zero, ⟨_, rfl⟩, Fx.wr' (.inl (.inr hm)) (Fx.wr' (.inl (.inr hm)) fx), fun p2 z => ?_, fun p2 hp2 => ?_⟩
        · have := px p2 z
          have ne := apart h' p2 p w ws this e2c
          rw [updA_ne ne, updA_ne ne]
          exact this
        · by_cases z : p2 = p
          · subst z
            refine ⟨16 - w, ws ++ [5], ?_, by rw [List.length_append]; simp; omega⟩
            rw [updA_same]
            simp
          · obtain ⟨w2, ws2, e3, l2⟩ := pr p2 hp2
            exact ⟨w2, ws2, by rw [updA_ne z, updA_ne z]; exact e3, by omega⟩
  · obtain ⟨⟨o1, rfl⟩, fx, px, pr⟩ := pv
    dsimp only [nb, aRet, aRetN, aSeq, aIfS, aNext, aBreak, aCont, aDrop, aAsg, aPar, aAug, aSetL, aSetF, aFld, aVar, aC, aNil, aCons, aTup, aLst, a1, a2, aN, aAndV, aOrV, aNotV, aIf, aAnd, aOr, aNot, aTest, aChn, aCall, aMeth, aMake, aBmL, aRaise, aTryOnly, aTryAs, aFor, aiSeq, aiRng1, aiRng2, aiEnum, agN, agNil, agCons, agTup, aSlL, aRev, aNoPart, aPart, aNewK, aNewT, aLc, aWhile, asB, asT, iA, iA0, subA, modA, modP, divP, divA, powA, ltA, leA, gtA, geA, addA, mulA, negA, lenA, absA, intA, allA, listA, tupleA, one, two, sp0, sp1, sp2, sp3, sp4, sp5, sp6, appendA, reverseA, clearA, wipeA, putFA, List.getElem?_cons_zero, List.getElem?_cons_succ, List.set_cons_zero, List.set_cons_succ, List.cons_append, List.nil_append, List.append_nil]
    rcases kind_it hx with ⟨_, p, rfl, _⟩ | ⟨_, rfl⟩
    · have e := px p rfl
      refine isi_kind (list_kind e) (ifT ?_)
      refine ⟨⟨_, e⟩, _, e, ⟨_, updA_same⟩, by simp; decide, fun p3 hp3 => ⟨_, (Ext.new hp3) _ _ updA_same, ?_, ?_⟩⟩
      · rw [List.length_reverse]
        exact Nat.lt_of_le_of_lt hl (by decide)
      · have fx2 := Fx.wr' (p := p) (o := .lst xs.reverse) (.inl (.inl rfl)) fx
        exact q _ (Fx.wr' (.inl (.inl rfl)) (fx2.trans (Fx.new hp3)))
    · exact isi_kind rfl (ifF (q _ fx))
end GL
namespace GL
open PySem PySem.Spec L2 G
section
variable {h h' : AH}
theorem notSeq.up (e : Ext h h') {x : A} (q : notSeq h x) : notSeq h' x := let ⟨k, a, b, c⟩ := q; ⟨k, kindA_up e a, b, c⟩
theorem PlD.up (e : Ext h h') : ∀ (n : Nat) (x : A), PlD h n x → PlD h' n x
  | 0, _, q => q
  | n + 1, _, q => q.elim (fun q => .inl (q.up e)) fun ⟨xs, a, b, c⟩ => .inr ⟨xs, itA_up e a, b, fun y hy => PlD.up e n y (c y hy)⟩
theorem SamR.up (e : Ext h h') {F F' : A → A → Prop} (k : ∀ x y, F x y → F' x y) {x y : A} (q : SamR h F x y) : SamR h' F' x y := by
  rcases q with ⟨a, b, xs, ys, e1, e2, h1, h2, p⟩ | ⟨xs, ys, e1, e2, p⟩
  · exact .inl ⟨a, b, xs, ys, e1, e2, e _ _ h1, e _ _ h2, Paired.mapP p k⟩
  · exact .inr ⟨xs, ys, e1, e2, Paired.mapP p k⟩
theorem SamA.up (e : Ext h h') : ∀ (n : Nat) (x y : A), SamA h n x y → SamA h' n x y
  | 0, _, _, q => q
  | n + 1, _, _, q => by
    rcases q with q | q | q
    · exact .inl q
    · exact .inr (.inl q)
    · exact .inr (.inr (SamR.up e (SamA.up e n) q))
theorem notSeq_it {x : A} {xs : List A} (q : notSeq h x) : itA h x ≠ some xs := fun e => by
  obtain ⟨k, a, b, c⟩ := q
  rcases kind_it e with ⟨e, _⟩ | ⟨e, _⟩ <;> rw [a] at e <;> cases e
  · cases b
  · cases c
theorem notSeq_same {n : Nat} {x : A} (q : notSeq h x) : SamA h' (n + 1) x x := by
  obtain ⟨k, a, b, c⟩ := q
  cases x with
  | ref p => exact .inr (.inl ⟨p, rfl, rfl⟩)
  | tup xs => cases a; cases c
  | kt xs => cases a; cases c
  | ty n => cases a
  | fls xs => cases a
  | _ => exact .inl ⟨rfl, rfl⟩
end
theorem rd_law_copied {K : Frg} (T : TK K) {n : Nat} {x0 : A} {h : AH} {Q : AVK} {E : AXK} (hR : R_law_copied (n + 1) K x0 h Q E) : t_law_copied n K { nx := fun _ h' => Q .non h', rt := Q, ex := fun c _ h' => E c h' } [some x0, none] h := by
  obtain ⟨M, hM, hp, q⟩ := hR
  unfold t_law_copied
  dsimp only [nb, aRet, aRetN, aSeq, aIfS, aNext, aBreak, aCont, aDrop, aAsg, aPar, aAug, aSetL, aSetF, aFld, aVar, aC, aNil, aCons, aTup, aLst, a1, a2, aN, aAndV, aOrV, aNotV, aIf, aAnd, aOr, aNot, aTest, aChn, aCall, aMeth, aMake, aBmL, aRaise, aTryOnly, aTryAs, aFor, aiSeq, aiRng1, aiRng2, aiEnum, agN, agNil, agCons, agTup, aSlL, aRev, aNoPart, aPart, aNewK, aNewT, aLc, aWhile, asB, asT, iA, iA0, subA, modA, modP, divP, divA, powA, ltA, leA, gtA, geA, addA, mulA, negA, lenA, absA, intA, allA, listA, tupleA, one, two, sp0, sp1, sp2, sp3, sp4, sp5, sp6, appendA, reverseA, clearA, wipeA, putFA, List.getElem?_cons_zero, List.getElem?_cons_succ, List.set_cons_zero, List.set_cons_succ, List.cons_append, List.nil_append, List.append_nil]
  rcases hp with ⟨k, hk, k1, k2⟩ | ⟨xs, hx, hl, hr⟩
  · have ns : notSeq h x0 := notSeq.up hid_ext ⟨k, hk, k1, k2⟩
    have hk' := kindA_up hid_ext hk
    refine isi_kind hk' ?_
    rw [k1]
    refine ifF (isi_kind hk' ?_)
    rw [k2]
    exact ifF (q _ _ (Ext.refl h) (notSeq_same ns) fun xs e => absurd e (notSeq_it ns))
  · have hx' := itA_up hid_ext hx
    have comp : ∀ Q' : Addr → AH → Prop, (∀ D zs h', h D = none → Ext h h' → hid M h' D = some (.lst zs) → Paired (SamA (hid M h') n) xs zs → Q' D h') →
        seqOf x0 h fun S => ∀ D, h D = none → lcS S (agN 1) aYes (aCall (sp_law_copied n K) [] (aCons (aVar 1) aNil)) [1] [some x0, none] h D fun h2 => Q' D h2 := fun Q' fin => by
      refine lc_it (fun D i h2 => Ext h h2 ∧ ∃ zs, h2 D = some (.lst zs) ∧ Paired (SamA (hid (fun p => M p ∨ p = D) h2) n) (xs.take i) zs) hx' (fun D hD => ⟨Ext.new hD, [], updA_same, .nil⟩) (fun D hD p e i h2 _ pv => by subst e; exact pv.1 _ _ (itA_ref.mp hx'))
        (fun D hD i hi h2 pv => ?_) fun D hD h2 pv => ?_
      · obtain ⟨ex, zs, e, pp⟩ := pv
        cases n with
        | zero => exact absurd (hr xs[i] (List.getElem_mem hi)) (fun z => z)
        | succ n =>
          refine ⟨fun p => M p ∨ p = D, fun p hp => ?_, ?_, fun z h3 ex2 sm _ => ⟨zs, ex2 _ _ e, ?_, Ext.wr hD (ex.trans ex2), zs ++ [z], updA_same, ?_⟩⟩
          · rcases hp with hp | rfl
            · exact fun z => hM p hp (ex.isN z)
            · rw [e]; simp
          · refine PlD.up ?_ _ _ (hr xs[i] (List.getElem_mem hi))
            exact fun p o z => hid_of (fun m => m.elim (hid_some z).1 fun m => by subst m; have z2 := (hid_some z).2; rw [hD] at z2; cases z2) (ex _ _ (hid_some z).2)
          · have := pp.length
            rw [List.length_take] at this
            exact Nat.lt_of_le_of_lt (by omega : _ ≤ 1000) (by decide)
          · rw [takeS hi]
            have up : ∀ h4 : AH, Ext h2 h4 → Ext (hid (fun p => M p ∨ p = D) h2) (hid (fun p => M p ∨ p = D) (updA h4 D (.lst (zs ++ [z])))) := fun h4 ex4 p o y => by
              have y1 := hid_some y
              exact hid_of y1.1 (by rw [updA_ne (fun w => y1.1 (.inr w))]; exact ex4 _ _ y1.2)
            have up2 : Ext (hid (fun p => M p ∨ p = D) h3) (hid (fun p => M p ∨ p = D) (updA h3 D (.lst (zs ++ [z])))) := fun p o y => by
              have y1 := hid_some y
              exact hid_of y1.1 (by rw [updA_ne (fun w => y1.1 (.inr w))]; exact y1.2)
            exact PySem.Paired.snoc (Paired.mapP pp fun a b s => SamA.up (up h3 ex2) _ _ _ s) (SamA.up up2 _ _ _ sm)
      · obtain ⟨ex, zs, e, pp⟩ := pv
        rw [List.take_length] at pp
        exact fin D zs h2 hD ex (hid_of (fun m => hM D m hD) e) (Paired.mapP pp fun a b s => SamA.up (hid_sub fun p m => .inl m) _ _ _ s)
    rcases kind_it hx with ⟨hk, p, rfl, hp⟩ | ⟨hk, rfl⟩
    · refine isi_kind (kindA_up hid_ext hk) (ifT ?_)
      refine comp _ fun D zs h' hD ex eD pp => ?_
      have s : SamR (hid M h') (SamA (hid M h') n) (.ref p) (.ref D) := .inl ⟨p, D, xs, zs, rfl, rfl, ex.hd _ _ hp, eD, pp⟩
      exact q _ _ ex (.inr (.inr s)) fun _ _ => s
    · refine isi_kind rfl (ifF (isi_kind rfl (ifT ?_)))
      refine comp _ fun D zs h' hD ex eD pp => ⟨zs, hid_ext _ _ eD, ?_⟩
      have s : SamR (hid M h') (SamA (hid M h') n) (.tup xs) (.tup zs) := .inr ⟨xs, zs, rfl, rfl, pp⟩
      exact q _ _ ex (.inr (.inr s)) fun _ _ => s
end GL
namespace GL
open PySem PySem.Spec L2 G
section
variable {h h' : AH}
theorem GoodG.up (e : Ext h h') {x : A} {g : List (List Int)} (q : GoodG h x g) : GoodG h' x g := let ⟨a, xs, b, p⟩ := q; ⟨a, xs, itA_up e b, Paired.mapP p fun _ _ z => ⟨itA_up e z.1, z.2⟩⟩
theorem Kinds.up (e : Ext h h') {xs : List A} (q : Kinds h xs) : Kinds h' xs := ⟨q.1, fun a ha => let ⟨k, z⟩ := q.2 a ha; ⟨k, kindA_up e z⟩⟩
theorem KD.up (e : Ext h h') {x : A} (q : KD h x) : KD h' x := q.elim (fun q => .inl (q.up e)) fun ⟨xs, a, b, c⟩ => .inr ⟨xs, itA_up e a, b, fun r hr => (c r hr).elim (fun q => .inl (q.up e)) fun ⟨ws, a, b⟩ => .inr ⟨ws, itA_up e a, b.up e⟩⟩
theorem itA_ins {t C : Addr} {fs : List (Str × A)} {x : A} {xs : List A} (q : itA (updA h t (.ins C fs)) x = some xs) : itA h x = some xs := by
  cases x with
  | ref p =>
    have e := itA_ref.mp q
    by_cases z : p = t
    · subst z; rw [updA_same] at e; cases e
    · rw [updA_ne z] at e; exact itA_ref.mpr e
  | _ => exact q
theorem GoodG.ins {t C : Addr} {fs : List (Str × A)} {x : A} {g : List (List Int)} (q : GoodG (updA h t (.ins C fs)) x g) : GoodG h x g := let ⟨a, xs, b, p⟩ := q; ⟨a, xs, itA_ins b, Paired.mapP p fun _ _ z => ⟨itA_ins z.1, z.2⟩⟩
theorem kitAny_no {K : Frg} {t : Value} : ∀ {cs : List Value}, (∀ c ∈ cs, PySem.W.kitOne K t c = some false) → PySem.W.kitAny K t cs = some false
  | [], _ => rfl
  | c :: cs, h => by
    unfold PySem.W.kitAny
    rw [h c List.mem_cons_self]
    exact kitAny_no fun c hc => h c (List.mem_cons_of_mem _ hc)
end
theorem rd_law_refused {K : Frg} (T : TK K) {x0 : A} {h : AH} {Q : AVK} {E : AXK} (hR : R_law_refused K x0 h Q E) : t_law_refused K { nx := fun _ h' => Q .non h', rt := Q, ex := fun c _ h' => E c h' } [some x0, none, none, none] h := by
  obtain ⟨hk, q⟩ := hR
  unfold t_law_refused
  dsimp only [nb, aRet, aRetN, aSeq, aIfS, aNext, aBreak, aCont, aDrop, aAsg, aPar, aAug, aSetL, aSetF, aFld, aVar, aC, aNil, aCons, aTup, aLst, a1, a2, aN, aAndV, aOrV, aNotV, aIf, aAnd, aOr, aNot, aTest, aChn, aCall, aMeth, aMake, aBmL, aRaise, aTryOnly, aTryAs, aFor, aiSeq, aiRng1, aiRng2, aiEnum, agN, agNil, agCons, agTup, aSlL, aRev, aNoPart, aPart, aNewK, aNewT, aLc, aWhile, asB, asT, iA, iA0, subA, modA, modP, divP, divA, powA, ltA, leA, gtA, geA, addA, mulA, negA, lenA, absA, intA, allA, listA, tupleA, one, two, sp0, sp1, sp2, sp3, sp4, sp5, sp6, appendA, reverseA, clearA, wipeA, putFA, List.getElem?_cons_zero, List.getElem?_cons_succ, List.set_cons_zero, List.set_cons_succ, List.cons_append, List.nil_append, List.append_nil]
  intro t ht
  have e0 : Ext h (updA h t (.ins (c_Tip K) [])) := Ext.new ht
  refine ⟨t, rfl, updA_same, hk.up e0, ?_, fun g G h' W fx _ _ => ?_, fun no h' ex => ?_⟩
  · rintro rfl
    rcases hk with ⟨k, z, _⟩ | ⟨xs, z, _⟩
    · simp only [kindA] at z
      rw [ht] at z
      cases z
    · have z := itA_ref.mp z
      rw [ht] at z
      cases z
  · exact q false h' ⟨(fun z => nomatch z), fun z => (z ⟨g, G.ins⟩).elim⟩ fun p o z => fx p o (fun y => by subst y; rw [ht] at z; cases z) (e0 _ _ z)
  · refine ⟨true, T.em_NoTip_NoTip, fun _ => ⟨_, rfl, T.e_NoTip, fun a ha => ⟨by simp; decide, ?_⟩⟩, fun z => nomatch z⟩
    refine ⟨rfl, rfl, false, kitAny_no ?_, ?_⟩
    · intro c hc
      simp only [List.map_cons, List.map_nil, clsU, List.mem_cons, List.not_mem_nil, or_false] at hc
      rcases hc with rfl | rfl | rfl | rfl | rfl | rfl | rfl
      · exact T.ki_NoTip_NoBundle
      · exact T.ki_NoTip_NoFraction
      · exact T.ki_NoTip_NoGain
      · exact T.ki_NoTip_NoLayer
      · exact T.ki_NoTip_NoManner
      · exact T.ki_NoTip_NoPlace
      · exact T.ki_NoTip_NoShade
    · refine ifF ⟨by simp; decide, rfl, rfl, false, kitAny_no ?_, ?_⟩
      · intro c hc
        simp only [List.map_cons, List.map_nil, clsU, List.mem_cons, List.not_mem_nil, or_false] at hc
        rcases hc with rfl | rfl | rfl | rfl | rfl
        · exact T.ki_NoTip_NoSixteenth
        · exact T.ki_NoTip_NoStand
        · exact T.ki_NoTip_NoTile
        · exact T.ki_NoTip_TooMany
        · exact T.ki_NoTip_Within
      · refine ⟨rfl, rfl, true, T.ki_NoTip_HallError, ifT ⟨rfl, rfl, true, T.ki_NoTip_ValueError, ifT ?_⟩⟩
        exact q true h' ⟨fun _ ⟨g, G⟩ => no ⟨g, G.up e0⟩, fun _ => rfl⟩ (e0.trans ex)
theorem rd_law_good {K : Frg} (T : TK K) {x0 : A} {h : AH} {Q : AVK} {E : AXK} (hR : R_law_good K x0 h Q E) : t_law_good K { nx := fun _ h' => Q .non h', rt := Q, ex := fun c _ h' => E c h' } [some x0, none, none] h := by
  obtain ⟨R, xs, rfl, ⟨hR, hl, hr⟩, q⟩ := hR
  unfold t_law_good
  dsimp only [nb, aRet, aRetN, aSeq, aIfS, aNext, aBreak, aCont, aDrop, aAsg, aPar, aAug, aSetL, aSetF, aFld, aVar, aC, aNil, aCons, aTup, aLst, a1, a2, aN, aAndV, aOrV, aNotV, aIf, aAnd, aOr, aNot, aTest, aChn, aCall, aMeth, aMake, aBmL, aRaise, aTryOnly, aTryAs, aFor, aiSeq, aiRng1, aiRng2, aiEnum, agN, agNil, agCons, agTup, aSlL, aRev, aNoPart, aPart, aNewK, aNewT, aLc, aWhile, asB, asT, iA, iA0, subA, modA, modP, divP, divA, powA, ltA, leA, gtA, geA, addA, mulA, negA, lenA, absA, intA, allA, listA, tupleA, one, two, sp0, sp1, sp2, sp3, sp4, sp5, sp6, appendA, reverseA, clearA, wipeA, putFA, List.getElem?_cons_zero, List.getElem?_cons_succ, List.set_cons_zero, List.set_cons_succ, List.cons_append, List.nil_append, List.append_nil, inSA, eqA]
  refine seqA_it (itA_ref.mpr hR) ⟨by simp; decide, fun p hp => ⟨_, updA_same, ⟨rfl, rfl⟩, ?_⟩⟩
  have hin : inA (.int (xs.length : Int)) [.int 1, .int 3, .int 5] = decide (xs.length = 1 ∨ xs.length = 3 ∨ xs.length = 5) := by
    rw [Bool.eq_iff_iff]
    simp [inA, eqFA]
    omega
  rw [hin]
  have e0 : Ext h (updA h p (.lst [.int 1, .int 3, .int 5])) := Ext.new hp
  have hx : itA h (.ref R) = some xs := itA_ref.mpr hR
  refine ifnd (fun bad => ?_) fun good => ?_
  · refine q false _ ⟨(fun z => nomatch z), fun ⟨g, G⟩ => (bad ?_).elim⟩ e0
    rw [good_len hx G]
    exact G.1
  · refine for_it (fun i α h' => (∃ o1 o2, α = [some (.ref R), o1, o2]) ∧ Ext h h' ∧ ∀ j (hj : j < xs.length), j < i → ∃ ws : List Int, RowG h xs.length xs[j] ws) (itA_up e0 hx) ⟨⟨_, _, rfl⟩, e0, fun _ _ z => absurd z (Nat.not_lt_zero _)⟩ (fun p e i α h' _ pv => by cases e; exact pv.2.1 _ _ hR) (fun i hi α h' pv => ?_) fun α h' pv => ?_
    · obtain ⟨⟨o1, o2, rfl⟩, ex, done⟩ := pv
      have bad : (¬ ∃ ws : List Int, RowG h xs.length xs[i] ws) → ∀ h', Ext h h' → Q (.bl false) h' := fun no h' e => q false h' ⟨(fun z => nomatch z), fun ⟨g, G⟩ => (no (good_row hx G hi)).elim⟩ e
      rcases hr xs[i] (List.getElem_mem hi) with ns | ⟨p, ws, e, hw, hwl, hwk⟩
      · obtain ⟨k, z1, z2, z3⟩ := ns
        dsimp only [nb, aRet, aRetN, aSeq, aIfS, aNext, aBreak, aCont, aDrop, aAsg, aPar, aAug, aSetL, aSetF, aFld, aVar, aC, aNil, aCons, aTup, aLst, a1, a2, aN, aAndV, aOrV, aNotV, aIf, aAnd, aOr, aNot, aTest, aChn, aCall, aMeth, aMake, aBmL, aRaise, aTryOnly, aTryAs, aFor, aiSeq, aiRng1, aiRng2, aiEnum, agN, agNil, agCons, agTup, aSlL, aRev, aNoPart, aPart, aNewK, aNewT, aLc, aWhile, asB, asT, iA, iA0, subA, modA, modP, divP, divA, powA, ltA, leA, gtA, geA, addA, mulA, negA, lenA, absA, intA, allA, listA, tupleA, one, two, sp0, sp1, sp2, sp3, sp4, sp5, sp6, appendA, reverseA, clearA, wipeA, putFA, List.getElem?_cons_zero, List.getElem?_cons_succ, List.set_cons_zero, List.set_cons_succ, List.cons_append, List.nil_append, List.append_nil, eqA]
        refine isi_kind (kindA_up ex z1) ?_
        rw [z2]
        refine ifT (ifT (bad (fun ⟨ws, e, _⟩ => notSeq_it ⟨k, z1, z2, z3⟩ e) _ ex))
      · have hxi : itA h xs[i] = some ws := by rw [e]; exact itA_ref.mpr hw
        rw [e]
        dsimp only [nb, aRet, aRetN, aSeq, aIfS, aNext, aBreak, aCont, aDrop, aAsg, aPar, aAug, aSetL, aSetF, aFld, aVar, aC, aNil, aCons, aTup, aLst, a1, a2, aN, aAndV, aOrV, aNotV, aIf, aAnd, aOr, aNot, aTest, aChn, aCall, aMeth, aMake, aBmL, aRaise, aTryOnly, aTryAs, aFor, aiSeq, aiRng1, aiRng2, aiEnum, agN, agNil, agCons, agTup, aSlL, aRev, aNoPart, aPart, aNewK, aNewT, aLc, aWhile, asB, asT, iA, iA0, subA, modA, modP, divP, divA, powA, ltA, leA, gtA, geA, addA, mulA, negA, lenA, absA, intA, allA, listA, tupleA, one, two, sp0, sp1, sp2, sp3, sp4, sp5, sp6, appendA, reverseA, clearA, wipeA, putFA, List.getElem?_cons_zero, List.getElem?_cons_succ, List.set_cons_zero, List.set_cons_succ, List.cons_append, List.nil_append, List.append_nil, eqA]
        refine isi_kind (list_kind (ex _ _ hw)) (ifF ?_)
        refine seqA_it (itA_ref.mpr (ex _ _ hw)) (seqA_it (itA_up ex hx) ?_)
        refine ifnd (fun hne => ?_) fun hne => ?_
        · exact (bad (fun ⟨is, e, l, _⟩ => hne (by rw [hxi] at e; cases e; rw [List.length_map, l])) _ ex)
        · refine for_it (fun j α h' => (∃ o2, α = [some (.ref R), some (.ref p), o2]) ∧ Ext h h' ∧ ∃ is : List Int, ws.take j = is.map A.int ∧ ∀ i ∈ is, 0 ≤ i ∧ i ≤ 16) (itA_ref.mpr (ex _ _ hw)) ⟨⟨_, rfl⟩, ex, [], rfl, fun _ h => nomatch h⟩
            (fun p2 e2 j α h' _ pv => by cases e2; exact pv.2.1 _ _ hw) (fun j hj α h' pv => ?_) fun α h' pv => ?_
          · obtain ⟨⟨o2, rfl⟩, ex2, is, ei, ki⟩ := pv
            dsimp only [nb, aRet, aRetN, aSeq, aIfS, aNext, aBreak, aCont, aDrop, aAsg, aPar, aAug, aSetL, aSetF, aFld, aVar, aC, aNil, aCons, aTup, aLst, a1, a2, aN, aAndV, aOrV, aNotV, aIf, aAnd, aOr, aNot, aTest, aChn, aCall, aMeth, aMake, aBmL, aRaise, aTryOnly, aTryAs, aFor, aiSeq, aiRng1, aiRng2, aiEnum, agN, agNil, agCons, agTup, aSlL, aRev, aNoPart, aPart, aNewK, aNewT, aLc, aWhile, asB, asT, iA, iA0, subA, modA, modP, divP, divA, powA, ltA, leA, gtA, geA, addA, mulA, negA, lenA, absA, intA, allA, listA, tupleA, one, two, sp0, sp1, sp2, sp3, sp4, sp5, sp6, appendA, reverseA, clearA, wipeA, putFA, List.getElem?_cons_zero, List.getElem?_cons_succ, List.set_cons_zero, List.set_cons_succ, List.cons_append, List.nil_append, List.append_nil]
            have bad2 : sixA ws[j] = false → Q (.bl false) h' := fun z => bad (fun ⟨is, e, _, k⟩ => by
              rw [hxi] at e
              cases e
              have := List.all_eq_true.mp (six_all k) _ (List.getElem_mem hj)
              rw [z] at this
              cases this) _ ex2
            have hkind : ∃ k, kindA h ws[j] = some k := by
              rcases hwk _ (List.getElem_mem hj) with ⟨k, z, _⟩ | ⟨ys, z, _⟩
              · exact ⟨k, z⟩
              · rcases kind_it z with ⟨z, _⟩ | ⟨z, _⟩ <;> exact ⟨_, z⟩
            obtain ⟨k, hk⟩ := hkind
            have good2 : sixA ws[j] = true → ∃ is : List Int, ws.take (j + 1) = is.map A.int ∧ ∀ i ∈ is, 0 ≤ i ∧ i ≤ 16 := fun z => by
              obtain ⟨js, e, k⟩ := all_six (ws := [ws[j]]) (by rw [List.all_cons, z]; rfl)
              exact ⟨is ++ js, by rw [takeS hj, List.map_append, ei, e], fun i hi => (List.mem_append.mp hi).elim (ki i) (k i)⟩
            refine isi_kind (kindA_up ex2 hk) ?_
            generalize ws[j] = a at bad2 good2 hk ⊢
            cases a with
            | int z =>
              cases hk
              refine ifF (isi_kind rfl (ifF ?_))
              dsimp only [nb, aRet, aRetN, aSeq, aIfS, aNext, aBreak, aCont, aDrop, aAsg, aPar, aAug, aSetL, aSetF, aFld, aVar, aC, aNil, aCons, aTup, aLst, a1, a2, aN, aAndV, aOrV, aNotV, aIf, aAnd, aOr, aNot, aTest, aChn, aCall, aMeth, aMake, aBmL, aRaise, aTryOnly, aTryAs, aFor, aiSeq, aiRng1, aiRng2, aiEnum, agN, agNil, agCons, agTup, aSlL, aRev, aNoPart, aPart, aNewK, aNewT, aLc, aWhile, asB, asT, iA, iA0, subA, modA, modP, divP, divA, powA, ltA, leA, gtA, geA, addA, mulA, negA, lenA, absA, intA, allA, listA, tupleA, one, two, sp0, sp1, sp2, sp3, sp4, sp5, sp6, appendA, reverseA, clearA, wipeA, putFA, List.getElem?_cons_zero, List.getElem?_cons_succ, List.set_cons_zero, List.set_cons_succ, List.cons_append, List.nil_append, List.append_nil]
              refine ifd (fun h1 => ?_) fun h1 => ?_
              · exact ifT (bad2 (by simp [sixA]; omega))
              · refine ifd (fun h2 => ?_) fun h2 => ?_
                · exact bad2 (by simp [sixA]; omega)
                · exact ⟨⟨_, rfl⟩, ex2, good2 (by simp [sixA]; omega)⟩
            | bl b => cases hk; exact ifF (isi_kind rfl (ifT (ifT (bad2 rfl))))
            | ref p2 =>
              simp only [kindA] at hk
              split at hk <;> cases hk <;> exact ifT (ifT (bad2 rfl))
            | ty n => cases hk
            | fls n => cases hk
            | _ => cases hk; exact ifT (ifT (bad2 rfl))
          · obtain ⟨⟨o2, rfl⟩, ex2, is, ei, ki⟩ := pv
            rw [List.take_length] at ei
            refine ⟨⟨_, _, rfl⟩, ex2, fun j hj hji => ?_⟩
            by_cases hj2 : j < i
            · exact done j hj hj2
            · have : j = i := by omega
              subst this
              subst ei
              exact ⟨is, hxi, by rw [List.length_map] at hne; omega, ki⟩
    · obtain ⟨⟨o1, o2, rfl⟩, ex, done⟩ := pv
      obtain ⟨g, hg⟩ := Paired.choose (F := RowG h xs.length) fun j hj => done j hj hj
      have hlg : xs.length = g.length := hg.length
      exact q true h' ⟨fun _ => ⟨g, by rw [← hlg]; exact good, xs, hx, by rw [← hlg]; exact hg⟩, fun _ => rfl⟩ ex
theorem FormOk.up {h0 h h' : AH} (e : Ext h h') {r y : A} (q : FormOk h0 h r y) : FormOk h0 h' r y := q.elim (fun q => .inl ⟨q.1.up e, q.2⟩) fun ⟨ws, a, b⟩ => .inr ⟨ws, itA_up e a, b.elim .inl fun ⟨p, e1, e2, e3⟩ => .inr ⟨p, e1, e2, e _ _ e3⟩⟩
theorem notSeq_l {h : AH} {x : A} (q : notSeq h x) : ∃ k, kindA h x = some k ∧ kindIs k "list" = false := let ⟨k, a, b, _⟩ := q; ⟨k, a, b⟩
theorem well_ne {h : AH} {w p : Addr} (hw : WellAt h w) (hp : h p = none) : p ≠ w := fun z => by subst z; obtain ⟨_, _, _, z⟩ := hw; rw [hp] at z; cases z
theorem rd_law_formed {K : Frg} (T : TK K) {x0 x1 : A} {h : AH} {Q : AVK} {E : AXK} (hR : R_law_formed K x0 x1 h Q E) : t_law_formed K { nx := fun _ h' => Q .non h', rt := Q, ex := fun c _ h' => E c h' } [some x0, some x1, none, none] h := by
  obtain ⟨w, R, xs, rfl, rfl, hw, ⟨hR, hl, hr⟩, q⟩ := hR
  unfold t_law_formed
  dsimp only [nb, aRet, aRetN, aSeq, aIfS, aNext, aBreak, aCont, aDrop, aAsg, aPar, aAug, aSetL, aSetF, aFld, aVar, aC, aNil, aCons, aTup, aLst, a1, a2, aN, aAndV, aOrV, aNotV, aIf, aAnd, aOr, aNot, aTest, aChn, aCall, aMeth, aMake, aBmL, aRaise, aTryOnly, aTryAs, aFor, aiSeq, aiRng1, aiRng2, aiEnum, agN, agNil, agCons, agTup, aSlL, aRev, aNoPart, aPart, aNewK, aNewT, aLc, aWhile, asB, asT, iA, iA0, subA, modA, modP, divP, divA, powA, ltA, leA, gtA, geA, addA, mulA, negA, lenA, absA, intA, allA, listA, tupleA, one, two, sp0, sp1, sp2, sp3, sp4, sp5, sp6, appendA, reverseA, clearA, wipeA, putFA, List.getElem?_cons_zero, List.getElem?_cons_succ, List.set_cons_zero, List.set_cons_succ, List.cons_append, List.nil_append, List.append_nil]
  refine ⟨by decide, fun p hp => ?_⟩
  have hpw := well_ne hw hp
  have hRR := hid_some hR
  have hRp : R ≠ p := fun z => by subst z; rw [hp] at hRR; cases hRR.2
  have e0 : Ext h (updA h p (.lst [])) := Ext.new hp
  have keep : ∀ h' : AH, Wl w h h' → Ext (hid (fun a => a = w) h) (hid (fun a => a = w) h') := fun h' W => W.2.hd
  have keepM : ∀ h' : AH, Wl w h h' → Ext (hid (fun a => a = w) h) (hid (fun a => a = w ∨ a = p) h') := fun h' W a o z => hid_of (fun m => m.elim (hid_some z).1 fun m => by subst m; have := (hid_some z).2; rw [hp] at this; cases this) (hid_some (keep h' W _ _ z)).2
  refine for_it (fun i α h' => (∃ o3, α = [some (.ref w), some (.ref R), some (.ref p), o3]) ∧ Wl w h h' ∧ ∃ ys, h' p = some (.lst ys) ∧ Paired (FormOk h (hid (fun a => a = w ∨ a = p) h')) (xs.take i) ys)
    (itA_ref.mpr (e0 _ _ hRR.2)) ⟨⟨_, rfl⟩, Wl.ext hw e0, [], updA_same, .nil⟩ (fun p2 e i α h' _ pv => by cases e; exact (hid_some (keep h' pv.2.1 _ _ hR)).2) (fun i hi α h' pv => ?_) fun α h' pv => ?_
  · obtain ⟨⟨o3, rfl⟩, W, ys, ey, pp⟩ := pv
    have ylen : ys.length < sizeLine := by
      have := pp.length
      rw [List.length_take] at this
      exact Nat.lt_of_le_of_lt (by omega : _ ≤ 1000) (by decide)
    have upM : ∀ (h2 : AH) (o : AO), Wl w h' h2 → Ext (hid (fun a => a = w ∨ a = p) h') (hid (fun a => a = w ∨ a = p) (updA h2 p o)) := fun h2 o W2 a u z => by
      have z1 := hid_some z
      exact hid_of z1.1 (by rw [updA_ne (fun m => z1.1 (.inr m))]; exact W2.2 _ _ (fun m => z1.1 (.inl m)) z1.2)
    have fin : ∀ (h2 : AH) (y : A), Wl w h' h2 → FormOk h (hid (fun a => a = w ∨ a = p) (updA h2 p (.lst (ys ++ [y])))) xs[i] y → h2 p = some (.lst ys) →
        (∃ o3, [some (.ref w), some (.ref R), some (.ref p), some xs[i]] = [some (.ref w), some (.ref R), some (A.ref p), o3]) ∧ Wl w h (updA h2 p (.lst (ys ++ [y]))) ∧ ∃ zs, updA h2 p (.lst (ys ++ [y])) p = some (.lst zs) ∧ Paired (FormOk h (hid (fun a => a = w ∨ a = p) (updA h2 p (.lst (ys ++ [y]))))) (xs.take (i + 1)) zs := fun h2 y W2 f e2 => by
      refine ⟨⟨_, rfl⟩, ⟨?_, Fx.wr' (.inr hp) (W.trans W2).2⟩, ys ++ [y], updA_same, ?_⟩
      · obtain ⟨a, b, c, z⟩ := W2.1
        exact ⟨a, b, c, by rw [updA_ne (Ne.symm hpw)]; exact z⟩
      · rw [takeS hi]
        exact PySem.Paired.snoc (Paired.mapP pp fun a b s => s.up (upM h2 _ W2)) f
    rcases hr xs[i] (List.getElem_mem hi) with ns | ⟨p2, ws, e, hw2, hwl, hwk⟩
    · obtain ⟨k, z1, z2⟩ := notSeq_l ns
      have hk := kindA_up hid_ext (kindA_up (keep h' W) z1)
      dsimp only [nb, aRet, aRetN, aSeq, aIfS, aNext, aBreak, aCont, aDrop, aAsg, aPar, aAug, aSetL, aSetF, aFld, aVar, aC, aNil, aCons, aTup, aLst, a1, a2, aN, aAndV, aOrV, aNotV, aIf, aAnd, aOr, aNot, aTest, aChn, aCall, aMeth, aMake, aBmL, aRaise, aTryOnly, aTryAs, aFor, aiSeq, aiRng1, aiRng2, aiEnum, agN, agNil, agCons, agTup, aSlL, aRev, aNoPart, aPart, aNewK, aNewT, aLc, aWhile, asB, asT, iA, iA0, subA, modA, modP, divP, divA, powA, ltA, leA, gtA, geA, addA, mulA, negA, lenA, absA, intA, allA, listA, tupleA, one, two, sp0, sp1, sp2, sp3, sp4, sp5, sp6, appendA, reverseA, clearA, wipeA, putFA, List.getElem?_cons_zero, List.getElem?_cons_succ, List.set_cons_zero, List.set_cons_succ, List.cons_append, List.nil_append, List.append_nil]
      refine isi_kind hk ?_
      rw [z2]
      refine ifF (ifF (isi_kind hk ?_))
      rw [z2]
      refine ifF ⟨⟨_, ey⟩, _, ey, ylen, ?_⟩
      exact fin h' _ (Wl.refl W.1) (.inl ⟨(ns.up (keepM h' W)).up (upM h' _ (Wl.refl W.1)), rfl⟩) ey
    · have e3 : h' p2 = some (.lst ws) := (hid_some (keep h' W _ _ hw2)).2
      rw [e] at fin ⊢
      dsimp only [nb, aRet, aRetN, aSeq, aIfS, aNext, aBreak, aCont, aDrop, aAsg, aPar, aAug, aSetL, aSetF, aFld, aVar, aC, aNil, aCons, aTup, aLst, a1, a2, aN, aAndV, aOrV, aNotV, aIf, aAnd, aOr, aNot, aTest, aChn, aCall, aMeth, aMake, aBmL, aRaise, aTryOnly, aTryAs, aFor, aiSeq, aiRng1, aiRng2, aiEnum, agN, agNil, agCons, agTup, aSlL, aRev, aNoPart, aPart, aNewK, aNewT, aLc, aWhile, asB, asT, iA, iA0, subA, modA, modP, divP, divA, powA, ltA, leA, gtA, geA, addA, mulA, negA, lenA, absA, intA, allA, listA, tupleA, one, two, sp0, sp1, sp2, sp3, sp4, sp5, sp6, appendA, reverseA, clearA, wipeA, putFA, List.getElem?_cons_zero, List.getElem?_cons_succ, List.set_cons_zero, List.set_cons_succ, List.cons_append, List.nil_append, List.append_nil, R_law_draw, eqA]
      refine isi_kind (list_kind e3) (ifT ?_)
      refine ⟨w, 2, rfl, rfl, by decide, by decide, W.1, fun r h2 r0 r1 W2 => ?_⟩
      have e4 : h2 p2 = some (.lst ws) := (hid_some (keep h2 (W.trans W2) _ _ hw2)).2
      have e5 : h2 p = some (.lst ys) := W2.2 _ _ hpw ey
      have it2 : itA (hid (fun a => a = w ∨ a = p) h') (.ref p2) = some ws := itA_ref.mpr (keepM h' W _ _ hw2)
      refine ifd (fun h0 => ?_) fun h0 => ?_
      · refine ⟨⟨_, e5⟩, ws, e4, _, e5, ylen, ?_⟩
        exact fin h2 _ W2 (.inr ⟨ws, itA_up (upM h2 _ W2) it2, .inl rfl⟩) e5
      · refine isi_kind (list_kind e4) (ifT ⟨⟨_, e5⟩, ?_⟩)
        refine seqA_it (itA_ref.mpr e4) fun p3 hp3 => ⟨_, Ext.new hp3 _ _ e5, ylen, ?_⟩
        have np3 : p3 ≠ p := fun z => by subst z; rw [e5] at hp3; cases hp3
        have W3 := W2.trans (Wl.ext W2.1 (Ext.new (o := .lst ws) hp3))
        have hp30 : h p3 = none := by
          cases z : h p3 with
          | none => rfl
          | some o => rw [(W.trans W2).2 _ _ (well_ne W2.1 hp3) z] at hp3; cases hp3
        refine fin _ _ W3 (.inr ⟨ws, itA_up (upM _ _ W3) it2, .inr ⟨p3, rfl, hp30, ?_⟩⟩) (Ext.new hp3 _ _ e5)
        refine hid_of (fun m => m.elim (well_ne W2.1 hp3) np3) ?_
        rw [updA_ne np3, updA_same]
  · obtain ⟨⟨o3, rfl⟩, W, ys, ey, pp⟩ := pv
    rw [List.take_length] at pp
    dsimp only [nb, aRet, aRetN, aSeq, aIfS, aNext, aBreak, aCont, aDrop, aAsg, aPar, aAug, aSetL, aSetF, aFld, aVar, aC, aNil, aCons, aTup, aLst, a1, a2, aN, aAndV, aOrV, aNotV, aIf, aAnd, aOr, aNot, aTest, aChn, aCall, aMeth, aMake, aBmL, aRaise, aTryOnly, aTryAs, aFor, aiSeq, aiRng1, aiRng2, aiEnum, agN, agNil, agCons, agTup, aSlL, aRev, aNoPart, aPart, aNewK, aNewT, aLc, aWhile, asB, asT, iA, iA0, subA, modA, modP, divP, divA, powA, ltA, leA, gtA, geA, addA, mulA, negA, lenA, absA, intA, allA, listA, tupleA, one, two, sp0, sp1, sp2, sp3, sp4, sp5, sp6, appendA, reverseA, clearA, wipeA, putFA, List.getElem?_cons_zero, List.getElem?_cons_succ, List.set_cons_zero, List.set_cons_succ, List.cons_append, List.nil_append, List.append_nil, R_law_draw, eqA]
    refine ⟨w, 2, rfl, rfl, by decide, by decide, W.1, fun r h2 r0 r1 W2 => ?_⟩
    have e5 : h2 p = some (.lst ys) := W2.2 _ _ hpw ey
    have up2 : Ext (hid (fun a => a = w ∨ a = p) h') (hid (fun a => a = w) h2) := fun a o z => hid_of (fun m => (hid_some z).1 (.inl m)) (W2.2 _ _ (fun m => (hid_some z).1 (.inl m)) (hid_some z).2)
    have pp2 : Paired (FormOk h (hid (fun a => a = w) h2)) xs ys := Paired.mapP pp fun a b s => s.up up2
    refine ifd (fun h0 => ?_) fun h0 => ?_
    · exact ⟨ys, e5, q _ ys h2 ⟨rfl, (fun p z => nomatch z), pp2⟩ (W.trans W2)⟩
    · exact q _ ys h2 ⟨itA_ref.mpr (hid_of hpw e5), fun p2 z => by cases z; exact hp, pp2⟩ (W.trans W2)
end GL
namespace GL
open PySem PySem.Spec L2 G
def IRow (h : AH) (n : Nat) (p : Addr) : Prop := ∃ ws : List Int, h p = some (.lst (ws.map A.int)) ∧ ws.length = n
theorem wtOk_int {h : AH} (i : Int) : WtOk h (.int i) := .inl ⟨"int", rfl, rfl, rfl⟩
theorem IRow.row {h : AH} {n : Nat} {p : Addr} (q : IRow h n p) (hn : n ≤ 1000) : RowOk h (.ref p) := by
  obtain ⟨ws, e, l⟩ := q
  refine .inr ⟨p, _, rfl, e, by rw [List.length_map, l]; exact hn, fun a ha => ?_⟩
  obtain ⟨i, _, rfl⟩ := List.mem_map.mp ha
  exact wtOk_int i
/-- a new row of weights -/
theorem row_made {K : Frg} {h : AH} {w : Addr} {α : ASt} {n : Nat} {D : Addr} {Q : AH → Prop} {lo : Int} {vs : List Nat} {i : Nat} (hw : WellAt h w) (hD : h D = none) (hn : n ≤ 100) (h0 : ∀ x, ((wipeA α vs).set i x)[0]? = some (some (.ref w)))
    (fin : ∀ h', Wl w h h' → IRow (hid (fun a => a = w) h') n D → Q h') :
    lcS ⟨n, fun i a => a = .int (lo + (i : Nat)), fun _ => True⟩ (agN i) aYes (aCall (sp_law_weight K) [] (aCons (aVar 0) aNil)) vs α h D Q := by
  have hDw := well_ne hw hD
  refine lc_rng (fun i h' => Wl w h h' ∧ ∃ ws : List Int, h' D = some (.lst (ws.map A.int)) ∧ ws.length = i) ⟨Wl.ext hw (Ext.new hD), [], updA_same, rfl⟩ (fun i hi h' pv => ?_) fun h' pv => ?_
  · obtain ⟨W, ws, e, l⟩ := pv
    show (match ((wipeA α vs).set _ _)[0]? with
      | some (some a) => _
      | _ => False)
    rw [h0]
    refine ⟨w, rfl, W.1, fun r h2 W2 => ⟨_, W2.2 _ _ hDw e, ?_, ⟨?_, Fx.wr' (.inr hD) (W.trans W2).2⟩, ws ++ [r], ?_, ?_⟩⟩
    · rw [List.length_map, l]
      exact Nat.lt_of_lt_of_le (by omega : i < 1000) (by decide)
    · obtain ⟨a, b, c, z⟩ := W2.1
      exact ⟨a, b, c, by rw [updA_ne (Ne.symm hDw)]; exact z⟩
    · rw [updA_same, List.map_append]; rfl
    · rw [List.length_append, l]; rfl
  · obtain ⟨W, ws, e, l⟩ := pv
    exact fin h' W ⟨ws, hid_of hDw e, l⟩
/-- the slots of the rows' drawing -/
def SlR (w : Addr) (kind at_ place high wide : Int) (rest : List (Option A)) : ASt := [some (.ref w), some (.int kind), some (.int at_), some (.int place), some (.int high), some (.int wide)] ++ rest
def StR (w : Addr) (h : AH) (α : ASt) (h' : AH) : Prop := ∃ kind at_ place high wide : Int, α = SlR w kind at_ place high wide [none, none, none] ∧ Wl w h h' ∧ (0 ≤ at_ ∧ at_ < 7) ∧ (0 ≤ place ∧ place < 7) ∧ (0 ≤ high ∧ high < 8) ∧ (0 ≤ wide ∧ wide < 8) ∧ (kind = 1 ∨ 1 ≤ high) ∧ (kind = 2 ∨ 1 ≤ wide)
noncomputable abbrev hid2 (w R : Addr) (h : AH) : AH := hid (fun p => p = w ∨ p = R) h
def StG (w : Addr) (h : AH) (α : ASt) (h' : AH) : Prop := ∃ (kind at_ place high wide : Int) (R : Addr) (xs : List A) (o7 o8 : Option A), α = SlR w kind at_ place high wide [some (.ref R), o7, o8] ∧ Wl w h h' ∧ (0 ≤ at_ ∧ at_ < 7) ∧ (0 ≤ place ∧ place < 7) ∧ (0 ≤ high ∧ high < 8) ∧ (0 ≤ wide ∧ wide < 8) ∧ (kind = 1 ∨ 1 ≤ high) ∧ (kind = 2 ∨ 1 ≤ wide) ∧
  h R = none ∧ hid (fun p => p = w) h' R = some (.lst xs) ∧ (xs.length : Int) = high ∧ (∀ r ∈ xs, RowOk (hid2 w R h') r) ∧ (kind = 5 → ∀ r ∈ xs, ∃ p, r = .ref p ∧ h p = none ∧ IRow (hid2 w R h') wide.toNat p)
def StF (w : Addr) (h : AH) (α : ASt) (h' : AH) : Prop := ∃ (kind at_ place high wide : Int) (R : Addr) (xs : List A) (o7 o8 : Option A), α = SlR w kind at_ place high wide [some (.ref R), o7, o8] ∧ Wl w h h' ∧ (0 ≤ place ∧ place < 7) ∧ (0 ≤ high ∧ high < 8) ∧ (kind = 1 ∨ 1 ≤ high) ∧
  h R = none ∧ hid (fun p => p = w) h' R = some (.lst xs) ∧ (xs.length : Int) = high ∧ (∀ r ∈ xs, RowOk (hid2 w R h') r)
theorem WtOk.up {h h' : AH} (e : Ext h h') {a : A} (q : WtOk h a) : WtOk h' a := q.elim (fun q => .inl (q.up e)) fun ⟨xs, a, b, c⟩ => .inr ⟨xs, itA_up e a, b, fun y hy => (c y hy).up e⟩
theorem RowOk.up {h h' : AH} (e : Ext h h') {a : A} (q : RowOk h a) : RowOk h' a := q.elim (fun q => .inl (q.up e)) fun ⟨p, ws, a, b, c, d⟩ => .inr ⟨p, ws, a, e _ _ b, c, fun y hy => (d y hy).up e⟩
theorem Wl.isN {w : Addr} {h h' : AH} (W : Wl w h h') {p : Addr} (e : h' p = none) : h p = none := by
  have n := well_ne W.1 e
  cases z : h p with
  | none => rfl
  | some o => rw [W.2 _ _ n z] at e; cases e
theorem rd_law_rows {K : Frg} (T : TK K) {x0 : A} {h : AH} {Q : AVK} {E : AXK} (hR : R_law_rows K x0 h Q E) : t_law_rows K { nx := fun _ h' => Q .non h', rt := Q, ex := fun c _ h' => E c h' } [some x0, none, none, none, none, none, none, none, none] h := by
  obtain ⟨w, rfl, hw, q⟩ := hR
  unfold t_law_rows
  refine seq_cut (fun α h' => ∃ k : Int, α = [some (.ref w), some (.int k), none, none, none, none, none, none, none] ∧ Wl w h h') (fun J hJ => ?_) fun α h' pv => ?_
  · dsimp only [nb, aRet, aRetN, aSeq, aIfS, aNext, aBreak, aCont, aDrop, aAsg, aPar, aAug, aSetL, aSetF, aFld, aVar, aC, aNil, aCons, aTup, aLst, a1, a2, aN, aAndV, aOrV, aNotV, aIf, aAnd, aOr, aNot, aTest, aChn, aCall, aMeth, aMake, aBmL, aRaise, aTryOnly, aTryAs, aFor, aiSeq, aiRng1, aiRng2, aiEnum, agN, agNil, agCons, agTup, aSlL, aRev, aNoPart, aPart, aNewK, aNewT, aLc, aWhile, asB, asT, iA, iA0, subA, modA, modP, divP, divA, powA, ltA, leA, gtA, geA, addA, mulA, negA, lenA, absA, intA, allA, listA, tupleA, one, two, sp0, sp1, sp2, sp3, sp4, sp5, sp6, appendA, reverseA, clearA, wipeA, putFA, List.getElem?_cons_zero, List.getElem?_cons_succ, List.set_cons_zero, List.set_cons_succ, List.cons_append, List.nil_append, List.append_nil, R_law_draw]
    exact ⟨w, 8, rfl, rfl, by decide, by decide, hw, fun r h2 r0 r1 W => hJ _ _ ⟨r, rfl, W⟩⟩
  obtain ⟨kind, rfl, W⟩ := pv
  refine seq_cut (fun α h' => ∃ a : Int, α = [some (.ref w), some (.int kind), some (.int a), none, none, none, none, none, none] ∧ Wl w h h' ∧ (0 ≤ a ∧ a < 7)) (fun J hJ => ?_) fun α h' pv => ?_
  · dsimp only [nb, aRet, aRetN, aSeq, aIfS, aNext, aBreak, aCont, aDrop, aAsg, aPar, aAug, aSetL, aSetF, aFld, aVar, aC, aNil, aCons, aTup, aLst, a1, a2, aN, aAndV, aOrV, aNotV, aIf, aAnd, aOr, aNot, aTest, aChn, aCall, aMeth, aMake, aBmL, aRaise, aTryOnly, aTryAs, aFor, aiSeq, aiRng1, aiRng2, aiEnum, agN, agNil, agCons, agTup, aSlL, aRev, aNoPart, aPart, aNewK, aNewT, aLc, aWhile, asB, asT, iA, iA0, subA, modA, modP, divP, divA, powA, ltA, leA, gtA, geA, addA, mulA, negA, lenA, absA, intA, allA, listA, tupleA, one, two, sp0, sp1, sp2, sp3, sp4, sp5, sp6, appendA, reverseA, clearA, wipeA, putFA, List.getElem?_cons_zero, List.getElem?_cons_succ, List.set_cons_zero, List.set_cons_succ, List.cons_append, List.nil_append, List.append_nil, R_law_draw]
    exact ⟨w, 7, rfl, rfl, by decide, by decide, W.1, fun r h2 r0 r1 W2 => hJ _ _ ⟨r, rfl, W.trans W2, r0, r1⟩⟩
  obtain ⟨a, rfl, W, ha⟩ := pv
  refine seq_cut (fun α h' => ∃ b : Int, α = [some (.ref w), some (.int kind), some (.int a), some (.int b), none, none, none, none, none] ∧ Wl w h h' ∧ (0 ≤ b ∧ b < 7)) (fun J hJ => ?_) fun α h' pv => ?_
  · dsimp only [nb, aRet, aRetN, aSeq, aIfS, aNext, aBreak, aCont, aDrop, aAsg, aPar, aAug, aSetL, aSetF, aFld, aVar, aC, aNil, aCons, aTup, aLst, a1, a2, aN, aAndV, aOrV, aNotV, aIf, aAnd, aOr, aNot, aTest, aChn, aCall, aMeth, aMake, aBmL, aRaise, aTryOnly, aTryAs, aFor, aiSeq, aiRng1, aiRng2, aiEnum, agN, agNil, agCons, agTup, aSlL, aRev, aNoPart, aPart, aNewK, aNewT, aLc, aWhile, asB, asT, iA, iA0, subA, modA, modP, divP, divA, powA, ltA, leA, gtA, geA, addA, mulA, negA, lenA, absA, intA, allA, listA, tupleA, one, two, sp0, sp1, sp2, sp3, sp4, sp5, sp6, appendA, reverseA, clearA, wipeA, putFA, List.getElem?_cons_zero, List.getElem?_cons_succ, List.set_cons_zero, List.set_cons_succ, List.cons_append, List.nil_append, List.append_nil, R_law_draw]
    exact ⟨w, 7, rfl, rfl, by decide, by decide, W.1, fun r h2 r0 r1 W2 => hJ _ _ ⟨r, rfl, W.trans W2, r0, r1⟩⟩
  obtain ⟨b, rfl, W, hb⟩ := pv
  refine seq_cut (fun α h' => ∃ c : Int, α = [some (.ref w), some (.int kind), some (.int a), some (.int b), some (.int c), none, none, none, none] ∧ Wl w h h' ∧ (1 ≤ c ∧ c < 8)) (fun J hJ => ?_) fun α h' pv => ?_
  · dsimp only [nb, aRet, aRetN, aSeq, aIfS, aNext, aBreak, aCont, aDrop, aAsg, aPar, aAug, aSetL, aSetF, aFld, aVar, aC, aNil, aCons, aTup, aLst, a1, a2, aN, aAndV, aOrV, aNotV, aIf, aAnd, aOr, aNot, aTest, aChn, aCall, aMeth, aMake, aBmL, aRaise, aTryOnly, aTryAs, aFor, aiSeq, aiRng1, aiRng2, aiEnum, agN, agNil, agCons, agTup, aSlL, aRev, aNoPart, aPart, aNewK, aNewT, aLc, aWhile, asB, asT, iA, iA0, subA, modA, modP, divP, divA, powA, ltA, leA, gtA, geA, addA, mulA, negA, lenA, absA, intA, allA, listA, tupleA, one, two, sp0, sp1, sp2, sp3, sp4, sp5, sp6, appendA, reverseA, clearA, wipeA, putFA, List.getElem?_cons_zero, List.getElem?_cons_succ, List.set_cons_zero, List.set_cons_succ, List.cons_append, List.nil_append, List.append_nil, R_law_draw]
    refine ⟨by simp; decide, fun p hp => ?_⟩
    have W1 := Wl.ext W.1 (Ext.new (o := .lst [.int 1, .int 3, .int 5]) hp)
    have hpw := well_ne W.1 hp
    refine ⟨w, 3, rfl, rfl, by decide, by decide, W1.1, fun r h2 r0 r1 W2 => ?_⟩
    have e := W2.2 p _ hpw updA_same
    have : r = 0 ∨ r = 1 ∨ r = 2 := by omega
    rcases this with rfl | rfl | rfl <;> exact ix_ref e rfl (hJ _ _ ⟨_, rfl, (W.trans W1).trans W2, by decide, by decide⟩)
  obtain ⟨c, rfl, W, hc⟩ := pv
  refine seq_cut (StR w h) (fun J hJ => ?_) fun α h' pv => ?_
  · dsimp only [nb, aRet, aRetN, aSeq, aIfS, aNext, aBreak, aCont, aDrop, aAsg, aPar, aAug, aSetL, aSetF, aFld, aVar, aC, aNil, aCons, aTup, aLst, a1, a2, aN, aAndV, aOrV, aNotV, aIf, aAnd, aOr, aNot, aTest, aChn, aCall, aMeth, aMake, aBmL, aRaise, aTryOnly, aTryAs, aFor, aiSeq, aiRng1, aiRng2, aiEnum, agN, agNil, agCons, agTup, aSlL, aRev, aNoPart, aPart, aNewK, aNewT, aLc, aWhile, asB, asT, iA, iA0, subA, modA, modP, divP, divA, powA, ltA, leA, gtA, geA, addA, mulA, negA, lenA, absA, intA, allA, listA, tupleA, one, two, sp0, sp1, sp2, sp3, sp4, sp5, sp6, appendA, reverseA, clearA, wipeA, putFA, List.getElem?_cons_zero, List.getElem?_cons_succ, List.set_cons_zero, List.set_cons_succ, List.cons_append, List.nil_append, List.append_nil]
    exact hJ _ _ ⟨kind, a, b, c, c, rfl, W, ha, hb, by omega, by omega, by omega, by omega⟩
  clear W ha hb hc a b c kind
  refine seq_cut (StR w h) (fun J hJ => ?_) fun α h' pv => ?_
  · obtain ⟨kind, a, b, c, d, rfl, W, ha, hb, hc, hd, k1, k2⟩ := pv
    dsimp only [nb, aRet, aRetN, aSeq, aIfS, aNext, aBreak, aCont, aDrop, aAsg, aPar, aAug, aSetL, aSetF, aFld, aVar, aC, aNil, aCons, aTup, aLst, a1, a2, aN, aAndV, aOrV, aNotV, aIf, aAnd, aOr, aNot, aTest, aChn, aCall, aMeth, aMake, aBmL, aRaise, aTryOnly, aTryAs, aFor, aiSeq, aiRng1, aiRng2, aiEnum, agN, agNil, agCons, agTup, aSlL, aRev, aNoPart, aPart, aNewK, aNewT, aLc, aWhile, asB, asT, iA, iA0, subA, modA, modP, divP, divA, powA, ltA, leA, gtA, geA, addA, mulA, negA, lenA, absA, intA, allA, listA, tupleA, one, two, sp0, sp1, sp2, sp3, sp4, sp5, sp6, appendA, reverseA, clearA, wipeA, putFA, List.getElem?_cons_zero, List.getElem?_cons_succ, List.set_cons_zero, List.set_cons_succ, List.cons_append, List.nil_append, List.append_nil, R_law_draw, SlR, eqA]
    refine ifd (fun hk => ?_) fun hk => ?_
    · exact ⟨w, 8, rfl, rfl, by decide, by decide, W.1, fun r h2 r0 r1 W2 => hJ _ _ ⟨kind, a, b, r, d, rfl, W.trans W2, ha, hb, ⟨r0, r1⟩, hd, .inl hk, k2⟩⟩
    · exact hJ _ _ ⟨kind, a, b, c, d, rfl, W, ha, hb, hc, hd, k1, k2⟩
  refine seq_cut (StR w h) (fun J hJ => ?_) fun α h' pv => ?_
  · obtain ⟨kind, a, b, c, d, rfl, W, ha, hb, hc, hd, k1, k2⟩ := pv
    dsimp only [nb, aRet, aRetN, aSeq, aIfS, aNext, aBreak, aCont, aDrop, aAsg, aPar, aAug, aSetL, aSetF, aFld, aVar, aC, aNil, aCons, aTup, aLst, a1, a2, aN, aAndV, aOrV, aNotV, aIf, aAnd, aOr, aNot, aTest, aChn, aCall, aMeth, aMake, aBmL, aRaise, aTryOnly, aTryAs, aFor, aiSeq, aiRng1, aiRng2, aiEnum, agN, agNil, agCons, agTup, aSlL, aRev, aNoPart, aPart, aNewK, aNewT, aLc, aWhile, asB, asT, iA, iA0, subA, modA, modP, divP, divA, powA, ltA, leA, gtA, geA, addA, mulA, negA, lenA, absA, intA, allA, listA, tupleA, one, two, sp0, sp1, sp2, sp3, sp4, sp5, sp6, appendA, reverseA, clearA, wipeA, putFA, List.getElem?_cons_zero, List.getElem?_cons_succ, List.set_cons_zero, List.set_cons_succ, List.cons_append, List.nil_append, List.append_nil, R_law_draw, SlR, eqA]
    refine ifd (fun hk => ?_) fun hk => ?_
    · exact ⟨w, 8, rfl, rfl, by decide, by decide, W.1, fun r h2 r0 r1 W2 => hJ _ _ ⟨kind, a, b, c, r, rfl, W.trans W2, ha, hb, hc, ⟨r0, r1⟩, k1, .inl hk⟩⟩
    · exact hJ _ _ ⟨kind, a, b, c, d, rfl, W, ha, hb, hc, hd, k1, k2⟩
  refine seq_cut (StR w h) (fun J hJ => ?_) fun α h' pv => ?_
  · obtain ⟨kind, a, b, c, d, rfl, W, ha, hb, hc, hd, k1, k2⟩ := pv
    dsimp only [nb, aRet, aRetN, aSeq, aIfS, aNext, aBreak, aCont, aDrop, aAsg, aPar, aAug, aSetL, aSetF, aFld, aVar, aC, aNil, aCons, aTup, aLst, a1, a2, aN, aAndV, aOrV, aNotV, aIf, aAnd, aOr, aNot, aTest, aChn, aCall, aMeth, aMake, aBmL, aRaise, aTryOnly, aTryAs, aFor, aiSeq, aiRng1, aiRng2, aiEnum, agN, agNil, agCons, agTup, aSlL, aRev, aNoPart, aPart, aNewK, aNewT, aLc, aWhile, asB, asT, iA, iA0, subA, modA, modP, divP, divA, powA, ltA, leA, gtA, geA, addA, mulA, negA, lenA, absA, intA, allA, listA, tupleA, one, two, sp0, sp1, sp2, sp3, sp4, sp5, sp6, appendA, reverseA, clearA, wipeA, putFA, List.getElem?_cons_zero, List.getElem?_cons_succ, List.set_cons_zero, List.set_cons_succ, List.cons_append, List.nil_append, List.append_nil, R_law_draw, SlR, eqA]
    refine ifd (fun hk => ?_) fun hk => ?_
    · refine ⟨by simp; decide, fun p hp => ⟨by decide, ?_⟩⟩
      have : a % 4 = 0 ∨ a % 4 = 1 ∨ a % 4 = 2 ∨ a % 4 = 3 := by omega
      have W1 := W.trans (Wl.ext W.1 (Ext.new (o := .lst [.int 2, .int 4, .int 6, .int 7]) hp))
      rcases this with e | e | e | e <;> rw [e] <;> exact ix_ref updA_same rfl (hJ _ _ ⟨kind, a, b, _, _, rfl, W1, ha, hb, by omega, by omega, .inr (by decide), .inr (by decide)⟩)
    · exact hJ _ _ ⟨kind, a, b, c, d, rfl, W, ha, hb, hc, hd, k1, k2⟩
  refine seq_cut (StG w h) (fun J hJ => ?_) fun α h' pv => ?_
  · obtain ⟨kind, a, b, c, d, rfl, W, ha, hb, hc, hd, k1, k2⟩ := pv
    dsimp only [nb, aRet, aRetN, aSeq, aIfS, aNext, aBreak, aCont, aDrop, aAsg, aPar, aAug, aSetL, aSetF, aFld, aVar, aC, aNil, aCons, aTup, aLst, a1, a2, aN, aAndV, aOrV, aNotV, aIf, aAnd, aOr, aNot, aTest, aChn, aCall, aMeth, aMake, aBmL, aRaise, aTryOnly, aTryAs, aFor, aiSeq, aiRng1, aiRng2, aiEnum, agN, agNil, agCons, agTup, aSlL, aRev, aNoPart, aPart, aNewK, aNewT, aLc, aWhile, asB, asT, iA, iA0, subA, modA, modP, divP, divA, powA, ltA, leA, gtA, geA, addA, mulA, negA, lenA, absA, intA, allA, listA, tupleA, one, two, sp0, sp1, sp2, sp3, sp4, sp5, sp6, appendA, reverseA, clearA, wipeA, putFA, List.getElem?_cons_zero, List.getElem?_cons_succ, List.set_cons_zero, List.set_cons_succ, List.cons_append, List.nil_append, List.append_nil, SlR]
    refine ⟨by omega, fun D hD => ?_⟩
    have hDw := well_ne W.1 hD
    refine lc_rng (fun i h2 => Wl w h' h2 ∧ ∃ ps : List Addr, h2 D = some (.lst (ps.map A.ref)) ∧ ps.length = i ∧ ∀ p ∈ ps, h p = none ∧ IRow (hid (fun x => x = w ∨ x = D) h2) d.toNat p) ⟨Wl.ext W.1 (Ext.new hD), [], updA_same, rfl, fun _ h => nomatch h⟩ (fun i hi h2 pv => ?_) fun h2 pv => ?_
    · obtain ⟨W2, ps, e, l, kp⟩ := pv
      dsimp only [nb, aRet, aRetN, aSeq, aIfS, aNext, aBreak, aCont, aDrop, aAsg, aPar, aAug, aSetL, aSetF, aFld, aVar, aC, aNil, aCons, aTup, aLst, a1, a2, aN, aAndV, aOrV, aNotV, aIf, aAnd, aOr, aNot, aTest, aChn, aCall, aMeth, aMake, aBmL, aRaise, aTryOnly, aTryAs, aFor, aiSeq, aiRng1, aiRng2, aiEnum, agN, agNil, agCons, agTup, aSlL, aRev, aNoPart, aPart, aNewK, aNewT, aLc, aWhile, asB, asT, iA, iA0, subA, modA, modP, divP, divA, powA, ltA, leA, gtA, geA, addA, mulA, negA, lenA, absA, intA, allA, listA, tupleA, one, two, sp0, sp1, sp2, sp3, sp4, sp5, sp6, appendA, reverseA, clearA, wipeA, putFA, List.getElem?_cons_zero, List.getElem?_cons_succ, List.set_cons_zero, List.set_cons_succ, List.cons_append, List.nil_append, List.append_nil]
      refine ⟨by omega, fun D2 hD2 => row_made W2.1 hD2 (by omega) (fun x => rfl) fun h4 W4 ir => ?_⟩
      have nD : D2 ≠ D := fun z => by subst z; rw [e] at hD2; cases hD2
      refine ⟨_, W4.2 _ _ hDw e, ?_, ⟨?_, Fx.wr' (.inr hD) (W2.trans W4).2⟩, ps ++ [D2], by rw [updA_same, List.map_append]; rfl, by rw [List.length_append, l]; rfl, fun p hp => ?_⟩
      · rw [List.length_map, l]
        exact Nat.lt_of_lt_of_le (by omega : i < 1000) (by decide)
      · obtain ⟨x, y, z, e⟩ := W4.1
        exact ⟨x, y, z, by rw [updA_ne (Ne.symm hDw)]; exact e⟩
      · have keep : ∀ (y : Addr) (o o2 : AO), ¬ (y = w ∨ y = D) → h4 y = some o → hid (fun x => x = w ∨ x = D) (updA h4 D o2) y = some o := fun y o o2 n e => hid_of n (by rw [updA_ne (fun z => n (.inr z))]; exact e)
        rcases List.mem_append.mp hp with hp | hp
        · obtain ⟨hpn, ws, e, l⟩ := kp p hp
          have e1 := hid_some e
          exact ⟨hpn, ws, keep _ _ _ e1.1 (W4.2 _ _ (fun z => e1.1 (.inl z)) e1.2), l⟩
        · rw [List.mem_singleton.mp hp]
          obtain ⟨ws, e, l⟩ := ir
          have e1 := hid_some e
          exact ⟨(W.trans W2).isN hD2, ws, keep _ _ _ (fun z => z.elim e1.1 nD) e1.2, l⟩
    · obtain ⟨W2, ps, e, l, kp⟩ := pv
      have sub : Ext (hid (fun x => x = w ∨ x = D) h2) (hid (fun x => x = w) h2) := hid_sub fun p z => .inl z
      refine hJ _ _ ⟨kind, a, b, c, d, D, _, _, _, rfl, W.trans W2, ha, hb, hc, hd, k1, k2, W.isN hD, hid_of hDw e, by rw [List.length_map, l]; omega, fun r hr => ?_, fun _ r hr => ?_⟩
      · obtain ⟨p, hp, rfl⟩ := List.mem_map.mp hr
        exact (kp p hp).2.row (by omega)
      · obtain ⟨p, hp, rfl⟩ := List.mem_map.mp hr
        exact ⟨p, rfl, kp p hp⟩
  -- behind: one change of a row or of a cell
  have idx : ∀ (xs : List A) (a c : Int), (xs.length : Int) = c → 1 ≤ c → ixN xs.length (a.fmod c) = some (a.fmod c).toNat ∧ (a.fmod c).toNat < xs.length := fun xs a c e hc => by
    have := fmod_pos (i := a) (by omega : 0 < c)
    exact ⟨ixN_of this.1 (by omega), by omega⟩
  have up2 : ∀ (h2 h3 : AH) (R : Addr), Wl w h2 h3 → Ext (hid2 w R h2) (hid2 w R h3) := fun h2 h3 R W p o z => hid_of (hid_some z).1 (W.2 _ _ (fun m => (hid_some z).1 (.inl m)) (hid_some z).2)
  have upR : ∀ (h2 : AH) (R : Addr) (o : AO), Ext (hid2 w R h2) (hid2 w R (updA h2 R o)) := fun h2 R o p u z => hid_of (hid_some z).1 (by rw [updA_ne (fun m => (hid_some z).1 (.inr m))]; exact (hid_some z).2)
  have put : ∀ (h2 : AH) (R : Addr) (xs : List A) (j : Nat) (v : A), R ≠ w → RowOk (hid2 w R h2) v → (∀ r ∈ xs, RowOk (hid2 w R h2) r) →
      hid (fun p => p = w) (updA h2 R (.lst (xs.set j v))) R = some (.lst (xs.set j v)) ∧ ∀ r ∈ xs.set j v, RowOk (hid2 w R (updA h2 R (.lst (xs.set j v)))) r := fun h2 R xs j v hr hv hrs => by
    refine ⟨hid_of hr updA_same, fun r hm => ?_⟩
    rcases List.mem_or_eq_of_mem_set hm with hm | rfl
    · exact (hrs r hm).up (upR _ _ _)
    · exact hv.up (upR _ _ _)
  have wlR : ∀ (h2 h3 : AH) (R : Addr) (xs ys : List A), Wl w h h2 → Wl w h2 h3 → R ≠ w → h R = none → Wl w h (updA h3 R (.lst ys)) := fun h2 h3 R xs ys W W2 n e => by
    refine ⟨?_, Fx.wr' (.inr e) (W.trans W2).2⟩
    obtain ⟨x, y, z, e⟩ := W2.1
    exact ⟨x, y, z, by rw [updA_ne (Ne.symm n)]; exact e⟩
  refine seq_cut (StG w h) (fun J hJ => ?_) fun α h' pv => ?_
  · obtain ⟨kind, a, b, c, d, R, xs, o7, o8, rfl, W, ha, hb, hc, hd, k1, k2, hR0, eR, el, hr, h5⟩ := pv
    have nR := (hid_some eR).1
    dsimp only [nb, aRet, aRetN, aSeq, aIfS, aNext, aBreak, aCont, aDrop, aAsg, aPar, aAug, aSetL, aSetF, aFld, aVar, aC, aNil, aCons, aTup, aLst, a1, a2, aN, aAndV, aOrV, aNotV, aIf, aAnd, aOr, aNot, aTest, aChn, aCall, aMeth, aMake, aBmL, aRaise, aTryOnly, aTryAs, aFor, aiSeq, aiRng1, aiRng2, aiEnum, agN, agNil, agCons, agTup, aSlL, aRev, aNoPart, aPart, aNewK, aNewT, aLc, aWhile, asB, asT, iA, iA0, subA, modA, modP, divP, divA, powA, ltA, leA, gtA, geA, addA, mulA, negA, lenA, absA, intA, allA, listA, tupleA, one, two, sp0, sp1, sp2, sp3, sp4, sp5, sp6, appendA, reverseA, clearA, wipeA, putFA, List.getElem?_cons_zero, List.getElem?_cons_succ, List.set_cons_zero, List.set_cons_succ, List.cons_append, List.nil_append, List.append_nil, SlR, eqA]
    refine ifd (fun hk => ?_) fun hk => ?_
    · subst hk
      refine ⟨by omega, fun D hD => row_made W.1 hD (by omega) (fun x => rfl) fun h4 W4 ir => ⟨by omega, ?_⟩⟩
      have eR4 : h4 R = some (.lst xs) := W4.2 _ _ nR (hid_some eR).2
      obtain ⟨i1, i2⟩ := idx xs a c el (by omega)
      have nD : D ≠ R := fun z => by subst z; rw [(hid_some eR).2] at hD; cases hD
      have irow : IRow (hid2 w R h4) b.toNat D := let ⟨ws, e, l⟩ := ir; ⟨ws, hid_of (fun z => z.elim (hid_some e).1 nD) (hid_some e).2, l⟩
      have p1 := put h4 R xs (a.fmod c).toNat (.ref D) nR (irow.row (by omega)) (fun r hm => (hr r hm).up (up2 _ _ _ W4))
      exact ⟨xs, _, eR4, i1, hJ _ _ ⟨4, a, b, c, d, R, _, o7, o8, rfl, wlR h' h4 R xs _ W W4 nR hR0, ha, hb, hc, hd, k1, k2, hR0, p1.1, by rw [List.length_set]; exact el, p1.2, fun z => absurd z (by decide)⟩⟩
    · exact hJ _ _ ⟨kind, a, b, c, d, R, xs, o7, o8, rfl, W, ha, hb, hc, hd, k1, k2, hR0, eR, el, hr, h5⟩
  refine seq_cut (StF w h) (fun J hJ => ?_) fun α h' pv => ?_
  · obtain ⟨kind, a, b, c, d, R, xs, o7, o8, rfl, W, ha, hb, hc, hd, k1, k2, hR0, eR, el, hr, h5⟩ := pv
    have nR := (hid_some eR).1
    dsimp only [nb, aRet, aRetN, aSeq, aIfS, aNext, aBreak, aCont, aDrop, aAsg, aPar, aAug, aSetL, aSetF, aFld, aVar, aC, aNil, aCons, aTup, aLst, a1, a2, aN, aAndV, aOrV, aNotV, aIf, aAnd, aOr, aNot, aTest, aChn, aCall, aMeth, aMake, aBmL, aRaise, aTryOnly, aTryAs, aFor, aiSeq, aiRng1, aiRng2, aiEnum, agN, agNil, agCons, agTup, aSlL, aRev, aNoPart, aPart, aNewK, aNewT, aLc, aWhile, asB, asT, iA, iA0, subA, modA, modP, divP, divA, powA, ltA, leA, gtA, geA, addA, mulA, negA, lenA, absA, intA, allA, listA, tupleA, one, two, sp0, sp1, sp2, sp3, sp4, sp5, sp6, appendA, reverseA, clearA, wipeA, putFA, List.getElem?_cons_zero, List.getElem?_cons_succ, List.set_cons_zero, List.set_cons_succ, List.cons_append, List.nil_append, List.append_nil, SlR, eqA, R_law_no_weight]
    refine ifd (fun hk => ?_) fun hk => ?_
    · refine ⟨w, rfl, W.1, fun v h4 kv iv kt fv W4 => ?_⟩
      have eR4 : h4 R = some (.lst xs) := W4.2 _ _ nR (hid_some eR).2
      obtain ⟨i1, i2⟩ := idx xs a c el (by omega)
      obtain ⟨p, ep, hp0, ws, ew, lw⟩ := h5 hk xs[(a.fmod c).toNat] (List.getElem_mem i2)
      have at1 : atI xs (a.fmod c) = some (.ref p) := by
        unfold atI
        rw [i1, Option.bind_some, List.getElem?_eq_getElem i2, ep]
      refine ⟨by omega, ix_ref eR4 at1 ?_⟩
      dsimp only [nb, aRet, aRetN, aSeq, aIfS, aNext, aBreak, aCont, aDrop, aAsg, aPar, aAug, aSetL, aSetF, aFld, aVar, aC, aNil, aCons, aTup, aLst, a1, a2, aN, aAndV, aOrV, aNotV, aIf, aAnd, aOr, aNot, aTest, aChn, aCall, aMeth, aMake, aBmL, aRaise, aTryOnly, aTryAs, aFor, aiSeq, aiRng1, aiRng2, aiEnum, agN, agNil, agCons, agTup, aSlL, aRev, aNoPart, aPart, aNewK, aNewT, aLc, aWhile, asB, asT, iA, iA0, subA, modA, modP, divP, divA, powA, ltA, leA, gtA, geA, addA, mulA, negA, lenA, absA, intA, allA, listA, tupleA, one, two, sp0, sp1, sp2, sp3, sp4, sp5, sp6, appendA, reverseA, clearA, wipeA, putFA, List.getElem?_cons_zero, List.getElem?_cons_succ, List.set_cons_zero, List.set_cons_succ, List.cons_append, List.nil_append, List.append_nil]
      have ew4 : h4 p = some (.lst (ws.map A.int)) := (hid_some (up2 _ _ _ W4 _ _ ew)).2
      have np := (hid_some ew).1
      obtain ⟨j1, j2⟩ := idx (ws.map A.int) b d (by rw [List.length_map, lw]; omega) (by omega)
      have vnp : ∀ q, v = .ref q → q ≠ p ∧ q ≠ R := fun q e => by
        have hq := fv q e
        refine ⟨fun z => ?_, fun z => ?_⟩
        · subst z; rw [(hid_some ew).2] at hq; cases hq
        · subst z; rw [(hid_some eR).2] at hq; cases hq
      have vw : WtOk (hid2 w R (updA h4 p (.lst ((ws.map A.int).set (b.fmod d).toNat v)))) v := by
        have look : ∀ q, v = .ref q → ∀ o, hid (fun p => p = w) h4 q = some o → hid2 w R (updA h4 p (.lst ((ws.map A.int).set (b.fmod d).toNat v))) q = some o := fun q e o z => by
          have n := vnp q e
          exact hid_of (fun m => m.elim (hid_some z).1 n.2) (by rw [updA_ne n.1]; exact (hid_some z).2)
        obtain ⟨k, hk⟩ := kv
        cases v with
        | ref q =>
          simp only [kindA] at hk
          cases z : hid (fun p => p = w) h4 q with
          | none => rw [z] at hk; cases hk
          | some o =>
            have z2 := look q rfl o z
            rw [z] at hk
            cases o with
            | lst ys =>
              obtain ⟨i, rfl⟩ := iv ys (itA_ref.mpr z)
              exact .inr ⟨_, itA_ref.mpr z2, Nat.le_of_ble_eq_true rfl, fun b hb => by rw [List.mem_singleton.mp hb]; exact ⟨"int", rfl, rfl, rfl⟩⟩
            | dK ys => exact .inl ⟨"dict", by simp only [kindA]; rw [z2], rfl, rfl⟩
            | dT ys => exact .inl ⟨"dict", by simp only [kindA]; rw [z2], rfl, rfl⟩
            | _ => cases hk
        | tup ys =>
          obtain ⟨i, rfl⟩ := iv ys rfl
          exact .inr ⟨_, rfl, Nat.le_of_ble_eq_true rfl, fun b hb => by rw [List.mem_singleton.mp hb]; exact ⟨"int", rfl, rfl, rfl⟩⟩
        | kt ks => exact absurd rfl (kt ks)
        | ty n => cases hk
        | fls n => cases hk
        | _ => exact .inl ⟨_, rfl, rfl, rfl⟩
      refine ⟨by omega, _, _, ew4, j1, hJ _ _ ⟨kind, a, b, c, d, R, xs, o7, o8, rfl, wlR h' h4 p xs _ W W4 (fun z => np (.inl z)) hp0, hb, hc, k1, hR0, hid_of nR ?_, el, fun r hm => ?_⟩⟩
      · rw [updA_ne (fun z => np (.inr z.symm))]; exact eR4
      · obtain ⟨p2, rfl, hp20, ws2, ew2, lw2⟩ := h5 hk r hm
        by_cases z : p2 = p
        · subst z
          refine .inr ⟨p2, _, rfl, hid_of np updA_same, by rw [List.length_set, List.length_map, lw]; omega, fun x hx => ?_⟩
          rcases List.mem_or_eq_of_mem_set hx with hx | rfl
          · obtain ⟨i, _, rfl⟩ := List.mem_map.mp hx
            exact wtOk_int i
          · exact vw
        · have e2 := hid_some (up2 _ _ _ W4 _ _ ew2)
          refine .inr ⟨p2, _, rfl, hid_of e2.1 (by rw [updA_ne z]; exact e2.2), by rw [List.length_map, lw2]; omega, fun x hx => ?_⟩
          obtain ⟨i, _, rfl⟩ := List.mem_map.mp hx
          exact wtOk_int i
    · exact hJ _ _ ⟨kind, a, b, c, d, R, xs, o7, o8, rfl, W, hb, hc, k1, hR0, eR, el, hr⟩
  refine seq_cut (fun α h' => ∃ (R : Addr) (xs : List A), α[6]? = some (some (.ref R)) ∧ Wl w h h' ∧ RowsAt (hid (fun p => p = w) h') R xs) (fun J hJ => ?_) fun α h' pv => ?_
  · obtain ⟨kind, a, b, c, d, R, xs, o7, o8, rfl, W, hb, hc, k1, hR0, eR, el, hr⟩ := pv
    have nR := (hid_some eR).1
    have fin : hid (fun p => p = w) h' R = some (.lst xs) → RowsAt (hid (fun p => p = w) h') R xs := fun e => ⟨e, by omega, fun r hm => (hr r hm).up (hid_sub fun p z => .inl z)⟩
    dsimp only [nb, aRet, aRetN, aSeq, aIfS, aNext, aBreak, aCont, aDrop, aAsg, aPar, aAug, aSetL, aSetF, aFld, aVar, aC, aNil, aCons, aTup, aLst, a1, a2, aN, aAndV, aOrV, aNotV, aIf, aAnd, aOr, aNot, aTest, aChn, aCall, aMeth, aMake, aBmL, aRaise, aTryOnly, aTryAs, aFor, aiSeq, aiRng1, aiRng2, aiEnum, agN, agNil, agCons, agTup, aSlL, aRev, aNoPart, aPart, aNewK, aNewT, aLc, aWhile, asB, asT, iA, iA0, subA, modA, modP, divP, divA, powA, ltA, leA, gtA, geA, addA, mulA, negA, lenA, absA, intA, allA, listA, tupleA, one, two, sp0, sp1, sp2, sp3, sp4, sp5, sp6, appendA, reverseA, clearA, wipeA, putFA, List.getElem?_cons_zero, List.getElem?_cons_succ, List.set_cons_zero, List.set_cons_succ, List.cons_append, List.nil_append, List.append_nil, SlR, eqA]
    refine ifd (fun hk => ?_) fun hk => ?_
    · refine ifd (fun hp => ?_) fun hp => ?_
      · intro D hD
        refine ⟨by simp; decide, fun L hL => ?_⟩
        have e1 : Ext h' (updA h' D (.dK [])) := Ext.new hD
        have e2 := e1.trans (Ext.new (o := .lst [.non, .int 16, .str "16", .ref D]) hL)
        have nDR : D ≠ R := fun z => by subst z; rw [(hid_some eR).2] at hD; cases hD
        have nLR : L ≠ R := fun z => by subst z; rw [e1 _ _ (hid_some eR).2] at hL; cases hL
        have nLD : L ≠ D := fun z => by subst z; rw [updA_same] at hL; cases hL
        have nDw := well_ne W.1 hD
        have hb4 : b = 0 ∨ b = 1 ∨ b = 2 ∨ b = 3 := by omega
        obtain ⟨i1, i2⟩ := idx xs a c el (by omega)
        have step : ∀ v, RowOk (hid2 w R (updA (updA h' D (.dK [])) L (.lst [.non, .int 16, .str "16", .ref D]))) v → atI [A.non, .int 16, .str "16", .ref D] b = some v →
            ixA (.ref L) (.int b) (updA (updA h' D (.dK [])) L (.lst [.non, .int 16, .str "16", .ref D])) fun v h1 => c ≠ 0 ∧ ∃ xs j, h1 R = some (.lst xs) ∧ ixN xs.length (a.fmod c) = some j ∧ J (SlR w kind a b c d [some (.ref R), o7, o8]) (updA h1 R (.lst (xs.set j v))) := fun v hv av => by
          refine ix_ref updA_same av ⟨by omega, xs, _, e2 _ _ (hid_some eR).2, i1, hJ _ _ ⟨R, xs.set (a.fmod c).toNat v, rfl, wlR h' _ R xs _ W (Wl.ext W.1 e2) nR hR0, ?_⟩⟩
          have p1 := put _ R xs (a.fmod c).toNat v nR hv fun r hm => (hr r hm).up (up2 _ _ _ (Wl.ext W.1 e2))
          exact ⟨p1.1, by rw [List.length_set]; omega, fun r hm => (p1.2 r hm).up (hid_sub fun p z => .inl z)⟩
        rcases hb4 with rfl | rfl | rfl | rfl
        · exact step _ (.inl ⟨_, rfl, rfl, rfl⟩) rfl
        · exact step _ (.inl ⟨_, rfl, rfl, rfl⟩) rfl
        · exact step _ (.inl ⟨_, rfl, rfl, rfl⟩) rfl
        · refine step _ (.inl ⟨"dict", ?_, rfl, rfl⟩) rfl
          have : hid2 w R (updA (updA h' D (.dK [])) L (.lst [.non, .int 16, .str "16", .ref D])) D = some (.dK []) := hid_of (fun z => z.elim nDw nDR) (by rw [updA_ne nLD.symm, updA_same])
          simp only [kindA]
          rw [this]
      · exact hJ _ _ ⟨R, xs, rfl, W, fin eR⟩
    · exact hJ _ _ ⟨R, xs, rfl, W, fin eR⟩
  obtain ⟨R, xs, e6, W, ro⟩ := pv
  show (match α[6]? with
    | some (some a) => _
    | _ => False)
  rw [e6]
  exact q R xs h' ro W
end GL
namespace GL
open PySem PySem.Spec L2 G
def KeptOk (K : Frg) (h : AH) (e : A) : Prop := ∃ t R c g, e = .tup [.ref t, .ref R, .ref c] ∧ TipAt K h t g ∧ GridAt h R g ∧ Sq g ∧ CellsAt h c
theorem CellsAt.up {h h' : AH} {c : Addr} (e : Ext h h') (q : CellsAt h c) : CellsAt h' c := let ⟨xs, a, b⟩ := q; ⟨xs, e _ _ a, b⟩
theorem KeptOk.up {K : Frg} {h h' : AH} {x : A} (e : Ext h h') (q : KeptOk K h x) : KeptOk K h' x := let ⟨t, R, c, g, a, b, d, f, i⟩ := q; ⟨t, R, c, g, a, b.up e, d.up e, f, i.up e⟩
theorem eqA_same {neg : Bool} {h : AH} {n : Nat} {x y : A} {Q : AVK} (s : SamR h (SamA h n) x y) (hn : n ≤ 60) (q : Q (.bl (!neg)) h) : eqA neg x y h Q := by
  have s2 := s
  rcases s with ⟨a, b, xs, ys, rfl, rfl, _⟩ | ⟨xs, ys, rfl, rfl, _⟩
  · exact .inr ⟨n, hn, s2, q⟩
  · exact .inr ⟨n, hn, s2, q⟩
theorem Sq.of {h : AH} {x : A} {g : List (List Int)} (G : GoodG h x g) : Sq g := by
  obtain ⟨l, xs, _, p⟩ := G
  refine ⟨by omega, fun r hr => ?_⟩
  obtain ⟨i, hi, rfl⟩ := List.getElem_of_mem hr
  have := (Paired.get p i (by rw [p.length]; exact hi) hi).2.1
  exact this
section
variable {h h0 : AH} {R : Addr} {xs ys : List A} {z : A} {g : List (List Int)}
/-- what is handed in is good where the rows are -/
theorem forms_good (e : h R = some (.lst xs)) (F : FormsAt h0 h z xs ys) : GoodG h (.ref R) g ↔ GoodG h z g := by
  obtain ⟨f1, _, f2⟩ := F
  have row : ∀ (n : Nat) (r y : A) (ws : List Int), FormOk h0 h r y → (RowG h n r ws ↔ RowG h n y ws) := fun n r y ws q => by
    rcases q with ⟨ns, rfl⟩ | ⟨vs, e, rfl | ⟨p, rfl, _, e2⟩⟩
    · exact Iff.rfl
    · unfold RowG; rw [e]; exact Iff.rfl
    · unfold RowG; rw [e, itA_ref.mpr e2]
  constructor
  · rintro ⟨l, xs2, e2, p⟩
    rw [itA_ref.mpr e] at e2
    cases e2
    refine ⟨l, ys, f1, Paired.of_get (by rw [← f2.length, p.length]) fun i h1 h2 => ?_⟩
    have hx : i < xs.length := by rw [f2.length]; exact h1
    exact (row _ _ _ _ (Paired.get f2 i hx h1)).mp (Paired.get p i hx h2)
  · rintro ⟨l, ys2, e2, p⟩
    rw [f1] at e2
    cases e2
    refine ⟨l, xs, itA_ref.mpr e, Paired.of_get (by rw [f2.length, p.length]) fun i h1 h2 => ?_⟩
    have hy : i < ys.length := by rw [← f2.length]; exact h1
    exact (row _ _ _ _ (Paired.get f2 i h1 hy)).mpr (Paired.get p i hy h2)
theorem FormsAt.up {h' : AH} (e : Ext h h') (F : FormsAt h0 h z xs ys) : FormsAt h0 h' z xs ys := ⟨itA_up e F.1, F.2.1, Paired.mapP F.2.2 fun _ _ q => q.up e⟩
theorem form_items {h1 : AH} (e : Ext h1 h) (hr : ∀ r ∈ xs, RowOk h1 r) (f : Paired (FormOk h0 h) xs ys) : ∀ y ∈ ys, notSeq h y ∨ ∃ ws, itA h y = some ws ∧ ws.length ≤ 1000 ∧ ∀ a ∈ ws, WtOk h1 a := fun y hy => by
  obtain ⟨i, hi, rfl⟩ := List.getElem_of_mem hy
  have hx : i < xs.length := by rw [f.length]; exact hi
  rcases Paired.get f i hx hi with ⟨ns, e1⟩ | ⟨ws, e1, e2⟩
  · rw [e1]; exact .inl ns
  · rcases hr _ (List.getElem_mem hx) with ns | ⟨p, vs, e3, e4, l, k⟩
    · exact absurd e1 (notSeq_it (ns.up e))
    · rw [e3, itA_ref.mpr (e _ _ e4)] at e1
      cases e1
      refine .inr ⟨ws, ?_, l, k⟩
      rcases e2 with e2 | ⟨p2, e2, _, e5⟩
      · rw [e2]; rfl
      · rw [e2]; exact itA_ref.mpr e5
theorem wt_kind {a : A} (q : WtOk h a) : ∃ k, kindA h a = some k := by
  rcases q with ⟨k, z, _⟩ | ⟨xs, z, _⟩
  · exact ⟨k, z⟩
  · rcases kind_it z with ⟨z, _⟩ | ⟨z, _⟩ <;> exact ⟨_, z⟩
theorem form_kd {h1 : AH} (e : Ext h1 h) (hl : xs.length ≤ 1000) (hr : ∀ r ∈ xs, RowOk h1 r) (F : FormsAt h0 h z xs ys) : KD h z :=
  .inr ⟨ys, F.1, by rw [← F.2.2.length]; exact hl, fun y hy => (form_items e hr F.2.2 y hy).elim .inl fun ⟨ws, a, b, c⟩ => .inr ⟨ws, a, b, fun x hx => let ⟨k, z⟩ := wt_kind (c x hx); ⟨k, kindA_up e z⟩⟩⟩
theorem form_pl {h1 : AH} (e : Ext h1 h) (hl : xs.length ≤ 1000) (hr : ∀ r ∈ xs, RowOk h1 r) (F : FormsAt h0 h z xs ys) : PlD h 4 z :=
  .inr ⟨ys, F.1, by rw [← F.2.2.length]; exact hl, fun y hy => (form_items e hr F.2.2 y hy).elim .inl fun ⟨ws, a, b, c⟩ => .inr ⟨ws, a, b, fun x hx => ((c x hx).up e).elim .inl fun ⟨vs, a, b, c⟩ => .inr ⟨vs, a, b, fun v hv => .inl (c v hv)⟩⟩⟩
/-- rows that are good are a grid -/
theorem rows_grid {h' : AH} (e : Ext h h') (hR : RowsAt h R xs) (G : GoodG h' (.ref R) g) : GridAt h R g := by
  obtain ⟨l, xs2, e2, p⟩ := G
  rw [itA_ref.mpr (e _ _ hR.1)] at e2
  cases e2
  have one : ∀ i (hi : i < xs.length), ∃ q : Addr, xs[i] = .ref q := fun i hi => by
    rcases hR.2.2 _ (List.getElem_mem hi) with ns | ⟨q, ws, e, _⟩
    · exact absurd (Paired.get p i hi (by rw [← p.length]; exact hi)).1 (notSeq_it (ns.up e))
    · exact ⟨q, e⟩
  obtain ⟨ps, hp⟩ := Paired.choose (F := fun r (q : Addr) => r = A.ref q) one
  have exs : xs = ps.map A.ref := by
    refine List.ext_getElem (by rw [List.length_map]; exact hp.length) fun i h1 h2 => ?_
    rw [List.getElem_map]
    exact Paired.get hp i h1 (by rw [← hp.length]; exact h1)
  refine ⟨ps, by rw [← exs]; exact hR.1, Paired.of_get (by rw [← hp.length, p.length]) fun i h1 h2 => ?_⟩
  have hx : i < xs.length := by rw [hp.length]; exact h1
  have r := Paired.get p i hx h2
  have er : xs[i] = .ref ps[i] := Paired.get hp i hx h1
  rcases hR.2.2 _ (List.getElem_mem hx) with ns | ⟨q, ws, e3, e4, _⟩
  · exact absurd r.1 (notSeq_it (ns.up e))
  · rw [er] at e3 r
    cases e3
    have r1 := r.1
    rw [itA_ref.mpr (e _ _ e4)] at r1
    cases r1
    exact e4
theorem good_down {h' : AH} (e : Ext h h') (hR : RowsAt h R xs) (G : GoodG h' (.ref R) g) : GoodG h (.ref R) g := by
  obtain ⟨l, xs2, e2, p⟩ := G
  rw [itA_ref.mpr (e _ _ hR.1)] at e2
  cases e2
  refine ⟨l, xs, itA_ref.mpr hR.1, Paired.of_get p.length fun i h1 h2 => ?_⟩
  have r := Paired.get p i h1 h2
  rcases hR.2.2 _ (List.getElem_mem h1) with ns | ⟨q, ws, e3, e4, _⟩
  · exact absurd r.1 (notSeq_it (ns.up e))
  · refine ⟨?_, r.2⟩
    have r1 := r.1
    rw [e3, itA_ref.mpr (e _ _ e4)] at r1
    rw [e3, itA_ref.mpr e4]
    exact r1
theorem Ext.wl {h h1 h2 : AH} {w : Addr} (e : Ext h h1) (n : h w = none) (W : Wl w h1 h2) : Ext h h2 := fun a o z => W.2 a o (fun m => by subst m; rw [n] at z; cases z) (e _ _ z)
theorem RowsAt.up {h' : AH} (e : Ext h h') (q : RowsAt h R xs) : RowsAt h' R xs := ⟨e _ _ q.1, q.2.1, fun r hr => (q.2.2 r hr).up e⟩
end
theorem cutA_len {xs : List A} {lo hi : Option Int} : (cutA xs lo hi).length ≤ xs.length := by
  unfold cutA
  rw [List.length_take, List.length_drop]
  omega
theorem cut16 (xs : List A) : (cutA xs none (some 16)).length ≤ 16 := by
  unfold cutA
  rw [List.length_take]
  have : HT.sIx xs.length xs.length (some 16) ≤ 16 := by
    unfold HT.sIx
    simp
    omega
  omega
theorem cutA_mem {xs : List A} {lo hi : Option Int} {x : A} (h : x ∈ cutA xs lo hi) : x ∈ xs := List.mem_of_mem_drop (List.mem_of_mem_take h)
theorem grid_apart {h : AH} {R kp : Addr} {g : List (List Int)} {ks : List A} (q : GridAt h R g) (hg : 1 ≤ g.length) (sq : Sq g) (ek : h kp = some (.lst ks)) (hk : ∀ e ∈ ks, ∃ l, e = .tup l) : GridAt (hid (fun p => p = kp) h) R g := by
  obtain ⟨ps, e, p⟩ := q
  refine ⟨ps, hid_of (fun m => ?_) e, Paired.of_get p.length fun i h1 h2 => hid_of (fun m => ?_) (Paired.get p i h1 h2)⟩
  · subst m
    rw [ek] at e
    cases e
    cases ps with
    | nil => have := p.length; simp at this; omega
    | cons a ps =>
      obtain ⟨l, z⟩ := hk (.ref a) List.mem_cons_self
      cases z
  · have r := Paired.get p i h1 h2
    rw [m, ek] at r
    have hl := sq.2 _ (List.getElem_mem h2)
    revert r hl
    generalize g[i] = ws
    intro r hl
    cases ws with
    | nil => rw [List.length_nil] at hl; omega
    | cons w ws =>
      cases r
      obtain ⟨l, z⟩ := hk (.int w) List.mem_cons_self
      cases z
theorem bad_none {h : AH} {x : A} (q : notSeq h x) : KD h x ∧ ¬ ∃ g, GoodG h x g := ⟨.inl q, fun ⟨_, _, _, e, _⟩ => notSeq_it q e⟩
theorem bad_nil {h : AH} {x : A} (q : itA h x = some []) : KD h x ∧ ¬ ∃ g, GoodG h x g := ⟨.inr ⟨[], q, by simp, fun _ h => nomatch h⟩, fun ⟨g, G⟩ => by
  have l := good_len q G
  obtain ⟨a, _⟩ := G
  simp at l
  omega⟩
theorem bad_one {h : AH} {x r : A} (q : itA h x = some [r]) (q2 : itA h r = some []) : KD h x ∧ ¬ ∃ g, GoodG h x g :=
  ⟨.inr ⟨[r], q, by simp, fun y hy => by rw [List.mem_singleton.mp hy]; exact .inr ⟨[], q2, by simp, fun _ h => nomatch h⟩⟩, fun ⟨g, G⟩ => by
    obtain ⟨ws, e, l, _⟩ := good_row q G (i := 0) (by simp)
    simp at l
    rw [show [r][0] = r from rfl, q2] at e
    cases ws with
    | nil => simp at l
    | cons a b => cases e⟩
theorem rd_law {K : Frg} (T : TK K) {x0 : A} {h : AH} {Q : AVK} {E : AXK} (hR : R_law K x0 h Q E) : t_law K { nx := fun _ h' => Q .non h', rt := Q, ex := fun c _ h' => E c h' } [some x0, none, none, none, none, none, none, none, none, none] h := by
  obtain ⟨ns, rfl, q⟩ := hR
  unfold t_law
  refine seq_cut (fun α h' => ∃ kp, α = [some (.fls (ns.map A.int)), some (.ref kp), none, none, none, none, none, none, none, none] ∧ h' kp = some (.lst [])) (fun J hJ => ?_) fun α h' pv => ?_
  · dsimp only [nb, aRet, aRetN, aSeq, aIfS, aNext, aBreak, aCont, aDrop, aAsg, aPar, aAug, aSetL, aSetF, aFld, aVar, aC, aNil, aCons, aTup, aLst, a1, a2, aN, aAndV, aOrV, aNotV, aIf, aAnd, aOr, aNot, aTest, aChn, aCall, aMeth, aMake, aBmL, aRaise, aTryOnly, aTryAs, aFor, aiSeq, aiRng1, aiRng2, aiEnum, agN, agNil, agCons, agTup, aSlL, aRev, aNoPart, aPart, aNewK, aNewT, aLc, aWhile, asB, asT, iA, iA0, subA, modA, modP, divP, divA, powA, ltA, leA, gtA, geA, addA, mulA, negA, lenA, absA, intA, allA, listA, tupleA, one, two, sp0, sp1, sp2, sp3, sp4, sp5, sp6, appendA, reverseA, clearA, wipeA, putFA, List.getElem?_cons_zero, List.getElem?_cons_succ, List.set_cons_zero, List.set_cons_succ, List.cons_append, List.nil_append, List.append_nil]
    exact ⟨by decide, fun p hp => hJ _ _ ⟨p, rfl, updA_same⟩⟩
  obtain ⟨kp, rfl, ek⟩ := pv
  refine seq_cut (fun α h' => ∃ o2 o3 o4 o5 o6 o7 o8 o9, α = [some (.fls (ns.map A.int)), some (.ref kp), o2, o3, o4, o5, o6, o7, o8, o9] ∧ ∃ ks, h' kp = some (.lst ks) ∧ ks.length ≤ 1000 ∧ ∀ e ∈ ks, KeptOk K (hid (fun p => p = kp) h') e) (fun J hJ => ?_) fun α h' pv => ?_
  · dsimp only [nb, aRet, aRetN, aSeq, aIfS, aNext, aBreak, aCont, aDrop, aAsg, aPar, aAug, aSetL, aSetF, aFld, aVar, aC, aNil, aCons, aTup, aLst, a1, a2, aN, aAndV, aOrV, aNotV, aIf, aAnd, aOr, aNot, aTest, aChn, aCall, aMeth, aMake, aBmL, aRaise, aTryOnly, aTryAs, aFor, aiSeq, aiRng1, aiRng2, aiEnum, agN, agNil, agCons, agTup, aSlL, aRev, aNoPart, aPart, aNewK, aNewT, aLc, aWhile, asB, asT, iA, iA0, subA, modA, modP, divP, divA, powA, ltA, leA, gtA, geA, addA, mulA, negA, lenA, absA, intA, allA, listA, tupleA, one, two, sp0, sp1, sp2, sp3, sp4, sp5, sp6, appendA, reverseA, clearA, wipeA, putFA, List.getElem?_cons_zero, List.getElem?_cons_succ, List.set_cons_zero, List.set_cons_succ, List.cons_append, List.nil_append, List.append_nil]
    intro r hr
    refine ⟨by decide, fun p hp => ?_⟩
    have npr : p ≠ r := fun z => by subst z; rw [updA_same] at hp; cases hp
    refine ⟨_, _, by rw [updA_ne npr.symm, updA_same], updA_same, ?_, fun Z hZ => ?_⟩
    · have := cutA_len (xs := ns.map A.int) (lo := none) (hi := some 16)
      have c16 : (cutA (ns.map A.int) none (some 16)).length ≤ 16 := cut16 _
      exact Nat.le_trans (by simp; omega : _ ≤ 20) (by decide)
    have c16 : (cutA (ns.map A.int) none (some 16)).length ≤ 16 := cut16 _
    generalize hzs : cutA (List.map A.int ns) none (some 16) ++ [A.int 0, A.int 4, A.int 11] = zs
    have zint : ∀ z ∈ zs, ∃ c : Int, z = .int c := by
      intro z hz
      rw [← hzs] at hz
      rcases List.mem_append.mp hz with hz | hz
      · obtain ⟨c, _, e⟩ := List.mem_map.mp (cutA_mem hz)
        exact ⟨c, e.symm⟩
      · simp only [List.mem_cons, List.not_mem_nil, or_false] at hz
        rcases hz with rfl | rfl | rfl <;> exact ⟨_, rfl⟩
    have zlen : zs.length ≤ 1000 := by rw [← hzs, List.length_append]; simp; omega
    have eks := (Ext.new (o := .lst [.int 0, .int 4, .int 11]) hp) _ _ ((Ext.new (o := .lst (cutA (List.map A.int ns) none (some 16))) hr) _ _ ek)
    have nk : Z ≠ kp := fun m => by subst m; rw [eks] at hZ; cases hZ
    generalize hh : updA (updA (updA h' r (.lst (cutA (List.map A.int ns) none (some 16)))) p (.lst [.int 0, .int 4, .int 11])) Z (.lst zs) = hz
    have eZ : hz Z = some (.lst zs) := by rw [← hh]; exact updA_same
    have ekz : hz kp = some (.lst []) := by rw [← hh, updA_ne nk.symm]; exact eks
    clear hh hZ hzs eks
    refine for_it (fun i α h2 => ∃ o2 o3 o4 o5 o6 o7 o8 o9, α = [some (.fls (ns.map A.int)), some (.ref kp), o2, o3, o4, o5, o6, o7, o8, o9] ∧ ∃ ks, h2 kp = some (.lst ks) ∧ ks.length ≤ i ∧ hid (fun p => p = kp) h2 Z = some (.lst zs) ∧ ∀ e ∈ ks, KeptOk K (hid (fun p => p = kp) h2) e)
      (itA_ref.mpr eZ) ⟨_, _, _, _, _, _, _, _, rfl, [], ekz, Nat.le_refl _, hid_of nk eZ, fun _ h => nomatch h⟩ (fun p e i α h2 _ pv => by cases e; obtain ⟨_, _, _, _, _, _, _, _, _, _, _, _, e, _⟩ := pv; exact hid_ext _ _ e) (fun i hi α h0 pv => ?_) fun α h2 pv => ?_
    · obtain ⟨o2, o3, o4, o5, o6, o7, o8, o9, rfl, ks, e0k, lk, e0Z, ok⟩ := pv
      obtain ⟨c, ec⟩ := zint zs[i] (List.getElem_mem hi)
      rw [ec]
      dsimp only [agN, List.set_cons_succ, List.set_cons_zero]
      refine seq_cut (fun α h' => ∃ w, α = [some (.fls (ns.map A.int)), some (.ref kp), some (.int c), some (.ref w), o4, o5, o6, o7, o8, o9] ∧ h0 w = none ∧ WellAt h' w ∧ Ext h0 h') (fun J hJ => ?_) fun α h1 pv => ?_
      · dsimp only [nb, aRet, aRetN, aSeq, aIfS, aNext, aBreak, aCont, aDrop, aAsg, aPar, aAug, aSetL, aSetF, aFld, aVar, aC, aNil, aCons, aTup, aLst, a1, a2, aN, aAndV, aOrV, aNotV, aIf, aAnd, aOr, aNot, aTest, aChn, aCall, aMeth, aMake, aBmL, aRaise, aTryOnly, aTryAs, aFor, aiSeq, aiRng1, aiRng2, aiEnum, agN, agNil, agCons, agTup, aSlL, aRev, aNoPart, aPart, aNewK, aNewT, aLc, aWhile, asB, asT, iA, iA0, subA, modA, modP, divP, divA, powA, ltA, leA, gtA, geA, addA, mulA, negA, lenA, absA, intA, allA, listA, tupleA, one, two, sp0, sp1, sp2, sp3, sp4, sp5, sp6, appendA, reverseA, clearA, wipeA, putFA, List.getElem?_cons_zero, List.getElem?_cons_succ, List.set_cons_zero, List.set_cons_succ, List.cons_append, List.nil_append, List.append_nil, R_law_well]
        exact ⟨c, rfl, fun w h1 a b e => hJ _ _ ⟨w, rfl, a, b, e⟩⟩
      obtain ⟨w, rfl, hw0, hw, x01⟩ := pv
      refine seq_cut (fun α h' => ∃ R xs, α = [some (.fls (ns.map A.int)), some (.ref kp), some (.int c), some (.ref w), some (.ref R), o5, o6, o7, o8, o9] ∧ RowsAt (hid (fun p => p = w) h') R xs ∧ Wl w h1 h') (fun J hJ => ?_) fun α h2 pv => ?_
      · dsimp only [nb, aRet, aRetN, aSeq, aIfS, aNext, aBreak, aCont, aDrop, aAsg, aPar, aAug, aSetL, aSetF, aFld, aVar, aC, aNil, aCons, aTup, aLst, a1, a2, aN, aAndV, aOrV, aNotV, aIf, aAnd, aOr, aNot, aTest, aChn, aCall, aMeth, aMake, aBmL, aRaise, aTryOnly, aTryAs, aFor, aiSeq, aiRng1, aiRng2, aiEnum, agN, agNil, agCons, agTup, aSlL, aRev, aNoPart, aPart, aNewK, aNewT, aLc, aWhile, asB, asT, iA, iA0, subA, modA, modP, divP, divA, powA, ltA, leA, gtA, geA, addA, mulA, negA, lenA, absA, intA, allA, listA, tupleA, one, two, sp0, sp1, sp2, sp3, sp4, sp5, sp6, appendA, reverseA, clearA, wipeA, putFA, List.getElem?_cons_zero, List.getElem?_cons_succ, List.set_cons_zero, List.set_cons_succ, List.cons_append, List.nil_append, List.append_nil, R_law_rows]
        exact ⟨w, rfl, hw, fun R xs h1 a b => hJ _ _ ⟨R, xs, rfl, a, b⟩⟩
      obtain ⟨R, xs, rfl, hR, W12⟩ := pv
      refine seq_cut (fun α h' => ∃ z ys, α = [some (.fls (ns.map A.int)), some (.ref kp), some (.int c), some (.ref w), some (.ref R), some z, o6, o7, o8, o9] ∧ FormsAt h2 (hid (fun p => p = w) h') z xs ys ∧ Wl w h2 h') (fun J hJ => ?_) fun α h3 pv => ?_
      · dsimp only [nb, aRet, aRetN, aSeq, aIfS, aNext, aBreak, aCont, aDrop, aAsg, aPar, aAug, aSetL, aSetF, aFld, aVar, aC, aNil, aCons, aTup, aLst, a1, a2, aN, aAndV, aOrV, aNotV, aIf, aAnd, aOr, aNot, aTest, aChn, aCall, aMeth, aMake, aBmL, aRaise, aTryOnly, aTryAs, aFor, aiSeq, aiRng1, aiRng2, aiEnum, agN, agNil, agCons, agTup, aSlL, aRev, aNoPart, aPart, aNewK, aNewT, aLc, aWhile, asB, asT, iA, iA0, subA, modA, modP, divP, divA, powA, ltA, leA, gtA, geA, addA, mulA, negA, lenA, absA, intA, allA, listA, tupleA, one, two, sp0, sp1, sp2, sp3, sp4, sp5, sp6, appendA, reverseA, clearA, wipeA, putFA, List.getElem?_cons_zero, List.getElem?_cons_succ, List.set_cons_zero, List.set_cons_succ, List.cons_append, List.nil_append, List.append_nil, R_law_formed]
        exact ⟨w, R, xs, rfl, rfl, W12.1, hR, fun z ys h' a b => hJ _ _ ⟨z, ys, rfl, a, b⟩⟩
      obtain ⟨z, ys, rfl, hF, W23⟩ := pv
      have hr3 := W23.2.hd
      refine seq_cut (fun α h' => ∃ f, α = [some (.fls (ns.map A.int)), some (.ref kp), some (.int c), some (.ref w), some (.ref R), some z, some f, o7, o8, o9] ∧ SamR (hid (fun p => p = w) h') (SamA (hid (fun p => p = w) h') 3) z f ∧ Ext h3 h') (fun J hJ => ?_) fun α h4 pv => ?_
      · dsimp only [nb, aRet, aRetN, aSeq, aIfS, aNext, aBreak, aCont, aDrop, aAsg, aPar, aAug, aSetL, aSetF, aFld, aVar, aC, aNil, aCons, aTup, aLst, a1, a2, aN, aAndV, aOrV, aNotV, aIf, aAnd, aOr, aNot, aTest, aChn, aCall, aMeth, aMake, aBmL, aRaise, aTryOnly, aTryAs, aFor, aiSeq, aiRng1, aiRng2, aiEnum, agN, agNil, agCons, agTup, aSlL, aRev, aNoPart, aPart, aNewK, aNewT, aLc, aWhile, asB, asT, iA, iA0, subA, modA, modP, divP, divA, powA, ltA, leA, gtA, geA, addA, mulA, negA, lenA, absA, intA, allA, listA, tupleA, one, two, sp0, sp1, sp2, sp3, sp4, sp5, sp6, appendA, reverseA, clearA, wipeA, putFA, List.getElem?_cons_zero, List.getElem?_cons_succ, List.set_cons_zero, List.set_cons_succ, List.cons_append, List.nil_append, List.append_nil, R_law_copied]
        refine ⟨fun p => p = w, fun p e => ?_, form_pl hr3 hR.2.1 hR.2.2 hF, fun f h' ex _ sm => hJ _ _ ⟨f, rfl, sm ys (hid_ext.trans (Ext.refl _) |> fun e => itA_up e hF.1), ex⟩⟩
        subst e
        obtain ⟨_, _, _, e⟩ := W23.1
        rw [e]; simp
      obtain ⟨f, rfl, hS, x34⟩ := pv
      have x04 : Ext h0 h4 := (Ext.wl (Ext.wl x01 hw0 W12) hw0 W23).trans x34
      have x24 : Ext (hid (fun p => p = w) h2) (hid (fun p => p = w) h4) := W23.2.hd.trans x34.hd
      have hw4 : WellAt h4 w := let ⟨a, b, c, e⟩ := W23.1; ⟨a, b, c, x34 _ _ e⟩
      have hR4 := hR.up x24
      have hF4 := hF.up x34.hd
      dsimp only [aIfS]
      dsimp only [nb, aRet, aRetN, aNext, aBreak, aCont, aDrop, aAsg, aPar, aAug, aSetL, aSetF, aFld, aVar, aC, aNil, aCons, aTup, aLst, a1, a2, aN, aAndV, aOrV, aNotV, aIf, aAnd, aOr, aNot, aTest, aChn, aCall, aMeth, aMake, aBmL, aRaise, aTryOnly, aTryAs, aiSeq, aiRng1, aiRng2, aiEnum, agN, agNil, agCons, agTup, aSlL, aRev, aNoPart, aPart, aNewK, aNewT, aLc, asB, asT, iA, iA0, subA, modA, modP, divP, divA, powA, ltA, leA, gtA, geA, addA, mulA, negA, lenA, absA, intA, allA, listA, tupleA, one, two, sp0, sp1, sp2, sp3, sp4, sp5, sp6, appendA, reverseA, clearA, wipeA, putFA, List.getElem?_cons_zero, List.getElem?_cons_succ, List.set_cons_zero, List.set_cons_succ, List.cons_append, List.nil_append, List.append_nil, R_law_good, aIfS]
      refine ⟨R, xs, rfl, hR4.up hid_ext, fun b h5 hb x45 => ?_⟩
      have hF5 : FormsAt h2 h5 z xs ys := (hF4.up hid_ext).up x45
      have hS5 : SamR h5 (SamA h5 3) z f := SamR.up (hid_ext.trans x45) (fun x y q => SamA.up (hid_ext.trans x45) _ _ _ q) hS
      have hR5 : RowsAt h5 R xs := (hR4.up hid_ext).up x45
      cases b with
      | false =>
        refine ifT ?_
        have no : ¬ ∃ g, GoodG h5 z g := fun ⟨g, G⟩ => by
          have := hb.mpr ⟨g, good_down x45 (hR4.up hid_ext) ((forms_good hR5.1 hF5).mpr G)⟩
          cases this
        refine ⟨form_kd (Ext.refl h5) hR5.2.1 hR5.2.2 hF5, fun b2 h6 hb2 x56 => ?_⟩
        have := hb2.mpr no
        subst this
        refine ifF (eqA_same (SamR.up x56 (fun x y q => SamA.up x56 _ _ _ q) hS5) (by decide) ?_)
        refine ifF ⟨_, _, _, _, _, _, _, _, rfl, ks, x56 _ _ (x45 _ _ (x04 _ _ e0k)), by omega, ?_, fun e he => ?_⟩
        · exact (x04.hd.trans (x45.hd.trans x56.hd)) _ _ e0Z
        · exact (ok e he).up (x04.hd.trans (x45.hd.trans x56.hd))
      | true =>
        refine ifF ?_
        obtain ⟨g0, G4⟩ := hb.mp rfl
        have hw5 : WellAt h5 w := let ⟨a, b, c, e⟩ := hw4; ⟨a, b, c, x45 _ _ e⟩
        refine seq_cut (fun α h' => ∃ cc, α = [some (.fls (ns.map A.int)), some (.ref kp), some (.int c), some (.ref w), some (.ref R), some z, some f, some (.ref cc), o8, o9] ∧ (∃ vs, h' cc = some (.lst vs) ∧ vs.length ≤ 10 ∧ ∀ x ∈ vs, ∃ a b : Int, x = .tup [.int a, .int b]) ∧ h5 cc = none ∧ Wl w h5 h') (fun J hJ => ?_) fun α h6 pv => ?_
        · dsimp only [nb, aRet, aRetN, aSeq, aIfS, aNext, aBreak, aCont, aDrop, aAsg, aPar, aAug, aSetL, aSetF, aFld, aVar, aC, aNil, aCons, aTup, aLst, a1, a2, aN, aAndV, aOrV, aNotV, aIf, aAnd, aOr, aNot, aTest, aChn, aCall, aMeth, aMake, aBmL, aRaise, aTryOnly, aTryAs, aFor, aiSeq, aiRng1, aiRng2, aiEnum, agN, agNil, agCons, agTup, aSlL, aRev, aNoPart, aPart, aNewK, aNewT, aLc, aWhile, asB, asT, iA, iA0, subA, modA, modP, divP, divA, powA, ltA, leA, gtA, geA, addA, mulA, negA, lenA, absA, intA, allA, listA, tupleA, one, two, sp0, sp1, sp2, sp3, sp4, sp5, sp6, appendA, reverseA, clearA, wipeA, putFA, List.getElem?_cons_zero, List.getElem?_cons_succ, List.set_cons_zero, List.set_cons_succ, List.cons_append, List.nil_append, List.append_nil, R_law_spot]
          refine ⟨w, rfl, hw5, fun r1 k1 W1 => ⟨w, rfl, W1.1, fun r2 k2 W2 => ⟨by simp; decide, w, rfl, W2.1, fun r3 k3 W3 => ⟨by simp; decide, by simp; decide, fun p hp => hJ _ _ ⟨p, rfl, ⟨_, updA_same, Nat.le_of_ble_eq_true rfl, ?_⟩, ((W1.trans W2).trans W3).isN hp, ((W1.trans W2).trans W3).trans (Wl.ext W3.1 (Ext.new hp))⟩⟩⟩⟩⟩
          intro x hx
          simp only [List.mem_cons, List.not_mem_nil, or_false] at hx
          rcases hx with rfl | rfl <;> exact ⟨_, _, rfl⟩
        obtain ⟨cc, rfl, ⟨vs, ecc, lvs, kvs⟩, hcc0, W56⟩ := pv
        have hcc : CellsAt h6 cc := ⟨vs, ecc, kvs⟩
        have x06 : Ext h0 h6 := Ext.wl (x04.trans x45) hw0 W56
        have x26 : Ext (hid (fun p => p = w) h2) (hid (fun p => p = w) h6) := (x24.trans x45.hd).trans W56.2.hd
        have y56 : Ext (hid (fun p => p = w) h4) (hid (fun p => p = w) h6) := x45.hd.trans W56.2.hd
        have hF6 : FormsAt h2 (hid (fun p => p = w) h6) z xs ys := hF4.up y56
        have hS6 : SamR h6 (SamA h6 3) z f := SamR.up (y56.trans hid_ext) (fun x y q => SamA.up (y56.trans hid_ext) _ _ _ q) hS
        have hR6 : RowsAt (hid (fun p => p = w) h6) R xs := hR.up x26
        refine seq_cut (fun α h' => ∃ t g, α = [some (.fls (ns.map A.int)), some (.ref kp), some (.int c), some (.ref w), some (.ref R), some z, some f, some (.ref cc), some (.ref t), o9] ∧ Ext h6 h' ∧ TipAt K (nw h6 h') t g ∧ GoodG h6 z g) (fun J hJ => ?_) fun α h7 pv => ?_
        · dsimp only [nb, aRet, aRetN, aSeq, aIfS, aNext, aBreak, aCont, aDrop, aAsg, aPar, aAug, aSetL, aSetF, aFld, aVar, aC, aNil, aCons, aTup, aLst, a1, a2, aN, aAndV, aOrV, aNotV, aIf, aAnd, aOr, aNot, aTest, aChn, aCall, aMeth, aMake, aBmL, aRaise, aTryOnly, aTryAs, aFor, aiSeq, aiRng1, aiRng2, aiEnum, agN, agNil, agCons, agTup, aSlL, aRev, aNoPart, aPart, aNewK, aNewT, aLc, aWhile, asB, asT, iA, iA0, subA, modA, modP, divP, divA, powA, ltA, leA, gtA, geA, addA, mulA, negA, lenA, absA, intA, allA, listA, tupleA, one, two, sp0, sp1, sp2, sp3, sp4, sp5, sp6, appendA, reverseA, clearA, wipeA, putFA, List.getElem?_cons_zero, List.getElem?_cons_succ, List.set_cons_zero, List.set_cons_succ, List.cons_append, List.nil_append, List.append_nil, R_Tip_init]
          intro t ht
          have e1 := Ext.new (o := .ins (c_Tip K) []) ht
          refine ⟨t, rfl, updA_same, (form_kd hid_ext hR6.2.1 hR6.2.2 (hF6.up hid_ext)).up e1, ?_, fun g G h7 W fx eW gW => hJ _ _ ⟨t, g, rfl, fun a o z => fx a o (fun m => by subst m; rw [ht] at z; cases z) (e1 _ _ z), ⟨W, nw_of ht eW, gW.up (nw_less e1)⟩, G.ins⟩, fun no => (no ⟨g0, ?_⟩).elim⟩
          · rintro rfl
            have := itA_ref.mp (itA_up hid_ext hF6.1)
            rw [ht] at this
            cases this
          · have G2 := good_down (hid_ext : Ext (hid (fun p => p = w) h4) h4) hR4 G4
            exact ((((forms_good hR4.1 hF4).mp G2).up y56).up hid_ext).up e1
        obtain ⟨t, g, rfl, x67, hT, G⟩ := pv
        have GR : GoodG h6 (.ref R) g := (forms_good (hid_ext _ _ hR6.1) (hF6.up hid_ext)).mpr G
        have gR2 : GridAt (hid (fun p => p = w) h2) R g := rows_grid (x26.trans hid_ext) hR GR
        have sq := Sq.of G
        have hS7 : SamR h7 (SamA h7 3) z f := SamR.up x67 (fun x y q => SamA.up x67 _ _ _ q) hS6
        refine seq_cut (fun α h' => α = [some (.fls (ns.map A.int)), some (.ref kp), some (.int c), some (.ref w), some (.ref R), some z, some f, some (.ref cc), some (.ref t), o9] ∧ Ext h7 h') (fun J hJ => ?_) fun α h8 pv => ?_
        · dsimp only [aIfS]
          dsimp only [nb, aRet, aRetN, aNext, aBreak, aCont, aDrop, aAsg, aPar, aAug, aSetL, aSetF, aFld, aVar, aC, aNil, aCons, aTup, aLst, a1, a2, aN, aAndV, aOrV, aNotV, aIf, aAnd, aOr, aNot, aTest, aChn, aCall, aMeth, aMake, aBmL, aRaise, aTryOnly, aTryAs, aiSeq, aiRng1, aiRng2, aiEnum, agN, agNil, agCons, agTup, aSlL, aRev, aNoPart, aPart, aNewK, aNewT, aLc, asB, asT, iA, iA0, subA, modA, modP, divP, divA, powA, ltA, leA, gtA, geA, addA, mulA, negA, lenA, absA, intA, allA, listA, tupleA, one, two, sp0, sp1, sp2, sp3, sp4, sp5, sp6, appendA, reverseA, clearA, wipeA, putFA, List.getElem?_cons_zero, List.getElem?_cons_succ, List.set_cons_zero, List.set_cons_succ, List.cons_append, List.nil_append, List.append_nil, R_law_told]
          refine eqA_same hS7 (by decide) (ifF ?_)
          exact ⟨t, R, cc, g, rfl, rfl, rfl, hT.up nw_ext, gR2.up ((x26.trans hid_ext).trans x67), sq, hcc.up x67, fun h' x => ifF (hJ _ _ ⟨rfl, x⟩)⟩
        obtain ⟨rfl, x78⟩ := pv
        have hF8 : FormsAt h2 h8 z xs ys := ((hF6.up hid_ext).up x67).up x78
        have G8 := (G.up x67).up x78
        refine seq_cut (fun α h' => α = [some (.fls (ns.map A.int)), some (.ref kp), some (.int c), some (.ref w), some (.ref R), some z, some f, some (.ref cc), some (.ref t), o9] ∧ Fx (fun p => z = .ref p ∨ A.ref p ∈ ys) h8 h') (fun J hJ => ?_) fun α h9 pv => ?_
        · dsimp only [nb, aRet, aRetN, aSeq, aIfS, aNext, aBreak, aCont, aDrop, aAsg, aPar, aAug, aSetL, aSetF, aFld, aVar, aC, aNil, aCons, aTup, aLst, a1, a2, aN, aAndV, aOrV, aNotV, aIf, aAnd, aOr, aNot, aTest, aChn, aCall, aMeth, aMake, aBmL, aRaise, aTryOnly, aTryAs, aFor, aiSeq, aiRng1, aiRng2, aiEnum, agN, agNil, agCons, agTup, aSlL, aRev, aNoPart, aPart, aNewK, aNewT, aLc, aWhile, asB, asT, iA, iA0, subA, modA, modP, divP, divA, powA, ltA, leA, gtA, geA, addA, mulA, negA, lenA, absA, intA, allA, listA, tupleA, one, two, sp0, sp1, sp2, sp3, sp4, sp5, sp6, appendA, reverseA, clearA, wipeA, putFA, List.getElem?_cons_zero, List.getElem?_cons_succ, List.set_cons_zero, List.set_cons_succ, List.cons_append, List.nil_append, List.append_nil, R_law_changed]
          have ll := hF8.2.2.length
          obtain ⟨l, ys2, e2, p⟩ := G8
          have hF81 := hF8.1
          rw [hF81] at e2
          cases e2
          refine ⟨ys, hF81, by rw [← ll]; exact hR.2.1, ?_, fun r hr => ?_, fun h' fx => hJ _ _ ⟨rfl, fx⟩⟩
          · intro z
            subst z
            cases p
            rcases l with l | l | l <;> cases l
          · obtain ⟨j, hj, rfl⟩ := List.getElem_of_mem hr
            have rg := Paired.get p j hj (by rw [← p.length]; exact hj)
            rcases kind_it rg.1 with ⟨_, p2, e, e2⟩ | ⟨_, e⟩
            · refine .inr ?_
              have hl2 := rg.2.1
              revert e2 hl2
              generalize g[j]'(by rw [← p.length]; exact hj) = ws
              intro e2 hl2
              cases ws with
              | nil => rw [List.length_nil] at hl2; omega
              | cons w0 ws => exact ⟨p2, w0, ws, e, e2, by rw [List.length_cons] at hl2; omega⟩
            · exact .inl ⟨_, e⟩
        obtain ⟨rfl, fx⟩ := pv
        -- what changed is new since h2, and old at h6
        have mNew4 : ∀ p, (z = .ref p ∨ A.ref p ∈ ys) → h2 p = none ∧ ∃ o, hid (fun p => p = w) h4 p = some o := fun p hp => by
          rcases hp with rfl | hp
          · exact ⟨hF4.2.1 p rfl, _, itA_ref.mp hF4.1⟩
          · obtain ⟨j, hj, e⟩ := List.getElem_of_mem hp
            have hx : j < xs.length := by rw [hF4.2.2.length]; exact hj
            have fo := Paired.get hF4.2.2 j hx hj
            obtain ⟨l, ys2, e2, pg⟩ := G
            rw [itA_up hid_ext hF6.1] at e2
            cases e2
            have rg := (Paired.get pg j hj (by rw [← pg.length]; exact hj)).1
            rw [e] at fo rg
            rcases fo with ⟨ns, e3⟩ | ⟨ws, _, e3 | ⟨p2, e3, e4, e5⟩⟩
            · rw [← e3] at ns
              exact absurd rg (notSeq_it (ns.up (y56.trans hid_ext)))
            · cases e3
            · cases e3
              exact ⟨e4, _, e5⟩
        have mNew : ∀ p, (z = .ref p ∨ A.ref p ∈ ys) → h2 p = none ∧ h6 p ≠ none := fun p hp => by
          obtain ⟨a, o, b⟩ := mNew4 p hp
          exact ⟨a, by rw [hid_ext _ _ (y56 _ _ b)]; simp⟩
        have x79 : Fx (fun p => z = .ref p ∨ A.ref p ∈ ys) h7 h9 := (x78.fx).trans fx
        have x69 : Fx (fun p => z = .ref p ∨ A.ref p ∈ ys) h6 h9 := (x67.fx).trans x79
        have old : ∀ g : AH, Ext g (hid (fun p => p = w) h2) → Ext g h9 := fun g e a o y => x69 a o (fun m => by
          have := (mNew a m).1
          rw [hid_ext _ _ (e _ _ y)] at this
          cases this) (hid_ext _ _ (x26 _ _ (e _ _ y)))
        have x02 : Ext h0 (hid (fun p => p = w) h2) := fun a o y => hid_of (fun m => by subst m; rw [hw0] at y; cases y) (Ext.wl x01 hw0 W12 a o y)
        have x09 : Ext h0 h9 := old h0 x02
        have hT9 : TipAt K (nw h6 h9) t g := hT.up (nw_fx x79 fun p m => (mNew p m).2)
        have gR9 : GridAt h9 R g := gR2.up (old _ (Ext.refl _))
        have ecc9 : nw h5 h9 cc = some (.lst vs) := nw_of hcc0 (x69 _ _ (fun m => by
          obtain ⟨_, o, b⟩ := mNew4 cc m
          rw [x45 _ _ (hid_ext _ _ b)] at hcc0
          cases hcc0) ecc)
        refine seq_cut (fun α h' => α = [some (.fls (ns.map A.int)), some (.ref kp), some (.int c), some (.ref w), some (.ref R), some z, some f, some (.ref cc), some (.ref t), o9] ∧ Ext h9 h') (fun J hJ => ?_) fun α h10 pv => ?_
        · dsimp only [aIfS]
          dsimp only [nb, aRet, aRetN, aNext, aBreak, aCont, aDrop, aAsg, aPar, aAug, aSetL, aSetF, aFld, aVar, aC, aNil, aCons, aTup, aLst, a1, a2, aN, aAndV, aOrV, aNotV, aIf, aAnd, aOr, aNot, aTest, aChn, aCall, aMeth, aMake, aBmL, aRaise, aTryOnly, aTryAs, aiSeq, aiRng1, aiRng2, aiEnum, agN, agNil, agCons, agTup, aSlL, aRev, aNoPart, aPart, aNewK, aNewT, aLc, asB, asT, iA, iA0, subA, modA, modP, divP, divA, powA, ltA, leA, gtA, geA, addA, mulA, negA, lenA, absA, intA, allA, listA, tupleA, one, two, sp0, sp1, sp2, sp3, sp4, sp5, sp6, appendA, reverseA, clearA, wipeA, putFA, List.getElem?_cons_zero, List.getElem?_cons_succ, List.set_cons_zero, List.set_cons_succ, List.cons_append, List.nil_append, List.append_nil, R_law_told]
          have ev := nw_ext _ _ ecc9
          refine ⟨vs, ev, fun r hr => ?_⟩
          have r1 := Ext.new (o := .lst (cutA vs none (some 1))) hr
          refine ⟨vs, _, r1 _ _ ev, updA_same, ?_, fun s hs => ?_⟩
          · have := cutA_len (xs := vs) (lo := none) (hi := some 1)
            exact Nat.le_trans (by omega : _ ≤ 20) (by decide)
          have r2 := r1.trans (Ext.new (o := .lst (vs ++ cutA vs none (some 1))) hs)
          exact ⟨t, R, s, g, rfl, rfl, rfl, (hT9.up nw_ext).up r2, gR9.up r2, sq, ⟨_, updA_same, fun x hx => (List.mem_append.mp hx).elim (kvs x) fun hx => kvs x (cutA_mem hx)⟩, fun h' x => ifF (hJ _ _ ⟨rfl, r2.trans x⟩)⟩
        obtain ⟨rfl, x910⟩ := pv
        have ek10 := x910 _ _ (x09 _ _ e0k)
        dsimp only [nb, aRet, aRetN, aSeq, aIfS, aNext, aBreak, aCont, aDrop, aAsg, aPar, aAug, aSetL, aSetF, aFld, aVar, aC, aNil, aCons, aTup, aLst, a1, a2, aN, aAndV, aOrV, aNotV, aIf, aAnd, aOr, aNot, aTest, aChn, aCall, aMeth, aMake, aBmL, aRaise, aTryOnly, aTryAs, aFor, aiSeq, aiRng1, aiRng2, aiEnum, agN, agNil, agCons, agTup, aSlL, aRev, aNoPart, aPart, aNewK, aNewT, aLc, aWhile, asB, asT, iA, iA0, subA, modA, modP, divP, divA, powA, ltA, leA, gtA, geA, addA, mulA, negA, lenA, absA, intA, allA, listA, tupleA, one, two, sp0, sp1, sp2, sp3, sp4, sp5, sp6, appendA, reverseA, clearA, wipeA, putFA, List.getElem?_cons_zero, List.getElem?_cons_succ, List.set_cons_zero, List.set_cons_succ, List.cons_append, List.nil_append, List.append_nil]
        refine ⟨⟨_, ek10⟩, by simp; decide, ks, ek10, ?_, ?_⟩
        · exact Nat.lt_of_le_of_lt (by omega : _ ≤ 1000) (by decide)
        · have up : ∀ g : AH, Ext g h10 → g kp = none → ∀ o, Ext g (hid (fun p => p = kp) (updA h10 kp o)) := fun g e n o a u y => by
            have : a ≠ kp := fun m => by subst m; rw [n] at y; cases y
            exact hid_of this (by rw [updA_ne this]; exact e _ _ y)
          have n0 : hid (fun p => p = kp) h0 kp = none := by unfold hid; rw [if_pos rfl]
          have up0 := up (hid (fun p => p = kp) h0) ((hid_ext.trans x09).trans x910) n0
          refine ⟨_, _, _, _, _, _, _, _, rfl, ks ++ [.tup [.ref t, .ref R, .ref cc]], updA_same, by rw [List.length_append]; simp; omega, up0 _ _ _ e0Z, fun e he => ?_⟩
          rcases List.mem_append.mp he with he | he
          · exact (ok e he).up (up0 _)
          · rw [List.mem_singleton.mp he]
            have up1 := up (nw h6 h9) (nw_ext.trans x910) (by unfold nw; rw [if_neg (by rw [x06 _ _ e0k]; simp)])
            have up2 := up (nw h5 h9) (nw_ext.trans x910) (by unfold nw; rw [if_neg (by rw [x45 _ _ (x04 _ _ e0k)]; simp)])
            have up3 := up (hid (fun p => p = kp) (hid (fun p => p = w) h2)) ((hid_ext.trans (old _ (Ext.refl _))).trans x910) (by unfold hid; rw [if_pos rfl])
            have gk := grid_apart gR2 (by obtain ⟨l, _⟩ := G; omega) sq (x02 _ _ e0k) fun e he => by
              obtain ⟨_, _, _, _, e, _⟩ := ok e he
              exact ⟨_, e⟩
            exact ⟨t, R, cc, g, rfl, hT9.up (up1 _), gk.up (up3 _), sq, ⟨vs, up2 _ _ _ ecc9, kvs⟩⟩
    · obtain ⟨o2, o3, o4, o5, o6, o7, o8, o9, rfl, ks, e0k, lk, e0Z, ok⟩ := pv
      exact hJ _ _ ⟨_, _, _, _, _, _, _, _, rfl, ks, e0k, by omega, ok⟩
  obtain ⟨o2, o3, o4, o5, o6, o7, o8, o9, rfl, ks, ek2, lk, ok⟩ := pv
  refine seq_cut (fun α h' => ∃ o2 o3 o4 o5 o6 o7 o8 o9, α = [some (.fls (ns.map A.int)), some (.ref kp), o2, o3, o4, o5, o6, o7, o8, o9] ∧ h' kp = some (.lst ks) ∧ ∀ e ∈ ks, KeptOk K h' e) (fun J hJ => ?_) fun α h' pv => ?_
  · dsimp only [nb, aRet, aRetN, aSeq, aIfS, aNext, aBreak, aCont, aDrop, aAsg, aPar, aAug, aSetL, aSetF, aFld, aVar, aC, aNil, aCons, aTup, aLst, a1, a2, aN, aAndV, aOrV, aNotV, aIf, aAnd, aOr, aNot, aTest, aChn, aCall, aMeth, aMake, aBmL, aRaise, aTryOnly, aTryAs, aFor, aiSeq, aiRng1, aiRng2, aiEnum, agN, agNil, agCons, agTup, aSlL, aRev, aNoPart, aPart, aNewK, aNewT, aLc, aWhile, asB, asT, iA, iA0, subA, modA, modP, divP, divA, powA, ltA, leA, gtA, geA, addA, mulA, negA, lenA, absA, intA, allA, listA, tupleA, one, two, sp0, sp1, sp2, sp3, sp4, sp5, sp6, appendA, reverseA, clearA, wipeA, putFA, List.getElem?_cons_zero, List.getElem?_cons_succ, List.set_cons_zero, List.set_cons_succ, List.cons_append, List.nil_append, List.append_nil]
    intro D hD
    refine ⟨by decide, by decide, fun p1 hp1 => ⟨by decide, fun p2 hp2 => ⟨by simp; decide, fun p3 hp3 => ⟨by decide, by simp; decide, by simp; decide, fun L hL => ?_⟩⟩⟩⟩
    have e1 := Ext.new (o := .dK []) hD
    have e2 := Ext.new (o := .lst []) hp1
    have e3 := Ext.new (o := .lst []) hp2
    have e4 := Ext.new (o := .lst [.ref p2]) hp3
    have e5 := Ext.new (o := .lst [.non, .int 5, .bl true, .str "", .str "16", .ref D, .tup [], .ref p1, .ref p3, .tup [.tup []]]) hL
    have eD := ((e2.trans e3).trans (e4.trans e5)) _ _ (updA_same (h := h') (a := D) (o := .dK []))
    have ep1 := (e3.trans (e4.trans e5)) _ _ (updA_same (a := p1) (o := .lst []))
    have ep2 := (e4.trans e5) _ _ (updA_same (a := p2) (o := .lst []))
    have ep3 := e5 _ _ (updA_same (a := p3) (o := .lst [.ref p2]))
    have eAll := e1.trans ((e2.trans e3).trans (e4.trans e5))
    have eL := updA_same (h := updA (updA (updA (updA h' D (.dK [])) p1 (.lst [])) p2 (.lst [])) p3 (.lst [.ref p2])) (a := L) (o := .lst [.non, .int 5, .bl true, .str "", .str "16", .ref D, .tup [], .ref p1, .ref p3, .tup [.tup []]])
    revert eD ep1 ep2 ep3 eAll eL
    generalize updA (updA (updA (updA (updA h' D (.dK [])) p1 (.lst [])) p2 (.lst [])) p3 (.lst [.ref p2])) L (.lst [.non, .int 5, .bl true, .str "", .str "16", .ref D, .tup [], .ref p1, .ref p3, .tup [.tup []]]) = hz
    intro eD ep1 ep2 ep3 eAll eL
    have bad : ∀ x ∈ [A.non, .int 5, .bl true, .str "", .str "16", .ref D, .tup [], .ref p1, .ref p3, .tup [.tup []]], KD hz x ∧ ¬ ∃ g, GoodG hz x g := by
      intro x hx
      simp only [List.mem_cons, List.not_mem_nil, or_false] at hx
      rcases hx with rfl | rfl | rfl | rfl | rfl | rfl | rfl | rfl | rfl | rfl
      · exact bad_none ⟨_, rfl, rfl, rfl⟩
      · exact bad_none ⟨_, rfl, rfl, rfl⟩
      · exact bad_none ⟨_, rfl, rfl, rfl⟩
      · exact bad_none ⟨_, rfl, rfl, rfl⟩
      · exact bad_none ⟨_, rfl, rfl, rfl⟩
      · exact bad_none ⟨"dict", by simp only [kindA]; rw [eD], rfl, rfl⟩
      · exact bad_nil rfl
      · exact bad_nil (itA_ref.mpr ep1)
      · exact bad_one (itA_ref.mpr ep3) (itA_ref.mpr ep2)
      · exact bad_one rfl rfl
    generalize [A.non, .int 5, .bl true, .str "", .str "16", .ref D, .tup [], .ref p1, .ref p3, .tup [.tup []]] = items at eL bad
    have down : ∀ (h2 : AH) (x : A) (g : List (List Int)), Ext hz h2 → x ∈ items → GoodG h2 x g → GoodG hz x g := fun h2 x g e hx G => by
      obtain ⟨kd, _⟩ := bad x hx
      rcases kd with ns | ⟨xs, ex, _, hr⟩
      · obtain ⟨_, ys, ey, _⟩ := G
        exact absurd ey (notSeq_it (ns.up e))
      · obtain ⟨l, ys, ey, p⟩ := G
        rw [itA_up e ex] at ey
        cases ey
        refine ⟨l, xs, ex, Paired.of_get p.length fun i h1 h2 => ?_⟩
        have r := Paired.get p i h1 h2
        rcases hr _ (List.getElem_mem h1) with ns | ⟨ws, ew, _⟩
        · exact absurd r.1 (notSeq_it (ns.up e))
        · have r1 := r.1
          rw [itA_up e ew] at r1
          exact ⟨by rw [ew]; exact r1, r.2⟩
    refine for_it (fun i α h2 => (∃ o2 o3 o4 o5 o6 o7 o8 o9, α = [some (.fls (ns.map A.int)), some (.ref kp), o2, o3, o4, o5, o6, o7, o8, o9]) ∧ Ext hz h2) (itA_ref.mpr eL) ⟨⟨_, _, _, _, _, _, _, _, rfl⟩, Ext.refl _⟩ (fun p e i α h2 _ pv => by cases e; exact pv.2 _ _ eL) (fun i hi α h2 pv => ?_) fun α h2 pv => ?_
    · obtain ⟨⟨o2, o3, o4, o5, o6, o7, o8, o9, rfl⟩, ex⟩ := pv
      obtain ⟨kd, no⟩ := bad _ (List.getElem_mem hi)
      dsimp only [nb, aRet, aRetN, aSeq, aIfS, aNext, aBreak, aCont, aDrop, aAsg, aPar, aAug, aSetL, aSetF, aFld, aVar, aC, aNil, aCons, aTup, aLst, a1, a2, aN, aAndV, aOrV, aNotV, aIf, aAnd, aOr, aNot, aTest, aChn, aCall, aMeth, aMake, aBmL, aRaise, aTryOnly, aTryAs, aFor, aiSeq, aiRng1, aiRng2, aiEnum, agN, agNil, agCons, agTup, aSlL, aRev, aNoPart, aPart, aNewK, aNewT, aLc, aWhile, asB, asT, iA, iA0, subA, modA, modP, divP, divA, powA, ltA, leA, gtA, geA, addA, mulA, negA, lenA, absA, intA, allA, listA, tupleA, one, two, sp0, sp1, sp2, sp3, sp4, sp5, sp6, appendA, reverseA, clearA, wipeA, putFA, List.getElem?_cons_zero, List.getElem?_cons_succ, List.set_cons_zero, List.set_cons_succ, List.cons_append, List.nil_append, List.append_nil, R_law_refused]
      refine ⟨kd.up ex, fun b h3 hb x23 => ?_⟩
      have := hb.mpr fun ⟨g, G⟩ => no ⟨g, down _ _ _ ex (List.getElem_mem hi) G⟩
      subst this
      exact ifF ⟨⟨_, _, _, _, _, _, _, _, rfl⟩, ex.trans x23⟩
    · obtain ⟨⟨o2, o3, o4, o5, o6, o7, o8, o9, rfl⟩, ex⟩ := pv
      exact hJ _ _ ⟨_, _, _, _, _, _, _, _, rfl, ex _ _ (eAll _ _ ek2), fun e he => (ok e he).up (hid_ext.trans (eAll.trans ex))⟩
  obtain ⟨o2, o3, o4, o5, o6, o7, o8, o9, rfl, ek3, ok3⟩ := pv
  dsimp only [nb, aRet, aRetN, aSeq, aIfS, aNext, aBreak, aCont, aDrop, aAsg, aPar, aAug, aSetL, aSetF, aFld, aVar, aC, aNil, aCons, aTup, aLst, a1, a2, aN, aAndV, aOrV, aNotV, aIf, aAnd, aOr, aNot, aTest, aChn, aCall, aMeth, aMake, aBmL, aRaise, aTryOnly, aTryAs, aFor, aiSeq, aiRng1, aiRng2, aiEnum, agN, agNil, agCons, agTup, aSlL, aRev, aNoPart, aPart, aNewK, aNewT, aLc, aWhile, asB, asT, iA, iA0, subA, modA, modP, divP, divA, powA, ltA, leA, gtA, geA, addA, mulA, negA, lenA, absA, intA, allA, listA, tupleA, one, two, sp0, sp1, sp2, sp3, sp4, sp5, sp6, appendA, reverseA, clearA, wipeA, putFA, List.getElem?_cons_zero, List.getElem?_cons_succ, List.set_cons_zero, List.set_cons_succ, List.cons_append, List.nil_append, List.append_nil]
  refine ⟨ks, ek3, fun r hr => ?_⟩
  have er := Ext.new (o := .lst ks.reverse) hr
  refine lc_it (fun D i h2 => Ext (updA h' r (.lst ks.reverse)) h2 ∧ h2 D = some (.lst ((List.replicate i true).map A.bl))) (itA_ref.mpr updA_same) (fun D hD => ⟨Ext.new hD, updA_same⟩) (fun D hD p e i h2 _ pv => by cases e; exact pv.1 _ _ updA_same)
    (fun D hD i hi h2 pv => ?_) fun D hD h2 pv => ?_
  · obtain ⟨ex, eD⟩ := pv
    obtain ⟨t, R, c, g, e, hT, hG, sq, vs, ec, kc⟩ := ok3 _ (List.mem_reverse.mp (List.getElem_mem hi))
    rw [e]
    dsimp only [nb, aRet, aRetN, aSeq, aIfS, aNext, aBreak, aCont, aDrop, aAsg, aPar, aAug, aSetL, aSetF, aFld, aVar, aC, aNil, aCons, aTup, aLst, a1, a2, aN, aAndV, aOrV, aNotV, aIf, aAnd, aOr, aNot, aTest, aChn, aCall, aMeth, aMake, aBmL, aRaise, aTryOnly, aTryAs, aFor, aiSeq, aiRng1, aiRng2, aiEnum, agN, agNil, agCons, agTup, aSlL, aRev, aNoPart, aPart, aNewK, aNewT, aLc, aWhile, asB, asT, iA, iA0, subA, modA, modP, divP, divA, powA, ltA, leA, gtA, geA, addA, mulA, negA, lenA, absA, intA, allA, listA, tupleA, one, two, sp0, sp1, sp2, sp3, sp4, sp5, sp6, appendA, reverseA, clearA, wipeA, putFA, List.getElem?_cons_zero, List.getElem?_cons_succ, List.set_cons_zero, List.set_cons_succ, List.cons_append, List.nil_append, List.append_nil, R_law_told]
    have ex2 := er.trans ex
    refine ⟨rfl, rfl, vs, ex2 _ _ ec, fun s hs => ?_⟩
    have es := Ext.new (o := .lst vs.reverse) hs
    refine ⟨t, R, s, g, rfl, rfl, rfl, hT.up (ex2.trans es), hG.up (ex2.trans es), sq, ⟨_, updA_same, fun x hx => kc x (List.mem_reverse.mp hx)⟩, fun h3 x3 => ⟨_, x3 _ _ (es _ _ eD), ?_, Ext.wr hD (ex.trans (es.trans x3)), ?_⟩⟩
    · rw [List.length_map, List.length_replicate]
      rw [List.length_reverse] at hi
      exact Nat.lt_of_lt_of_le (by omega : i < 1000) (by decide)
    · rw [updA_same, List.replicate_succ', List.map_append]
      rfl
  · obtain ⟨ex, eD⟩ := pv
    refine ⟨_, eD, ?_⟩
    have : (List.replicate ks.reverse.length true).all id = true := by simp
    rw [this]
    exact q h2
theorem law_reads {K : Frg} (ns : List Int) (_ : ns.length ≤ 63) (_ : ∀ z ∈ ns, Builtin.Int.intBits z ≤ 1048576) : sp_law K [.fls (ns.map A.int)] (fun _ => none) (fun v _ => v = .bl true) AE0 := ⟨ns, rfl, fun _ => rfl⟩
end GL
namespace GL
open PySem PySem.Spec L2 G
section
variable {P : Program} {w : World} {K : Frg} {mg : Str → Option Value} {base : Heap}
theorem ok_is_sixteenth (T : Txt K mg) (F : ∃ fd, FunD K d_is_sixteenth.name d_is_sixteenth.qual d_is_sixteenth.params d_is_sixteenth.body d_is_sixteenth.scope [] [] (f_is_sixteenth K) fd)  : DefOk P w K mg base (f_is_sixteenth K) 1 a_is_sixteenth (sp_is_sixteenth K) :=
  defOk (k := 0) (t := t_is_sixteenth K) F (fun _ _ _ _ _ _ us hl => match us, hl with | [_], _ => rfl) sc_is_sixteenth (fun cdv A outer s H E hr hp =>
  (ass_one (as_ret (ae_and (ae_callB callr_isi o_isi rfl T.n_isinstance (by decide +kernel) (aa_cons (av 0) (aa_cons (ae_bty rfl T.n_int (by decide +kernel)) aa_nil))) (ae_and (ae_not (ae_callB callr_isi o_isi rfl T.n_isinstance (by decide +kernel) (aa_cons (av 0) (aa_cons (ae_bty rfl T.n_bool (by decide +kernel)) aa_nil)))) (ae_one (ae_chain op_le op_le o_le o_le ae_int (av 0) (ae_gint rfl T.c_FULL)))))))) (sp1_in (T := fun as _ _ _ => as.length = 1) fun _ _ _ _ _ => rfl) (sp1_in fun _ _ _ _ h => rd_is_sixteenth T.toTK h)
theorem ok_is_weights (T : Txt K mg) (F : ∃ fd, FunD K d_is_weights.name d_is_weights.qual d_is_weights.params d_is_weights.body d_is_weights.scope [] [] (f_is_weights K) fd) (h_is_sixteenth : DefOk P w K mg base (f_is_sixteenth K) 1 a_is_sixteenth (sp_is_sixteenth K)) : DefOk P w K mg base (f_is_weights K) 2 a_is_weights (sp_is_weights K) :=
  defOk (k := 1) (t := t_is_weights K) F (fun _ _ _ _ _ _ us hl => match us, hl with | [_, _], _ => rfl) sc_is_weights (fun cdv A outer s H E hr hp =>
  (ass_cons (as_if (AW.at (aw_or (at_not (at_val (ae_callB callr_isi o_isi rfl T.n_isinstance (by decide +kernel) (aa_cons (av 0) (aa_cons (ae_tup (aa_cons (ae_bty rfl T.n_list (by decide +kernel)) (aa_cons (ae_bty rfl T.n_tuple (by decide +kernel)) aa_nil))) aa_nil))))) (aw_or1 (at_cmp (opr_ne hr.units) o_ne (ae_callB call_len_seq o_len rfl T.n_len boot_len (aa_cons (av 0) aa_nil)) (av 1) (nomark _)))))
  (ass_one (as_ret ae_bl))
  ass_nil)
  (ass_one (as_ret (ae_callB (cr_all rfl) o_all rfl T.n_all (by decide +kernel) (aa_cons (ae_lc (own := [("weight", 2)]) rfl sc_is_weights.nd (ai_seq (av 0)) (blkOk_by (N := N_is_weights) (sc := defScope s_is_weights) (by decide +kernel)) (fun _ _ _ _ _ => (ag_name 2 sc_is_weights.nd rfl (Or.inl rfl))) (fun _ _ _ _ _ => ats_nil) (fun _ _ _ _ _ => (c_call h_is_sixteenth (hr.mono (by decide)) T.g_is_sixteenth (aa_cons (av 2) aa_nil))) (by decide)) aa_nil)))))) (sp2_in (T := fun as _ _ _ => as.length = 2) fun _ _ _ _ _ _ => rfl) (sp2_in fun _ _ _ _ _ h => rd_is_weights T.toTK h)
theorem ok_Tip_init (T : Txt K mg) (F : ∃ fd, FunD K d_Tip_init.name d_Tip_init.qual d_Tip_init.params d_Tip_init.body d_Tip_init.scope [] [] (f_Tip_init K) fd) (h_is_weights : DefOk P w K mg base (f_is_weights K) 2 a_is_weights (sp_is_weights K)) : DefOk P w K mg base (f_Tip_init K) 3 a_Tip_init (sp_Tip_init K) :=
  defOk (k := 2) (t := t_Tip_init K) F (fun _ _ _ _ _ _ us hl => match us, hl with | [_, _], _ => rfl) sc_Tip_init (fun cdv A outer s H E hr hp =>
  (ass_cons (as_if (AW.at (aw_or (at_not (at_val (ae_callB callr_isi o_isi rfl T.n_isinstance (by decide +kernel) (aa_cons (av 1) (aa_cons (ae_tup (aa_cons (ae_bty rfl T.n_list (by decide +kernel)) (aa_cons (ae_bty rfl T.n_tuple (by decide +kernel)) aa_nil))) aa_nil))))) (aw_or1 (at_cmp op_notIn_seq (o_in true) (ae_callB call_len_seq o_len rfl T.n_len boot_len (aa_cons (av 1) aa_nil)) (ae_gcon rfl T.v_WIDTHS) rfl))))
  (ass_one (as_raise rfl T.x_NoTip rfl))
  ass_nil)
  (ass_cons (as_for hp rfl (ai_seq (av 1)) (ag_name 2 sc_Tip_init.nd rfl (Or.inl rfl))
  (ass_one (as_if (at_not (at_val (c_call h_is_weights (hr.mono (by decide)) T.g_is_weights (aa_cons (av 2) (aa_cons (ae_callB call_len_seq o_len rfl T.n_len boot_len (aa_cons (av 1) aa_nil)) aa_nil)))))
  (ass_one (as_raise rfl T.x_NoTip rfl))
  ass_nil)))
  (ass_one (as_fld (av 0) (ae_lc (own := [("row", 2)]) rfl sc_Tip_init.nd (ai_seq (av 1)) (blkOk_by (N := N_Tip_init) (sc := defScope s_Tip_init) (by decide +kernel)) (fun _ _ _ _ _ => (ag_name 2 sc_Tip_init.nd rfl (Or.inl rfl))) (fun _ _ _ _ _ => ats_nil) (fun _ _ _ _ _ => (ae_callTy call_list_of o_list rfl T.n_list (by decide +kernel) (aa_cons (av 2) aa_nil))) (by decide)) rfl))))) (sp2_in (T := fun as _ _ _ => as.length = 2) fun _ _ _ _ _ _ => rfl) (sp2_in fun _ _ _ _ _ h => rd_Tip_init T.toTK h)
theorem ok_Tip_spread (T : Txt K mg) (F : ∃ fd, FunD K d_Tip_spread.name d_Tip_spread.qual d_Tip_spread.params d_Tip_spread.body d_Tip_spread.scope [] [] (f_Tip_spread K) fd)  : DefOk P w K mg base (f_Tip_spread K) 1 a_Tip_spread (sp_Tip_spread K) :=
  defOk (k := 0) (t := t_Tip_spread K) F (fun _ _ _ _ _ _ us hl => match us, hl with | [_, _], _ => rfl) sc_Tip_spread (fun cdv A outer s H E hr hp =>
  (ass_cons (as_set 2 sc_Tip_spread.nd rfl (Or.inl rfl) (ae_op op_fdivW o_divP (ae_callB call_len_seq o_len rfl T.n_len boot_len (aa_cons (ae_fld (av 0) rfl) aa_nil)) ae_int))
  (ass_cons (as_set 3 sc_Tip_spread.nd rfl (Or.inl rfl) (ae_lst aa_nil))
  (ass_cons (as_for hp rfl (ai_enum rfl T.n_enumerate (aa_cons (ae_fld (av 0) rfl) aa_nil)) (ag_tup rfl (ags_cons (ag_name 4 sc_Tip_spread.nd rfl (Or.inl rfl)) (ags_cons (ag_name 5 sc_Tip_spread.nd rfl (Or.inl rfl)) ags_nil)))
  (ass_one (as_for hp rfl (ai_enum rfl T.n_enumerate (aa_cons (av 5) aa_nil)) (ag_tup rfl (ags_cons (ag_name 6 sc_Tip_spread.nd rfl (Or.inl rfl)) (ags_cons (ag_name 7 sc_Tip_spread.nd rfl (Or.inl rfl)) ags_nil)))
  (ass_one (as_if (at_cmp op_gt o_gt (av 7) ae_int (nomark _))
  (ass_one (as_expr (ae_bm PySem.F.slot_list_append PySem.F.type_list_append mt_append o_append (av 3) (aa_cons (ae_tup (aa_cons (ae_tup (aa_cons (ae_op op_sub o_sub (ae_op opr_add o_add (ae_ix ixr_all o_ix (av 1) ae_int (fun _ _ => rfl)) (av 6)) (av 2)) (aa_cons (ae_op op_sub o_sub (ae_op opr_add o_add (ae_ix ixr_all o_ix (av 1) ae_int (fun _ _ => rfl)) (av 4)) (av 2)) aa_nil))) (aa_cons (av 7) aa_nil))) aa_nil))))
  ass_nil)))))
  (ass_one (as_ret (av 3))))))) (sp2_in (T := fun as _ _ _ => as.length = 2) fun _ _ _ _ _ _ => rfl) (sp2_in fun _ _ _ _ _ h => rd_Tip_spread T.toTK h)
theorem ok_law_well (T : Txt K mg) (F : ∃ fd, FunD K d_law_well.name d_law_well.qual d_law_well.params d_law_well.body d_law_well.scope [] [] (f_law_well K) fd)  : DefOk P w K mg base (f_law_well K) 1 a_law_well (sp_law_well K) :=
  defOk (k := 0) (t := t_law_well K) F (fun _ _ _ _ _ _ us hl => match us, hl with | [_], _ => rfl) sc_law_well (fun cdv A outer s H E hr hp =>
  (ass_one (as_ret (ae_lst (aa_cons (ae_op opr_mul o_mul (av 0) (ae_callTy call_int1 o_int rfl T.n_int (by decide +kernel) (aa_cons (ae_cmp op_ge o_ge (av 0) (ae_op op_pow o_pow ae_int ae_int) (nomark _)) aa_nil))) (aa_cons (ae_op op_mod o_modP (av 0) ae_int) (aa_cons ae_int aa_nil))))))) (sp1_in (T := fun as _ _ _ => as.length = 1) fun _ _ _ _ _ => rfl) (sp1_in fun _ _ _ _ h => rd_law_well T.toTK h)
theorem ok_law_draw (T : Txt K mg) (F : ∃ fd, FunD K d_law_draw.name d_law_draw.qual d_law_draw.params d_law_draw.body d_law_draw.scope [] [] (f_law_draw K) fd)  : DefOk P w K mg base (f_law_draw K) 1 a_law_draw (sp_law_draw K) :=
  defOk (k := 0) (t := t_law_draw K) F (fun _ _ _ _ _ _ us hl => match us, hl with | [_, _], _ => rfl) sc_law_draw (fun cdv A outer s H E hr hp =>
  (ass_cons (as_if (at_cmp op_gt o_gt (ae_ix ixr_all o_ix (av 0) ae_int (fun _ _ => rfl)) ae_int (nomark _))
  (ass_cons (as_set 2 sc_law_draw.nd rfl (Or.inl rfl) (ae_op op_modN o_mod (ae_ix ixr_all o_ix (av 0) ae_int (fun _ _ => rfl)) (av 1)))
  (ass_cons (as_setL (ae_op opr_div o_div (ae_ix ixr_all o_ix (av 0) ae_int (fun _ _ => rfl)) (av 1)) (av 0) ae_int)
  (ass_one (as_ret (av 2)))))
  ass_nil)
  (ass_cons (as_setL (ae_op opr_add o_add (ae_ix ixr_all o_ix (av 0) ae_int (fun _ _ => rfl)) ae_int) (av 0) ae_int)
  (ass_cons (as_set 3 sc_law_draw.nd rfl (Or.inl rfl) (ae_op op_mod o_modP (ae_op opr_mul o_mul (ae_op opr_add o_add (ae_op opr_add o_add (ae_ix ixr_all o_ix (av 0) ae_int (fun _ _ => rfl)) (ae_op opr_mul o_mul ae_int (ae_ix ixr_all o_ix (av 0) ae_int (fun _ _ => rfl)))) ae_int) ae_int) ae_int))
  (ass_cons (as_set 3 sc_law_draw.nd rfl (Or.inl rfl) (ae_op op_mod o_modP (ae_op opr_mul o_mul (av 3) (ae_op opr_add o_add (ae_op op_fdivW o_divP (av 3) ae_int) ae_int)) ae_int))
  (ass_one (as_ret (ae_op op_modN o_mod (ae_op op_mod o_modP (ae_op opr_mul o_mul (av 3) (ae_op opr_add o_add (ae_op op_fdivW o_divP (av 3) ae_int) ae_int)) ae_int) (av 1))))))))) (sp2_in (T := fun as _ _ _ => as.length = 2) fun _ _ _ _ _ _ => rfl) (sp2_in fun _ _ _ _ _ h => rd_law_draw T.toTK h)
theorem ok_law_weight (T : Txt K mg) (F : ∃ fd, FunD K d_law_weight.name d_law_weight.qual d_law_weight.params d_law_weight.body d_law_weight.scope [] [] (f_law_weight K) fd) (h_law_draw : DefOk P w K mg base (f_law_draw K) 1 a_law_draw (sp_law_draw K)) : DefOk P w K mg base (f_law_weight K) 2 a_law_weight (sp_law_weight K) :=
  defOk (k := 1) (t := t_law_weight K) F (fun _ _ _ _ _ _ us hl => match us, hl with | [_], _ => rfl) sc_law_weight (fun cdv A outer s H E hr hp =>
  (ass_one (as_ret (ae_ix ixr_all o_ix (ae_lst (aa_cons ae_int (aa_cons ae_int (aa_cons (ae_op opr_add o_add ae_int (c_call h_law_draw (hr.mono (by decide)) T.g__law_draw (aa_cons (av 0) (aa_cons ae_int aa_nil)))) (aa_cons (ae_op opr_add o_add ae_int (c_call h_law_draw (hr.mono (by decide)) T.g__law_draw (aa_cons (av 0) (aa_cons ae_int aa_nil)))) aa_nil))))) (c_call h_law_draw (hr.mono (by decide)) T.g__law_draw (aa_cons (av 0) (aa_cons ae_int aa_nil))) (fun _ _ => rfl))))) (sp1_in (T := fun as _ _ _ => as.length = 1) fun _ _ _ _ _ => rfl) (sp1_in fun _ _ _ _ h => rd_law_weight T.toTK h)
theorem ok_law_no_weight (T : Txt K mg) (F : ∃ fd, FunD K d_law_no_weight.name d_law_no_weight.qual d_law_no_weight.params d_law_no_weight.body d_law_no_weight.scope [] [] (f_law_no_weight K) fd) (h_law_draw : DefOk P w K mg base (f_law_draw K) 1 a_law_draw (sp_law_draw K)) : DefOk P w K mg base (f_law_no_weight K) 2 a_law_no_weight (sp_law_no_weight K) :=
  defOk (k := 1) (t := t_law_no_weight K) F (fun _ _ _ _ _ _ us hl => match us, hl with | [_], _ => rfl) sc_law_no_weight (fun cdv A outer s H E hr hp =>
  (ass_cons (as_set 1 sc_law_no_weight.nd rfl (Or.inl rfl) (ae_op opr_add o_add ae_int (c_call h_law_draw (hr.mono (by decide)) T.g__law_draw (aa_cons (av 0) (aa_cons (ae_op op_pow o_pow ae_int ae_int) aa_nil)))))
  (ass_one (as_ret (ae_ix ixr_all o_ix (ae_lst (aa_cons ae_int (aa_cons (ae_un un_neg o_neg ae_int) (aa_cons (av 1) (aa_cons (ae_op op_sub o_sub ae_int (av 1)) (aa_cons ae_bl (aa_cons ae_bl (aa_cons ae_str (aa_cons ae_non (aa_cons (ae_lst (aa_cons ae_int aa_nil)) (aa_cons (ae_tup (aa_cons ae_int aa_nil)) (aa_cons ae_str aa_nil)))))))))))) (c_call h_law_draw (hr.mono (by decide)) T.g__law_draw (aa_cons (av 0) (aa_cons ae_int aa_nil))) (fun _ _ => rfl)))))) (sp1_in (T := fun as _ _ _ => as.length = 1) fun _ _ _ _ _ => rfl) (sp1_in fun _ _ _ _ h => rd_law_no_weight T.toTK h)
theorem ok_law_rows (T : Txt K mg) (F : ∃ fd, FunD K d_law_rows.name d_law_rows.qual d_law_rows.params d_law_rows.body d_law_rows.scope [] [] (f_law_rows K) fd) (h_law_draw : DefOk P w K mg base (f_law_draw K) 1 a_law_draw (sp_law_draw K)) (h_law_weight : DefOk P w K mg base (f_law_weight K) 2 a_law_weight (sp_law_weight K)) (h_law_no_weight : DefOk P w K mg base (f_law_no_weight K) 2 a_law_no_weight (sp_law_no_weight K)) : DefOk P w K mg base (f_law_rows K) 3 a_law_rows (sp_law_rows K) :=
  defOk (k := 2) (t := t_law_rows K) F (fun _ _ _ _ _ _ us hl => match us, hl with | [_], _ => rfl) sc_law_rows (fun cdv A outer s H E hr hp =>
  (ass_cons (as_set 1 sc_law_rows.nd rfl (Or.inl rfl) (c_call h_law_draw (hr.mono (by decide)) T.g__law_draw (aa_cons (av 0) (aa_cons ae_int aa_nil))))
  (ass_cons (as_set 2 sc_law_rows.nd rfl (Or.inl rfl) (c_call h_law_draw (hr.mono (by decide)) T.g__law_draw (aa_cons (av 0) (aa_cons ae_int aa_nil))))
  (ass_cons (as_set 3 sc_law_rows.nd rfl (Or.inl rfl) (c_call h_law_draw (hr.mono (by decide)) T.g__law_draw (aa_cons (av 0) (aa_cons ae_int aa_nil))))
  (ass_cons (as_set 4 sc_law_rows.nd rfl (Or.inl rfl) (ae_ix ixr_all o_ix (ae_lst (aa_cons ae_int (aa_cons ae_int (aa_cons ae_int aa_nil)))) (c_call h_law_draw (hr.mono (by decide)) T.g__law_draw (aa_cons (av 0) (aa_cons ae_int aa_nil))) (fun _ _ => rfl)))
  (ass_cons (as_set 5 sc_law_rows.nd rfl (Or.inr rfl) (av 4))
  (ass_cons (as_if (at_cmp (opr_eq hr.units) o_eq (av 1) ae_int (nomark _))
  (ass_one (as_set 4 sc_law_rows.nd rfl (Or.inl rfl) (c_call h_law_draw (hr.mono (by decide)) T.g__law_draw (aa_cons (av 0) (aa_cons ae_int aa_nil)))))
  ass_nil)
  (ass_cons (as_if (at_cmp (opr_eq hr.units) o_eq (av 1) ae_int (nomark _))
  (ass_one (as_set 5 sc_law_rows.nd rfl (Or.inr rfl) (c_call h_law_draw (hr.mono (by decide)) T.g__law_draw (aa_cons (av 0) (aa_cons ae_int aa_nil)))))
  ass_nil)
  (ass_cons (as_if (at_cmp (opr_eq hr.units) o_eq (av 1) ae_int (nomark _))
  (ass_cons (as_set 4 sc_law_rows.nd rfl (Or.inl rfl) (ae_ix ixr_all o_ix (ae_lst (aa_cons ae_int (aa_cons ae_int (aa_cons ae_int (aa_cons ae_int aa_nil))))) (ae_op op_mod o_modP (av 2) ae_int) (fun _ _ => rfl)))
  (ass_one (as_set 5 sc_law_rows.nd rfl (Or.inr rfl) (av 4))))
  ass_nil)
  (ass_cons (as_setLc 6 (own := [("y", 7)]) rfl sc_law_rows.nd rfl rfl (sw_true rfl rfl rfl (by decide +kernel)) (ai_range1 rfl T.n_range (aa_cons (av 4) aa_nil)) (blkOk_by (N := N_law_rows) (sc := defScope s_law_rows) (by decide +kernel)) (fun _ _ _ _ _ => (ag_name 7 sc_law_rows.nd rfl (Or.inl rfl))) (fun _ _ _ _ _ => ats_nil) (fun _ _ _ _ _ => (ae_lc (own := [("x", 8)]) rfl sc_law_rows.nd (ai_range1 rfl T.n_range (aa_cons (av 5) aa_nil)) (blkOk_by (by kernel_rfl)) (fun _ _ _ _ _ => (ag_name 8 sc_law_rows.nd rfl (Or.inl rfl))) (fun _ _ _ _ _ => ats_nil) (fun _ _ _ _ _ => (c_call h_law_weight (hr.mono (by decide)) T.g__law_weight (aa_cons (av 0) aa_nil))) (by decide))) (by decide))
  (ass_cons (as_if (at_cmp (opr_eq hr.units) o_eq (av 1) ae_int (nomark _))
  (ass_one (as_setL (ae_lc (own := [("x", 8)]) rfl sc_law_rows.nd (ai_range1 rfl T.n_range (aa_cons (av 3) aa_nil)) (blkOk_by (N := N_law_rows) (sc := defScope s_law_rows) (by decide +kernel)) (fun _ _ _ _ _ => (ag_name 8 sc_law_rows.nd rfl (Or.inl rfl))) (fun _ _ _ _ _ => ats_nil) (fun _ _ _ _ _ => (c_call h_law_weight (hr.mono (by decide)) T.g__law_weight (aa_cons (av 0) aa_nil))) (by decide)) (av 6) (ae_op op_modN o_mod (av 2) (av 4))))
  ass_nil)
  (ass_cons (as_if (at_cmp (opr_eq hr.units) o_eq (av 1) ae_int (nomark _))
  (ass_one (as_setL (c_call h_law_no_weight (hr.mono (by decide)) T.g__law_no_weight (aa_cons (av 0) aa_nil)) (ae_ix ixr_all o_ix (av 6) (ae_op op_modN o_mod (av 2) (av 4)) (fun _ _ => rfl)) (ae_op op_modN o_mod (av 3) (av 5))))
  ass_nil)
  (ass_cons (as_if (AW.at (aw_and (at_cmp (opr_eq hr.units) o_eq (av 1) ae_int (nomark _)) (aw_and1 (at_cmp op_lt o_lt (av 3) ae_int (nomark _)))))
  (ass_one (as_setL (ae_ix ixr_all o_ix (ae_lst (aa_cons ae_non (aa_cons ae_int (aa_cons ae_str (aa_cons ae_newK aa_nil))))) (av 3) (fun _ _ => rfl)) (av 6) (ae_op op_modN o_mod (av 2) (av 4))))
  ass_nil)
  (ass_one (as_ret (av 6)))))))))))))))) (sp1_in (T := fun as _ _ _ => as.length = 1) fun _ _ _ _ _ => rfl) (sp1_in fun _ _ _ _ h => rd_law_rows T.toTK h)
theorem ok_law_good (T : Txt K mg) (F : ∃ fd, FunD K d_law_good.name d_law_good.qual d_law_good.params d_law_good.body d_law_good.scope [] [] (f_law_good K) fd)  : DefOk P w K mg base (f_law_good K) 1 a_law_good (sp_law_good K) :=
  defOk (k := 0) (t := t_law_good K) F (fun _ _ _ _ _ _ us hl => match us, hl with | [_], _ => rfl) sc_law_good (fun cdv A outer s H E hr hp =>
  (ass_cons (as_if (at_cmp op_notIn_seq (o_in true) (ae_callB call_len_seq o_len rfl T.n_len boot_len (aa_cons (av 0) aa_nil)) (ae_lst (aa_cons ae_int (aa_cons ae_int (aa_cons ae_int aa_nil)))) rfl)
  (ass_one (as_ret ae_bl))
  ass_nil)
  (ass_cons (as_for hp rfl (ai_seq (av 0)) (ag_name 1 sc_law_good.nd rfl (Or.inl rfl))
  (ass_cons (as_if (AW.at (aw_or (at_not (at_val (ae_callB callr_isi o_isi rfl T.n_isinstance (by decide +kernel) (aa_cons (av 1) (aa_cons (ae_bty rfl T.n_list (by decide +kernel)) aa_nil))))) (aw_or1 (at_cmp (opr_ne hr.units) o_ne (ae_callB call_len_seq o_len rfl T.n_len boot_len (aa_cons (av 1) aa_nil)) (ae_callB call_len_seq o_len rfl T.n_len boot_len (aa_cons (av 0) aa_nil)) (nomark _)))))
  (ass_one (as_ret ae_bl))
  ass_nil)
  (ass_one (as_for hp rfl (ai_seq (av 1)) (ag_name 2 sc_law_good.nd rfl (Or.inl rfl))
  (ass_one (as_if (AW.at (aw_or (at_not (at_val (ae_callB callr_isi o_isi rfl T.n_isinstance (by decide +kernel) (aa_cons (av 2) (aa_cons (ae_bty rfl T.n_int (by decide +kernel)) aa_nil))))) (aw_or (at_val (ae_callB callr_isi o_isi rfl T.n_isinstance (by decide +kernel) (aa_cons (av 2) (aa_cons (ae_bty rfl T.n_bool (by decide +kernel)) aa_nil)))) (aw_or (at_cmp op_lt o_lt (av 2) ae_int (nomark _)) (aw_or1 (at_cmp op_gt o_gt (av 2) ae_int (nomark _)))))))
  (ass_one (as_ret ae_bl))
  ass_nil))))))
  (ass_one (as_ret ae_bl))))) (sp1_in (T := fun as _ _ _ => as.length = 1) fun _ _ _ _ _ => rfl) (sp1_in fun _ _ _ _ h => rd_law_good T.toTK h)
theorem ok_law_formed (T : Txt K mg) (F : ∃ fd, FunD K d_law_formed.name d_law_formed.qual d_law_formed.params d_law_formed.body d_law_formed.scope [] [] (f_law_formed K) fd) (h_law_draw : DefOk P w K mg base (f_law_draw K) 1 a_law_draw (sp_law_draw K)) : DefOk P w K mg base (f_law_formed K) 2 a_law_formed (sp_law_formed K) :=
  defOk (k := 1) (t := t_law_formed K) F (fun _ _ _ _ _ _ us hl => match us, hl with | [_, _], _ => rfl) sc_law_formed (fun cdv A outer s H E hr hp =>
  (ass_cons (as_set 2 sc_law_formed.nd rfl (Or.inl rfl) (ae_lst aa_nil))
  (ass_cons (as_for hp rfl (ai_seq (av 1)) (ag_name 3 sc_law_formed.nd rfl (Or.inl rfl))
  (ass_one (as_if (AW.at (aw_and (at_val (ae_callB callr_isi o_isi rfl T.n_isinstance (by decide +kernel) (aa_cons (av 3) (aa_cons (ae_bty rfl T.n_list (by decide +kernel)) aa_nil)))) (aw_and1 (at_cmp (opr_eq hr.units) o_eq (c_call h_law_draw (hr.mono (by decide)) T.g__law_draw (aa_cons (av 0) (aa_cons ae_int aa_nil))) ae_int (nomark _)))))
  (ass_one (as_expr (ae_bm PySem.F.slot_list_append PySem.F.type_list_append mt_append o_append (av 2) (aa_cons (ae_callTy call_tuple_of o_tuple rfl T.n_tuple (by decide +kernel) (aa_cons (av 3) aa_nil)) aa_nil))))
  (ass_one (as_if (at_val (ae_callB callr_isi o_isi rfl T.n_isinstance (by decide +kernel) (aa_cons (av 3) (aa_cons (ae_bty rfl T.n_list (by decide +kernel)) aa_nil))))
  (ass_one (as_expr (ae_bm PySem.F.slot_list_append PySem.F.type_list_append mt_append o_append (av 2) (aa_cons (ae_callTy call_list_of o_list rfl T.n_list (by decide +kernel) (aa_cons (av 3) aa_nil)) aa_nil))))
  (ass_one (as_expr (ae_bm PySem.F.slot_list_append PySem.F.type_list_append mt_append o_append (av 2) (aa_cons (av 3) aa_nil)))))))))
  (ass_cons (as_if (at_cmp (opr_eq hr.units) o_eq (c_call h_law_draw (hr.mono (by decide)) T.g__law_draw (aa_cons (av 0) (aa_cons ae_int aa_nil))) ae_int (nomark _))
  (ass_one (as_ret (ae_callTy call_tuple_of o_tuple rfl T.n_tuple (by decide +kernel) (aa_cons (av 2) aa_nil))))
  ass_nil)
  (ass_one (as_ret (av 2))))))) (sp2_in (T := fun as _ _ _ => as.length = 2) fun _ _ _ _ _ _ => rfl) (sp2_in fun _ _ _ _ _ h => rd_law_formed T.toTK h)
theorem okn_law_copied (T : Txt K mg) (F : ∃ fd, FunD K d_law_copied.name d_law_copied.qual d_law_copied.params d_law_copied.body d_law_copied.scope [] [] (f_law_copied K) fd)  : ∀ n, DefOk P w K mg base (f_law_copied K) (0 + n + 1) a_law_copied (sp_law_copied n K)
  | 0 => defOk0 F (fun _ _ _ _ _ _ us hl => match us, hl with | [_], _ => rfl) sc_law_copied (sp1_in (T := fun _ _ _ _ => False) fun _ _ _ _ h => h)
  | n + 1 => by
    have h_law_copied := okn_law_copied T F  n
    exact defOk (k := 0 + n + 1) (t := t_law_copied n K) F (fun _ _ _ _ _ _ us hl => match us, hl with | [_], _ => rfl) sc_law_copied (fun cdv A outer s H E hr hp =>
  (ass_cons (as_if (at_val (ae_callB callr_isi o_isi rfl T.n_isinstance (by decide +kernel) (aa_cons (av 0) (aa_cons (ae_bty rfl T.n_list (by decide +kernel)) aa_nil))))
  (ass_one (as_ret (ae_lc (own := [("one", 1)]) rfl sc_law_copied.nd (ai_seq (av 0)) (blkOk_by (N := N_law_copied) (sc := defScope s_law_copied) (by decide +kernel)) (fun _ _ _ _ _ => (ag_name 1 sc_law_copied.nd rfl (Or.inl rfl))) (fun _ _ _ _ _ => ats_nil) (fun _ _ _ _ _ => (c_call h_law_copied (hr.mono (by omega)) T.g__law_copied (aa_cons (av 1) aa_nil))) (by decide))))
  ass_nil)
  (ass_cons (as_if (at_val (ae_callB callr_isi o_isi rfl T.n_isinstance (by decide +kernel) (aa_cons (av 0) (aa_cons (ae_bty rfl T.n_tuple (by decide +kernel)) aa_nil))))
  (ass_one (as_ret (ae_callTy call_tuple_of o_tuple rfl T.n_tuple (by decide +kernel) (aa_cons (ae_lc (own := [("one", 1)]) rfl sc_law_copied.nd (ai_seq (av 0)) (blkOk_by (N := N_law_copied) (sc := defScope s_law_copied) (by decide +kernel)) (fun _ _ _ _ _ => (ag_name 1 sc_law_copied.nd rfl (Or.inl rfl))) (fun _ _ _ _ _ => ats_nil) (fun _ _ _ _ _ => (c_call h_law_copied (hr.mono (by omega)) T.g__law_copied (aa_cons (av 1) aa_nil))) (by decide)) aa_nil))))
  ass_nil)
  (ass_one (as_ret (av 0)))))) (sp1_in (T := fun as _ _ _ => as.length = 1) fun _ _ _ _ _ => rfl) (sp1_in fun _ _ _ _ h => rd_law_copied T.toTK h)
theorem ok_law_copied (T : Txt K mg) (F : ∃ fd, FunD K d_law_copied.name d_law_copied.qual d_law_copied.params d_law_copied.body d_law_copied.scope [] [] (f_law_copied K) fd)  : DefOk P w K mg base (f_law_copied K) 5 a_law_copied (sp_law_copied depth_law_copied K) := okn_law_copied T F  4
theorem ok_law_refused (T : Txt K mg) (F : ∃ fd, FunD K d_law_refused.name d_law_refused.qual d_law_refused.params d_law_refused.body d_law_refused.scope [] [] (f_law_refused K) fd) (h_Tip_init : DefOk P w K mg base (f_Tip_init K) 3 a_Tip_init (sp_Tip_init K)) : DefOk P w K mg base (f_law_refused K) 5 a_law_refused (sp_law_refused K) :=
  defOk (k := 4) (t := t_law_refused K) F (fun _ _ _ _ _ _ us hl => match us, hl with | [_], _ => rfl) sc_law_refused (fun cdv A outer s H E hr hp =>
  (ass_cons (as_set 1 sc_law_refused.nd rfl (Or.inl rfl) ae_bl)
  (ass_cons (as_try_as (i := 2) rfl rfl sc_law_refused.nd rfl rfl ⟨rfl, by decide, .inl T.g_NoTip⟩ (fun pn xe hp =>
  (ass_one (as_expr (c_make T.k_Tip h_Tip_init (hr.mono (by decide)) T.g_Tip (aa_cons (av 0) aa_nil))))) (fun a oe C pn ec hz hf =>
  (ass_cons (as_set 3 sc_law_refused.nd rfl (Or.inl rfl) (ae_callB (call_isEA ec hz hf) o_isE rfl T.n_isinstance (by decide +kernel) (aa_cons (av 2) (aa_cons (ae_tup (aa_cons (ae_gref rfl T.g_NoBundle) (aa_cons (ae_gref rfl T.g_NoFraction) (aa_cons (ae_gref rfl T.g_NoGain) (aa_cons (ae_gref rfl T.g_NoLayer) (aa_cons (ae_gref rfl T.g_NoManner) (aa_cons (ae_gref rfl T.g_NoPlace) (aa_cons (ae_gref rfl T.g_NoShade) aa_nil)))))))) aa_nil))))
  (ass_cons (as_set 3 sc_law_refused.nd rfl (Or.inl rfl) (ae_or (av 3) (ae_one (ae_callB (call_isEA ec hz hf) o_isE rfl T.n_isinstance (by decide +kernel) (aa_cons (av 2) (aa_cons (ae_tup (aa_cons (ae_gref rfl T.g_NoSixteenth) (aa_cons (ae_gref rfl T.g_NoStand) (aa_cons (ae_gref rfl T.g_NoTile) (aa_cons (ae_gref rfl T.g_TooMany) (aa_cons (ae_gref rfl T.g_Within) aa_nil)))))) aa_nil))))))
  (ass_one (as_set 1 sc_law_refused.nd rfl (Or.inl rfl) (ae_and (ae_callB (call_isEA ec hz hf) o_isE rfl T.n_isinstance (by decide +kernel) (aa_cons (av 2) (aa_cons (ae_gref rfl T.g_HallError) aa_nil))) (ae_and (ae_callB (call_isEA ec hz hf) o_isE rfl T.n_isinstance (by decide +kernel) (aa_cons (av 2) (aa_cons (ae_bty rfl T.n_ValueError (by decide +kernel)) aa_nil))) (ae_one (ae_not (av 3)))))))))))
  (ass_one (as_ret (av 1)))))) (sp1_in (T := fun as _ _ _ => as.length = 1) fun _ _ _ _ _ => rfl) (sp1_in fun _ _ _ _ h => rd_law_refused T.toTK h)
theorem ok_law_spot (T : Txt K mg) (F : ∃ fd, FunD K d_law_spot.name d_law_spot.qual d_law_spot.params d_law_spot.body d_law_spot.scope [] [] (f_law_spot K) fd) (h_law_draw : DefOk P w K mg base (f_law_draw K) 1 a_law_draw (sp_law_draw K)) : DefOk P w K mg base (f_law_spot K) 2 a_law_spot (sp_law_spot K) :=
  defOk (k := 1) (t := t_law_spot K) F (fun _ _ _ _ _ _ us hl => match us, hl with | [_], _ => rfl) sc_law_spot (fun cdv A outer s H E hr hp =>
  (ass_cons (as_set 1 sc_law_spot.nd rfl (Or.inl rfl) (ae_op opr_add o_add (ae_op opr_mul o_mul (c_call h_law_draw (hr.mono (by decide)) T.g__law_draw (aa_cons (av 0) (aa_cons (ae_op op_pow o_pow ae_int ae_int) aa_nil))) (ae_op op_pow o_pow ae_int ae_int)) (c_call h_law_draw (hr.mono (by decide)) T.g__law_draw (aa_cons (av 0) (aa_cons (ae_op op_pow o_pow ae_int ae_int) aa_nil)))))
  (ass_cons (as_set 2 sc_law_spot.nd rfl (Or.inl rfl) (ae_op op_sub o_sub (c_call h_law_draw (hr.mono (by decide)) T.g__law_draw (aa_cons (av 0) (aa_cons ae_int aa_nil))) ae_int))
  (ass_one (as_ret (ae_ix ixr_all o_ix (ae_lst (aa_cons (av 2) (aa_cons (av 2) (aa_cons (av 1) (aa_cons (ae_op op_sub o_sub ae_int (av 1)) aa_nil))))) (c_call h_law_draw (hr.mono (by decide)) T.g__law_draw (aa_cons (av 0) (aa_cons ae_int aa_nil))) (fun _ _ => rfl))))))) (sp1_in (T := fun as _ _ _ => as.length = 1) fun _ _ _ _ _ => rfl) (sp1_in fun _ _ _ _ h => rd_law_spot T.toTK h)
theorem ok_law_due (T : Txt K mg) (F : ∃ fd, FunD K d_law_due.name d_law_due.qual d_law_due.params d_law_due.body d_law_due.scope [] [] (f_law_due K) fd)  : DefOk P w K mg base (f_law_due K) 1 a_law_due (sp_law_due K) :=
  defOk (k := 0) (t := t_law_due K) F (fun _ _ _ _ _ _ us hl => match us, hl with | [_, _], _ => rfl) sc_law_due (fun cdv A outer s H E hr hp =>
  (ass_cons (as_set 2 sc_law_due.nd rfl (Or.inl rfl) (ae_op op_fdivW o_divP (ae_callB call_len_seq o_len rfl T.n_len boot_len (aa_cons (av 0) aa_nil)) ae_int))
  (ass_cons (as_set 3 sc_law_due.nd rfl (Or.inl rfl) (ae_lst aa_nil))
  (ass_cons (as_for hp rfl (ai_range1 rfl T.n_range (aa_cons (ae_callB call_len_seq o_len rfl T.n_len boot_len (aa_cons (av 0) aa_nil)) aa_nil)) (ag_name 4 sc_law_due.nd rfl (Or.inl rfl))
  (ass_one (as_for hp rfl (ai_range1 rfl T.n_range (aa_cons (ae_callB call_len_seq o_len rfl T.n_len boot_len (aa_cons (av 0) aa_nil)) aa_nil)) (ag_name 5 sc_law_due.nd rfl (Or.inl rfl))
  (ass_one (as_if (at_cmp op_gt o_gt (ae_ix ixr_all o_ix (ae_ix ixr_all o_ix (av 0) (av 4) (fun _ _ => rfl)) (av 5) (fun _ _ => rfl)) ae_int (nomark _))
  (ass_one (as_expr (ae_bm PySem.F.slot_list_append PySem.F.type_list_append mt_append o_append (av 3) (aa_cons (ae_tup (aa_cons (ae_tup (aa_cons (ae_op op_sub o_sub (ae_op opr_add o_add (ae_ix ixr_all o_ix (av 1) ae_int (fun _ _ => rfl)) (av 5)) (av 2)) (aa_cons (ae_op op_sub o_sub (ae_op opr_add o_add (ae_ix ixr_all o_ix (av 1) ae_int (fun _ _ => rfl)) (av 4)) (av 2)) aa_nil))) (aa_cons (ae_ix ixr_all o_ix (ae_ix ixr_all o_ix (av 0) (av 4) (fun _ _ => rfl)) (av 5) (fun _ _ => rfl)) aa_nil))) aa_nil))))
  ass_nil)))))
  (ass_one (as_ret (av 3))))))) (sp2_in (T := fun as _ _ _ => as.length = 2) fun _ _ _ _ _ _ => rfl) (sp2_in fun _ _ _ _ _ h => rd_law_due T.toTK h)
theorem ok_law_told (T : Txt K mg) (F : ∃ fd, FunD K d_law_told.name d_law_told.qual d_law_told.params d_law_told.body d_law_told.scope [] [] (f_law_told K) fd) (h_Tip_spread : DefOk P w K mg base (f_Tip_spread K) 1 a_Tip_spread (sp_Tip_spread K)) (h_law_due : DefOk P w K mg base (f_law_due K) 1 a_law_due (sp_law_due K)) : DefOk P w K mg base (f_law_told K) 2 a_law_told (sp_law_told K) :=
  defOk (k := 1) (t := t_law_told K) F (fun _ _ _ _ _ _ us hl => match us, hl with | [_, _, _], _ => rfl) sc_law_told (fun cdv A outer s H E hr hp =>
  (ass_cons (as_for hp rfl (ai_seq (av 2)) (ag_name 3 sc_law_told.nd rfl (Or.inl rfl))
  (ass_cons (as_set 4 sc_law_told.nd rfl (Or.inl rfl) (c_meth (av 0) T.cl_Tip T.m_Tip_spread h_Tip_spread (hr.mono (by decide)) (aa_cons (av 3) aa_nil)))
  (ass_cons (as_if (AW.at (aw_or (at_not (at_val (ae_callB callr_isi o_isi rfl T.n_isinstance (by decide +kernel) (aa_cons (av 4) (aa_cons (ae_bty rfl T.n_list (by decide +kernel)) aa_nil))))) (aw_or1 (at_cmp (opr_ne hr.units) o_ne (av 4) (c_call h_law_due (hr.mono (by decide)) T.g__law_due (aa_cons (av 1) (aa_cons (av 3) aa_nil))) (nomark _)))))
  (ass_one (as_ret ae_bl))
  ass_nil)
  (ass_cons (as_for hp rfl (ai_seq (av 4)) (ag_name 5 sc_law_told.nd rfl (Or.inl rfl))
  (ass_one (as_if (AW.at (aw_or (at_not (at_val (ae_callB callr_isi o_isi rfl T.n_isinstance (by decide +kernel) (aa_cons (av 5) (aa_cons (ae_bty rfl T.n_tuple (by decide +kernel)) aa_nil))))) (aw_or1 (at_val (ae_callB callr_isi o_isi rfl T.n_isinstance (by decide +kernel) (aa_cons (ae_ix ixr_all o_ix (av 5) ae_int (fun _ _ => rfl)) (aa_cons (ae_bty rfl T.n_bool (by decide +kernel)) aa_nil)))))))
  (ass_one (as_ret ae_bl))
  ass_nil)))
  (ass_one (as_expr (ae_bm PySem.F.slot_list_append PySem.F.type_list_append mt_append o_append (av 4) (aa_cons (ae_tup (aa_cons (ae_tup (aa_cons ae_int (aa_cons ae_int aa_nil))) (aa_cons ae_int aa_nil))) aa_nil))))))))
  (ass_one (as_ret ae_bl)))) (sp3_in (T := fun as _ _ _ => as.length = 3) fun _ _ _ _ _ _ _ => rfl) (sp3_in fun _ _ _ _ _ _ h => rd_law_told T.toTK h)
theorem ok_law_changed (T : Txt K mg) (F : ∃ fd, FunD K d_law_changed.name d_law_changed.qual d_law_changed.params d_law_changed.body d_law_changed.scope [] [] (f_law_changed K) fd)  : DefOk P w K mg base (f_law_changed K) 1 a_law_changed (sp_law_changed K) :=
  defOk (k := 0) (t := t_law_changed K) F (fun _ _ _ _ _ _ us hl => match us, hl with | [_], _ => rfl) sc_law_changed (fun cdv A outer s H E hr hp =>
  (ass_cons (as_for hp rfl (ai_seq (av 0)) (ag_name 1 sc_law_changed.nd rfl (Or.inl rfl))
  (ass_one (as_if (at_val (ae_callB callr_isi o_isi rfl T.n_isinstance (by decide +kernel) (aa_cons (av 1) (aa_cons (ae_bty rfl T.n_list (by decide +kernel)) aa_nil))))
  (ass_cons (as_expr (ae_bm PySem.F.slot_list_append PySem.F.type_list_append mt_append o_append (av 1) (aa_cons ae_int aa_nil)))
  (ass_one (as_setL (ae_op op_sub o_sub ae_int (ae_ix ixr_all o_ix (av 1) ae_int (fun _ _ => rfl))) (av 1) ae_int)))
  ass_nil)))
  (ass_one (as_if (at_val (ae_callB callr_isi o_isi rfl T.n_isinstance (by decide +kernel) (aa_cons (av 0) (aa_cons (ae_bty rfl T.n_list (by decide +kernel)) aa_nil))))
  (ass_cons (as_expr (ae_bm0 PySem.F.slot_list_reverse PySem.F.type_list_reverse mt_reverse o_reverse (av 0)))
  (ass_one (as_expr (ae_bm PySem.F.slot_list_append PySem.F.type_list_append mt_append o_append (av 0) (aa_cons (ae_lst (aa_cons ae_int aa_nil)) aa_nil)))))
  ass_nil)))) (sp1_in (T := fun as _ _ _ => as.length = 1) fun _ _ _ _ _ => rfl) (sp1_in fun _ _ _ _ h => rd_law_changed T.toTK h)
theorem fn_law (T : Txt K mg) {fd : FuncData} (F : FunD K d_law.name d_law.qual d_law.params d_law.body d_law.scope [] [] (f_law K) fd) (h_law_well : DefOk P w K mg base (f_law_well K) 1 a_law_well (sp_law_well K)) (h_law_rows : DefOk P w K mg base (f_law_rows K) 3 a_law_rows (sp_law_rows K)) (h_law_formed : DefOk P w K mg base (f_law_formed K) 2 a_law_formed (sp_law_formed K)) (h_law_copied : DefOk P w K mg base (f_law_copied K) 5 a_law_copied (sp_law_copied depth_law_copied K)) (h_law_good : DefOk P w K mg base (f_law_good K) 1 a_law_good (sp_law_good K)) (h_law_refused : DefOk P w K mg base (f_law_refused K) 5 a_law_refused (sp_law_refused K)) (h_law_spot : DefOk P w K mg base (f_law_spot K) 2 a_law_spot (sp_law_spot K)) (h_Tip_init : DefOk P w K mg base (f_Tip_init K) 3 a_Tip_init (sp_Tip_init K)) (h_law_told : DefOk P w K mg base (f_law_told K) 2 a_law_told (sp_law_told K)) (h_law_changed : DefOk P w K mg base (f_law_changed K) 1 a_law_changed (sp_law_changed K)) : AFn P w K mg base 6 (f_law K) fd a_law (sp_law K) :=
  fnA (t := t_law K) F sc_law (fun X _ _ ⟨cdv, A, outer, s, H, E, e⟩ hr hp => by
    subst e
    exact (ass_cons (as_set 1 sc_law.nd rfl (Or.inl rfl) (ae_lst aa_nil))
      (ass_cons (as_for hp rfl (ai_seq (ae_op opr_add o_add (ae_slL (av 0) ao_none (ao_some ae_int)) (ae_lst (aa_cons ae_int (aa_cons ae_int (aa_cons ae_int aa_nil)))))) (ag_name 2 sc_law.nd rfl (Or.inl rfl))
      (ass_cons (as_set 3 sc_law.nd rfl (Or.inl rfl) (c_call h_law_well (hr.mono (by decide)) T.g__law_well (aa_cons (av 2) aa_nil)))
      (ass_cons (as_set 4 sc_law.nd rfl (Or.inl rfl) (c_call h_law_rows (hr.mono (by decide)) T.g__law_rows (aa_cons (av 3) aa_nil)))
      (ass_cons (as_set 5 sc_law.nd rfl (Or.inl rfl) (c_call h_law_formed (hr.mono (by decide)) T.g__law_formed (aa_cons (av 3) (aa_cons (av 4) aa_nil))))
      (ass_cons (as_set 6 sc_law.nd rfl (Or.inl rfl) (c_call h_law_copied (hr.mono (by decide)) T.g__law_copied (aa_cons (av 5) aa_nil)))
      (ass_one (as_if (at_not (at_val (c_call h_law_good (hr.mono (by decide)) T.g__law_good (aa_cons (av 4) aa_nil))))
      (ass_one (as_if (AW.at (aw_or (at_not (at_val (c_call h_law_refused (hr.mono (by decide)) T.g__law_refused (aa_cons (av 5) aa_nil)))) (aw_or1 (at_cmp (opr_ne hr.units) o_ne (av 5) (av 6) (nomark _)))))
      (ass_one (as_ret ae_bl))
      ass_nil))
      (ass_cons (as_set 7 sc_law.nd rfl (Or.inl rfl) (ae_lst (aa_cons (ae_tup (aa_cons (c_call h_law_spot (hr.mono (by decide)) T.g__law_spot (aa_cons (av 3) aa_nil)) (aa_cons (c_call h_law_spot (hr.mono (by decide)) T.g__law_spot (aa_cons (av 3) aa_nil)) aa_nil))) (aa_cons (ae_tup (aa_cons (c_call h_law_spot (hr.mono (by decide)) T.g__law_spot (aa_cons (av 3) aa_nil)) (aa_cons ae_int aa_nil))) aa_nil))))
      (ass_cons (as_set 8 sc_law.nd rfl (Or.inl rfl) (c_make T.k_Tip h_Tip_init (hr.mono (by decide)) T.g_Tip (aa_cons (av 5) aa_nil)))
      (ass_cons (as_if (AW.at (aw_or (at_cmp (opr_ne hr.units) o_ne (av 5) (av 6) (nomark _)) (aw_or1 (at_not (at_val (c_call h_law_told (hr.mono (by decide)) T.g__law_told (aa_cons (av 8) (aa_cons (av 4) (aa_cons (av 7) aa_nil)))))))))
      (ass_one (as_ret ae_bl))
      ass_nil)
      (ass_cons (as_expr (c_call h_law_changed (hr.mono (by decide)) T.g__law_changed (aa_cons (av 5) aa_nil)))
      (ass_cons (as_if (at_not (at_val (c_call h_law_told (hr.mono (by decide)) T.g__law_told (aa_cons (av 8) (aa_cons (av 4) (aa_cons (ae_op opr_add o_add (av 7) (ae_slL (av 7) ao_none (ao_some ae_int))) aa_nil))))))
      (ass_one (as_ret ae_bl))
      ass_nil)
      (ass_one (as_expr (ae_bm PySem.F.slot_list_append PySem.F.type_list_append mt_append o_append (av 1) (aa_cons (ae_tup (aa_cons (av 8) (aa_cons (av 4) (aa_cons (av 7) aa_nil)))) aa_nil))))))))))))))))
      (ass_cons (as_for hp rfl (ai_seq (ae_lst (aa_cons ae_non (aa_cons ae_int (aa_cons ae_bl (aa_cons ae_str (aa_cons ae_str (aa_cons ae_newK (aa_cons (ae_tup aa_nil) (aa_cons (ae_lst aa_nil) (aa_cons (ae_lst (aa_cons (ae_lst aa_nil) aa_nil)) (aa_cons (ae_tup (aa_cons (ae_tup aa_nil) aa_nil)) aa_nil)))))))))))) (ag_name 9 sc_law.nd rfl (Or.inl rfl))
      (ass_one (as_if (at_not (at_val (c_call h_law_refused (hr.mono (by decide)) T.g__law_refused (aa_cons (av 9) aa_nil))))
      (ass_one (as_ret ae_bl))
      ass_nil)))
      (ass_one (as_ret (ae_callB (cr_all rfl) o_all rfl T.n_all (by decide +kernel) (aa_cons (ae_lc (own := [("tip", 8), ("rows", 4), ("cells", 7)]) rfl sc_law.nd (ai_seq (ae_rev (av 1))) (blkOk_by (N := N_law) (sc := defScope s_law) (by decide +kernel)) (fun _ _ _ _ _ => (ag_tup rfl (ags_cons (ag_name 8 sc_law.nd rfl (Or.inl rfl)) (ags_cons (ag_name 4 sc_law.nd rfl (Or.inl rfl)) (ags_cons (ag_name 7 sc_law.nd rfl (Or.inl rfl)) ags_nil))))) (fun _ _ _ _ _ => ats_nil) (fun _ _ _ _ _ => (c_call h_law_told (hr.mono (by decide)) T.g__law_told (aa_cons (av 8) (aa_cons (av 4) (aa_cons (ae_rev (av 7)) aa_nil))))) (by decide)) aa_nil)))))))) (sp1_in (T := fun as _ _ _ => as.length = 1) fun _ _ _ _ _ => rfl) (sp1_in fun _ _ _ _ h => rd_law T.toTK h)
end
theorem facts {P : Program} {w : World} {K : Frg} {h : Heap} {mg : Str → Option Value} {fa : Addr} (X : K.In h) (Gm : h.Ns mainGlobals mg) (hfa : mg ("law" : Str) = some (.ref fa)) (c : SaysG fb fn K) :
    ∃ fd : FuncData, (∀ (s : Shared) (v : Value), BindsTo s fd ⟨[v], []⟩ [("script", v)]) ∧ ∀ base : Heap, K.In base → base.Ns mainGlobals mg → AFn P w K mg base 6 fa fd ["script"] (sp_law K) := by
  have T := txt X Gm c
  have e := hfa.symm.trans T.g_law
  cases e
  obtain ⟨fd, F⟩ := c.def_ 17 (d := d_law) rfl
  have b := FunD.bindsA (ps := ["script"]) F fun _ _ _ _ _ _ us hl => match us, hl with | [_], _ => rfl
  refine ⟨fd, fun s v => b s [v] rfl, fun base _ _ => ?_⟩
  have h_is_sixteenth := ok_is_sixteenth (P := P) (w := w) (base := base) T (c.def_ 0 (d := d_is_sixteenth) rfl) 
  have h_is_weights := ok_is_weights (P := P) (w := w) (base := base) T (c.def_ 1 (d := d_is_weights) rfl) h_is_sixteenth
  have h_Tip_init := ok_Tip_init (P := P) (w := w) (base := base) T (c.def_ 2 (d := d_Tip_init) rfl) h_is_weights
  have h_Tip_spread := ok_Tip_spread (P := P) (w := w) (base := base) T (c.def_ 3 (d := d_Tip_spread) rfl) 
  have h_law_well := ok_law_well (P := P) (w := w) (base := base) T (c.def_ 4 (d := d_law_well) rfl) 
  have h_law_draw := ok_law_draw (P := P) (w := w) (base := base) T (c.def_ 5 (d := d_law_draw) rfl) 
  have h_law_weight := ok_law_weight (P := P) (w := w) (base := base) T (c.def_ 6 (d := d_law_weight) rfl) h_law_draw
  have h_law_no_weight := ok_law_no_weight (P := P) (w := w) (base := base) T (c.def_ 7 (d := d_law_no_weight) rfl) h_law_draw
  have h_law_rows := ok_law_rows (P := P) (w := w) (base := base) T (c.def_ 8 (d := d_law_rows) rfl) h_law_draw h_law_weight h_law_no_weight
  have h_law_good := ok_law_good (P := P) (w := w) (base := base) T (c.def_ 9 (d := d_law_good) rfl) 
  have h_law_formed := ok_law_formed (P := P) (w := w) (base := base) T (c.def_ 10 (d := d_law_formed) rfl) h_law_draw
  have h_law_copied := ok_law_copied (P := P) (w := w) (base := base) T (c.def_ 11 (d := d_law_copied) rfl) 
  have h_law_refused := ok_law_refused (P := P) (w := w) (base := base) T (c.def_ 12 (d := d_law_refused) rfl) h_Tip_init
  have h_law_spot := ok_law_spot (P := P) (w := w) (base := base) T (c.def_ 13 (d := d_law_spot) rfl) h_law_draw
  have h_law_due := ok_law_due (P := P) (w := w) (base := base) T (c.def_ 14 (d := d_law_due) rfl) 
  have h_law_told := ok_law_told (P := P) (w := w) (base := base) T (c.def_ 15 (d := d_law_told) rfl) h_Tip_spread h_law_due
  have h_law_changed := ok_law_changed (P := P) (w := w) (base := base) T (c.def_ 16 (d := d_law_changed) rfl) 
  exact fn_law T F h_law_well h_law_rows h_law_formed h_law_copied h_law_good h_law_refused h_law_spot h_Tip_init h_law_told h_law_changed
def loose0 : List Str := ["__name__", "HallError", "NoFraction", "NoShade", "NoManner", "NoGain", "NoSixteenth", "NoTip", "NoTile", "NoLayer", "NoPlace", "Within", "TooMany", "NoStand", "NoBundle", "FULL", "is_sixteenth", "WIDTHS", "is_weights", "Tip"]
def loose1 : List Str := ["_law_well", "_law_draw", "_law_weight", "_law_no_weight", "_law_rows", "_law_good", "_law_formed", "_law_copied", "_law_refused", "_law_spot", "_law_due", "_law_told", "_law_changed"]
def loose : List Str := loose0 ++ loose1
abbrev R : PySem.W.OpenRow := PySem.W.OpenLaw.row PySem.Challenge.rw_glazehall_k66_tips_of_any_form
abbrev hk : PySem.W.Hook := hookG 5 fb fn
def ob (s : PySem.W.SharedT) : AlG := obsG 5 fb fn (HandSHeadRun.getT s)
theorem ob_eq (s : PySem.W.SharedT) : ob s = hk.obs s.abs := obsG_eq (HandSHeadRun.getT_eq s)
theorem run (w : World) : HandSHeadRun.RunEq R (PySem.W.view R.prog [36]) hk ob 6000 loose w := by
  intro os
  kernel_rfl
end GL
open PySem PySem.W PySem.Calls PyProof.Rows
theorem PySem.Challenge.cw_glazehall_k66_tips_of_any_form_holds : PySem.Challenge.rw_glazehall_k66_tips_of_any_form.Holds := by
  w_on; o_law
  refine HandSHeadRun.head_any (r := OpenLaw.row PySem.Challenge.rw_glazehall_k66_tips_of_any_form) (q := view (OpenLaw.row PySem.Challenge.rw_glazehall_k66_tips_of_any_form).prog [36]) (H := GL.hk) (ob := GL.ob) (M := 6000) (loose := GL.loose) (d := HandSHeadRun.topDef (OpenLaw.row PySem.Challenge.rw_glazehall_k66_tips_of_any_form).prog 36) (kwd := []) GL.ob_eq
    (by kernel_rfl) (fun s => by kernel_rfl) GL.run (by kernel_rfl) (by kernel_rfl) (by kernel_rfl) (by rfl) (by first | assumption | decide +kernel) (by decide +kernel) ⟨rfl, rfl, rfl, rfl, rfl, by decide +kernel⟩ ?hw ?hc
  case hw => w_witness2
  case hc =>
    refine G.law_end (l := PySem.Challenge.rw_glazehall_k66_tips_of_any_form) (k := 6) (sp := GL.sp_law) rfl (by kernel_rfl) ⟨rfl, by decide, by decide⟩ ?F
    intro w mg fa h Y Gm hmg0
    obtain ⟨K, KX, c⟩ := Y
    have hmg : mg ("law" : PySem.Str) = some (.ref fa) := by
      have e : (HandSHeadRun.topDef (OpenLaw.row PySem.Challenge.rw_glazehall_k66_tips_of_any_form).prog 36).name = ("law" : PySem.Str) := by kernel_rfl
      rw [← e]
      exact hmg0
    obtain ⟨fd, hb, hF⟩ := GL.facts (P := (PySem.Challenge.rw_glazehall_k66_tips_of_any_form).prog) (w := w) KX Gm hmg c
    exact ⟨K, fd, KX, hb, fun ns hl hbits => GL.law_reads ns hl hbits, hF⟩
