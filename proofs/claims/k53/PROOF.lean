import PyProof.Rows.All
import Wide.All
import OpenK.AllK
import Wide.FinOn
import HandS.ForMost
import HandS.ForExc
import HandS.IsInst
import HandS.Wide
import HandS.Defaults
import HandS.Flow
import HandS.ExcIs
import HandS.More
import HandS.DeepEq
import HandS.Style
import HandS.HeadHook1
import HandS.HeadHook2
import KE.KStateDown
import HandS.Ends
import HandS.Head0
import HandS.Head1
import HandS.Head2
import HandS.HeadEnd
import HandS.EndBits
import HandS.DictTup
import HandS.Dict
import HandS.Words
import HandS.WordsExc
import PySem.Challenge.RW_glazehall_k53_whole_keepers_by_turns
set_option Elab.async false
set_option linter.all false
set_option maxRecDepth 100000
set_option maxHeartbeats 0
set_option autoImplicit false
/-! A layer over HandS: tuples are pure values; lists, dicts and instances stand in an abstract heap. -/
namespace G
open PySem PySem.Spec L2


abbrev Frg := PySem.W.Frag
/-- values: tuples are values; kt: a tuple of ints and texts that may be a dict's key; fls: a list that is read only (the script) -/
inductive A where
  | non | bl (b : Bool) | int (i : Int) | str (x : Str) | tup (xs : List A) | kt (ks : List Key) | fls (xs : List A) | ref (a : Addr) | ty (n : String)
  deriving Inhabited

/-- a tuple that stands for good: tracked, or of the written part -/
def TupAt (K : Frg) (H : Hp) (p : Addr) (vs : List V) : Prop :=
  H p = some (.tup vs) ∨
    ∃ (o : Obj) (its : Array Value) (n : Nat), K.lookup p = some o ∧ o.cls = .type "tuple" ∧ o.data = .seq its n ∧ its.size ≤ sizeLine ∧ Vals vs its.toList
theorem TupAt.sq {K : Frg} {H : Hp} {p : Addr} {vs : List V} (h : TupAt K H p vs) : SqT K H p vs := h.elim (fun e => .inl (.inl e)) .inr
theorem TupAt.of {K : Frg} {H : Hp} {p : Addr} {vs : List V} (h : H p = some (.tup vs)) : TupAt K H p vs := .inl h

/-- a list that stands for good -/
def FlAt (K : Frg) (H : Hp) (p : Addr) (vs : List V) : Prop :=
  (∃ o, H p = some (.frz o (.lst vs))) ∨
    ∃ (o : Obj) (its : Array Value) (n : Nat), K.lookup p = some o ∧ o.cls = .type "list" ∧ o.dict = none ∧ o.data = .seq its n ∧ its.size ≤ sizeLine ∧ Vals vs its.toList
theorem FlAt.sq {K : Frg} {H : Hp} {p : Addr} {vs : List V} (h : FlAt K H p vs) : SqL K H p vs := h.elim (fun e => .inl (.inr e)) .inr

mutual
inductive RelA (K : Frg) (H : Hp) : A → V → Prop
  | non : RelA K H .non .non
  | bl (b : Bool) : RelA K H (.bl b) (.bl b)
  | int (i : Int) : RelA K H (.int i) (.int i)
  | str (x : Str) : RelA K H (.str x) (.str x)
  | ref (a : Addr) : RelA K H (.ref a) (.ref a)
  | ty (n : String) : RelA K H (.ty n) (.ty n)
  | kt {p : Addr} {ks : List Key} : H p = some (.tup (ks.map kV)) → RelA K H (.kt ks) (.ref p)
  | tup {p : Addr} {xs : List A} {vs : List V} : TupAt K H p vs → RelAs K H xs vs → RelA K H (.tup xs) (.ref p)
  | fls {p : Addr} {xs : List A} {vs : List V} : FlAt K H p vs → RelAs K H xs vs → RelA K H (.fls xs) (.ref p)
inductive RelAs (K : Frg) (H : Hp) : List A → List V → Prop
  | nil : RelAs K H [] []
  | cons {a : A} {as : List A} {v : V} {vs : List V} : RelA K H a v → RelAs K H as vs → RelAs K H (a :: as) (v :: vs)
end

/-- what stands for good -/
def Stands (u : HO) : Prop := (∃ xs, u = .tup xs) ∨ ∃ o xs, u = .frz o (.lst xs)
/-- tuples and frozen lists stay -/
def Mono (H H' : Hp) : Prop := ∀ b u, Stands u → H b = some u → H' b = some u
section
variable {K : Frg} {H H' H1 H2 : Hp} {p : Addr} {o u : HO}
theorem Mono.refl (H : Hp) : Mono H H := fun _ _ _ h => h
theorem Mono.trans (a : Mono H H1) (b : Mono H1 H2) : Mono H H2 := fun c x z e => b c x z (a c x z e)
theorem Mono.new (h : H p = none) : Mono H (upd H p o) := fun b xs _ e => by rw [upd_ne (ne_of_none e h)]; exact e
theorem Mono.wr (h : H p = some o) (n : ¬ Stands o) : Mono H (upd H p u) := fun b xs z e => by
  have ne : b ≠ p := fun q => by subst q; rw [e] at h; exact n (Option.some.inj h ▸ z)
  rw [upd_ne ne]; exact e
theorem ns_lst {xs : List V} : ¬ Stands (.lst xs) := fun z => z.elim (fun ⟨_, e⟩ => nomatch e) fun ⟨_, _, e⟩ => nomatch e
theorem ns_ins {C dx : Addr} {xs : List (Str × V)} : ¬ Stands (.ins C dx xs) := fun z => z.elim (fun ⟨_, e⟩ => nomatch e) fun ⟨_, _, e⟩ => nomatch e
theorem ns_dK {xs : List (Key × V)} : ¬ Stands (.dK xs) := fun z => z.elim (fun ⟨_, e⟩ => nomatch e) fun ⟨_, _, e⟩ => nomatch e
theorem ns_dT {xs : List (List Key × V)} : ¬ Stands (.dT xs) := fun z => z.elim (fun ⟨_, e⟩ => nomatch e) fun ⟨_, _, e⟩ => nomatch e
theorem ns_lK {o : Obj} {xs : List (Key × V)} : ¬ Stands (.frz o (.dK xs)) := fun z => z.elim (fun ⟨_, e⟩ => nomatch e) fun ⟨_, _, e⟩ => nomatch e
theorem ns_lT {o : Obj} {xs : List (List Key × V)} : ¬ Stands (.frz o (.dT xs)) := fun z => z.elim (fun ⟨_, e⟩ => nomatch e) fun ⟨_, _, e⟩ => nomatch e
theorem Mono.tup {vs : List V} (m : Mono H H') (e : H p = some (.tup vs)) : H' p = some (.tup vs) := m _ _ (.inl ⟨_, rfl⟩) e
theorem Mono.frz {vs : List V} {ob : Obj} (m : Mono H H') (e : H p = some (.frz ob (.lst vs))) : H' p = some (.frz ob (.lst vs)) := m _ _ (.inr ⟨_, _, rfl⟩) e
theorem TupAt.mono (m : Mono H H') {vs : List V} (h : TupAt K H p vs) : TupAt K H' p vs := h.elim (fun e => .inl (m.tup e)) .inr
theorem FlAt.mono (m : Mono H H') {vs : List V} (h : FlAt K H p vs) : FlAt K H' p vs := h.elim (fun ⟨o, e⟩ => .inl ⟨o, m.frz e⟩) .inr
mutual
theorem RelA.mono (m : Mono H H') : ∀ (a : A) (v : V), RelA K H a v → RelA K H' a v
  | .non, _, h => by cases h; exact .non
  | .bl _, _, h => by cases h; exact .bl _
  | .int _, _, h => by cases h; exact .int _
  | .str _, _, h => by cases h; exact .str _
  | .ref _, _, h => by cases h; exact .ref _
  | .ty _, _, h => by cases h; exact .ty _
  | .kt _, _, h => by cases h with | kt e => exact .kt (m.tup e)
  | .tup xs, _, h => by cases h with | tup e r => exact .tup (e.mono m) (RelAs.mono m xs _ r)
  | .fls xs, _, h => by cases h with | fls e r => exact .fls (e.mono m) (RelAs.mono m xs _ r)
theorem RelAs.mono (m : Mono H H') : ∀ (as : List A) (vs : List V), RelAs K H as vs → RelAs K H' as vs
  | [], _, h => by cases h; exact .nil
  | a :: as, _, h => by cases h with | cons r rs => exact .cons (RelA.mono m a _ r) (RelAs.mono m as _ rs)
end
theorem RelA.up {a : A} {v : V} (h : RelA K H a v) (m : Mono H H') : RelA K H' a v := RelA.mono m a v h
theorem RelAs.up {as : List A} {vs : List V} (h : RelAs K H as vs) (m : Mono H H') : RelAs K H' as vs := RelAs.mono m as vs h
theorem RelAs.len : ∀ {as : List A} {vs : List V}, RelAs K H as vs → as.length = vs.length
  | _, _, .nil => rfl
  | _, _, .cons _ t => by rw [List.length_cons, List.length_cons, t.len]
theorem RelAs.get : ∀ {as : List A} {vs : List V} {i : Nat} {a : A}, RelAs K H as vs → as[i]? = some a → ∃ v, vs[i]? = some v ∧ RelA K H a v
  | _, _, _, _, .nil, e => by simp at e
  | _, _, 0, _, .cons r _, e => by simp at e; subst e; exact ⟨_, rfl, r⟩
  | _, _, i + 1, _, .cons _ t, e => by
    obtain ⟨v, h1, h2⟩ := t.get (i := i) (by simpa using e)
    exact ⟨v, by simpa using h1, h2⟩
theorem RelAs.getV : ∀ {as : List A} {vs : List V} {i : Nat} {v : V}, RelAs K H as vs → vs[i]? = some v → ∃ a, as[i]? = some a ∧ RelA K H a v
  | _, _, _, _, .nil, e => by simp at e
  | _, _, 0, _, .cons r _, e => by simp at e; subst e; exact ⟨_, rfl, r⟩
  | _, _, i + 1, _, .cons _ t, e => by
    obtain ⟨v, h1, h2⟩ := t.getV (i := i) (by simpa using e)
    exact ⟨v, by simpa using h1, h2⟩
theorem RelAs.app : ∀ {as bs : List A} {vs ws : List V}, RelAs K H as vs → RelAs K H bs ws → RelAs K H (as ++ bs) (vs ++ ws)
  | _, _, _, _, .nil, s => s
  | _, _, _, _, .cons r t, s => .cons r (t.app s)
theorem RelAs.set {a : A} {v : V} (r : RelA K H a v) : ∀ {as : List A} {vs : List V} (i : Nat), RelAs K H as vs → RelAs K H (as.set i a) (vs.set i v)
  | _, _, _, .nil => .nil
  | _, _, 0, .cons _ t => .cons r t
  | _, _, i + 1, .cons q t => .cons q (RelAs.set r i t)
theorem RelAs.take : ∀ {as : List A} {vs : List V} (n : Nat), RelAs K H as vs → RelAs K H (as.take n) (vs.take n)
  | _, _, 0, _ => .nil
  | _, _, _ + 1, .nil => .nil
  | _, _, n + 1, .cons r t => .cons r (RelAs.take n t)
theorem RelAs.drop : ∀ {as : List A} {vs : List V} (n : Nat), RelAs K H as vs → RelAs K H (as.drop n) (vs.drop n)
  | _, _, 0, r => r
  | _, _, _ + 1, .nil => .nil
  | _, _, n + 1, .cons _ t => RelAs.drop n t
theorem RelAs.one {a : A} {v : V} (r : RelA K H a v) : RelAs K H [a] [v] := .cons r .nil
theorem RelAs.rev : ∀ {as : List A} {vs : List V}, RelAs K H as vs → RelAs K H as.reverse vs.reverse
  | _, _, .nil => .nil
  | _, _, .cons r t => by rw [List.reverse_cons, List.reverse_cons]; exact t.rev.app (.one r)
theorem RelAs.erase : ∀ {as : List A} {vs : List V} (i : Nat), RelAs K H as vs → RelAs K H (as.eraseIdx i) (vs.eraseIdx i)
  | _, _, _, .nil => .nil
  | _, _, 0, .cons _ t => t
  | _, _, i + 1, .cons r t => .cons r (RelAs.erase i t)
end

/-! ### the abstract heap -/
inductive AO where
  | lst (xs : List A)
  | dK (kvs : List (Key × A)) | dT (kvs : List (List Key × A))
  | lK (kvs : List (Key × A)) | lT (kvs : List (List Key × A))
  | ins (C : Addr) (fs : List (Str × A))
abbrev AH := Addr → Option AO
def updA (h : AH) (a : Addr) (o : AO) : AH := fun b => if b = a then some o else h b
theorem updA_same {h : AH} {a : Addr} {o : AO} : updA h a o a = some o := by unfold updA; rw [if_pos rfl]
theorem updA_ne {h : AH} {a b : Addr} {o : AO} (e : b ≠ a) : updA h a o b = h b := by unfold updA; rw [if_neg e]
abbrev RelK {κ : Type} (K : Frg) (H : Hp) : List (κ × A) → List (κ × V) → Prop := Paired fun p q => p.1 = q.1 ∧ RelA K H p.2 q.2
inductive RelO (K : Frg) (H : Hp) : AO → HO → Prop
  | lst {xs vs} : RelAs K H xs vs → RelO K H (.lst xs) (.lst vs)
  | dK {xs vs} : RelK K H xs vs → RelO K H (.dK xs) (.dK vs)
  | dT {xs vs} : RelK K H xs vs → RelO K H (.dT xs) (.dT vs)
  | lK {xs vs o} : RelK K H xs vs → RelO K H (.lK xs) (.frz o (.dK vs))
  | lT {xs vs o} : RelK K H xs vs → RelO K H (.lT xs) (.frz o (.dT vs))
  | ins {C dx xs vs} : RelK K H xs vs → RelO K H (.ins C xs) (.ins C dx vs)
def RelH (K : Frg) (H : Hp) (h : AH) : Prop := ∀ a o, h a = some o → ∃ u, H a = some u ∧ RelO K H o u
section
variable {K : Frg} {H H' : Hp} {h : AH} {p : Addr} {o o' : AO} {u u' : HO}
theorem RelK.up {κ : Type} {xs : List (κ × A)} {vs : List (κ × V)} (r : RelK K H xs vs) (m : Mono H H') : RelK K H' xs vs := Paired.mapP r fun _ _ q => ⟨q.1, q.2.up m⟩
theorem RelO.up (r : RelO K H o u) (m : Mono H H') : RelO K H' o u := by
  cases r with
  | lst r => exact .lst (r.up m)
  | dK r => exact .dK (RelK.up r m)
  | dT r => exact .dT (RelK.up r m)
  | lK r => exact .lK (RelK.up r m)
  | lT r => exact .lT (RelK.up r m)
  | ins r => exact .ins (RelK.up r m)
theorem RelO.notTup (r : RelO K H o u) : ¬ Stands u := fun q => by
  rcases q with ⟨xs, q⟩ | ⟨ob, xs, q⟩ <;> subst q <;> cases r
theorem RelH.free (r : RelH K H h) (e : H p = none) : h p = none := by
  cases q : h p with
  | none => rfl
  | some o => obtain ⟨u, e', _⟩ := r p o q; rw [e] at e'; cases e'
/-- a new untracked thing (a tuple, a garbage object) -/
theorem RelH.skip (r : RelH K H h) (e : H p = none) : RelH K (upd H p u) h := fun a o q => by
  obtain ⟨w, e', r'⟩ := r a o q
  exact ⟨w, by rw [upd_ne (ne_of_none e' e)]; exact e', r'.up (Mono.new e)⟩
theorem RelH.new (r : RelH K H h) (e : H p = none) (n : RelO K H o u) : RelH K (upd H p u) (updA h p o) := fun a q z => by
  by_cases hb : a = p
  · subst hb
    rw [updA_same] at z; cases z
    exact ⟨u, upd_same, n.up (Mono.new e)⟩
  · rw [updA_ne hb] at z
    exact r.skip e a q z
theorem RelH.wr (r : RelH K H h) (e : H p = some u) (nt : ¬ Stands u) (n : RelO K H o' u') : RelH K (upd H p u') (updA h p o') := fun a q z => by
  by_cases hb : a = p
  · subst hb
    rw [updA_same] at z; cases z
    exact ⟨u', upd_same, n.up (Mono.wr e nt)⟩
  · rw [updA_ne hb] at z
    obtain ⟨w, e', r'⟩ := r a q z
    exact ⟨w, by rw [upd_ne hb]; exact e', r'.up (Mono.wr e nt)⟩
theorem RelH.sub {h' : AH} (r : RelH K H h) (k : ∀ a o, h' a = some o → h a = some o) : RelH K H h' := fun a o q => r a o (k a o q)
end

/-! ### slots -/
abbrev ASt := List (Option A)
structure RelS (K : Frg) (H : Hp) (α : ASt) (σ : L2.St) : Prop where
  len : α.length = σ.length
  get : ∀ (i : Nat) (a : A), α[i]? = some (some a) → ∃ v, σ[i]? = some (some v) ∧ RelA K H a v
section
variable {K : Frg} {H H' : Hp} {α : ASt} {σ : L2.St}
theorem RelS.up (r : RelS K H α σ) (m : Mono H H') : RelS K H' α σ := ⟨r.len, fun i a e => let ⟨v, e', q⟩ := r.get i a e; ⟨v, e', q.up m⟩⟩
theorem RelS.set {a : A} {v : V} (r : RelS K H α σ) (i : Nat) (q : RelA K H a v) : RelS K H (α.set i (some a)) (σ.set i (some v)) := by
  refine ⟨by rw [List.length_set, List.length_set]; exact r.len, fun j b e => ?_⟩
  by_cases hj : i = j
  · subst hj
    by_cases hl : i < α.length
    · rw [List.getElem?_set_self hl] at e; cases e
      exact ⟨v, by rw [List.getElem?_set_self (by rw [← r.len]; exact hl)], q⟩
    · rw [List.getElem?_eq_none (by simpa using hl)] at e; cases e
  · rw [List.getElem?_set_ne hj] at e
    obtain ⟨v', e', q'⟩ := r.get j b e
    exact ⟨v', by rw [List.getElem?_set_ne hj]; exact e', q'⟩
theorem RelS.gone (r : RelS K H α σ) (i : Nat) : RelS K H (α.set i none) (σ.set i none) := by
  refine ⟨by rw [List.length_set, List.length_set]; exact r.len, fun j b e => ?_⟩
  by_cases hj : i = j
  · subst hj
    by_cases hl : i < α.length
    · rw [List.getElem?_set_self hl] at e; cases e
    · rw [List.getElem?_eq_none (by simpa using hl)] at e; cases e
  · rw [List.getElem?_set_ne hj] at e
    obtain ⟨v', e', q'⟩ := r.get j b e
    exact ⟨v', by rw [List.getElem?_set_ne hj]; exact e', q'⟩
end
end G
namespace G
open PySem PySem.Spec L2

/-! ### judgements -/
abbrev AVK := A → AH → Prop
abbrev AXK := Value → AH → Prop
abbrev ATE := ASt → AH → AVK → AXK → Prop
abbrev ATT := ASt → AH → (Bool → AH → Prop) → AXK → Prop
abbrev ATA := ASt → AH → (List A → AH → Prop) → AXK → Prop
def LQ (K : Frg) (H : Hp) (Q : AVK) : VK := fun v H' => ∃ a h', Mono H H' ∧ RelA K H' a v ∧ RelH K H' h' ∧ Q a h'
def LB (K : Frg) (H : Hp) (Q : Bool → AH → Prop) : Bool → Hp → Prop := fun b H' => ∃ h', Mono H H' ∧ RelH K H' h' ∧ Q b h'
def LQs (K : Frg) (H : Hp) (Q : List A → AH → Prop) : List V → Hp → Prop := fun vs H' => ∃ as h', Mono H H' ∧ RelAs K H' as vs ∧ RelH K H' h' ∧ Q as h'
def LN (K : Frg) (H : Hp) (N : ASt → AH → Prop) : L2.St → Hp → Prop := fun σ' H' => ∃ α' h', Mono H H' ∧ RelS K H' α' σ' ∧ RelH K H' h' ∧ N α' h'
section
variable {K : Frg} {H H1 : Hp}
theorem LQ.up {Q : AVK} {v : V} {H' : Hp} (m : Mono H H1) (q : LQ K H1 Q v H') : LQ K H Q v H' := let ⟨a, h', m', r, rh, q⟩ := q; ⟨a, h', m.trans m', r, rh, q⟩
theorem LB.up {Q : Bool → AH → Prop} {b : Bool} {H' : Hp} (m : Mono H H1) (q : LB K H1 Q b H') : LB K H Q b H' := let ⟨h', m', rh, q⟩ := q; ⟨h', m.trans m', rh, q⟩
theorem LQs.up {Q : List A → AH → Prop} {v : List V} {H' : Hp} (m : Mono H H1) (q : LQs K H1 Q v H') : LQs K H Q v H' := let ⟨a, h', m', r, rh, q⟩ := q; ⟨a, h', m.trans m', r, rh, q⟩
theorem LN.up {N : ASt → AH → Prop} {σ : L2.St} {H' : Hp} (m : Mono H H1) (q : LN K H1 N σ H') : LN K H N σ H' := let ⟨a, h', m', r, rh, q⟩ := q; ⟨a, h', m.trans m', r, rh, q⟩
end

/-- an exception that E wishes for is taken -/
def TakesE (X : Cx) (H : Hp) (α : ASt) (E : AXK) : Prop := ∃ Hb, Mono Hb H ∧ Takes X (fun cls d σ H' => d = none ∧ Mono Hb H' ∧ RelS X.K H' α σ ∧ ∃ h, RelH X.K H' h ∧ E cls h)
abbrev AX := Value → ASt → AH → Prop
def TakesS (X : Cx) (H : Hp) (ex : AX) : Prop := ∃ Hb, Mono Hb H ∧ Takes X (fun cls d σ H' => d = none ∧ Mono Hb H' ∧ ∃ α h, RelS X.K H' α σ ∧ RelH X.K H' h ∧ ex cls α h)
theorem TakesS.e {X : Cx} {H : Hp} {ex : AX} (t : TakesS X H ex) (α : ASt) : TakesE X H α (fun c h => ex c α h) := let ⟨Hb, m, t⟩ := t; ⟨Hb, m, Takes.imp t fun _ _ _ _ ⟨e, mm, r, h, rh, q⟩ => ⟨e, mm, α, h, r, rh, q⟩⟩
theorem TakesE.up {X : Cx} {H H1 : Hp} {α : ASt} {E : AXK} (t : TakesE X H α E) (m : Mono H H1) : TakesE X H1 α E := let ⟨Hb, m', t⟩ := t; ⟨Hb, m'.trans m, t⟩
theorem TakesS.up {X : Cx} {H H1 : Hp} {ex : AX} (t : TakesS X H ex) (m : Mono H H1) : TakesS X H1 ex := let ⟨Hb, m', t⟩ := t; ⟨Hb, m'.trans m, t⟩
abbrev AE0 : AXK := fun _ _ => False
theorem TakesE.none {X : Cx} {H : Hp} {α : ASt} : TakesE X H α AE0 := ⟨H, Mono.refl H, fun _ _ ⟨_, _, _, _, _, _, _, _, _, _, _, _, _, _, _, _, _, _, _, _, _, w⟩ => w.elim⟩
theorem TakesS.none {X : Cx} {H : Hp} : TakesS X H (fun _ _ _ => False) := ⟨H, Mono.refl H, fun _ _ ⟨_, _, _, _, _, _, _, _, _, _, _, _, _, _, _, _, _, _, _, _, _, _, w⟩ => w.elim⟩

structure AE (X : Cx) (e : Expr) (t : ATE) : Prop where
  run : ∀ (pins : List (Addr × Obj)) (s : Shared) (σ : L2.St) (H : Hp) (α : ASt) (h : AH) (Q : AVK) (E : AXK), Inv X pins σ H s → RelS X.K H α σ → RelH X.K H h → TakesE X H α E → t α h Q E →
    wpAny (model X.prog X.w) X.A (eval e X.env) (EP X pins σ (LQ X.K H Q)) X.xe s
structure AT (X : Cx) (e : Expr) (t : ATT) : Prop where
  run : ∀ (pins : List (Addr × Obj)) (s : Shared) (σ : L2.St) (H : Hp) (α : ASt) (h : AH) (Q : Bool → AH → Prop) (E : AXK), Inv X pins σ H s → RelS X.K H α σ → RelH X.K H h → TakesE X H α E → t α h Q E →
    wpAny (model X.prog X.w) X.A (isTrue e X.env (eval e X.env)) (TP X pins σ (LB X.K H Q)) X.xe s
structure AW (X : Cx) (e : Expr) (t : ATT) : Prop where
  run : ∀ (whole : Sem Value) (pins : List (Addr × Obj)) (s : Shared) (σ : L2.St) (H : Hp) (α : ASt) (h : AH) (Q : Bool → AH → Prop) (E : AXK), Inv X pins σ H s → RelS X.K H α σ → RelH X.K H h → TakesE X H α E → t α h Q E →
    wpAny (model X.prog X.w) X.A (isTrue e X.env whole) (TP X pins σ (LB X.K H Q)) X.xe s
structure AAs (X : Cx) (es : List Expr) (t : ATA) : Prop where
  run : ∀ (pos : Pos) (pins : List (Addr × Obj)) (s : Shared) (σ : L2.St) (H : Hp) (α : ASt) (h : AH) (Q : List A → AH → Prop) (E : AXK), Inv X pins σ H s → RelS X.K H α σ → RelH X.K H h → TakesE X H α E → t α h Q E →
    wpAny (model X.prog X.w) X.A (spliced (backTo pos (starEach es X.env))) (AP X pins σ (LQs X.K H Q)) X.xe s

/-! the readings as HandS takes them -/
def low (X : Cx) (t : ATE) : TE := fun σ H Qv => ∃ α h Q E, RelS X.K H α σ ∧ RelH X.K H h ∧ TakesE X H α E ∧ t α h Q E ∧ ∀ v H', LQ X.K H Q v H' → Qv v H'
def lowT (X : Cx) (t : ATT) : TT := fun σ H Qv => ∃ α h Q E, RelS X.K H α σ ∧ RelH X.K H h ∧ TakesE X H α E ∧ t α h Q E ∧ ∀ v H', LB X.K H Q v H' → Qv v H'
def lowA (X : Cx) (t : ATA) : TA := fun σ H Qv => ∃ α h Q E, RelS X.K H α σ ∧ RelH X.K H h ∧ TakesE X H α E ∧ t α h Q E ∧ ∀ v H', LQs X.K H Q v H' → Qv v H'
section
variable {X : Cx} {e : Expr} {es : List Expr}
theorem AE.pe {t : ATE} (a : AE X e t) : PE X e (low X t) := ⟨fun pins s σ H Qv I ⟨α, h, Q, E, rs, rh, tk, ht, k⟩ => thn (a.run pins s σ H α h Q E I rs rh tk ht) fun u s' ⟨v, H', I', r, q⟩ => ⟨v, H', I', r, k _ _ q⟩⟩
theorem AT.pt {t : ATT} (a : AT X e t) : PT X e (lowT X t) := ⟨fun pins s σ H Qv I ⟨α, h, Q, E, rs, rh, tk, ht, k⟩ => thn (a.run pins s σ H α h Q E I rs rh tk ht) fun u s' ⟨H', I', q⟩ => ⟨H', I', k _ _ q⟩⟩
theorem AW.pw {t : ATT} (a : AW X e t) : PW X e (lowT X t) := ⟨fun wh pins s σ H Qv I ⟨α, h, Q, E, rs, rh, tk, ht, k⟩ => thn (a.run wh pins s σ H α h Q E I rs rh tk ht) fun u s' ⟨H', I', q⟩ => ⟨H', I', k _ _ q⟩⟩
theorem AAs.pa {t : ATA} (a : AAs X es t) : PA X es (lowA X t) := ⟨fun pos pins s σ H Qv I ⟨α, h, Q, E, rs, rh, tk, ht, k⟩ => thn (a.run pos pins s σ H α h Q E I rs rh tk ht) fun u s' ⟨v, H', I', r, q⟩ => ⟨v, H', I', r, k _ _ q⟩⟩
theorem AE.of {t : ATE} {t' : TE} (p : PE X e t') (k : ∀ σ H Q, low X t σ H Q → t' σ H Q) : AE X e t := ⟨fun pins s σ H α h Q E I rs rh tk ht => p.run pins s σ H _ I (k _ _ _ ⟨α, h, Q, E, rs, rh, tk, ht, fun _ _ z => z⟩)⟩
theorem AT.of {t : ATT} {t' : TT} (p : PT X e t') (k : ∀ σ H Q, lowT X t σ H Q → t' σ H Q) : AT X e t := ⟨fun pins s σ H α h Q E I rs rh tk ht => p.run pins s σ H _ I (k _ _ _ ⟨α, h, Q, E, rs, rh, tk, ht, fun _ _ z => z⟩)⟩
theorem AW.of {t : ATT} {t' : TT} (p : PW X e t') (k : ∀ σ H Q, lowT X t σ H Q → t' σ H Q) : AW X e t := ⟨fun wh pins s σ H α h Q E I rs rh tk ht => p.run wh pins s σ H _ I (k _ _ _ ⟨α, h, Q, E, rs, rh, tk, ht, fun _ _ z => z⟩)⟩
theorem AAs.of {t : ATA} {t' : TA} (p : PA X es t') (k : ∀ σ H Q, lowA X t σ H Q → t' σ H Q) : AAs X es t := ⟨fun pos pins s σ H α h Q E I rs rh tk ht => p.run pos pins s σ H _ I (k _ _ _ ⟨α, h, Q, E, rs, rh, tk, ht, fun _ _ z => z⟩)⟩
theorem AW.at {t : ATT} (h : AW X e t) : AT X e t := ⟨h.run _⟩
/-- the reading of a first part, then the rest -/
theorem low.then {t : ATE} {σ : L2.St} {H H0 : Hp} {α : ASt} {h : AH} {Q : AVK} {E : AXK} {Qv : VK} (rs : RelS X.K H α σ) (rh : RelH X.K H h) (tk : TakesE X H α E) (ht : t α h Q E)
    (k : ∀ v H' a h', Mono H H' → RelA X.K H' a v → RelH X.K H' h' → RelS X.K H' α σ → Q a h' → Qv v H') : low X t σ H Qv := ⟨α, h, Q, E, rs, rh, tk, ht, fun v H' ⟨a, h', m, r, rh', q⟩ => k v H' a h' m r rh' (rs.up m) q⟩
theorem lowA.then {t : ATA} {σ : L2.St} {H : Hp} {α : ASt} {h : AH} {Q : List A → AH → Prop} {E : AXK} {Qv : List V → Hp → Prop} (rs : RelS X.K H α σ) (rh : RelH X.K H h) (tk : TakesE X H α E) (ht : t α h Q E)
    (k : ∀ v H' a h', Mono H H' → RelAs X.K H' a v → RelH X.K H' h' → RelS X.K H' α σ → Q a h' → Qv v H') : lowA X t σ H Qv := ⟨α, h, Q, E, rs, rh, tk, ht, fun v H' ⟨a, h', m, r, rh', q⟩ => k v H' a h' m r rh' (rs.up m) q⟩
theorem lowT.then {t : ATT} {σ : L2.St} {H : Hp} {α : ASt} {h : AH} {Q : Bool → AH → Prop} {E : AXK} {Qv : Bool → Hp → Prop} (rs : RelS X.K H α σ) (rh : RelH X.K H h) (tk : TakesE X H α E) (ht : t α h Q E)
    (k : ∀ b H' h', Mono H H' → RelH X.K H' h' → RelS X.K H' α σ → Q b h' → Qv b H') : lowT X t σ H Qv := ⟨α, h, Q, E, rs, rh, tk, ht, fun v H' ⟨h', m, rh', q⟩ => k v H' h' m rh' (rs.up m) q⟩
end

/-! ### names, constants, displays -/
section
variable {X : Cx} {e a b : Expr} {es : List Expr} {pos : Pos} {te ta tb : ATE} {tr : ATA}
def aVar (i : Nat) : ATE := fun α h Q _ => match α[i]? with
  | some (some a) => Q a h
  | _ => False
def aC (a : A) : ATE := fun _ h Q _ => Q a h
theorem ae_var {i : Nat} {x : Str} (hN : X.N[i]? = some x) (hv : Vis X.env.scope x) (hd : (x == ("__debug__" : Str)) = false := by decide) (hcd : (x == ("__classdict__" : Str)) = false := by decide) : AE X (.Name x pos) (aVar i) :=
  AE.of (pe_var hN hv hd hcd) fun σ H Q ⟨α, h, q, E, rs, rh, tk, ht, k⟩ => by
    unfold aVar at ht
    cases e1 : α[i]? with
    | none => rw [e1] at ht; exact ht.elim
    | some o =>
      cases o with
      | none => rw [e1] at ht; exact ht.elim
      | some a =>
        rw [e1] at ht
        obtain ⟨v, e2, r⟩ := rs.get i a e1
        exact ⟨v, e2, k _ _ ⟨a, h, Mono.refl H, r, rh, ht⟩⟩
theorem av (i : Nat) {x : Str} (hN : X.N[i]? = some x := by rfl) (hv : Vis X.env.scope x := by first | exact Or.inl rfl | exact Or.inr (Or.inl rfl) | exact Or.inr (Or.inr rfl)) (hd : (x == ("__debug__" : Str)) = false := by decide)
    (hcd : (x == ("__classdict__" : Str)) = false := by decide) : AE X (.Name x pos) (aVar i) := ae_var hN hv hd hcd
theorem aC.low {a : A} {v : V} (r : ∀ H, RelA X.K H a v) {σ : L2.St} {H : Hp} {Q : VK} (x : low X (aC a) σ H Q) : Q v H := let ⟨_, h, _, _, _, rh, _, ht, k⟩ := x; k _ _ ⟨a, h, Mono.refl H, r H, rh, ht⟩
theorem ae_int {i j} : AE X (.Constant (.int i) j pos) (aC (.int i)) := AE.of pe_int fun _ _ _ => aC.low fun _ => .int i
theorem ae_bl {b j} : AE X (.Constant (.bool b) j pos) (aC (.bl b)) := AE.of pe_bl fun _ _ _ => aC.low fun _ => .bl b
theorem ae_non {j} : AE X (.Constant .none j pos) (aC .non) := AE.of pe_non fun _ _ _ => aC.low fun _ => .non
theorem ae_str {x j} : AE X (.Constant (.str x) j pos) (aC (.str x)) := AE.of pe_str fun _ _ _ => aC.low fun _ => .str x
/-- a module's name whose value is known -/
theorem ae_glob {x : Str} {v : V} {w : A} {u : Value} (hg : Gl X x) (hm : X.mg x = some u) (r : RelV v u) (ra : ∀ H, RelA X.K H w v) (hd : (x == ("__debug__" : Str)) = false := by decide) : AE X (.Name x pos) (aC w) := AE.of (pe_glob hg hm r hd) fun _ _ _ => aC.low ra
theorem ae_bltn {x : Str} {v : V} {w : A} {u : Value} (hg : Gl X x) (hm : X.mg x = none) (hv : bootBuiltins x = some u) (r : RelV v u) (ra : ∀ H, RelA X.K H w v) (hn : x ≠ "__name__" := by decide) (hd : (x == ("__debug__" : Str)) = false := by decide) :
    AE X (.Name x pos) (aC w) := AE.of (pe_bltn hg hm hv r hn hd) fun _ _ _ => aC.low ra

def aNil : ATA := fun _ h Q _ => Q [] h
def aCons (ta : ATE) (tr : ATA) : ATA := fun α h Q E => ta α h (fun x h1 => tr α h1 (fun xs h2 => Q (x :: xs) h2) E) E
theorem aa_nil : AAs X [] aNil := AAs.of pa_nil fun σ H Q ⟨α, h, q, E, rs, rh, tk, ht, k⟩ => k _ _ ⟨[], h, Mono.refl H, .nil, rh, ht⟩
theorem aa_cons (ha : AE X e te) (hr : AAs X es tr) (hs : starEach (e :: es) X.env = (false, eval e X.env) :: starEach es X.env := by rfl) : AAs X (e :: es) (aCons te tr) :=
  AAs.of (pa_cons ha.pe hr.pa hs) fun σ H Q ⟨α, h, q, E, rs, rh, tk, ht, k⟩ =>
    low.then (H0 := H) rs rh tk ht fun v H1 x h1 m1 r1 rh1 rs1 q1 => lowA.then rs1 rh1 (tk.up m1) q1 fun vs H2 xs h2 m2 r2 rh2 rs2 q2 => k _ _ ⟨x :: xs, h2, m1.trans m2, .cons (r1.up m2) r2, rh2, q2⟩
/-- a tuple -/
def aTup (t : ATA) : ATE := fun α h Q E => t α h (fun xs h1 => xs.length ≤ sizeLine ∧ Q (.tup xs) h1) E
theorem ae_tup {x1} (p : AAs X es tr) : AE X (.Tuple es x1 pos) (aTup tr) := AE.of (pe_tup p.pa) fun σ H Q ⟨α, h, q, E, rs, rh, tk, ht, k⟩ =>
  lowA.then rs rh tk ht fun vs H1 xs h1 m1 r1 rh1 _ ⟨z, q1⟩ => ⟨by rw [← r1.len]; exact z, fun p hp => k _ _ ⟨.tup xs, h1, m1.trans (Mono.new hp), .tup (.of upd_same) (r1.up (Mono.new (o := .tup vs) hp)), rh1.skip hp, q1⟩⟩
/-- the ints and texts of a flat tuple -/
def keyA : A → Option Key
  | .int i => some (.inl i)
  | .str x => some (.inr x)
  | _ => none
def keysA : List A → Option (List Key)
  | [] => some []
  | a :: as => match keyA a, keysA as with
    | some k, some ks => some (k :: ks)
    | _, _ => none
theorem keyA_rel {K : Frg} {H : Hp} {a : A} {v : V} {k : Key} (r : RelA K H a v) (e : keyA a = some k) : v = kV k := by
  cases r <;> simp [keyA] at e <;> subst e <;> rfl
theorem keysA_rel {K : Frg} {H : Hp} : ∀ {as : List A} {vs : List V} {ks : List Key}, RelAs K H as vs → keysA as = some ks → vs = ks.map kV
  | _, _, ks, .nil, e => by simp [keysA] at e; subst e; rfl
  | a :: as, _, ks, .cons r t, e => by
    unfold keysA at e
    cases e1 : keyA a with
    | none => rw [e1] at e; simp at e
    | some k =>
      cases e2 : keysA as with
      | none => rw [e1, e2] at e; simp at e
      | some l =>
        rw [e1, e2] at e
        simp at e; subst e
        rw [List.map_cons, keyA_rel r e1, keysA_rel t e2]
/-- a tuple that may be a dict's key -/
def aKt (t : ATA) : ATE := fun α h Q E => t α h (fun xs h1 => xs.length ≤ sizeLine ∧ match keysA xs with
  | some ks => Q (.kt ks) h1
  | none => False) E
theorem ae_kt {x1} (p : AAs X es tr) : AE X (.Tuple es x1 pos) (aKt tr) := AE.of (pe_tup p.pa) fun σ H Q ⟨α, h, q, E, rs, rh, tk, ht, k⟩ =>
  lowA.then rs rh tk ht fun vs H1 xs h1 m1 r1 rh1 _ ⟨z, q1⟩ => ⟨by rw [← r1.len]; exact z, fun p hp => by
    cases e1 : keysA xs with
    | none => rw [e1] at q1; exact q1.elim
    | some ks =>
      rw [e1] at q1
      exact k _ _ ⟨.kt ks, h1, m1.trans (Mono.new hp), .kt (by rw [upd_same, keysA_rel r1 e1]), rh1.skip hp, q1⟩⟩
/-- a list display -/
def aLst (t : ATA) : ATE := fun α h Q E => t α h (fun xs h1 => xs.length ≤ sizeLine ∧ ∀ p, h1 p = none → Q (.ref p) (updA h1 p (.lst xs))) E
theorem ae_lst (p : AAs X es tr) : AE X (.List es pos) (aLst tr) := AE.of (pe_lst p.pa) fun σ H Q ⟨α, h, q, E, rs, rh, tk, ht, k⟩ =>
  lowA.then rs rh tk ht fun vs H1 xs h1 m1 r1 rh1 _ ⟨z, q1⟩ => ⟨by rw [← r1.len]; exact z, fun p hp => k _ _ ⟨.ref p, _, m1.trans (Mono.new hp), .ref p, rh1.new hp (.lst r1), q1 p (rh1.free hp)⟩⟩
end

/-! ### operators by values -/
abbrev AR1 := A → AH → AVK → Prop
abbrev AR2 := A → A → AH → AVK → Prop
abbrev ARs := List A → AH → AVK → Prop
def Op2 (K : Frg) (r : R2) (rA : AR2) : Prop := ∀ (H : Hp) (h : AH) (x y : V) (a b : A) (Q : AVK) (Qv : VK), RelA K H a x → RelA K H b y → RelH K H h → (∀ v H', LQ K H Q v H' → Qv v H') → rA a b h Q → r x y H Qv
def Op1 (K : Frg) (r : V → Hp → VK → Prop) (rA : AR1) : Prop := ∀ (H : Hp) (h : AH) (x : V) (a : A) (Q : AVK) (Qv : VK), RelA K H a x → RelH K H h → (∀ v H', LQ K H Q v H' → Qv v H') → rA a h Q → r x H Qv
def OpN (K : Frg) (r : List V → Hp → VK → Prop) (rA : ARs) : Prop := ∀ (H : Hp) (h : AH) (xs : List V) (as : List A) (Q : AVK) (Qv : VK), RelAs K H as xs → RelH K H h → (∀ v H', LQ K H Q v H' → Qv v H') → rA as h Q → r xs H Qv
def a2 (rA : AR2) (ta tb : ATE) : ATE := fun α h Q E => ta α h (fun x h1 => tb α h1 (fun y h2 => rA x y h2 Q) E) E
def a1 (rA : AR1) (ta : ATE) : ATE := fun α h Q E => ta α h (fun x h1 => rA x h1 Q) E
def aN (rA : ARs) (t : ATA) : ATE := fun α h Q E => t α h (fun xs h1 => rA xs h1 Q) E
section
variable {X : Cx} {a b e : Expr} {es : List Expr} {pos p : Pos} {ta tb te : ATE} {tr : ATA} {r : R2} {rA : AR2}
theorem low2 (hr : Op2 X.K r rA) {σ : L2.St} {H : Hp} {Qv : VK} (x : low X (a2 rA ta tb) σ H Qv) : tOp r (low X ta) (low X tb) σ H Qv := by
  obtain ⟨α, h, q, E, rs, rh, tk, ht, k⟩ := x
  exact low.then (H0 := H) rs rh tk ht fun v H1 x h1 m1 r1 rh1 rs1 q1 => low.then (H0 := H) rs1 rh1 (tk.up m1) q1 fun w H2 y h2 m2 r2 rh2 rs2 q2 =>
    hr H2 h2 v w x y q Qv (r1.up m2) r2 rh2 (fun z H' g => k _ _ (g.up (m1.trans m2))) q2
theorem ae_op {op : Operator} (ho : OpR X (binaryOp op) r) (hr : Op2 X.K r rA) (ha : AE X a ta) (hb : AE X b tb) : AE X (.BinOp a op b pos) (a2 rA ta tb) := AE.of (pe_op ho ha.pe hb.pe) fun _ _ _ x => low2 hr x
theorem ae_un {op : UnaryOp} {r : V → Hp → VK → Prop} {rA : AR1} (ho : UnR X (unaryOp op) r) (hr : Op1 X.K r rA) (ha : AE X a ta) : AE X (.UnaryOp op a pos) (a1 rA ta) :=
  AE.of (pe_un ho ha.pe) fun σ H Qv ⟨α, h, q, E, rs, rh, tk, ht, k⟩ => low.then (H0 := H) rs rh tk ht fun v H1 x h1 m1 r1 rh1 rs1 q1 => hr H1 h1 v x q Qv r1 rh1 (fun z H' g => k _ _ (g.up m1)) q1
theorem ae_cmp {op : CmpOp} (ho : OpR X (compareOp op) r) (hr : Op2 X.K r rA) (ha : AE X a ta) (hb : AE X b tb) (hm : behindInMarks op b = false) : AE X (.Compare a [op] [b] pos) (a2 rA ta tb) := AE.of (pe_cmpR ho ha.pe hb.pe hm) fun _ _ _ x => low2 hr x
/-- a value that is a bool, as a test -/
def asB (x : A) (Q : Bool → Prop) : Prop := match x with
  | .bl b => Q b
  | _ => False
def aTest (t : ATE) : ATT := fun α h Q E => t α h (fun x h1 => asB x fun b => Q b h1) E
theorem bl_of {K : Frg} {H : Hp} {a : A} {v : V} {Q : Bool → Prop} (r : RelA K H a v) (q : asB a Q) : ∃ b, v = .bl b ∧ Q b := by
  cases r with
  | bl b => exact ⟨b, rfl, q⟩
  | _ => exact q.elim
theorem at_cmp {op : CmpOp} (ho : OpR X (compareOp op) r) (hr : Op2 X.K r rA) (ha : AE X a ta) (hb : AE X b tb) (hm : behindInMarks op b = false) : AT X (.Compare a [op] [b] pos) (aTest (a2 rA ta tb)) :=
  AT.of (pt_cmpR ho ha.pe hb.pe hm) fun σ H Qv ⟨α, h, q, E, rs, rh, tk, ht, k⟩ => low2 hr ⟨α, h, _, E, rs, rh, tk, ht, fun v H' ⟨x, h', m, r1, rh', q1⟩ => by
    obtain ⟨b, e, q2⟩ := bl_of r1 q1
    exact ⟨b, e, k _ _ ⟨h', m, rh', q2⟩⟩⟩
theorem at_val (he : AE X e te) (ht : ∀ whole, isTrue e X.env whole = (do let v ← whole; standAt e.pos; holding [v] (truthy v)) := by intro _; rfl) : AT X e (aTest te) :=
  AT.of (pt_val he.pe ht) fun σ H Qv ⟨α, h, q, E, rs, rh, tk, ht, k⟩ => ⟨α, h, _, E, rs, rh, tk, ht, fun v H' ⟨x, h', m, r1, rh', q1⟩ => by
    obtain ⟨b, e, q2⟩ := bl_of r1 q1
    exact ⟨b, e, k _ _ ⟨h', m, rh', q2⟩⟩⟩
/-! and, or, not -/
variable {tA tB : ATT} {rest : List Expr}
def aAnd (t u : ATT) : ATT := fun α h Q E => t α h (fun c h1 => if c = true then u α h1 Q E else Q false h1) E
def aOr (t u : ATT) : ATT := fun α h Q E => t α h (fun c h1 => if c = true then Q true h1 else u α h1 Q E) E
def aNot (t : ATT) : ATT := fun α h Q E => t α h (fun c h1 => Q (!c) h1) E
theorem aw_and1 (ha : AT X a tA) : AW X (.BoolOp .And [a] pos) tA := AW.of (pw_and1 ha.pt) fun _ _ _ x => x
theorem aw_or1 (ha : AT X a tA) : AW X (.BoolOp .Or [a] pos) tA := AW.of (pw_or1 ha.pt) fun _ _ _ x => x
theorem aw_and (ha : AT X a tA) (hb : AW X (.BoolOp .And (b :: rest) pos) tB) : AW X (.BoolOp .And (a :: b :: rest) pos) (aAnd tA tB) :=
  AW.of (pw_and ha.pt hb.pw) fun σ H Qv ⟨α, h, q, E, rs, rh, tk, ht, k⟩ => lowT.then rs rh tk ht fun c H1 h1 m1 rh1 rs1 q1 => by
    cases c with
    | true => exact ⟨α, h1, q, E, rs1, rh1, tk.up m1, by rw [if_pos rfl] at q1; exact q1, fun v H' g => k _ _ (g.up m1)⟩
    | false => exact k _ _ ⟨h1, m1, rh1, by rw [if_neg Bool.false_ne_true] at q1; exact q1⟩
theorem aw_or (ha : AT X a tA) (hb : AW X (.BoolOp .Or (b :: rest) pos) tB) : AW X (.BoolOp .Or (a :: b :: rest) pos) (aOr tA tB) :=
  AW.of (pw_or ha.pt hb.pw) fun σ H Qv ⟨α, h, q, E, rs, rh, tk, ht, k⟩ => lowT.then rs rh tk ht fun c H1 h1 m1 rh1 rs1 q1 => by
    cases c with
    | false => exact ⟨α, h1, q, E, rs1, rh1, tk.up m1, by rw [if_neg Bool.false_ne_true] at q1; exact q1, fun v H' g => k _ _ (g.up m1)⟩
    | true => exact k _ _ ⟨h1, m1, rh1, by rw [if_pos rfl] at q1; exact q1⟩
theorem at_not (ha : AT X a tA) : AT X (.UnaryOp .Not a pos) (aNot tA) := AT.of (pt_not ha.pt) fun σ H Qv ⟨α, h, q, E, rs, rh, tk, ht, k⟩ =>
  lowT.then rs rh tk ht fun c H1 h1 m1 rh1 rs1 q1 => k _ _ ⟨h1, m1, rh1, q1⟩
/-- the same as values: bools -/
def aB (t : ATT) : ATE := fun α h Q E => t α h (fun c h1 => Q (.bl c) h1) E
def aAndV (ta tb : ATE) : ATE := fun α h Q E => ta α h (fun x h1 => asB x fun c => if c = true then tb α h1 Q E else Q (.bl false) h1) E
def aOrV (ta tb : ATE) : ATE := fun α h Q E => ta α h (fun x h1 => asB x fun c => if c = true then Q (.bl true) h1 else tb α h1 Q E) E
def aNotV (ta : ATE) : ATE := fun α h Q E => ta α h (fun x h1 => asB x fun c => Q (.bl (!c)) h1) E
theorem ae_one {op} (h : AE X a te) : AE X (.BoolOp op [a] pos) te := AE.of (pe_one h.pe) fun _ _ _ x => x
theorem ae_and (ha : AE X a ta) (hb : AE X (.BoolOp .And (b :: rest) pos) tb) : AE X (.BoolOp .And (a :: b :: rest) pos) (aAndV ta tb) :=
  AE.of (pe_and ha.pe hb.pe) fun σ H Qv ⟨α, h, q, E, rs, rh, tk, ht, k⟩ => low.then (H0 := H) rs rh tk ht fun v H1 x h1 m1 r1 rh1 rs1 q1 => by
    obtain ⟨c, e, q2⟩ := bl_of r1 q1
    refine ⟨c, e, ?_⟩
    cases c with
    | true => exact ⟨α, h1, q, E, rs1, rh1, tk.up m1, by rw [if_pos rfl] at q2; exact q2, fun v H' g => k _ _ (g.up m1)⟩
    | false => exact k _ _ ⟨.bl false, h1, m1, .bl _, rh1, by rw [if_neg Bool.false_ne_true] at q2; exact q2⟩
theorem ae_or (ha : AE X a ta) (hb : AE X (.BoolOp .Or (b :: rest) pos) tb) : AE X (.BoolOp .Or (a :: b :: rest) pos) (aOrV ta tb) :=
  AE.of (pe_or ha.pe hb.pe) fun σ H Qv ⟨α, h, q, E, rs, rh, tk, ht, k⟩ => low.then (H0 := H) rs rh tk ht fun v H1 x h1 m1 r1 rh1 rs1 q1 => by
    obtain ⟨c, e, q2⟩ := bl_of r1 q1
    refine ⟨c, e, ?_⟩
    cases c with
    | false => exact ⟨α, h1, q, E, rs1, rh1, tk.up m1, by rw [if_neg Bool.false_ne_true] at q2; exact q2, fun v H' g => k _ _ (g.up m1)⟩
    | true => exact k _ _ ⟨.bl true, h1, m1, .bl _, rh1, by rw [if_pos rfl] at q2; exact q2⟩
theorem ae_not (ha : AE X a ta) : AE X (.UnaryOp .Not a pos) (aNotV ta) :=
  AE.of (pe_not ha.pe) fun σ H Qv ⟨α, h, q, E, rs, rh, tk, ht, k⟩ => low.then (H0 := H) rs rh tk ht fun v H1 x h1 m1 r1 rh1 rs1 q1 => by
    obtain ⟨c, e, q2⟩ := bl_of r1 q1
    exact ⟨c, e, k _ _ ⟨.bl (!c), h1, m1, .bl _, rh1, q2⟩⟩
def aIf (t : ATT) (ta tb : ATE) : ATE := fun α h Q E => t α h (fun c h1 => if c = true then ta α h1 Q E else tb α h1 Q E) E
theorem ae_ifExp {c : Expr} (hc : AT X c tA) (ha : AE X a ta) (hb : AE X b tb) : AE X (.IfExp c a b pos) (aIf tA ta tb) :=
  AE.of (pe_ifExp hc.pt ha.pe hb.pe) fun σ H Qv ⟨α, h, q, E, rs, rh, tk, ht, k⟩ => lowT.then rs rh tk ht fun c H1 h1 m1 rh1 rs1 q1 => by
    cases c with
    | true => exact ⟨α, h1, q, E, rs1, rh1, tk.up m1, by rw [if_pos rfl] at q1; exact q1, fun v H' g => k _ _ (g.up m1)⟩
    | false => exact ⟨α, h1, q, E, rs1, rh1, tk.up m1, by rw [if_neg Bool.false_ne_true] at q1; exact q1, fun v H' g => k _ _ (g.up m1)⟩
/-- a < b < c -/
def aChain (rA rB : AR2) (ta tb tc : ATE) : ATE := fun α h Q E => ta α h (fun x h1 => tb α h1 (fun y h2 => rA x y h2 fun z h3 => match z with
  | .bl k => if k = true then tc α h3 (fun w h4 => rB y w h4 Q) E else Q (.bl false) h3
  | _ => False) E) E
/-! calls of built-ins, methods of built-in types, subscripts -/
variable {x : Str} {id T : String} {rs : List V → Hp → VK → Prop} {rAs : ARs}
theorem lowN (hr : OpN X.K rs rAs) {σ : L2.St} {H : Hp} {Qv : VK} (x : low X (aN rAs tr) σ H Qv) : tCB rs (lowA X tr) σ H Qv := by
  obtain ⟨α, h, q, E, rs, rh, tk, ht, k⟩ := x
  exact lowA.then rs rh tk ht fun v H1 x h1 m1 r1 rh1 rs1 q1 => hr H1 h1 v x q Qv r1 rh1 (fun z H' g => k _ _ (g.up m1)) q1
theorem ae_callB (hc : CallR X (.builtin id) rs) (hr : OpN X.K rs rAs) (hg : Gl X x) (hm : X.mg x = none) (hv : bootBuiltins x = some (.builtin id)) (ha : AAs X (e :: es) tr) (hn : x ≠ "__name__" := by decide) (hdb : (x == ("__debug__" : Str)) = false := by decide)
    (he : starEach (e :: es) X.env = (false, eval e X.env) :: starEach es X.env := by rfl) (hpl : (backTo pos (starEach es X.env)).any (·.1) = false := by rfl) : AE X (.Call (.Name x p) (e :: es) [] pos) (aN rAs tr) :=
  AE.of (pe_callB hc hg hm hv ha.pa hn hdb he hpl) fun _ _ _ x => lowN hr x
theorem ae_callTy (hc : CallR X (.type T) rs) (hr : OpN X.K rs rAs) (hg : Gl X x) (hm : X.mg x = none) (hv : bootBuiltins x = some (.type T)) (ha : AAs X (e :: es) tr) (hn : x ≠ "__name__" := by decide) (hdb : (x == ("__debug__" : Str)) = false := by decide)
    (he : starEach (e :: es) X.env = (false, eval e X.env) :: starEach es X.env := by rfl) (hpl : (backTo pos (starEach es X.env)).any (·.1) = false := by rfl) : AE X (.Call (.Name x p) (e :: es) [] pos) (aN rAs tr) :=
  AE.of (pe_callTy hc hg hm hv ha.pa hn hdb he hpl) fun _ _ _ x => lowN hr x
theorem ae_ix (hi : IxR X r) (hr : Op2 X.K r rA) (ha : AE X a ta) (hb : AE X b tb) (hs : PlainIx b) : AE X (.Subscript a b pos) (a2 rA ta tb) := AE.of (pe_ix hi ha.pe hb.pe hs) fun _ _ _ x => low2 hr x
/-- methods of built-in types: the object, then the arguments -/
def tyA (T : String) (x : A) (h : AH) : Prop := match x with
  | .str _ => T = "str"
  | .tup _ => T = "tuple"
  | .kt _ => T = "tuple"
  | .ref p => (T = "list" ∧ ∃ xs, h p = some (.lst xs)) ∨ (T = "dict" ∧ ((∃ xs, h p = some (.dK xs)) ∨ ∃ xs, h p = some (.dT xs)))
  | _ => False
end
end G
namespace G
open PySem PySem.Spec L2

/-! ### int operators -/
def iA (C : Int → Int → Prop) (g : Int → Int → A) : AR2 := fun x y h Q => match x, y with
  | .int i, .int j => C i j ∧ Q (g i j) h
  | _, _ => False
def iA0 (g : Int → Int → A) : AR2 := fun x y h Q => match x, y with
  | .int i, .int j => Q (g i j) h
  | _, _ => False
section
variable {K : Frg} {H : Hp} {h : AH} {a b : A} {x y : V} {Q : AVK}
theorem iA_inv {C : Int → Int → Prop} {g : Int → Int → A} (ra : RelA K H a x) (rb : RelA K H b y) (q : iA C g a b h Q) : ∃ i j, x = .int i ∧ y = .int j ∧ C i j ∧ Q (g i j) h := by
  cases ra with
  | int i => cases rb with
    | int j => exact ⟨i, j, rfl, rfl, q.1, q.2⟩
    | _ => exact (show False from q).elim
  | _ => cases rb <;> exact (show False from q).elim
theorem iA0_inv {g : Int → Int → A} (ra : RelA K H a x) (rb : RelA K H b y) (q : iA0 g a b h Q) : ∃ i j, x = .int i ∧ y = .int j ∧ Q (g i j) h := by
  cases ra with
  | int i => cases rb with
    | int j => exact ⟨i, j, rfl, rfl, q⟩
    | _ => exact (show False from q).elim
  | _ => cases rb <;> exact (show False from q).elim
end
theorem op2_I {K : Frg} {C : Int → Int → Prop} {g : Int → Int → V} {gA : Int → Int → A} (hg : ∀ H i j, RelA K H (gA i j) (g i j)) : Op2 K (rI C g) (iA C gA) := fun H h x y a b Q Qv ra rb rh k q => by
  obtain ⟨i, j, rfl, rfl, c, q⟩ := iA_inv ra rb q
  exact ⟨i, j, rfl, rfl, c, k _ _ ⟨gA i j, h, Mono.refl H, hg H i j, rh, q⟩⟩
theorem op2_I0 {K : Frg} {g : Int → Int → V} {gA : Int → Int → A} (hg : ∀ H i j, RelA K H (gA i j) (g i j)) : Op2 K (rI0 g) (iA0 gA) := fun H h x y a b Q Qv ra rb rh k q => by
  obtain ⟨i, j, rfl, rfl, q⟩ := iA0_inv ra rb q
  exact ⟨i, j, rfl, rfl, k _ _ ⟨gA i j, h, Mono.refl H, hg H i j, rh, q⟩⟩
abbrev subA : AR2 := iA0 fun i j => .int (i - j)
abbrev modA : AR2 := iA (fun _ j => j ≠ 0) fun i j => .int (i.fmod j)
abbrev modP : AR2 := iA (fun _ j => 0 < j) fun i j => .int (i % j)
abbrev divP : AR2 := iA CDivW fun i j => .int (i / j)
abbrev divN : AR2 := iA CDivN fun i j => .int (i.fdiv j)
abbrev powA : AR2 := iA CPow fun i j => .int (i ^ j.toNat)
abbrev ltA : AR2 := iA0 fun i j => .bl (decide (i < j))
abbrev leA : AR2 := iA0 fun i j => .bl (decide (i ≤ j))
abbrev gtA : AR2 := iA0 fun i j => .bl (decide (j < i))
abbrev geA : AR2 := iA0 fun i j => .bl (decide (j ≤ i))
theorem o_sub {K : Frg} : Op2 K (rI0 fun i j => .int (i - j)) subA := op2_I0 fun _ _ _ => .int _
theorem o_mod {K : Frg} : Op2 K (rI (fun _ j => j ≠ 0) fun i j => .int (i.fmod j)) modA := op2_I fun _ _ _ => .int _
theorem o_modP {K : Frg} : Op2 K (rI (fun _ j => 0 < j) fun i j => .int (i % j)) modP := op2_I fun _ _ _ => .int _
theorem o_divP {K : Frg} : Op2 K (rI CDivW fun i j => .int (i / j)) divP := op2_I fun _ _ _ => .int _
theorem o_divN {K : Frg} : Op2 K (rI CDivN fun i j => .int (i.fdiv j)) divN := op2_I fun _ _ _ => .int _
theorem o_pow {K : Frg} : Op2 K (rI CPow fun i j => .int (i ^ j.toNat)) powA := op2_I fun _ _ _ => .int _
theorem o_lt {K : Frg} : Op2 K (rI0 fun i j => .bl (decide (i < j))) ltA := op2_I0 fun _ _ _ => .bl _
theorem o_le {K : Frg} : Op2 K (rI0 fun i j => .bl (decide (i ≤ j))) leA := op2_I0 fun _ _ _ => .bl _
theorem o_gt {K : Frg} : Op2 K (rI0 fun i j => .bl (decide (j < i))) gtA := op2_I0 fun _ _ _ => .bl _
theorem o_ge {K : Frg} : Op2 K (rI0 fun i j => .bl (decide (j ≤ i))) geA := op2_I0 fun _ _ _ => .bl _
/-- floor division: by a positive number, or by a small one -/
def CDivZ (_ j : Int) : Prop := j ≠ 0 ∧ j.natAbs.log2 < 9000
theorem op_fdivZ {X : Cx} : OpR X (binaryOp .FloorDiv) (rI CDivZ fun i j => .int (i.fdiv j)) := opI fun _ _ _ _ _ _ _ hc q => PyProof.Rows.floordiv_int hc.1 q (.inl (PyProof.noPylong_of_log2 hc.2))
def divA : AR2 := fun x y h Q => match x, y with
  | .int i, .int j => (CDivW i j ∧ Q (.int (i / j)) h) ∨ (CDivZ i j ∧ Q (.int (i.fdiv j)) h)
  | _, _ => False
theorem Op2.or {K : Frg} {r r' : R2} {rA rB : AR2} (a : Op2 K r rA) (b : Op2 K r' rB) : Op2 K (fun x y H Q => r x y H Q ∨ r' x y H Q) (fun x y h Q => rA x y h Q ∨ rB x y h Q) := fun H h x y u v Q Qv ra rb rh k q =>
  q.elim (fun q => .inl (a H h x y u v Q Qv ra rb rh k q)) fun q => .inr (b H h x y u v Q Qv ra rb rh k q)
theorem o_div {K : Frg} : Op2 K (fun x y H Q => rI CDivW (fun i j => .int (i / j)) x y H Q ∨ rI CDivZ (fun i j => .int (i.fdiv j)) x y H Q) divA := fun H h x y a b Q Qv ra rb rh k q => by
  cases ra with
  | int i => cases rb with
    | int j =>
      rcases (show (CDivW i j ∧ Q (.int (i / j)) h) ∨ (CDivZ i j ∧ Q (.int (i.fdiv j)) h) from q) with q | q
      · exact .inl ⟨i, j, rfl, rfl, q.1, k _ _ ⟨_, h, Mono.refl H, .int _, rh, q.2⟩⟩
      · exact .inr ⟨i, j, rfl, rfl, q.1, k _ _ ⟨_, h, Mono.refl H, .int _, rh, q.2⟩⟩
    | _ => exact (show False from q).elim
  | _ => cases rb <;> exact (show False from q).elim
theorem opr_div {X : Cx} : OpR X (binaryOp .FloorDiv) (fun x y H Q => rI CDivW (fun i j => .int (i / j)) x y H Q ∨ rI CDivZ (fun i j => .int (i.fdiv j)) x y H Q) := op_fdivW.or op_fdivZ

/-! ### lists and tuples that stand -/
theorem RelH.lst {K : Frg} {H : Hp} {h : AH} {p : Addr} {xs : List A} (r : RelH K H h) (e : h p = some (.lst xs)) : ∃ vs, H p = some (.lst vs) ∧ RelAs K H xs vs := by
  obtain ⟨u, e', q⟩ := r p _ e
  cases q with
  | lst q => exact ⟨_, e', q⟩
/-- a list that may be read -/
abbrev LstA (h : AH) (p : Addr) (xs : List A) : Prop := h p = some (.lst xs)
theorem RelH.rd {K : Frg} {H : Hp} {h : AH} {p : Addr} {xs : List A} (r : RelH K H h) (e : LstA h p xs) : ∃ vs, SqL K H p vs ∧ RelAs K H xs vs := by
  obtain ⟨vs, e', q⟩ := r.lst e
  exact ⟨vs, .of e', q⟩
/-- what a flat key tuple holds -/
def keyV : Key → A
  | .inl i => .int i
  | .inr x => .str x
theorem rel_keyV {K : Frg} {H : Hp} (k : Key) : RelA K H (keyV k) (kV k) := by cases k <;> constructor
theorem rel_keysV {K : Frg} {H : Hp} : ∀ ks : List Key, RelAs K H (ks.map keyV) (ks.map kV)
  | [] => .nil
  | k :: ks => .cons (rel_keyV k) (rel_keysV ks)
/-- the items of a tuple value -/
def asT (x : A) (Q : List A → Prop) : Prop := match x with
  | .tup xs => Q xs
  | .kt ks => Q (ks.map keyV)
  | _ => False
theorem tup_of {K : Frg} {H : Hp} {x : A} {v : V} {Q : List A → Prop} (r : RelA K H x v) (q : asT x Q) : ∃ p xs vs, v = .ref p ∧ SqT K H p vs ∧ RelAs K H xs vs ∧ Q xs := by
  cases r with
  | @tup p xs vs h r => exact ⟨p, xs, vs, rfl, h.sq, r, q⟩
  | @kt p ks h => exact ⟨p, ks.map keyV, ks.map kV, rfl, SqT.of h, rel_keysV ks, q⟩
  | _ => exact (show False from q).elim

/-! ### + and * of all kinds -/
def addA : AR2 := fun x y h Q => match x, y with
  | .int i, .int j => Q (.int (i + j)) h
  | .str a, .str b => a.length + b.length ≤ sizeLine ∧ Q (.str (a ++ b)) h
  | .tup xs, .tup ys => (xs ≠ [] ∧ xs.length + ys.length ≤ sizeLine) ∧ Q (.tup (xs ++ ys)) h
  | .ref p, .ref q => ∃ xs ys, h p = some (.lst xs) ∧ h q = some (.lst ys) ∧ xs.length + ys.length ≤ sizeLine ∧ ∀ r, h r = none → Q (.ref r) (updA h r (.lst (xs ++ ys)))
  | _, _ => False
def rAddAll (K : Frg) : R2 := fun x y H Q => rI0 (fun i j => .int (i + j)) x y H Q ∨ (∃ i j, x = V.str i ∧ y = V.str j ∧ i.length + j.length ≤ sizeLine ∧ Q (.str (i ++ j)) H) ∨ rCatT K x y H Q ∨ rCat x y H Q
theorem opr_add {X : Cx} : OpR X (binaryOp .Add) (rAddAll X.K) := op_add.or (op_add_str.or (op_catT.or op_cat))
theorem o_add {K : Frg} : Op2 K (rAddAll K) addA := fun H h x y a b Q Qv ra rb rh k q => by
  cases ra with
  | int i => cases rb with
    | int j => exact .inl ⟨i, j, rfl, rfl, k _ _ ⟨_, h, Mono.refl H, .int _, rh, q⟩⟩
    | _ => exact (show False from q).elim
  | str i => cases rb with
    | str j =>
      obtain ⟨z, q⟩ := (show i.length + j.length ≤ sizeLine ∧ Q (.str (i ++ j)) h from q)
      exact .inr (.inl ⟨i, j, rfl, rfl, z, k _ _ ⟨_, h, Mono.refl H, .str _, rh, q⟩⟩)
    | _ => exact (show False from q).elim
  | @tup p xs vs e1 r1 => cases rb with
    | @tup p2 ys ws e2 r2 =>
      obtain ⟨⟨n, z⟩, q⟩ := (show (xs ≠ [] ∧ xs.length + ys.length ≤ sizeLine) ∧ Q (.tup (xs ++ ys)) h from q)
      have l1 := r1.len
      have l2 := r2.len
      refine .inr (.inr (.inl ⟨p, p2, vs, ws, rfl, rfl, e1.sq, e2.sq, fun z => ?_, by rw [← l1, ← l2]; exact z, fun z => ?_, fun _ p3 hp => ?_⟩))
      · subst z
        cases r1
        exact n rfl
      · subst z
        cases r2
        rw [List.append_nil] at q
        exact k _ _ ⟨_, h, Mono.refl H, .tup e1 r1, rh, q⟩
      · exact k _ _ ⟨_, h, Mono.new hp, .tup (.of upd_same) ((r1.app r2).up (Mono.new hp)), rh.skip hp, q⟩
    | _ => exact (show False from q).elim
  | ref p => cases rb with
    | ref p2 =>
      obtain ⟨xs, ys, e1, e2, z, q⟩ := (show ∃ xs ys, h p = some (.lst xs) ∧ h p2 = some (.lst ys) ∧ xs.length + ys.length ≤ sizeLine ∧ ∀ r, h r = none → Q (.ref r) (updA h r (.lst (xs ++ ys))) from q)
      obtain ⟨vs, f1, r1⟩ := rh.lst e1
      obtain ⟨ws, f2, r2⟩ := rh.lst e2
      refine .inr (.inr (.inr ⟨p, p2, vs, ws, rfl, rfl, f1, f2, by rw [← r1.len, ← r2.len]; exact z, fun r hr => ?_⟩))
      exact k _ _ ⟨_, _, Mono.new hr, .ref r, rh.new hr (.lst (r1.app r2)), q r (rh.free hr)⟩
    | _ => exact (show False from q).elim
  | _ => cases rb <;> exact (show False from q).elim
def mulA : AR2 := fun x y h Q => match x, y with
  | .int i, .int j => IntMulOk i j ∧ Q (.int (i * j)) h
  | .ref p, .int k => ∃ xs, h p = some (.lst xs) ∧ (-(2 ^ 63) ≤ k ∧ k < 2 ^ 63 ∧ xs.length * k.toNat ≤ sizeLine) ∧ ∀ r, h r = none → Q (.ref r) (updA h r (.lst (List.replicate k.toNat xs).flatten))
  | _, _ => False
def rMulAll : R2 := fun x y H Q => rI IntMulOk (fun i j => .int (i * j)) x y H Q ∨ rRep x y H Q
theorem opr_mul {X : Cx} : OpR X (binaryOp .Mult) rMulAll := (opI fun _ _ _ _ _ _ _ hc q => PyProof.Rows.mul_int q hc).or op_rep
theorem RelAs.rep {K : Frg} {H : Hp} {xs : List A} {vs : List V} (r : RelAs K H xs vs) : ∀ n, RelAs K H (List.replicate n xs).flatten (List.replicate n vs).flatten
  | 0 => .nil
  | n + 1 => by rw [List.replicate_succ, List.replicate_succ, List.flatten_cons, List.flatten_cons]; exact r.app (r.rep n)
theorem o_mul {K : Frg} : Op2 K rMulAll mulA := fun H h x y a b Q Qv ra rb rh k q => by
  cases ra with
  | int i => cases rb with
    | int j =>
      obtain ⟨z, q⟩ := (show IntMulOk i j ∧ Q (.int (i * j)) h from q)
      exact .inl ⟨i, j, rfl, rfl, z, k _ _ ⟨_, h, Mono.refl H, .int _, rh, q⟩⟩
    | _ => exact (show False from q).elim
  | ref p => cases rb with
    | int n =>
      obtain ⟨xs, e1, ⟨z1, z2, z3⟩, q⟩ := (show ∃ xs, h p = some (.lst xs) ∧ (-(2 ^ 63) ≤ n ∧ n < 2 ^ 63 ∧ xs.length * n.toNat ≤ sizeLine) ∧ ∀ r, h r = none → Q (.ref r) (updA h r (.lst (List.replicate n.toNat xs).flatten)) from q)
      obtain ⟨vs, f1, r1⟩ := rh.lst e1
      exact .inr ⟨p, n, vs, rfl, rfl, f1, z1, z2, by rw [← r1.len]; exact z3, fun r hr => k _ _ ⟨_, _, Mono.new hr, .ref r, rh.new hr (.lst (r1.rep _)), q r (rh.free hr)⟩⟩
    | _ => exact (show False from q).elim
  | _ => cases rb <;> exact (show False from q).elim
def negA : AR1 := fun x h Q => match x with
  | .int i => Q (.int (-i)) h
  | _ => False
theorem o_neg {K : Frg} : Op1 K (rU fun i => .int (-i)) negA := fun H h x a Q Qv ra rh k q => by
  cases ra with
  | int i => exact ⟨i, rfl, k _ _ ⟨_, h, Mono.refl H, .int _, rh, q⟩⟩
  | _ => exact (show False from q).elim

/-! ### subscripts: lists, tuples, dicts -/
def ixA : AR2 := fun x y h Q => match x, y with
  | .tup xs, .int i => match atI xs i with
    | some v => Q v h
    | none => False
  | .kt ks, .int i => match atI (ks.map keyV) i with
    | some v => Q v h
    | none => False
  | .fls xs, .int i => match atI xs i with
    | some v => Q v h
    | none => False
  | .ref p, .int i => ∃ xs v, LstA h p xs ∧ atI xs i = some v ∧ Q v h
  | _, _ => False
theorem ixN_len {n m : Nat} (e : n = m) (i : Int) : ixN n i = ixN m i := by rw [e]
theorem atI_rel {K : Frg} {H : Hp} {xs : List A} {vs : List V} {i : Int} {a : A} (r : RelAs K H xs vs) (e : atI xs i = some a) : ∃ v, atI vs i = some v ∧ RelA K H a v := by
  unfold atI at e ⊢
  rw [← r.len]
  cases q : ixN xs.length i with
  | none => rw [q] at e; simp at e
  | some j =>
    rw [q] at e
    obtain ⟨v, e', r'⟩ := r.get (i := j) (a := a) (by simpa using e)
    exact ⟨v, by simpa using e', r'⟩
def rIxAll (K : Frg) : R2 := fun x y H Q => rIxL K x y H Q ∨ rIxT K x y H Q
theorem ixr_all {X : Cx} : IxR X (rIxAll X.K) := ix_list.or ix_tup
theorem o_ix {K : Frg} : Op2 K (rIxAll K) ixA := fun H h x y a b Q Qv ra rb rh k q => by
  cases ra with
  | @tup p xs vs e1 r1 => cases rb with
    | int i =>
      cases e : atI xs i with
      | none =>
        have q' : (match atI xs i with
          | some v => Q v h
          | none => False) := q
        rw [e] at q'
        exact q'.elim
      | some w =>
        have q' : (match atI xs i with
          | some v => Q v h
          | none => False) := q
        rw [e] at q'
        obtain ⟨v, e', r'⟩ := atI_rel r1 e
        exact .inr ⟨p, vs, i, v, rfl, rfl, e1.sq, e', k _ _ ⟨_, h, Mono.refl H, r', rh, q'⟩⟩
    | _ => exact (show False from q).elim
  | @fls p xs vs e1 r1 => cases rb with
    | int i =>
      have q' : (match atI xs i with
          | some v => Q v h
          | none => False) := q
      cases e : atI xs i with
      | none => rw [e] at q'; exact q'.elim
      | some w =>
        rw [e] at q'
        obtain ⟨v, e', r'⟩ := atI_rel r1 e
        exact .inl ⟨p, vs, i, v, rfl, rfl, e1.sq, e', k _ _ ⟨_, h, Mono.refl H, r', rh, q'⟩⟩
    | _ => exact (show False from q).elim
  | @kt p ks e1 => cases rb with
    | int i =>
      have q' : (match atI (ks.map keyV) i with
          | some v => Q v h
          | none => False) := q
      cases e : atI (ks.map keyV) i with
      | none => rw [e] at q'; exact q'.elim
      | some w =>
        rw [e] at q'
        obtain ⟨v, e', r'⟩ := atI_rel (rel_keysV (K := K) (H := H) ks) e
        exact .inr ⟨p, _, i, v, rfl, rfl, SqT.of e1, e', k _ _ ⟨_, h, Mono.refl H, r', rh, q'⟩⟩
    | _ => exact (show False from q).elim
  | ref p => cases rb with
    | int i =>
      obtain ⟨xs, v, e1, e, q⟩ := (show ∃ xs v, LstA h p xs ∧ atI xs i = some v ∧ Q v h from q)
      obtain ⟨vs, f1, r1⟩ := rh.rd e1
      obtain ⟨w, e', r'⟩ := atI_rel r1 e
      exact .inl ⟨p, vs, i, w, rfl, rfl, f1, e', k _ _ ⟨_, h, Mono.refl H, r', rh, q⟩⟩
    | _ => exact (show False from q).elim
  | _ => cases rb <;> exact (show False from q).elim

/-! ### == over data -/
mutual
inductive DatA (h : AH) : A → PyData → Prop
  | non : DatA h .non .none
  | bl (b : Bool) : DatA h (.bl b) (.bool b)
  | int (i : Int) : DatA h (.int i) (.int i)
  | str (x : Str) : DatA h (.str x) (.str x)
  | tup {xs : List A} {ds : List PyData} : DatAs h xs ds → DatA h (.tup xs) (.tuple ds)
  | kt {ks : List Key} {ds : List PyData} : DatAs h (ks.map keyV) ds → DatA h (.kt ks) (.tuple ds)
  | lst {p : Addr} {xs : List A} {ds : List PyData} : LstA h p xs → DatAs h xs ds → DatA h (.ref p) (.list ds)
inductive DatAs (h : AH) : List A → List PyData → Prop
  | nil : DatAs h [] []
  | cons {a : A} {as : List A} {d : PyData} {ds : List PyData} : DatA h a d → DatAs h as ds → DatAs h (a :: as) (d :: ds)
end
section
variable {K : Frg} {H : Hp} {h : AH}
mutual
theorem DatA.dp (rh : RelH K H h) : ∀ (d : PyData) (a : A) (v : V), DatA h a d → RelA K H a v → Dp K H v d
  | .none, _, _, q, r => by cases q; cases r; exact .non
  | .bool _, _, _, q, r => by cases q; cases r; exact .bl _
  | .int _, _, _, q, r => by cases q; cases r; exact .int _
  | .str _, _, _, q, r => by cases q; cases r; exact .str _
  | .tuple ds, _, _, q, r => by
    cases q with
    | tup q => cases r with
      | tup e r => exact .tup e.sq (DatAs.dp rh ds _ _ q r)
    | kt q => cases r with
      | kt e => exact .tup (SqT.of e) (DatAs.dp rh ds _ _ q (rel_keysV _))
  | .list ds, _, _, q, r => by
    cases q with
    | lst e q =>
      cases r with
      | ref =>
        obtain ⟨vs, f, r'⟩ := rh.rd e
        exact .lst f (DatAs.dp rh ds _ _ q r')
  | .dict _, _, _, q, _ => by cases q
theorem DatAs.dp (rh : RelH K H h) : ∀ (ds : List PyData) (as : List A) (vs : List V), DatAs h as ds → RelAs K H as vs → DpAll K H vs ds
  | [], _, _, q, r => by cases q; cases r; exact .nil
  | d :: ds, _, _, q, r => by
    cases q with
    | cons q1 q2 => cases r with
      | cons r1 r2 => exact .cons (DatA.dp rh d _ _ q1 r1) (DatAs.dp rh ds _ _ q2 r2)
end
end
def nb (neg b : Bool) : Bool := match neg with
  | true => !b
  | false => b
def flatA : A → Bool
  | .non => true
  | .bl _ => true
  | .int _ => true
  | .str _ => true
  | _ => false
theorem flatA_rel {K : Frg} {H : Hp} {a : A} {v : V} (r : RelA K H a v) (f : flatA a = true) : flatV v = true := by cases r <;> first | rfl | (simp [flatA] at f)
/-! the same: of the same shape, or the same object -/
def SeqR (K : Frg) (H : Hp) (F : V → V → Prop) (x y : V) : Prop :=
  (∃ a b xs ys, x = .ref a ∧ y = .ref b ∧ SqL K H a xs ∧ SqL K H b ys ∧ Paired F xs ys) ∨
    ∃ a b xs ys, x = .ref a ∧ y = .ref b ∧ SqT K H a xs ∧ SqT K H b ys ∧ Paired F xs ys
def EqS (K : Frg) (H : Hp) : Nat → V → V → Prop
  | 0 => fun _ _ => False
  | n + 1 => fun x y => (x = y ∧ flatB x = true) ∨ (∃ a, x = .ref a ∧ y = .ref a) ∨ SeqR K H (EqS K H n) x y
section
variable {X : Cx} {pins : List (Addr × Obj)} {σ : L2.St} {H : Hp} {s : Shared}
theorem items_at {A : Around} {F : V → V → Prop} (ih : ∀ x y v u, F x y → RelV x v → RelV y u → SeqAt.EqAt A s v u true) {xs ys : List V} (hp : Paired F xs ys) :
    ∀ {us ws : List Value}, Vals xs us → Vals ys ws → ∀ j (h1 : j < us.length) (h2 : j < ws.length), SeqAt.EqAt A s us[j] ws[j] true := by
  induction hp with
  | nil =>
    intro us ws r1 r2 j h1 h2
    cases r1
    exact absurd h1 (Nat.not_lt_zero j)
  | cons h _ k =>
    intro us ws r1 r2 j h1 h2
    cases r1 with
    | cons a1 b1 =>
      cases r2 with
      | cons a2 b2 =>
        cases j with
        | zero => exact ih _ _ _ _ h a1 a2
        | succ j => exact k b1 b2 j (Nat.lt_of_succ_lt_succ h1) (Nat.lt_of_succ_lt_succ h2)
theorem all_true (n : Nat) : ((List.range n).all fun _ => true) = true := List.all_eq_true.mpr fun _ _ => rfl
theorem eqS_run (I : Inv X pins σ H s) : ∀ (n : Nat) (A : Around), A.units + n < cLine → ∀ (x y : V) (v u : Value), EqS X.K H n x y → RelV x v → RelV y u → SeqAt.EqAt A s v u true
  | 0, _, _, _, _, _, _, h, _, _ => (show False from h).elim
  | n + 1, A, hu, x, y, v, u, h, rx, ry => by
    rcases h with ⟨rfl, f⟩ | ⟨a, rfl, rfl⟩ | h
    · exact eqAt_same rx ry f
    · cases (show v = Value.ref a from rx)
      cases (show u = Value.ref a from ry)
      exact SeqAt.EqAt.same _
    · have ih : ∀ x y v u, EqS X.K H n x y → RelV x v → RelV y u → SeqAt.EqAt A.in1 s v u true := eqS_run I n A.in1 (by show A.units + 1 + n < cLine; omega)
      rcases h with ⟨a, b, xs, ys, rfl, rfl, ha, hb, hp⟩ | ⟨a, b, xs, ys, rfl, rfl, ha, hb, hp⟩
      · cases (show v = Value.ref a from rx)
        cases (show u = Value.ref b from ry)
        by_cases e : a = b
        · subst e; exact SeqAt.EqAt.same _
        obtain ⟨us, r1, p1, _⟩ := I.list ha
        obtain ⟨ws, r2, p2, _⟩ := I.list hb
        have hsz : us.toArray.size = ws.toArray.size := by
          rw [List.size_toArray, List.size_toArray, ← r1.length, ← r2.length]
          exact Paired.length hp
        have z := SeqAt.RcAt.lists (e := fun _ => true) p1.isList p2.isList hsz (by omega : A.units < cLine) fun j h1 h2 => by
          have k := items_at ih hp r1 r2 j (by simpa using h1) (by simpa using h2)
          simpa using k
        rw [all_true] at z
        exact SeqAt.EqAt.of_refs e z
      · cases (show v = Value.ref a from rx)
        cases (show u = Value.ref b from ry)
        by_cases e : a = b
        · subst e; exact SeqAt.EqAt.same _
        obtain ⟨us, r1, p1, _⟩ := I.tuple ha
        obtain ⟨ws, r2, p2, _⟩ := I.tuple hb
        have hsz : us.toArray.size = ws.toArray.size := by
          rw [List.size_toArray, List.size_toArray, ← r1.length, ← r2.length]
          exact Paired.length hp
        have z := SeqAt.RcAt.tuples (e := fun _ => true) (show s.heap.IsTuple a us.toArray from p1) (show s.heap.IsTuple b ws.toArray from p2) (by omega : A.units < cLine) fun j h1 h2 => by
          have k := items_at ih hp r1 r2 j (by simpa using h1) (by simpa using h2)
          simpa using k
        rw [all_true, hsz, beq_self_eq_true, Bool.and_self] at z
        exact SeqAt.EqAt.of_refs e z
end
def rEqS (K : Frg) (neg : Bool) : R2 := fun x y H Q => ∃ n, n ≤ 60 ∧ SeqR K H (EqS K H n) x y ∧ Q (.bl (!neg)) H
theorem op_eqS {X : Cx} (hu : X.A.units + 64 < cLine) : OpR X (compareOp .Eq) (rEqS X.K false) := by
  intro pins s σ H x y v u Q I rx ry h
  obtain ⟨n, hn, h, q⟩ := h
  have ih : ∀ x y v u, EqS X.K H n x y → RelV x v → RelV y u → SeqAt.EqAt X.A.in1 s v u true := eqS_run I n X.A.in1 (by show X.A.units + 1 + n < cLine; omega)
  rcases h with ⟨a, b, xs, ys, rfl, rfl, ha, hb, hp⟩ | ⟨a, b, xs, ys, rfl, rfl, ha, hb, hp⟩
  · cases (show v = Value.ref a from rx)
    cases (show u = Value.ref b from ry)
    obtain ⟨us, r1, p1, _⟩ := I.list ha
    obtain ⟨ws, r2, p2, _⟩ := I.list hb
    have hsz : us.toArray.size = ws.toArray.size := by
      rw [List.size_toArray, List.size_toArray, ← r1.length, ← r2.length]
      exact Paired.length hp
    have z := SeqAt.RcAt.lists (e := fun _ => true) p1.isList p2.isList hsz (by omega : X.A.units < cLine) fun j h1 h2 => by
      have k := items_at ih hp r1 r2 j (by simpa using h1) (by simpa using h2)
      simpa using k
    rw [all_true] at z
    exact z _ _ _ _ ⟨.bl true, H, I, rfl, q⟩
  · cases (show v = Value.ref a from rx)
    cases (show u = Value.ref b from ry)
    obtain ⟨us, r1, p1, _⟩ := I.tuple ha
    obtain ⟨ws, r2, p2, _⟩ := I.tuple hb
    have hsz : us.toArray.size = ws.toArray.size := by
      rw [List.size_toArray, List.size_toArray, ← r1.length, ← r2.length]
      exact Paired.length hp
    have z := SeqAt.RcAt.tuples (e := fun _ => true) (show s.heap.IsTuple a us.toArray from p1) (show s.heap.IsTuple b ws.toArray from p2) (by omega : X.A.units < cLine) fun j h1 h2 => by
      have k := items_at ih hp r1 r2 j (by simpa using h1) (by simpa using h2)
      simpa using k
    rw [all_true, hsz, beq_self_eq_true, Bool.and_self] at z
    exact z _ _ _ _ ⟨.bl true, H, I, rfl, q⟩
theorem op_neS {X : Cx} (hu : X.A.units + 64 < cLine) : OpR X (compareOp .NotEq) (rEqS X.K true) := by
  intro pins s σ H x y v u Q I rx ry h
  obtain ⟨n, hn, h, q⟩ := h
  have ih : ∀ x y v u, EqS X.K H n x y → RelV x v → RelV y u → SeqAt.EqAt X.A.in1 s v u true := eqS_run I n X.A.in1 (by show X.A.units + 1 + n < cLine; omega)
  rcases h with ⟨a, b, xs, ys, rfl, rfl, ha, hb, hp⟩ | ⟨a, b, xs, ys, rfl, rfl, ha, hb, hp⟩
  · cases (show v = Value.ref a from rx)
    cases (show u = Value.ref b from ry)
    obtain ⟨us, r1, p1, _⟩ := I.list ha
    obtain ⟨ws, r2, p2, _⟩ := I.list hb
    have hsz : us.toArray.size = ws.toArray.size := by
      rw [List.size_toArray, List.size_toArray, ← r1.length, ← r2.length]
      exact Paired.length hp
    have z := SeqAt.RcNeAt.lists (e := fun _ => true) p1.isList p2.isList hsz (by omega : X.A.units < cLine) fun j h1 h2 => by
      have k := items_at ih hp r1 r2 j (by simpa using h1) (by simpa using h2)
      simpa using k
    rw [all_true] at z
    exact z _ _ _ _ ⟨.bl false, H, I, rfl, q⟩
  · cases (show v = Value.ref a from rx)
    cases (show u = Value.ref b from ry)
    obtain ⟨us, r1, p1, _⟩ := I.tuple ha
    obtain ⟨ws, r2, p2, _⟩ := I.tuple hb
    have hsz : us.toArray.size = ws.toArray.size := by
      rw [List.size_toArray, List.size_toArray, ← r1.length, ← r2.length]
      exact Paired.length hp
    have z := SeqAt.RcNeAt.tuples (e := fun _ => true) (show s.heap.IsTuple a us.toArray from p1) (show s.heap.IsTuple b ws.toArray from p2) (by omega : X.A.units < cLine) fun j h1 h2 => by
      have k := items_at ih hp r1 r2 j (by simpa using h1) (by simpa using h2)
      simpa using k
    rw [all_true, hsz, beq_self_eq_true, Bool.and_self] at z
    exact z _ _ _ _ ⟨.bl false, H, I, rfl, q⟩
def SamR (h : AH) (F : A → A → Prop) (x y : A) : Prop :=
  (∃ a b xs ys, x = .ref a ∧ y = .ref b ∧ LstA h a xs ∧ LstA h b ys ∧ Paired F xs ys) ∨ ∃ xs ys, x = .tup xs ∧ y = .tup ys ∧ Paired F xs ys
def SamA (h : AH) : Nat → A → A → Prop
  | 0 => fun _ _ => False
  | n + 1 => fun x y => (x = y ∧ flatA x = true) ∨ (∃ a, x = .ref a ∧ y = .ref a) ∨ SamR h (SamA h n) x y
section
variable {K : Frg} {H : Hp} {h : AH}
theorem sam_all {F : A → A → Prop} {G : V → V → Prop} (ih : ∀ x y v u, F x y → RelA K H x v → RelA K H y u → G v u) {xs ys : List A} (hp : Paired F xs ys) : ∀ {vs us : List V}, RelAs K H xs vs → RelAs K H ys us → Paired G vs us := by
  induction hp with
  | nil =>
    intro vs us r1 r2
    cases r1
    cases r2
    exact .nil
  | cons h _ k =>
    intro vs us r1 r2
    cases r1 with
    | cons a1 b1 => cases r2 with
      | cons a2 b2 => exact .cons (ih _ _ _ _ h a1 a2) (k b1 b2)
theorem samR_rel (rh : RelH K H h) {F : A → A → Prop} {G : V → V → Prop} (ih : ∀ x y v u, F x y → RelA K H x v → RelA K H y u → G v u) {x y : A} {v u : V} (s : SamR h F x y) (rx : RelA K H x v) (ry : RelA K H y u) : SeqR K H G v u := by
  rcases s with ⟨a, b, xs, ys, rfl, rfl, ha, hb, hp⟩ | ⟨xs, ys, rfl, rfl, hp⟩
  · cases rx
    cases ry
    obtain ⟨vs, e1, r1⟩ := rh.rd ha
    obtain ⟨us, e2, r2⟩ := rh.rd hb
    exact .inl ⟨a, b, vs, us, rfl, rfl, e1, e2, sam_all ih hp r1 r2⟩
  · cases rx with
    | tup e1 r1 => cases ry with
      | tup e2 r2 => exact .inr ⟨_, _, _, _, rfl, rfl, e1.sq, e2.sq, sam_all ih hp r1 r2⟩
theorem samA_rel (rh : RelH K H h) : ∀ (n : Nat) (x y : A) (v u : V), SamA h n x y → RelA K H x v → RelA K H y u → EqS K H n v u
  | 0, _, _, _, _, s, _, _ => (show False from s).elim
  | n + 1, x, y, v, u, s, rx, ry => by
    rcases s with ⟨rfl, f⟩ | ⟨a, rfl, rfl⟩ | s
    · refine .inl ?_
      cases rx <;> cases ry <;> first | exact ⟨rfl, rfl⟩ | (simp [flatA] at f; done)
    · cases rx
      cases ry
      exact .inr (.inl ⟨a, rfl, rfl⟩)
    · exact .inr (.inr (samR_rel rh (samA_rel rh n) s rx ry))
end
def eqA (neg : Bool) : AR2 := fun x y h Q => match x, y with
  | .int i, .int j => Q (.bl (nb neg (decide (i = j)))) h
  | .str a, .str b => Q (.bl (nb neg (decide (a = b)))) h
  | x, y => ((∃ d e, DatA h x d ∧ DatA h y e ∧ SeqAt.shaped d = true ∧ SeqAt.shaped e = true ∧ Q (.bl (nb neg (PyData.eqv d e))) h) ∨
      ∃ p q xs ys, x = .ref p ∧ y = .ref q ∧ LstA h p xs ∧ LstA h q ys ∧ xs.length ≠ ys.length ∧ Q (.bl neg) h) ∨ ∃ n, n ≤ 60 ∧ SamR h (SamA h n) x y ∧ Q (.bl (!neg)) h
/-- lists of unlike lengths -/
def rEqL (K : Frg) (neg : Bool) : R2 := fun x y H Q => ∃ a b xs ys, x = .ref a ∧ y = .ref b ∧ SqL K H a xs ∧ SqL K H b ys ∧ xs.length ≠ ys.length ∧ Q (.bl neg) H
theorem op_eqL {X : Cx} (hu : X.A.units + 64 < cLine) : OpR X (compareOp .Eq) (rEqL X.K false) := by
  intro pins s σ H x y v u Q I rx ry ⟨a, b, xs, ys, ex, ey, ha, hb, hn, q⟩
  subst ex ey
  cases (show v = Value.ref a from rx)
  cases (show u = Value.ref b from ry)
  obtain ⟨us, r1, p1, _⟩ := I.list ha
  obtain ⟨ws, r2, p2, _⟩ := I.list hb
  have hsz : (us.toArray.size != ws.toArray.size) = true := by
    rw [List.size_toArray, List.size_toArray, ← r1.length, ← r2.length]
    exact bne_iff_ne.mpr hn
  exact SeqAt.RcAt.lists_lengths p1.isList p2.isList hsz (by omega : X.A.units < cLine) _ _ _ _ ⟨.bl false, H, I, rfl, q⟩
theorem op_neL {X : Cx} (hu : X.A.units + 64 < cLine) : OpR X (compareOp .NotEq) (rEqL X.K true) := by
  intro pins s σ H x y v u Q I rx ry ⟨a, b, xs, ys, ex, ey, ha, hb, hn, q⟩
  subst ex ey
  cases (show v = Value.ref a from rx)
  cases (show u = Value.ref b from ry)
  obtain ⟨us, r1, p1, _⟩ := I.list ha
  obtain ⟨ws, r2, p2, _⟩ := I.list hb
  have hsz : (us.toArray.size != ws.toArray.size) = true := by
    rw [List.size_toArray, List.size_toArray, ← r1.length, ← r2.length]
    exact bne_iff_ne.mpr hn
  exact SeqAt.RcNeAt.lists_lengths p1.isList p2.isList hsz (by omega : X.A.units < cLine) _ _ _ _ ⟨.bl true, H, I, rfl, q⟩
def rEqAll (K : Frg) : R2 := fun x y H Q => rEq x y H Q ∨ rEqD K x y H Q ∨ rEqS K false x y H Q ∨ rEqL K false x y H Q
def rNeAll (K : Frg) : R2 := fun x y H Q => rNe x y H Q ∨ rNeD K x y H Q ∨ rEqS K true x y H Q ∨ rEqL K true x y H Q
theorem opr_eq {X : Cx} (hu : X.A.units + 64 < cLine) : OpR X (compareOp .Eq) (rEqAll X.K) := op_eq.or ((op_eqD hu).or ((op_eqS hu).or (op_eqL hu)))
theorem opr_ne {X : Cx} (hu : X.A.units + 64 < cLine) : OpR X (compareOp .NotEq) (rNeAll X.K) := op_ne.or ((op_neD hu).or ((op_neS hu).or (op_neL hu)))
theorem eqA_inv {K : Frg} {H : Hp} {h : AH} {a b : A} {x y : V} {Q : AVK} {neg : Bool} (rh : RelH K H h) (ra : RelA K H a x) (rb : RelA K H b y) (q : eqA neg a b h Q) :
    (scal x y = true ∧ Q (.bl (nb neg (decide (x = y)))) h) ∨ (∃ d e, Dp K H x d ∧ Dp K H y e ∧ SeqAt.shaped d = true ∧ SeqAt.shaped e = true ∧ Q (.bl (nb neg (PyData.eqv d e))) h) ∨
      (∃ n, n ≤ 60 ∧ SeqR K H (EqS K H n) x y ∧ Q (.bl (!neg)) h) ∨ ∃ p q xs ys, x = .ref p ∧ y = .ref q ∧ SqL K H p xs ∧ SqL K H q ys ∧ xs.length ≠ ys.length ∧ Q (.bl neg) h := by
  have gen : (((∃ d e, DatA h a d ∧ DatA h b e ∧ SeqAt.shaped d = true ∧ SeqAt.shaped e = true ∧ Q (.bl (nb neg (PyData.eqv d e))) h) ∨
      ∃ p q xs ys, a = .ref p ∧ b = .ref q ∧ LstA h p xs ∧ LstA h q ys ∧ xs.length ≠ ys.length ∧ Q (.bl neg) h) ∨ ∃ n, n ≤ 60 ∧ SamR h (SamA h n) a b ∧ Q (.bl (!neg)) h) →
      (∃ d e, Dp K H x d ∧ Dp K H y e ∧ SeqAt.shaped d = true ∧ SeqAt.shaped e = true ∧ Q (.bl (nb neg (PyData.eqv d e))) h) ∨ (∃ n, n ≤ 60 ∧ SeqR K H (EqS K H n) x y ∧ Q (.bl (!neg)) h) ∨
        ∃ p q xs ys, x = .ref p ∧ y = .ref q ∧ SqL K H p xs ∧ SqL K H q ys ∧ xs.length ≠ ys.length ∧ Q (.bl neg) h := fun z => by
    rcases z with (⟨d, e, hd, he, sd, se, q⟩ | ⟨p, p2, xs, ys, rfl, rfl, e1, e2, hn, q⟩) | ⟨n, hn, s, q⟩
    · exact .inl ⟨d, e, DatA.dp rh d a x hd ra, DatA.dp rh e b y he rb, sd, se, q⟩
    · cases ra
      cases rb
      obtain ⟨vs, f1, r1⟩ := rh.rd e1
      obtain ⟨us, f2, r2⟩ := rh.rd e2
      exact .inr (.inr ⟨p, p2, vs, us, rfl, rfl, f1, f2, by rw [← r1.len, ← r2.len]; exact hn, q⟩)
    · exact .inr (.inl ⟨n, hn, samR_rel rh (samA_rel rh n) s ra rb, q⟩)
  cases ra with
  | int i => cases rb with
    | int j =>
      refine .inl ⟨rfl, ?_⟩
      have e : decide (V.int i = V.int j) = decide (i = j) := by by_cases z : i = j <;> simp [z]
      rw [e]
      exact q
    | _ => exact .inr (gen q)
  | str i => cases rb with
    | str j =>
      refine .inl ⟨rfl, ?_⟩
      have e : decide (V.str i = V.str j) = decide (i = j) := by by_cases z : i = j <;> simp [z]
      rw [e]
      exact q
    | _ => exact .inr (gen q)
  | _ => exact .inr (gen q)
theorem o_eq {K : Frg} : Op2 K (rEqAll K) (eqA false) := fun H h x y a b Q Qv ra rb rh k q => by
  rcases eqA_inv rh ra rb q with ⟨s, q⟩ | ⟨d, e, hd, he, sd, se, q⟩ | ⟨n, hn, s, q⟩ | ⟨p, p2, xs, ys, e1, e2, f1, f2, hn, q⟩
  · exact .inl ⟨s, k _ _ ⟨_, h, Mono.refl H, .bl _, rh, q⟩⟩
  · exact .inr (.inl ⟨d, e, hd, he, sd, se, k _ _ ⟨_, h, Mono.refl H, .bl _, rh, q⟩⟩)
  · exact .inr (.inr (.inl ⟨n, hn, s, k _ _ ⟨_, h, Mono.refl H, .bl _, rh, q⟩⟩))
  · exact .inr (.inr (.inr ⟨p, p2, xs, ys, e1, e2, f1, f2, hn, k _ _ ⟨_, h, Mono.refl H, .bl _, rh, q⟩⟩))
theorem o_ne {K : Frg} : Op2 K (rNeAll K) (eqA true) := fun H h x y a b Q Qv ra rb rh k q => by
  rcases eqA_inv rh ra rb q with ⟨s, q⟩ | ⟨d, e, hd, he, sd, se, q⟩ | ⟨n, hn, s, q⟩ | ⟨p, p2, xs, ys, e1, e2, f1, f2, hn, q⟩
  · exact .inl ⟨s, k _ _ ⟨_, h, Mono.refl H, .bl _, rh, q⟩⟩
  · exact .inr (.inl ⟨d, e, hd, he, sd, se, k _ _ ⟨_, h, Mono.refl H, .bl _, rh, q⟩⟩)
  · exact .inr (.inr (.inl ⟨n, hn, s, k _ _ ⟨_, h, Mono.refl H, .bl _, rh, q⟩⟩))
  · exact .inr (.inr (.inr ⟨p, p2, xs, ys, e1, e2, f1, f2, hn, k _ _ ⟨_, h, Mono.refl H, .bl _, rh, q⟩⟩))
/-- x is None -/
def isNonA (neg : Bool) : AR2 := fun x y h Q => match y with
  | .non => Q (.bl (match x with
    | .non => !neg
    | _ => neg)) h
  | _ => False
theorem o_isN {K : Frg} : Op2 K (fun x y H Q => y = .non ∧ Q (.bl (decide (x = .non))) H) (isNonA false) := fun H h x y a b Q Qv ra rb rh k q => by
  cases rb with
  | non =>
    refine ⟨rfl, k _ _ ⟨_, h, Mono.refl H, .bl _, rh, ?_⟩⟩
    cases ra <;> exact q
  | _ => exact (show False from q).elim
theorem o_notN {K : Frg} : Op2 K (fun x y H Q => y = .non ∧ Q (.bl (!decide (x = .non))) H) (isNonA true) := fun H h x y a b Q Qv ra rb rh k q => by
  cases rb with
  | non =>
    refine ⟨rfl, k _ _ ⟨_, h, Mono.refl H, .bl _, rh, ?_⟩⟩
    cases ra <;> exact q
  | _ => exact (show False from q).elim
/-! ### in: lists and tuples of flat things -/
def eqFA : A → A → Bool
  | .non, .non => true
  | .bl a, .bl b => a == b
  | .bl a, .int b => (if a then 1 else 0) == b
  | .int a, .bl b => a == (if b then 1 else 0)
  | .int a, .int b => a == b
  | .str a, .str b => a == b
  | _, _ => false
def inA (x : A) (xs : List A) : Bool := xs.any fun y => eqFA y x
theorem eqFA_rel {K : Frg} {H : Hp} {a b : A} {v w : V} (r : RelA K H a v) (r' : RelA K H b w) (f : flatA a = true) (f' : flatA b = true) : eqV v w = eqFA a b := by
  cases r <;> cases r' <;> first | rfl | (simp [flatA] at f; done) | (simp [flatA] at f'; done)
theorem flatAs_rel {K : Frg} {H : Hp} : ∀ {as : List A} {vs : List V}, RelAs K H as vs → as.all flatA = true → vs.all flatV = true
  | _, _, .nil, _ => rfl
  | _, _, .cons r t, f => by
    rw [List.all_cons, Bool.and_eq_true] at f ⊢
    exact ⟨flatA_rel r f.1, flatAs_rel t f.2⟩
theorem inA_rel {K : Frg} {H : Hp} {b : A} {w : V} (r' : RelA K H b w) (f' : flatA b = true) : ∀ {as : List A} {vs : List V}, RelAs K H as vs → as.all flatA = true → inV w vs = inA b as
  | _, _, .nil, _ => rfl
  | _, _, .cons r t, f => by
    rw [List.all_cons, Bool.and_eq_true] at f
    unfold inV inA
    rw [List.any_cons, List.any_cons, eqFA_rel r r' f.1 f']
    have := inA_rel r' f' t f.2
    unfold inV inA at this
    rw [this]
def inSA (neg : Bool) : AR2 := fun x y h Q => match y with
  | .ref p => ∃ xs, LstA h p xs ∧ (flatA x = true ∧ xs.all flatA = true) ∧ Q (.bl (nb neg (inA x xs))) h
  | y => asT y fun xs => (flatA x = true ∧ xs.all flatA = true) ∧ Q (.bl (nb neg (inA x xs))) h
theorem o_in {K : Frg} (neg : Bool) : Op2 K (rIn K neg) (inSA neg) := fun H h x y a b Q Qv ra rb rh k q => by
  have fin : ∀ {p : Addr} {xs : List A} {vs : List V}, y = .ref p → (SqL K H p vs ∨ SqT K H p vs) → RelAs K H xs vs → (flatA a = true ∧ xs.all flatA = true) → Q (.bl (nb neg (inA a xs))) h → rIn K neg x y H Qv :=
    fun {p xs vs} ey e r f q => ⟨p, vs, ey, e, flatA_rel ra f.1, flatAs_rel r f.2, k _ _ ⟨_, h, Mono.refl H, .bl _, rh, by rw [inA_rel ra f.1 r f.2]; cases neg <;> exact q⟩⟩
  cases rb with
  | ref p =>
    obtain ⟨xs, e, f, q⟩ := (show ∃ xs, LstA h p xs ∧ (flatA a = true ∧ xs.all flatA = true) ∧ Q (.bl (nb neg (inA a xs))) h from q)
    obtain ⟨vs, e', r⟩ := rh.rd e
    exact fin rfl (.inl e') r f q
  | @tup p xs vs e r => exact fin rfl (.inr e.sq) r q.1 q.2
  | @kt p ks e => exact fin rfl (.inr (SqT.of e)) (rel_keysV ks) q.1 q.2
  | _ => exact (show False from q).elim
end G
namespace G
open PySem PySem.Spec L2

/-! ### statements -/
structure AEnds where
  nx : ASt → AH → Prop
  rt : AVK
  bk : ASt → AH → Prop := fun _ _ => False
  ct : ASt → AH → Prop := fun _ _ => False
  ex : AX := fun _ _ _ => False
abbrev ATS := AEnds → ASt → AH → Prop
def lowD (K : Frg) (H : Hp) (D : AEnds) : Ends := { nx := LN K H D.nx, rt := LQ K H D.rt, bk := LN K H D.bk, ct := LN K H D.ct }
structure AS (X : Cx) (st : Stmt) (t : ATS) : Prop where
  run : ∀ (pins : List (Addr × Obj)) (s : Shared) (σ : L2.St) (H : Hp) (α : ASt) (h : AH) (D : AEnds), Inv X pins σ H s → RelS X.K H α σ → RelH X.K H h → TakesS X H D.ex → t D α h →
    wpAny (model X.prog X.w) X.A (exec st X.env) (SP X pins (lowD X.K H D)) X.xe s
structure ASs (X : Cx) (st : List Stmt) (t : ATS) : Prop where
  run : ∀ (pins : List (Addr × Obj)) (s : Shared) (σ : L2.St) (H : Hp) (α : ASt) (h : AH) (D : AEnds), Inv X pins σ H s → RelS X.K H α σ → RelH X.K H h → TakesS X H D.ex → t D α h →
    wpAny (model X.prog X.w) X.A (execs st X.env) (SP X pins (lowD X.K H D)) X.xe s
/-- ends that are reached from H by the abstract ends -/
structure Reach (K : Frg) (H : Hp) (DA : AEnds) (D : Ends) : Prop where
  nx : ∀ σ' H', LN K H DA.nx σ' H' → D.nx σ' H'
  rt : ∀ v H', LQ K H DA.rt v H' → D.rt v H'
  bk : ∀ σ' H', LN K H DA.bk σ' H' → D.bk σ' H'
  ct : ∀ σ' H', LN K H DA.ct σ' H' → D.ct σ' H'
theorem Reach.self {K : Frg} {H : Hp} {DA : AEnds} : Reach K H DA (lowD K H DA) := ⟨fun _ _ z => z, fun _ _ z => z, fun _ _ z => z, fun _ _ z => z⟩
theorem Reach.up {K : Frg} {H H' : Hp} {DA : AEnds} {D : Ends} (r : Reach K H DA D) (m : Mono H H') : Reach K H' DA D := ⟨fun _ _ z => r.nx _ _ (z.up m), fun _ _ z => r.rt _ _ (z.up m), fun _ _ z => r.bk _ _ (z.up m), fun _ _ z => r.ct _ _ (z.up m)⟩
theorem SP.imp {X : Cx} {pins : List (Addr × Obj)} {D D' : Ends} {f : Flow} {s : Shared} (h : SP X pins D f s) (n : ∀ σ H, D.nx σ H → D'.nx σ H) (r : ∀ v H, D.rt v H → D'.rt v H) (b : ∀ σ H, D.bk σ H → D'.bk σ H) (c : ∀ σ H, D.ct σ H → D'.ct σ H) : SP X pins D' f s := by
  cases f with
  | next => obtain ⟨σ', H', I', q⟩ := h; exact ⟨σ', H', I', n _ _ q⟩
  | brk => obtain ⟨σ', H', I', q⟩ := h; exact ⟨σ', H', I', b _ _ q⟩
  | cont => obtain ⟨σ', H', I', q⟩ := h; exact ⟨σ', H', I', c _ _ q⟩
  | ret u => obtain ⟨v, σ', H', I', rv, q⟩ := h; exact ⟨v, σ', H', I', rv, r _ _ q⟩
def lowS (X : Cx) (t : ATS) : TS := fun D σ H => ∃ α h DA, RelS X.K H α σ ∧ RelH X.K H h ∧ TakesS X H DA.ex ∧ t DA α h ∧ Reach X.K H DA D
section
variable {X : Cx} {st : Stmt} {rest sts : List Stmt} {t u : ATS} {e a b : Expr} {pos : Pos} {te ta tb : ATE}
theorem AS.ps (a : AS X st t) : PS X st (lowS X t) := ⟨fun pins s σ H D I ⟨α, h, DA, rs, rh, tk, ht, k⟩ => thn (a.run pins s σ H α h DA I rs rh tk ht) fun f s' q => SP.imp q k.nx k.rt k.bk k.ct⟩
theorem ASs.pss (a : ASs X sts t) : PSs X sts (lowS X t) := ⟨fun pins s σ H D I ⟨α, h, DA, rs, rh, tk, ht, k⟩ => thn (a.run pins s σ H α h DA I rs rh tk ht) fun f s' q => SP.imp q k.nx k.rt k.bk k.ct⟩
theorem AS.of {t' : TS} (p : PS X st t') (k : ∀ D σ H, lowS X t D σ H → t' D σ H) : AS X st t := ⟨fun pins s σ H α h D I rs rh tk ht => p.run pins s σ H _ I (k _ _ _ ⟨α, h, D, rs, rh, tk, ht, .self⟩)⟩
theorem ASs.of {t' : TS} (p : PSs X sts t') (k : ∀ D σ H, lowS X t D σ H → t' D σ H) : ASs X sts t := ⟨fun pins s σ H α h D I rs rh tk ht => p.run pins s σ H _ I (k _ _ _ ⟨α, h, D, rs, rh, tk, ht, .self⟩)⟩
def aNext : ATS := fun D α h => D.nx α h
def aSeq (t u : ATS) : ATS := fun D α h => t { D with nx := u D } α h
theorem ass_nil : ASs X [] aNext := .of pss_nil fun D σ H ⟨α, h, DA, rs, rh, tk, ht, k⟩ => k.nx _ _ ⟨α, h, Mono.refl H, rs, rh, ht⟩
theorem ass_cons (h1 : AS X st t) (h2 : ASs X rest u) : ASs X (st :: rest) (aSeq t u) := .of (pss_cons h1.ps h2.pss) fun D σ H ⟨α, h, DA, rs, rh, tk, ht, k⟩ =>
  ⟨α, h, { DA with nx := u DA }, rs, rh, tk, ht, ⟨fun σ' H' ⟨α', h', m, rs', rh', q⟩ => ⟨α', h', DA, rs', rh', tk.up m, q, k.up m⟩, k.rt, k.bk, k.ct⟩⟩
theorem ass_one (h1 : AS X st t) : ASs X [st] t := .of (pss_one h1.ps) fun _ _ _ x => x
def aBreak : ATS := fun D α h => D.bk α h
def aCont : ATS := fun D α h => D.ct α h
theorem as_pass : AS X (.Pass pos) aNext := .of ps_pass fun D σ H ⟨α, h, DA, rs, rh, tk, ht, k⟩ => k.nx _ _ ⟨α, h, Mono.refl H, rs, rh, ht⟩
theorem as_break : AS X (.Break pos) aBreak := .of ps_break fun D σ H ⟨α, h, DA, rs, rh, tk, ht, k⟩ => k.bk _ _ ⟨α, h, Mono.refl H, rs, rh, ht⟩
theorem as_continue : AS X (.Continue pos) aCont := .of ps_continue fun D σ H ⟨α, h, DA, rs, rh, tk, ht, k⟩ => k.ct _ _ ⟨α, h, Mono.refl H, rs, rh, ht⟩
def aDrop (te : ATE) : ATS := fun D α h => te α h (fun _ h1 => D.nx α h1) fun c h1 => D.ex c α h1
theorem as_expr (he : AE X e te) (hs : swapsWith e none pos.line X.env = pure false := by rfl) : AS X (.Expr e pos) (aDrop te) := .of (ps_expr he.pe hs) fun D σ H ⟨α, h, DA, rs, rh, tk, ht, k⟩ =>
  low.then (H0 := H) rs rh (tk.e α) ht fun v H1 x h1 m1 r1 rh1 rs1 q1 => k.nx _ _ ⟨α, h1, m1, rs1, rh1, q1⟩
def aRet (te : ATE) : ATS := fun D α h => te α h D.rt fun c h1 => D.ex c α h1
theorem as_ret (he : AE X e te) : AS X (.Return (some e) pos) (aRet te) := .of (ps_ret he.pe) fun D σ H ⟨α, h, DA, rs, rh, tk, ht, k⟩ => ⟨α, h, _, _, rs, rh, tk.e α, ht, k.rt⟩
def aRetN : ATS := fun D _ h => D.rt .non h
theorem as_retN : AS X (.Return none pos) aRetN := .of ps_retN fun D σ H ⟨α, h, DA, rs, rh, tk, ht, k⟩ => k.rt _ _ ⟨.non, h, Mono.refl H, .non, rh, ht⟩
def aIfS (c : ATT) (t u : ATS) : ATS := fun D α h => c α h (fun b h1 => if b = true then t D α h1 else u D α h1) fun c h1 => D.ex c α h1
theorem as_if {c : Expr} {x y : List Stmt} {tc : ATT} (hc : AT X c tc) (ha : ASs X x t) (hb : ASs X y u) : AS X (.If c x y pos) (aIfS tc t u) := .of (ps_if hc.pt ha.pss hb.pss) fun D σ H ⟨α, h, DA, rs, rh, tk, ht, k⟩ =>
  lowT.then rs rh (tk.e α) ht fun b H1 h1 m1 rh1 rs1 q1 => by
    cases b with
    | true => exact ⟨α, h1, DA, rs1, rh1, tk.up m1, by rw [if_pos rfl] at q1; exact q1, k.up m1⟩
    | false => exact ⟨α, h1, DA, rs1, rh1, tk.up m1, by rw [if_neg Bool.false_ne_true] at q1; exact q1, k.up m1⟩
end

/-! ### targets -/
abbrev ATG := A → ASt → AH → (ASt → AH → Prop) → Prop
abbrev ATGs := List A → ASt → AH → (ASt → AH → Prop) → Prop
/-- the slots but those at is are kept -/
def Kept (is : List Nat) (σ σ' : L2.St) : Prop := σ'.length = σ.length ∧ ∀ j, j ∉ is → σ'[j]? = σ[j]?
def lowG (X : Cx) (is : List Nat) (t : ATG) : TG := fun v σ H Qv => ∃ a α h Q, RelA X.K H a v ∧ RelS X.K H α σ ∧ RelH X.K H h ∧ t a α h Q ∧ ∀ σ' H', LN X.K H Q σ' H' → Kept is σ σ' → Qv σ' H'
def lowGs (X : Cx) (is : List Nat) (t : ATGs) : TGs := fun vs σ H Qv => ∃ as α h Q, RelAs X.K H as vs ∧ RelS X.K H α σ ∧ RelH X.K H h ∧ t as α h Q ∧ ∀ σ' H', LN X.K H Q σ' H' → Kept is σ σ' → Qv σ' H'
structure AG (X : Cx) (target : Expr) (is : List Nat) (t : ATG) : Prop where
  pg : PG X target (lowG X is t)
structure AGs (X : Cx) (ts : List Expr) (is : List Nat) (t : ATGs) : Prop where
  pgs : PGs X ts (lowGs X is t)
theorem pgImp {X : Cx} {e : Expr} {t t' : TG} (h : PG X e t) (k : ∀ v σ H Q, t' v σ H Q → t v σ H Q) : PG X e t' := ⟨fun pins s σ H v u Q I r q => h.run pins s σ H v u Q I r (k _ _ _ _ q)⟩
theorem pgsImp {X : Cx} {e : List Expr} {t t' : TGs} (h : PGs X e t) (k : ∀ v σ H Q, t' v σ H Q → t v σ H Q) : PGs X e t' := ⟨fun pins s σ H v u Q I r q => h.run pins s σ H v u Q I r (k _ _ _ _ q)⟩
section
variable {X : Cx} {pos : Pos}
def agN (i : Nat) : ATG := fun a α h Q => Q (α.set i (some a)) h
theorem kept_set {i : Nat} {σ : L2.St} {v : V} : Kept [i] σ (σ.set i (some v)) := ⟨List.length_set, fun j hj => List.getElem?_set_ne (fun e => hj (by simp [e]))⟩
theorem ag_name (i : Nat) {x : Str} (hN : X.N.Nodup) (hi : X.N[i]? = some x) (hx : Loc X.env.scope x) (hf : X.fn x = true ∨ X.env.scope.names.lookup x = some .local := by first | exact .inl rfl | exact .inr rfl | assumption) : AG X (.Name x pos) [i] (agN i) :=
  ⟨pgImp (pg_name hN hi hx hf) fun v σ H Q ⟨a, α, h, q, r, rs, rh, ht, k⟩ => k _ _ ⟨_, h, Mono.refl H, rs.set i r, rh, ht⟩ kept_set⟩
def agNil : ATGs := fun vs α h Q => vs = [] ∧ Q α h
def agCons (t : ATG) (u : ATGs) : ATGs := fun vs α h Q => match vs with
  | v :: r => t v α h fun α' h' => u r α' h' Q
  | [] => False
theorem ags_nil : AGs X [] [] agNil := ⟨pgsImp pgs_nil fun v σ H Q ⟨as, α, h, q, r, rs, rh, ⟨e, ht⟩, k⟩ => by
  subst e
  cases r
  exact ⟨rfl, k _ _ ⟨α, h, Mono.refl H, rs, rh, ht⟩ ⟨rfl, fun _ _ => rfl⟩⟩⟩
theorem ags_cons {e : Expr} {es : List Expr} {is js : List Nat} {t : ATG} {u : ATGs} (h1 : AG X e is t) (h2 : AGs X es js u)
    (hs : (assignEach (e :: es) X.env).map (·.2) = assign e X.env :: (assignEach es X.env).map (·.2) := by rfl) : AGs X (e :: es) (is ++ js) (agCons t u) := ⟨pgsImp (pgs_cons h1.pg h2.pgs hs) fun v σ H Q ⟨as, α, h, q, r, rs, rh, ht, k⟩ => by
  cases r with
  | nil => exact ht.elim
  | @cons a as v vs r1 r2 =>
    refine ⟨v, vs, rfl, a, α, h, _, r1, rs, rh, ht, fun σ1 H1 ⟨α1, g1, m1, rs1, rh1, q1⟩ k1 => ?_⟩
    refine ⟨as, α1, g1, q, r2.up m1, rs1, rh1, q1, fun σ2 H2 z k2 => k _ _ (z.up m1) ⟨k2.1.trans k1.1, fun j hj => ?_⟩⟩
    rw [k2.2 j (fun z => hj (List.mem_append_right _ z)), k1.2 j (fun z => hj (List.mem_append_left _ z))]⟩
def agTup (n : Nat) (t : ATGs) : ATG := fun v α h Q => asT v fun xs => xs.length = n ∧ t xs α h Q
theorem ag_tup {es : List Expr} {k : Nat} {is : List Nat} {t : ATGs} {n : Nat} (hc : X.calm = true) (h : AGs X es is t)
    (hn : (assignEach es X.env).length = n := by rfl) (hst : (assignEach es X.env).findIdx? (·.1) = none := by rfl) : AG X (.Tuple es k pos) is (agTup n t) := ⟨pgImp (pg_tup hc h.pgs hn hst) fun v σ H Q ⟨a, α, h, q, r, rs, rh, ht, k⟩ => by
  obtain ⟨p, xs, vs, rfl, hq, rv, l, q1⟩ := tup_of r ht
  exact ⟨p, vs, rfl, hq, by rw [← rv.len]; exact l, xs, α, h, q, rv, rs, rh, q1, k⟩⟩
/-- target = value -/
def aAsg (te : ATE) (g : ATG) : ATS := fun D α h => te α h (fun x h1 => g x α h1 D.nx) fun c h1 => D.ex c α h1
theorem as_asg {tg e : Expr} {te : ATE} {is : List Nat} {g : ATG} (he : AE X e te) (hg : AG X tg is g) (hs : swapsWithSole [tg] e pos.line X.env = pure false := by rfl) (hw : swappedStores [tg] e X.env = pure none := by rfl)
    (h1 : (assignEach [tg] X.env).map (·.2) = [assign tg X.env] := by rfl) : AS X (.Assign [tg] e pos) (aAsg te g) := .of (ps_asg he.pe hg.pg hs hw h1) fun D σ H ⟨α, h, DA, rs, rh, tk, ht, k⟩ =>
  low.then (H0 := H) rs rh (tk.e α) ht fun v H1 x h1 m1 r1 rh1 rs1 q1 => ⟨x, α, h1, _, r1, rs1, rh1, q1, fun σ' H' z _ => k.nx _ _ (z.up m1)⟩
theorem as_set (i : Nat) {x : Str} {e : Expr} {te : ATE} {pos' : Pos} (hN : X.N.Nodup) (hi : X.N[i]? = some x) (hx : Loc X.env.scope x) (he : AE X e te) (hs : swapsWith e (some (.Name x pos')) pos.line X.env = pure false := by rfl) (hf : X.fn x = true ∨ X.env.scope.names.lookup x = some .local := by first | exact .inl rfl | exact .inr rfl | assumption) :
    AS X (.Assign [.Name x pos'] e pos) (aAsg te (agN i)) := .of (ps_set (i := i) hN hi hx he.pe hs hf) fun D σ H ⟨α, h, DA, rs, rh, tk, ht, k⟩ =>
  low.then (H0 := H) rs rh (tk.e α) ht fun v H1 x h1 m1 r1 rh1 rs1 q1 => k.nx _ _ ⟨_, h1, m1, rs1.set i r1, rh1, q1⟩
/-- a, b = x, y: two local names -/
def aPar (i j : Nat) (ta : ATA) : ATS := fun D α h => ta α h (fun vs h1 => match vs with
  | [v, w] => D.nx ((α.set i (some v)).set j (some w)) h1
  | _ => False) fun c h1 => D.ex c α h1
theorem as_par (i j : Nat) {x y : Str} {a b : Expr} {ta : ATA} {px py pt : Pos} {kt k2 pt2} (hc : X.calm = true) (hN : X.N.Nodup) (hi : X.N[i]? = some x) (hj : X.N[j]? = some y) (hij : i ≠ j)
    (hx : X.env.scope.names.lookup x = some .local) (hy : X.env.scope.names.lookup y = some .local) (ha : AAs X [a, b] ta)
    (hw : swappedStores [.Tuple [.Name x px, .Name y py] kt pt] (.Tuple [a, b] k2 pt2) X.env = pure (some [x, y]))
    (hs : swapsWithSole [.Tuple [.Name x px, .Name y py] kt pt] (.Tuple [a, b] k2 pt2) pos.line X.env = pure false := by rfl) :
    AS X (.Assign [.Tuple [.Name x px, .Name y py] kt pt] (.Tuple [a, b] k2 pt2) pos) (aPar i j ta) := .of (ps_par hc hN hi hj hij hx hy ha.pa hw hs) fun D σ H ⟨α, h, DA, rs, rh, tk, ht, k⟩ =>
  lowA.then rs rh (tk.e α) ht fun vs H1 xs h1 m1 r1 rh1 rs1 q1 => by
    cases r1 with
    | nil => exact q1.elim
    | cons r1 t1 => cases t1 with
      | nil => exact q1.elim
      | cons r2 t2 => cases t2 with
        | cons _ _ => exact q1.elim
        | nil => exact ⟨_, _, rfl, k.nx _ _ ⟨_, h1, m1, (rs1.set i r1).set j r2, rh1, q1⟩⟩
/-- x op= e -/
def aAug (i : Nat) (te : ATE) (r : AR2) : ATS := fun D α h => match α[i]? with
  | some (some x) => te α h (fun y h1 => r x y h1 fun z h2 => D.nx (α.set i (some z)) h2) fun c h1 => D.ex c α h1
  | _ => False
theorem as_aug (i : Nat) {x : Str} {e : Expr} {te : ATE} {op : Operator} {ti : TIp} {rA : AR2} {pos' : Pos} (hN : X.N.Nodup) (hi : X.N[i]? = some x) (hx : Loc X.env.scope x) (he : AE X e te) (ho : PIp X op ti) (hr : Op2 X.K ti rA)
    (hf : X.fn x = true ∨ X.env.scope.names.lookup x = some .local := by first | exact .inl rfl | exact .inr rfl | assumption) : AS X (.AugAssign (.Name x pos') op e pos) (aAug i te rA) :=
  .of (ps_aug hN hi hx he.pe ho hf) fun D σ H ⟨α, h, DA, rs, rh, tk, ht, k⟩ => by
    unfold aAug at ht
    cases e1 : α[i]? with
    | none => rw [e1] at ht; exact ht.elim
    | some o => cases o with
      | none => rw [e1] at ht; exact ht.elim
      | some a =>
        rw [e1] at ht
        obtain ⟨v, e2, r⟩ := rs.get i a e1
        refine ⟨v, e2, low.then (H0 := H) rs rh (tk.e α) ht fun w H1 y h1 m1 r1 rh1 rs1 q1 => ?_⟩
        exact hr H1 h1 v w a y _ _ (r.up m1) r1 rh1 (fun z H' ⟨z', h2, m2, r2, rh2, q2⟩ => k.nx _ _ ⟨_, h2, m1.trans m2, (rs1.up m2).set i r2, rh2, q2⟩) q1
theorem pip_add : PIp X .Add (ipI fun i j => i + j) := ip_add
theorem o_ipadd {K : Frg} : Op2 K (ipI fun i j => i + j) (iA0 fun i j => .int (i + j)) := fun H h x y a b Q Qv ra rb rh k q => by
  obtain ⟨i, j, rfl, rfl, q⟩ := iA0_inv ra rb q
  exact ⟨i, j, rfl, rfl, k _ _ ⟨_, h, Mono.refl H, .int _, rh, q⟩⟩
theorem o_ipsub {K : Frg} : Op2 K (ipI fun i j => i - j) (iA0 fun i j => .int (i - j)) := fun H h x y a b Q Qv ra rb rh k q => by
  obtain ⟨i, j, rfl, rfl, q⟩ := iA0_inv ra rb q
  exact ⟨i, j, rfl, rfl, k _ _ ⟨_, h, Mono.refl H, .int _, rh, q⟩⟩
/-- xs[i] = e, xs a list -/
def aSetL (to ti tv : ATE) : ATS := fun D α h => tv α h (fun v h1 => to α h1 (fun o h2 => ti α h2 (fun i h3 => match o, i with
  | .ref p, .int k => ∃ xs j, h3 p = some (.lst xs) ∧ ixN xs.length k = some j ∧ D.nx α (updA h3 p (.lst (xs.set j v)))
  | _, _ => False) fun c h3 => D.ex c α h3) fun c h3 => D.ex c α h3) fun c h3 => D.ex c α h3
theorem as_setL {o i e : Expr} {to ti te : ATE} {pos' : Pos} (he : AE X e te) (ho : AE X o to) (hi : AE X i ti) (hs : swapsWithSole [.Subscript o i pos'] e pos.line X.env = pure false := by rfl) (hw : swappedStores [.Subscript o i pos'] e X.env = pure none := by rfl)
    (h1 : (assignEach [.Subscript o i pos'] X.env).map (·.2) = [assign (.Subscript o i pos') X.env] := by rfl)
    (ha : ∀ v, assign (.Subscript o i pos') X.env v = (do
      let ov ← holding [v] (eval o X.env)
      let iv ← holding [v, ov] (eval i X.env)
      standAt pos'
      holding [v, ov, iv] (setItem ov iv v)
      release [v, ov, iv] []) := by intro _; rfl) : AS X (.Assign [.Subscript o i pos'] e pos) (aSetL to ti te) :=
  .of (ps_asg he.pe (pg_sub ho.pe hi.pe set_list ha) hs hw h1) fun D σ H ⟨α, h, DA, rs, rh, tk, ht, k⟩ =>
    low.then (H0 := H) rs rh (tk.e α) ht fun v H1 x h1 m1 r1 rh1 rs1 q1 => low.then (H0 := H) rs1 rh1 ((tk.up m1).e α) q1 fun ov H2 y h2 m2 r2 rh2 rs2 q2 => low.then (H0 := H) rs2 rh2 ((tk.up (m1.trans m2)).e α) q2 fun iv H3 z h3 m3 r3 rh3 rs3 q3 => by
      have r2' := r2.up m3
      cases r2' with
      | ref p => cases r3 with
        | int n =>
          obtain ⟨xs, j, e1, e2, q⟩ := (show ∃ xs j, h3 p = some (.lst xs) ∧ ixN xs.length n = some j ∧ DA.nx α (updA h3 p (.lst (xs.set j x))) from q3)
          obtain ⟨vs, f1, rv⟩ := rh3.lst e1
          refine ⟨p, vs, n, j, rfl, rfl, f1, by rw [← rv.len]; exact e2, k.nx _ _ ⟨α, _, ((m1.trans m2).trans m3).trans (Mono.wr f1 ns_lst), rs3.up (Mono.wr f1 ns_lst), rh3.wr f1 ns_lst (.lst (rv.set ((r1.up m2).up m3) j)), q⟩⟩
        | _ => exact (show False from q3).elim
      | _ => cases r3 <;> exact (show False from q3).elim
end

/-! ### fields of own instances -/
def ClsF (K : Frg) (C : Addr) (f : Str) : Prop := Cls K C ∧ NoAttr K C f
theorem RelH.ins {K : Frg} {H : Hp} {h : AH} {p C : Addr} {fs : List (Str × A)} (r : RelH K H h) (e : h p = some (.ins C fs)) : ∃ dx vs, H p = some (.ins C dx vs) ∧ RelK K H fs vs := by
  obtain ⟨u, e', q⟩ := r p _ e
  cases q with
  | ins q => exact ⟨_, _, e', q⟩
theorem RelK.look {K : Frg} {H : Hp} {f : Str} {a : A} : ∀ {fs : List (Str × A)} {vs : List (Str × V)}, RelK K H fs vs → fs.lookup f = some a → ∃ v, vs.lookup f = some v ∧ RelA K H a v
  | _, _, .nil, e => by simp at e
  | (g, x) :: fs, (g', y) :: vs, .cons r t, e => by
    obtain ⟨e1, r⟩ := r
    have e1 : g = g' := e1
    subst e1
    by_cases q : f = g
    · have hb : (f == g) = true := beq_iff_eq.mpr q
      simp only [List.lookup, hb] at e ⊢
      cases e
      exact ⟨y, rfl, r⟩
    · have hb : (f == g) = false := beq_eq_false_iff_ne.mpr q
      simp only [List.lookup, hb] at e ⊢
      exact RelK.look t e
theorem RelK.lookN {K : Frg} {H : Hp} {f : Str} : ∀ {fs : List (Str × A)} {vs : List (Str × V)}, RelK K H fs vs → fs.lookup f = none → vs.lookup f = none
  | _, _, .nil, e => rfl
  | (g, x) :: fs, (g', y) :: vs, .cons r t, e => by
    obtain ⟨e1, r⟩ := r
    have e1 : g = g' := e1
    subst e1
    by_cases q : f = g
    · have hb : (f == g) = true := beq_iff_eq.mpr q
      simp only [List.lookup, hb] at e
      cases e
    · have hb : (f == g) = false := beq_eq_false_iff_ne.mpr q
      simp only [List.lookup, hb] at e ⊢
      exact RelK.lookN t e
def putFA (f : Str) (v : A) : List (Str × A) → List (Str × A)
  | [] => [(f, v)]
  | (g, x) :: r => if g = f then (g, v) :: r else (g, x) :: putFA f v r
theorem RelK.putF {K : Frg} {H : Hp} {f : Str} {a : A} {v : V} (ra : RelA K H a v) : ∀ {fs : List (Str × A)} {vs : List (Str × V)}, RelK K H fs vs → RelK K H (putFA f a fs) (L2.putF f v vs)
  | _, _, .nil => .cons ⟨rfl, ra⟩ .nil
  | (g, x) :: fs, (g', y) :: vs, .cons r t => by
    obtain ⟨e1, r⟩ := r
    have e1 : g = g' := e1
    subst e1
    unfold putFA L2.putF
    by_cases q : g = f
    · rw [if_pos q, if_pos q]; exact .cons ⟨rfl, ra⟩ t
    · rw [if_neg q, if_neg q]; exact .cons ⟨rfl, r⟩ (RelK.putF ra t)
section
variable {X : Cx} {o e value : Expr} {f : Str} {pos pos' : Pos} {ta tv : ATE}
def aFld (K : Frg) (ta : ATE) (f : Str) : ATE := fun α h Q E => ta α h (fun x h1 => match x with
  | .ref p => ∃ C fs v, h1 p = some (.ins C fs) ∧ ClsF K C f ∧ fs.lookup f = some v ∧ Q v h1
  | _ => False) E
theorem ae_fld (he : AE X e ta) (hb : attributeBase e f X.env (eval e X.env) = eval e X.env) : AE X (.Attribute e f pos) (aFld X.K ta f) := .of (pe_fld he.pe hb) fun σ H Qv ⟨α, h, q, E, rs, rh, tk, ht, k⟩ =>
  low.then (H0 := H) rs rh tk ht fun v H1 x h1 m1 r1 rh1 rs1 q1 => by
    cases r1 with
    | ref p =>
      obtain ⟨C, fs, v, e1, c, l, q⟩ := (show ∃ C fs v, h1 p = some (.ins C fs) ∧ ClsF X.K C f ∧ fs.lookup f = some v ∧ q v h1 from q1)
      obtain ⟨dx, vs, f1, rk⟩ := rh1.ins e1
      obtain ⟨w, l', rw'⟩ := rk.look l
      exact ⟨p, C, dx, vs, w, rfl, f1, c.1, c.2, l', k _ _ ⟨v, h1, m1, rw', rh1, q⟩⟩
    | _ => exact (show False from q1).elim
def aSetF (K : Frg) (ta tv : ATE) (f : Str) : ATS := fun D α h => tv α h (fun y h1 => ta α h1 (fun x h2 => match x with
  | .ref p => ∃ C fs, h2 p = some (.ins C fs) ∧ ClsF K C f ∧ fs.length < 1000 ∧ D.nx α (updA h2 p (.ins C (putFA f y fs)))
  | _ => False) fun c h3 => D.ex c α h3) fun c h3 => D.ex c α h3
theorem Paired.len {α β : Type} {F : α → β → Prop} {l₁ : List α} {l₂ : List β} (h : Paired F l₁ l₂) : l₁.length = l₂.length := h.length
theorem as_fld (ha : AE X o ta) (hv : AE X value tv) (hs : swapsWith value (some (.Attribute o f pos')) pos.line X.env = pure false) : AS X (.Assign [.Attribute o f pos'] value pos) (aSetF X.K ta tv f) := .of (ps_fld ha.pe hv.pe hs) fun D σ H ⟨α, h, DA, rs, rh, tk, ht, k⟩ =>
  low.then (H0 := H) rs rh (tk.e α) ht fun v H1 y h1 m1 r1 rh1 rs1 q1 => low.then (H0 := H) rs1 rh1 ((tk.up m1).e α) q1 fun ov H2 x h2 m2 r2 rh2 rs2 q2 => by
    cases r2 with
    | ref p =>
      obtain ⟨C, fs, e1, c, l, q⟩ := (show ∃ C fs, h2 p = some (.ins C fs) ∧ ClsF X.K C f ∧ fs.length < 1000 ∧ DA.nx α (updA h2 p (.ins C (putFA f y fs))) from q2)
      obtain ⟨dx, vs, f1, rk⟩ := rh2.ins e1
      refine ⟨p, C, dx, vs, rfl, f1, c.1, c.2, by rw [← Paired.len rk]; exact l, k.nx _ _ ⟨α, _, (m1.trans m2).trans (Mono.wr f1 ns_ins), rs2.up (Mono.wr f1 ns_ins), rh2.wr f1 ns_ins (.ins (RelK.putF (r1.up m2) rk)), q⟩⟩
    | _ => exact (show False from q2).elim
end
end G
namespace G
open PySem PySem.Spec L2

/-! ### what is walked -/
structure ASrc where
  n : Nat
  item : Nat → A → Prop
  stay : AH → Prop := fun _ => True
structure SrcOk (K : Frg) (Hb : Hp) (S : ASrc) (J : It) : Prop where
  go : ∀ (i : Nat) (H : Hp) (h : AH), Mono Hb H → RelH K H h → S.stay h → i < S.n → J.go i H
  yld : ∀ (i : Nat) (H H' : Hp) (h : AH) (x : V), Mono Hb H → RelH K H h → S.stay h → i < S.n → J.yld i H x H' → ∃ a, S.item i a ∧ Mono H H' ∧ RelA K H' a x ∧ RelH K H' h
  stop : ∀ (i : Nat) (H : Hp) (h : AH), Mono Hb H → RelH K H h → S.stay h → S.n ≤ i → J.stop i H
abbrev ATI := ASt → AH → (ASrc → AH → Prop) → AXK → Prop
def lowI (X : Cx) (w : ATI) : TI := fun σ H R => ∃ α h RA E, RelS X.K H α σ ∧ RelH X.K H h ∧ TakesE X H α E ∧ w α h RA E ∧ ∀ J S H' h', Mono H H' → RelH X.K H' h' → SrcOk X.K H' S J → RA S h' → R J H'
structure AI (X : Cx) (tg iter : Expr) (w : ATI) : Prop where
  pi : PI X tg iter (lowI X w)
theorem piImp {X : Cx} {tg e : Expr} {t t' : TI} (h : PI X tg e t) (k : ∀ σ H Q, t' σ H Q → t σ H Q) : PI X tg e t' := ⟨fun pins s σ H R I q => h.run pins s σ H R I (k _ _ _ q)⟩
/-- a list or a tuple -/
def seqOf (x : A) (h : AH) (R : ASrc → Prop) : Prop := match x with
  | .ref p => ∃ xs, LstA h p xs ∧ R ⟨xs.length, fun i a => xs[i]? = some a, fun h' => LstA h' p xs⟩
  | .fls xs => R ⟨xs.length, fun i a => xs[i]? = some a, fun _ => True⟩
  | x => asT x fun xs => R ⟨xs.length, fun i a => xs[i]? = some a, fun _ => True⟩
theorem src_list {K : Frg} {H : Hp} {p : Addr} {xs : List A} : SrcOk K H ⟨xs.length, fun i a => xs[i]? = some a, fun h' => LstA h' p xs⟩ (Itl K p) where
  go := fun i H h _ rh st hi => by
    obtain ⟨vs, e, r⟩ := rh.rd st
    obtain ⟨v, e', _⟩ := r.get (i := i) (a := xs[i]'hi) (List.getElem?_eq_getElem hi)
    exact ⟨vs, v, e, e'⟩
  yld := fun i H H' h x _ rh st hi y => by
    obtain ⟨rfl, y⟩ := y
    obtain ⟨vs, e, r⟩ := rh.rd st
    obtain ⟨a, e', ra⟩ := r.getV (y vs e)
    exact ⟨a, e', Mono.refl _, ra, rh⟩
  stop := fun i H h _ rh st hi => by
    obtain ⟨vs, e, r⟩ := rh.rd st
    exact ⟨vs, e, by rw [← r.len]; exact hi⟩
theorem src_fls {K : Frg} {Hb : Hp} {p : Addr} {xs : List A} {vs : List V} (ht : FlAt K Hb p vs) (r : RelAs K Hb xs vs) : SrcOk K Hb ⟨xs.length, fun i a => xs[i]? = some a, fun _ => True⟩ (Itl K p) where
  go := fun i H h m rh st hi => by
    obtain ⟨v, e', _⟩ := r.get (i := i) (a := xs[i]'hi) (List.getElem?_eq_getElem hi)
    exact ⟨vs, v, (ht.mono m).sq, e'⟩
  yld := fun i H H' h x m rh st hi y => by
    obtain ⟨rfl, y⟩ := y
    obtain ⟨a, e', ra⟩ := r.getV (y vs (ht.mono m).sq)
    exact ⟨a, e', Mono.refl _, ra.up m, rh⟩
  stop := fun i H h m rh st hi => ⟨vs, (ht.mono m).sq, by rw [← r.len]; exact hi⟩
theorem src_tup {K : Frg} {Hb : Hp} {p : Addr} {xs : List A} {vs : List V} (ht : TupAt K Hb p vs) (r : RelAs K Hb xs vs) : SrcOk K Hb ⟨xs.length, fun i a => xs[i]? = some a, fun _ => True⟩ (Itt K p) where
  go := fun i H h m rh st hi => by
    obtain ⟨v, e', _⟩ := r.get (i := i) (a := xs[i]'hi) (List.getElem?_eq_getElem hi)
    exact ⟨vs, v, (ht.mono m).sq, e'⟩
  yld := fun i H H' h x m rh st hi y => by
    obtain ⟨rfl, y⟩ := y
    obtain ⟨a, e', ra⟩ := r.getV (y vs (ht.mono m).sq)
    exact ⟨a, e', Mono.refl _, ra.up m, rh⟩
  stop := fun i H h m rh st hi => ⟨vs, (ht.mono m).sq, by rw [← r.len]; exact hi⟩
theorem src_range {K : Frg} {H : Hp} {lo : Int} {n : Nat} : SrcOk K H ⟨n, fun i a => a = .int (lo + i), fun _ => True⟩ (Itr lo n) where
  go := fun i H h _ rh st hi => hi
  yld := fun i H H' h x _ rh st hi y => by
    obtain ⟨rfl, rfl⟩ := y
    exact ⟨_, rfl, Mono.refl _, .int _, rh⟩
  stop := fun i H h _ rh st hi => hi
theorem src_enum {K : Frg} {H : Hp} {p : Addr} {xs : List A} : SrcOk K H ⟨xs.length, fun i a => ∃ x, a = .tup [.int (i : Nat), x] ∧ xs[i]? = some x, fun h' => LstA h' p xs⟩ (Ite K p) where
  go := fun i H h _ rh st hi => by
    obtain ⟨vs, e, r⟩ := rh.rd st
    obtain ⟨v, e', _⟩ := r.get (i := i) (a := xs[i]'hi) (List.getElem?_eq_getElem hi)
    exact ⟨vs, v, e, e'⟩
  yld := fun i H H' h x _ rh st hi y => by
    obtain ⟨T, x', rfl, hT, rfl, y⟩ := y
    obtain ⟨vs, e, r⟩ := rh.rd st
    obtain ⟨a, e', ra⟩ := r.getV (y vs e)
    exact ⟨_, ⟨a, rfl, e'⟩, Mono.new hT, .tup (.of upd_same) (.cons (.int _) (.one (ra.up (Mono.new hT)))), rh.skip hT⟩
  stop := fun i H h _ rh st hi => by
    obtain ⟨vs, e, r⟩ := rh.rd st
    exact ⟨vs, e, by rw [← r.len]; exact hi⟩
theorem tupAt_of {K : Frg} {H : Hp} {x : A} {v : V} {Q : List A → Prop} (r : RelA K H x v) (q : asT x Q) : ∃ p xs vs, v = .ref p ∧ TupAt K H p vs ∧ RelAs K H xs vs ∧ Q xs := by
  cases r with
  | @tup p xs vs h r => exact ⟨p, xs, vs, rfl, h, r, q⟩
  | @kt p ks h => exact ⟨p, ks.map keyV, ks.map kV, rfl, .of h, rel_keysV ks, q⟩
  | _ => exact (show False from q).elim
section
variable {X : Cx} {tg : Expr}
def aiSeq (te : ATE) : ATI := fun α h R E => te α h (fun x h1 => seqOf x h1 fun S => R S h1) E
theorem ai_seq {l : Expr} {te : ATE} (he : AE X l te) : AI X tg l (aiSeq te) := by
  refine ⟨⟨fun pins s σ H R I hw => ?_⟩⟩
  obtain ⟨α, h, RA, E, rs, rh, tk, ht, k⟩ := hw
  refine thn (he.run pins s σ H α h _ E I rs rh tk ht) fun v s1 ⟨x, H1, I1, r1, a, h1, m1, ra, rh1, q⟩ => ?_
  have tupCase : ∀ (q : asT a fun xs => RA ⟨xs.length, fun i a => xs[i]? = some a, fun _ => True⟩ h1), wpAny (model X.prog X.w) X.A (pyIter v) (PIE X pins σ tg R) X.xe s1 := fun q => by
    obtain ⟨p, xs, vs, rfl, hT, rv, q⟩ := tupAt_of ra q
    cases r1
    obtain ⟨its, rvv, pt, hz⟩ := I1.tuple hT.sq
    refine wpAny_pyIter_tuple (show s1.heap.IsTuple p its.toArray from pt) ?_
    refine ⟨s1.heap.objs.size, [s1.heap.objs.size], _, _, H1, rfl, I1.kept (t' := s1.toks) fun b o e => Heap.get?_push_of_some _ e, turn_tuple p _, ⟨_, Heap.get?_push_size _ rfl, rfl, rfl⟩, fun b hb => ?_, k _ _ H1 h1 m1 rh1 (src_tup hT rv) q⟩
    have e : b = s1.heap.objs.size := by simpa using hb
    subst e
    exact I1.fpOk (Nat.le_refl _) (I1.hok.fresh (Nat.le_refl _))
  cases ra with
  | ref p =>
    obtain ⟨xs, e, q⟩ := (show ∃ xs, LstA h1 p xs ∧ RA ⟨xs.length, fun i a => xs[i]? = some a, fun h' => LstA h' p xs⟩ h1 from q)
    obtain ⟨vs, hq, rv⟩ := rh1.rd e
    cases r1
    obtain ⟨its, rvv, pl, hz⟩ := I1.list hq
    refine wpAny_pyIter_list pl.isList ?_
    refine ⟨s1.heap.objs.size, [s1.heap.objs.size], _, _, H1, rfl, I1.kept (t' := s1.toks) fun b o e => Heap.get?_push_of_some _ e, turn_list p _, ⟨_, Heap.get?_push_size _ rfl, rfl, rfl⟩, fun b hb => ?_, k _ _ H1 h1 m1 rh1 src_list q⟩
    have e : b = s1.heap.objs.size := by simpa using hb
    subst e
    exact I1.fpOk (Nat.le_refl _) (I1.hok.fresh (Nat.le_refl _))
  | @fls p xs vs eF rv =>
    have q : RA ⟨xs.length, fun i a => xs[i]? = some a, fun _ => True⟩ h1 := q
    cases r1
    obtain ⟨its, rvv, pl, hz⟩ := I1.list eF.sq
    refine wpAny_pyIter_list pl.isList ?_
    refine ⟨s1.heap.objs.size, [s1.heap.objs.size], _, _, H1, rfl, I1.kept (t' := s1.toks) fun b o e => Heap.get?_push_of_some _ e, turn_list p _, ⟨_, Heap.get?_push_size _ rfl, rfl, rfl⟩, fun b hb => ?_, k _ _ H1 h1 m1 rh1 (src_fls eF rv) q⟩
    have e : b = s1.heap.objs.size := by simpa using hb
    subst e
    exact I1.fpOk (Nat.le_refl _) (I1.hok.fresh (Nat.le_refl _))
  | _ => exact tupCase q
/-- range(n), range(a, b) -/
def aiRng1 (t : ATA) : ATI := fun α h R E => t α h (fun xs h1 => match xs with
  | [.int n] => (-(2 ^ 62) ≤ n ∧ n < 2 ^ 62) ∧ R ⟨n.toNat, fun i a => a = .int (0 + i), fun _ => True⟩ h1
  | _ => False) E
theorem ai_range1 {a : Expr} {ta : ATA} {p pos : Pos} (hg : Gl X "range") (hm : X.mg "range" = none) (ha : AAs X [a] ta) (hs : starEach [a] X.env = [(false, eval a X.env)] := by rfl) : AI X tg (.Call (.Name "range" p) [a] [] pos) (aiRng1 ta) :=
  ⟨piImp (pi_range1 hg hm ha.pa hs) fun σ H R ⟨α, h, RA, E, rs, rh, tk, ht, k⟩ => lowA.then rs rh tk ht fun v H1 xs h1 m1 r1 rh1 rs1 q1 => by
    cases r1 with
    | nil => exact q1.elim
    | cons r t => cases t with
      | cons _ _ => cases r <;> exact (show False from q1).elim
      | nil => cases r with
        | int n => exact ⟨n, rfl, q1.1.1, q1.1.2, k _ _ H1 h1 m1 rh1 src_range q1.2⟩
        | _ => exact (show False from q1).elim⟩
def aiRng2 (t : ATA) : ATI := fun α h R E => t α h (fun xs h1 => match xs with
  | [.int i, .int j] => (-(2 ^ 62) ≤ i ∧ i < 2 ^ 62 ∧ -(2 ^ 62) ≤ j ∧ j < 2 ^ 62) ∧ R ⟨(j - i).toNat, fun k a => a = .int (i + k), fun _ => True⟩ h1
  | _ => False) E
theorem ai_range2 {a b : Expr} {ta : ATA} {p pos : Pos} (hg : Gl X "range") (hm : X.mg "range" = none) (ha : AAs X [a, b] ta) (hs : starEach [a, b] X.env = [(false, eval a X.env), (false, eval b X.env)] := by rfl) (hs2 : starEach [b] X.env = [(false, eval b X.env)] := by rfl) :
    AI X tg (.Call (.Name "range" p) [a, b] [] pos) (aiRng2 ta) :=
  ⟨piImp (pi_range2 hg hm ha.pa hs hs2) fun σ H R ⟨α, h, RA, E, rs, rh, tk, ht, k⟩ => lowA.then rs rh tk ht fun v H1 xs h1 m1 r1 rh1 rs1 q1 => by
    cases r1 with
    | nil => exact q1.elim
    | cons r t => cases t with
      | nil => cases r <;> exact (show False from q1).elim
      | cons r' t => cases t with
        | cons _ _ => cases r <;> cases r' <;> exact (show False from q1).elim
        | nil => cases r with
          | int n => cases r' with
            | int m => exact ⟨n, m, rfl, q1.1, k _ _ H1 h1 m1 rh1 src_range q1.2⟩
            | _ => exact (show False from q1).elim
          | _ => cases r' <;> exact (show False from q1).elim⟩
/-- enumerate(xs) of a list -/
def aiEnum (t : ATA) : ATI := fun α h R E => t α h (fun xs h1 => match xs with
  | [.ref p] => ∃ xs, LstA h1 p xs ∧ R ⟨xs.length, fun i a => ∃ x, a = .tup [.int (i : Nat), x] ∧ xs[i]? = some x, fun h' => LstA h' p xs⟩ h1
  | _ => False) E
theorem ai_enum {e : Expr} {ta : ATA} {p pos tpos : Pos} {elts : List Expr} {kk : Nat} (hg : Gl X "enumerate") (hm : X.mg "enumerate" = none) (ha : AAs X [e] ta) (hs : starEach [e] X.env = [(false, eval e X.env)] := by rfl) :
    AI X (.Tuple elts kk tpos) (.Call (.Name "enumerate" p) [e] [] pos) (aiEnum ta) :=
  ⟨piImp (pi_enum hg hm ha.pa hs) fun σ H R ⟨α, h, RA, E, rs, rh, tk, ht, k⟩ => lowA.then rs rh tk ht fun v H1 xs h1 m1 r1 rh1 rs1 q1 => by
    cases r1 with
    | nil => exact q1.elim
    | cons r t => cases t with
      | cons _ _ => cases r <;> exact (show False from q1).elim
      | nil => cases r with
        | ref p =>
          obtain ⟨ys, e, q⟩ := (show ∃ ys, LstA h1 p ys ∧ RA ⟨ys.length, fun i a => ∃ x, a = .tup [.int (i : Nat), x] ∧ ys[i]? = some x, fun h' => LstA h' p ys⟩ h1 from q1)
          obtain ⟨vs, hq, rv⟩ := rh1.rd e
          exact ⟨p, vs, rfl, hq, k _ _ H1 h1 m1 rh1 src_enum q⟩
        | _ => exact (show False from q1).elim⟩
end

/-! ### for -/
def loopS (S : ASrc) (g : ATG) (tb : ATS) (D : AEnds) (α : ASt) (h : AH) : Prop := ∃ Pv : Nat → ASt → AH → Prop, Pv 0 α h ∧ (∀ i α h, i ≤ S.n → Pv i α h → S.stay h) ∧
  (∀ i x α h, i < S.n → S.item i x → Pv i α h → g x α h fun α2 h2 => tb { D with nx := Pv (i + 1), ct := Pv (i + 1), bk := D.nx } α2 h2) ∧ ∀ α h, Pv S.n α h → D.nx α h
def aFor (w : ATI) (g : ATG) (tb : ATS) : ATS := fun D α h => w α h (fun S h1 => loopS S g tb D α h1) fun c h1 => D.ex c α h1
theorem as_for {X : Cx} {tg iter : Expr} {body : List Stmt} {w : ATI} {is : List Nat} {g : ATG} {tb : ATS} {pos : Pos} (hp : PassesOwn (model X.prog X.w) X.A X.env X.xe) (hc : X.calm = true) (hi : AI X tg iter w) (hg : AG X tg is g) (hb : ASs X body tb)
    (hs : ∀ x, foldedSetIterable iter X.env x = pure x := by intro _; rfl) : AS X (.For tg iter body [] pos) (aFor w g tb) :=
  .of (ps_for hp hc hi.pi hg.pg hb.pss hs) fun D σ H ⟨α, h, DA, rs, rh, tk, ht, k⟩ => by
    refine ⟨α, h, _, _, rs, rh, tk.e α, ht, fun J S H1 h1 m1 rh1 ok q => ?_⟩
    obtain ⟨Pv, p0, stay, step, done⟩ := q
    refine ⟨fun i m σ' H' => m = S.n - i ∧ i ≤ S.n ∧ LN X.K H1 (Pv i) σ' H', ⟨S.n, by simp, Nat.zero_le _, α, h1, Mono.refl H1, rs.up m1, rh1, p0⟩, ?_⟩
    rintro i m σ' H' ⟨rfl, hi, α', h', m', rs', rh', pv⟩
    by_cases hlt : i < S.n
    · refine .inr ⟨ok.go i H' h' m' rh' (stay i α' h' hi pv) hlt, LN X.K H1 (Pv (i + 1)), fun σ2 H2 z => ⟨S.n - (i + 1), by omega, rfl, hlt, z⟩, fun x H2 y => ?_⟩
      obtain ⟨a, it, m2, ra, rh2⟩ := ok.yld i H' H2 h' x m' rh' (stay i α' h' hi pv) hlt y
      refine ⟨a, α', h', _, ra, rs'.up m2, rh2, step i a α' h' hlt it pv, fun σ3 H3 ⟨α3, h3, m3, rs3, rh3, q3⟩ _ => ?_⟩
      have mm : Mono H H3 := ((m1.trans m').trans m2).trans m3
      refine ⟨α3, h3, { DA with nx := Pv (i + 1), ct := Pv (i + 1), bk := DA.nx }, rs3, rh3, tk.up mm, q3, ?_⟩
      exact ⟨fun _ _ z => z.up ((m'.trans m2).trans m3), fun _ _ z => k.rt _ _ (z.up mm), fun _ _ z => k.nx _ _ (z.up mm), fun _ _ z => z.up ((m'.trans m2).trans m3)⟩
    · have e : i = S.n := by omega
      subst e
      exact .inl ⟨ok.stop S.n H' h' m' rh' (stay S.n α' h' hi pv) (Nat.le_refl _), k.nx _ _ ⟨α', h', m1.trans m', rs', rh', done α' h' pv⟩⟩

/-! ### while -/
def aWhile (c : ATT) (tb : ATS) : ATS := fun D α h => ∃ W : Nat → ASt → AH → Prop, (∃ m, W m α h) ∧ ∀ m α h, W m α h →
  c α h (fun b h1 => if b = true then tb { D with nx := fun α' h' => ∃ m', m' < m ∧ W m' α' h', ct := fun α' h' => ∃ m', m' < m ∧ W m' α' h', bk := D.nx } α h1 else D.nx α h1) fun c h1 => D.ex c α h1
theorem as_while {X : Cx} {c : Expr} {body : List Stmt} {tc : ATT} {tb : ATS} {pos : Pos} (hp : PassesOwn (model X.prog X.w) X.A X.env X.xe) (hc : AT X c tc) (hb : ASs X body tb) : AS X (.While c body [] pos) (aWhile tc tb) :=
  .of (ps_while hp hc.pt hb.pss) fun D σ H ⟨α, h, DA, rs, rh, tk, ⟨W, ⟨m0, w0⟩, step⟩, k⟩ => by
    refine ⟨fun m σ' H' => LN X.K H (W m) σ' H', ⟨m0, α, h, Mono.refl H, rs, rh, w0⟩, ?_⟩
    rintro m σ' H' ⟨α', h', m', rs', rh', w'⟩
    refine lowT.then rs' rh' ((tk.up m').e α') (step m α' h' w') fun b H1 h1 m1 rh1 rs1 q1 => ?_
    cases b with
    | true =>
      rw [if_pos rfl] at q1 ⊢
      refine ⟨LN X.K H (fun α' h' => ∃ m', m' < m ∧ W m' α' h'), fun σ2 H2 ⟨α2, h2, m2, rs2, rh2, n, hn, w2⟩ => ⟨n, hn, α2, h2, m2, rs2, rh2, w2⟩, α', h1, _, rs1, rh1, ?_, q1, ?_⟩
      · exact tk.up (m'.trans m1)
      · have mm : Mono H H1 := m'.trans m1
        exact ⟨fun _ _ z => z.up mm, fun _ _ z => k.rt _ _ (z.up mm), fun _ _ z => k.nx _ _ (z.up mm), fun _ _ z => z.up mm⟩
    | false =>
      rw [if_neg Bool.false_ne_true] at q1 ⊢
      exact k.nx _ _ ⟨α', h1, m'.trans m1, rs1, rh1, q1⟩

/-! ### comprehensions -/
def wipeA (α : ASt) : List Nat → ASt
  | [] => α
  | v :: vs => (wipeA α vs).set v none
theorem rel_wipe {K : Frg} {H : Hp} {α : ASt} {σ : L2.St} (r : RelS K H α σ) : ∀ vs : List Nat, RelS K H (wipeA α vs) (wipe σ vs)
  | [] => r
  | v :: vs => (rel_wipe r vs).gone v
theorem wipe_at (σ : L2.St) (j : Nat) : ∀ vs : List Nat, (wipe σ vs)[j]? = if j ∈ vs then (if j < σ.length then some none else none) else σ[j]?
  | [] => by simp [wipe]
  | v :: vs => by
    unfold wipe
    by_cases hv : v = j
    · subst hv
      rw [if_pos List.mem_cons_self]
      by_cases hl : v < σ.length
      · rw [if_pos hl, List.getElem?_set_self (by rw [wipe_length]; exact hl)]
      · rw [if_neg hl, List.getElem?_eq_none (by rw [List.length_set, wipe_length]; omega)]
    · rw [List.getElem?_set_ne hv, wipe_at σ j vs]
      by_cases hm : j ∈ vs
      · rw [if_pos hm, if_pos (List.mem_cons_of_mem _ hm)]
      · rw [if_neg hm, if_neg (fun z => (List.mem_cons.mp z).elim (fun e => hv e.symm) hm)]
theorem wipe_kept {σ σ2 : L2.St} {is vs : List Nat} (hk : Kept is (wipe σ vs) σ2) (hs : ∀ i ∈ is, i ∈ vs) : wipe σ2 vs = wipe σ vs := by
  have hl : σ2.length = σ.length := hk.1.trans (wipe_length σ vs)
  refine List.ext_getElem? fun j => ?_
  rw [wipe_at, wipe_at, hl]
  by_cases hm : j ∈ vs
  · rw [if_pos hm, if_pos hm]
  · rw [if_neg hm, if_neg hm, hk.2 j (fun z => hm (hs j z)), wipe_at, if_neg hm]
structure ATs (X : Cx) (ifs : List Expr) (t : ATT) : Prop where
  pts : PTs X ifs (lowT X t)
def aYes : ATT := fun _ h Q _ => Q true h
theorem ptsImp {X : Cx} {ifs : List Expr} {t t' : TT} (p : PTs X ifs t) (k : ∀ σ H Q, t' σ H Q → t σ H Q) : PTs X ifs t' := ⟨fun pins s σ H Q I h => p.run pins s σ H Q I (k _ _ _ h)⟩
theorem ats_nil {X : Cx} : ATs X [] aYes := ⟨ptsImp pts_nil fun σ H Q ⟨α, h, q, E, rs, rh, tk, ht, k⟩ => k _ _ ⟨h, Mono.refl H, rh, ht⟩⟩
theorem ats_one {X : Cx} {c : Expr} {t : ATT} (h : AT X c t) : ATs X [c] t := ⟨pts_one h.pt⟩
def lcS (S : ASrc) (g : ATG) (tt : ATT) (te : ATE) (vs : List Nat) (α : ASt) (h1 : AH) (D : Addr) (Q : AH → Prop) : Prop := ∃ Pv : Nat → AH → Prop, Pv 0 (updA h1 D (.lst [])) ∧ (∀ i h, i ≤ S.n → Pv i h → S.stay h) ∧
  (∀ i x h, i < S.n → S.item i x → Pv i h → g x (wipeA α vs) h fun α2 h2 => tt α2 h2 (fun b h3 => if b = true then te α2 h3 (fun y h4 => ∃ acc, h4 D = some (.lst acc) ∧ acc.length < sizeLine ∧ Pv (i + 1) (updA h4 D (.lst (acc ++ [y])))) AE0 else Pv (i + 1) h3) AE0) ∧
  ∀ h, Pv S.n h → Q h
def aLc (w : ATI) (g : ATG) (tt : ATT) (te : ATE) (vs : List Nat) : ATE := fun α h Q E => w α h (fun S h1 => ∀ D, h1 D = none → lcS S g tt te vs α h1 D fun h2 => Q (.ref D) h2) E
/-! in a block no exception leaves -/
def lowB (K : Frg) (t : ATE) : TE := fun σ H Qv => ∃ α h Q, RelS K H α σ ∧ RelH K H h ∧ t α h Q AE0 ∧ ∀ v H', LQ K H Q v H' → Qv v H'
def lowTB (K : Frg) (t : ATT) : TT := fun σ H Qv => ∃ α h Q, RelS K H α σ ∧ RelH K H h ∧ t α h Q AE0 ∧ ∀ v H', LB K H Q v H' → Qv v H'
theorem peImp {X : Cx} {e : Expr} {t t' : TE} (h : PE X e t) (k : ∀ σ H Q, t' σ H Q → t σ H Q) : PE X e t' := ⟨fun pins s σ H Q I q => h.run pins s σ H Q I (k _ _ _ q)⟩
theorem psImp {X : Cx} {e : Stmt} {t t' : TS} (h : PS X e t) (k : ∀ D σ H, t' D σ H → t D σ H) : PS X e t' := ⟨fun pins s σ H D I q => h.run pins s σ H D I (k _ _ _ q)⟩
theorem AE.blk {X : Cx} {e : Expr} {t : ATE} (a : AE X e t) : PE X e (lowB X.K t) := peImp a.pe fun σ H Q ⟨α, h, q, rs, rh, ht, k⟩ => ⟨α, h, q, AE0, rs, rh, TakesE.none, ht, k⟩
theorem ATs.blk {X : Cx} {ifs : List Expr} {t : ATT} (a : ATs X ifs t) : PTs X ifs (lowTB X.K t) := ptsImp a.pts fun σ H Q ⟨α, h, q, rs, rh, ht, k⟩ => ⟨α, h, q, AE0, rs, rh, TakesE.none, ht, k⟩
section
variable {X : Cx} {elt tg iter : Expr} {ifs : List Expr} {scope : Scope} {own : List (Str × Nat)} {pos : Pos} {w : ATI} {is : List Nat} {g : ATG} {tt : ATT} {te : ATE}
theorem low_lc (hs : ∀ i ∈ is, i ∈ own.map (·.2)) {σ : L2.St} {H : Hp} {Q : VK} (z : low X (aLc w g tt te (own.map (·.2))) σ H Q) : tLc (lowI X w) (lowG X is g) (lowTB X.K tt) (lowB X.K te) (own.map (·.2)) σ H Q := by
  obtain ⟨α, h, q, E, rs, rh, tk, ht, k⟩ := z
  refine ⟨α, h, _, E, rs, rh, tk, ht, fun J S H1 h1 m1 rh1 ok q => ?_⟩
  intro D hD
  obtain ⟨Pv, p0, stay, step, done⟩ := q D (rh1.free hD)
  refine ⟨fun i m H' => m = S.n - i ∧ i ≤ S.n ∧ ∃ h', Mono H1 H' ∧ RelH X.K H' h' ∧ Pv i h', ⟨S.n, by simp, Nat.zero_le _, _, Mono.new hD, rh1.new hD (.lst .nil), p0⟩, ?_⟩
  rintro i m H' ⟨rfl, hi, h', m', rh', pv⟩
  by_cases hlt : i < S.n
  · refine .inr ⟨ok.go i H' h' m' rh' (stay i h' hi pv) hlt, fun H2 => ∃ h2, Mono H1 H2 ∧ RelH X.K H2 h2 ∧ Pv (i + 1) h2, fun H2 z => ⟨S.n - (i + 1), by omega, rfl, hlt, z⟩, fun x H2 y => ?_⟩
    obtain ⟨a, it, m2, ra, rh2⟩ := ok.yld i H' H2 h' x m' rh' (stay i h' hi pv) hlt y
    refine ⟨a, wipeA α (own.map (·.2)), h', _, ra, rel_wipe (((rs.up m1).up m').up m2) _, rh2, step i a h' hlt it pv, fun σ3 H3 ⟨α3, h3, m3, rs3, rh3, q3⟩ kp => ⟨wipe_kept kp hs, ?_⟩⟩
    refine ⟨α3, h3, _, rs3, rh3, q3, fun b H4 ⟨h4, m4, rh4, q4⟩ => ?_⟩
    have mm : Mono H1 H4 := ((m'.trans m2).trans m3).trans m4
    cases b with
    | false =>
      rw [if_neg Bool.false_ne_true] at q4
      refine iteF ?_
      exact ⟨h4, mm, rh4, q4⟩
    | true =>
      rw [if_pos rfl] at q4
      refine iteT ?_
      refine ⟨α3, h4, _, rs3.up m4, rh4, q4, fun v H5 ⟨y, h5, m5, r5, rh5, q5⟩ => ?_⟩
      obtain ⟨acc, e, z, pv5⟩ := q5
      obtain ⟨vs, f, rv⟩ := rh5.lst e
      have mw : Mono H5 (upd H5 D (.lst (vs ++ [v]))) := Mono.wr f ns_lst
      exact ⟨vs, f, by rw [← rv.len]; exact z, _, (mm.trans m5).trans mw, rh5.wr f ns_lst (.lst (rv.app (.one r5))), pv5⟩
  · have e : i = S.n := by omega
    subst e
    exact .inl ⟨ok.stop S.n H' h' m' rh' (stay S.n h' hi pv) (Nat.le_refl _), k _ _ ⟨.ref D, h', m1.trans m', .ref D, rh', done h' pv⟩⟩
theorem ae_lc (hc : X.calm = true) (hN : X.N.Nodup) (hi : AI X tg iter w) (ok : BlkOk X.N X.env.scope scope own)
    (hg : ∀ (s : Shared) (H : Hp) (C : Addr) (cl : List (Str × Addr)) (fp : List Addr), AG (X.blk s H scope (compEnvC scope cl C X.env) fp) tg is g) (ht : ∀ (s : Shared) (H : Hp) (C : Addr) (cl : List (Str × Addr)) (fp : List Addr), ATs (X.blk s H scope (compEnvC scope cl C X.env) fp) ifs tt)
    (he : ∀ (s : Shared) (H : Hp) (C : Addr) (cl : List (Str × Addr)) (fp : List Addr), AE (X.blk s H scope (compEnvC scope cl C X.env) fp) elt te) (hsub : ∀ i ∈ is, i ∈ own.map (·.2)) (hs : ∀ x, foldedSetIterable iter X.env x = pure x := by intro _; rfl) :
    AE X (.ListComp elt [⟨tg, iter, ifs, 0⟩] scope pos) (aLc w g tt te (own.map (·.2))) :=
  .of (pe_lc hc hN hi.pi ok (fun s H C cl fp => (hg s H C cl fp).pg) (fun s H C cl fp => (ht s H C cl fp).blk) (fun s H C cl fp => (he s H C cl fp).blk) hs) fun σ H Q z => low_lc hsub z
/-- y = [..], y a local name -/
theorem as_setLc (i : Nat) {y : Str} {py : Pos} {spos : Pos} (hc : X.calm = true) (hN : X.N.Nodup) (hy : X.N[i]? = some y) (hyl : X.env.scope.names.lookup y = some .local)
    (hsw : swapsWith (.ListComp elt [⟨tg, iter, ifs, 0⟩] scope pos) (some (.Name y py)) spos.line X.env = pure true) (hi : AI X tg iter w) (ok : BlkOk X.N X.env.scope scope own)
    (hg : ∀ (s : Shared) (H : Hp) (C : Addr) (cl : List (Str × Addr)) (fp : List Addr), AG (X.blk s H scope (compEnvC scope cl C X.env) fp) tg is g) (ht : ∀ (s : Shared) (H : Hp) (C : Addr) (cl : List (Str × Addr)) (fp : List Addr), ATs (X.blk s H scope (compEnvC scope cl C X.env) fp) ifs tt)
    (he : ∀ (s : Shared) (H : Hp) (C : Addr) (cl : List (Str × Addr)) (fp : List Addr), AE (X.blk s H scope (compEnvC scope cl C X.env) fp) elt te) (hsub : ∀ i ∈ is, i ∈ own.map (·.2)) (hs : ∀ x, foldedSetIterable iter X.env x = pure x := by intro _; rfl) :
    AS X (.Assign [.Name y py] (.ListComp elt [⟨tg, iter, ifs, 0⟩] scope pos) spos) (aAsg (aLc w g tt te (own.map (·.2))) (agN i)) :=
  .of (ps_setLc (i := i) hc hN hy hyl hsw hi.pi ok (fun s H C cl fp => (hg s H C cl fp).pg) (fun s H C cl fp => (ht s H C cl fp).blk) (fun s H C cl fp => (he s H C cl fp).blk) hs) fun D σ H ⟨α, h, DA, rs, rh, tk, ht, k⟩ =>
    low_lc hsub ⟨α, h, _, _, rs, rh, tk.e α, ht, fun v H' ⟨a, h', m, r, rh', q⟩ => k.nx _ _ ⟨_, h', m, (rs.up m).set i r, rh', q⟩⟩
end

/-! ### defs -/
abbrev ASp := List A → AH → AVK → AXK → Prop
def LX (K : Frg) (H : Hp) (E : AXK) : XK := fun cls d H' => d = none ∧ ∃ h', Mono H H' ∧ RelH K H' h' ∧ E cls h'
def lowSp (K : Frg) (sp : ASp) : Sp := fun vs H Q E => ∃ as h QA EA, RelAs K H as vs ∧ RelH K H h ∧ sp as h QA EA ∧ (∀ v H', LQ K H QA v H' → Q v H') ∧ ∀ cls d H', LX K H EA cls d H' → E cls d H'
abbrev AFn (P : Program) (w : World) (K : Frg) (mg : Str → Option Value) (base : Heap) (k : Nat) (f : Addr) (fd : FuncData) (ps : List Str) (sp : ASp) : Prop := FnOk P w K mg base (L2.CX P w) k f fd ps (lowSp K sp)
def startA (N : List Str) (as : List A) : ASt := as.map some ++ List.replicate (N.length - as.length) none
theorem rel_start {K : Frg} {H : Hp} {N : List Str} {as : List A} {vs : List V} (r : RelAs K H as vs) : RelS K H (startA N as) (L2.start N vs) := by
  refine ⟨?_, fun i a e => ?_⟩
  · unfold startA L2.start
    rw [List.length_append, List.length_append, List.length_map, List.length_map, List.length_replicate, List.length_replicate, r.len]
  · unfold startA at e
    by_cases hi : i < as.length
    · rw [List.getElem?_append_left (by simpa using hi), List.getElem?_map] at e
      cases q : as[i]? with
      | none => rw [q] at e; cases e
      | some b =>
        rw [q] at e
        cases e
        obtain ⟨v, e', r'⟩ := r.get q
        refine ⟨v, ?_, r'⟩
        unfold L2.start
        rw [List.getElem?_append_left (by rw [List.length_map, ← r.len]; exact hi), List.getElem?_map, e']
        rfl
    · rw [List.getElem?_append_right (by simpa using hi), List.getElem?_replicate] at e
      split at e <;> cases e
theorem AFn.mono {P : Program} {w : World} {K : Frg} {mg : Str → Option Value} {base : Heap} {j k : Nat} {f : Addr} {fd : FuncData} {ps : List Str} {sp : ASp} (F : AFn P w K mg base j f fd ps sp) (h : j ≤ k) : AFn P w K mg base k f fd ps sp := FnOk.mono F h
theorem AFn.imp {P : Program} {w : World} {K : Frg} {mg : Str → Option Value} {base : Heap} {k : Nat} {f : Addr} {fd : FuncData} {ps : List Str} {sp sp' : ASp} (F : AFn P w K mg base k f fd ps sp) (h : ∀ as h Q E, sp' as h Q E → sp as h Q E) : AFn P w K mg base k f fd ps sp' :=
  FnOk.imp F fun vs H Q E ⟨as, h', QA, EA, r, rh, hs, kQ, kE⟩ => ⟨as, h', QA, EA, r, rh, h _ _ _ _ hs, kQ, kE⟩
/-- a def by its body's derivation and its reading -/
theorem fnA {P : Program} {w : World} {K : Frg} {mg : Str → Option Value} {base : Heap} {x qual : Str} {params : Arguments} {body : List Stmt} {scope : Scope} {dvs : List V} {kws : List (Str × V)} {f : Addr} {fd : FuncData} {N ps : List Str} {k : Nat} {sp : ASp} {t : ATS}
    (F : FunD K x qual params body scope dvs kws f fd) (S : FnScope N ps scope)
    (walk : ∀ (X : Cx), X.prog = P → X.w = w → (∃ (cdv : Value) (A : Around) (outer : List Env) (s : Shared) (H : Hp) (E : XK), X = cxOf (L2.CX P w) P w K mg base N qual scope f cdv A outer s H E) → Room k X.A → PassesOwn (model X.prog X.w) X.A X.env X.xe → ASs X body t)
    (len : ∀ as h Q E, sp as h Q E → as.length = ps.length)
    (read : ∀ as h Q E, sp as h Q E → t { nx := fun _ h' => Q .non h', rt := Q, ex := fun c _ h' => E c h' } (startA N as) h) : AFn P w K mg base (k + 1) f fd ps sp := by
  refine F.ok S (fun vs H Q E ⟨as, h, QA, EA, r, _, hs, _⟩ => by rw [← r.len]; exact len _ _ _ _ hs) fun cdv A outer s H vs Q E hr ⟨as, h, QA, EA, r, rh, hs, kQ, kE⟩ => ?_
  refine ⟨lowS _ t, (walk _ rfl rfl ⟨cdv, A, outer, s, H, E, rfl⟩ hr (passes_of rfl)).pss, startA N as, h, _, rel_start r, rh, ?_, read as h QA EA hs, ⟨fun σ' H' ⟨α', h', m, rs', rh', q⟩ => kQ _ _ ⟨.non, h', m, .non, rh', q⟩, kQ, fun _ _ ⟨_, _, _, _, _, q⟩ => q.elim, fun _ _ ⟨_, _, _, _, _, q⟩ => q.elim⟩⟩
  refine ⟨H, Mono.refl H, Takes.imp (takes_of rfl rfl rfl rfl) fun cls d σ H' ⟨ed, m, α', h', rs', rh', q⟩ => kE _ _ _ ⟨ed, h', m, rh', q⟩⟩
section
variable {X : Cx} {k : Nat} {f C : Addr} {fd : FuncData} {ps : List Str} {sp : ASp} {dvs : List V} {ds : List Value} {das : List A} {x m : Str} {p pos apos : Pos} {e o : Expr} {es : List Expr} {ta : ATE} {t : ATA}
theorem runA {pins : List (Addr × Obj)} {σ : L2.St} {H : Hp} {s : Shared} {α : ASt} {h : AH} {Q : AVK} {E : AXK} {us : List Value} {vs : List V} {as : List A} (F : AFn X.prog X.w X.K X.mg X.base k f fd ps sp) (hr : Room k X.A) (hb : Binds X.K fd ps ds) (hd : Vals dvs ds) (hda : ∀ H, RelAs X.K H das dvs)
    (I : Inv X pins σ H s) (rs : RelS X.K H α σ) (rh : RelH X.K H h) (tk : TakesE X H α E) (r : Vals vs us) (ra : RelAs X.K H as vs) (q : sp (as ++ das) h Q E) : wpAny (model X.prog X.w) X.A (call (.ref f) us) (EP X pins σ (LQ X.K H Q)) X.xe s := by
  have hsp : lowSp X.K sp (vs ++ dvs) H (LQ X.K H Q) (LX X.K H E) := ⟨as ++ das, h, Q, E, ra.app (hda H), rh, q, fun _ _ z => z, fun _ _ _ z => z⟩
  have r2 : Vals (vs ++ dvs) (us ++ ds) := r.append hd
  have hl : (us ++ ds).length = ps.length := by rw [← r2.length]; exact F.len _ _ _ _ hsp
  refine wpAny_call (codeAny_mono (F.run X.A X.stack s H ⟨us, []⟩ (us ++ ds) (vs ++ dvs) _ _ hr I.env0 (hb s us I.kIn hl) r2 hsp) fun r s' hq => ?_)
  cases r with
  | error e =>
    obtain ⟨Hb, mb, tk⟩ := tk
    exact tk e s' (XE.of_call I (fun cls d H' ⟨ed, h', m, rh', q⟩ => ⟨ed, mb.trans m, rs.up m, h', rh', q⟩) hq)
  | ok fl =>
    cases fl with
    | ret u => exact I.after hq
    | next => exact False.elim hq
    | brk => exact False.elim hq
    | cont => exact False.elim hq
def aCall (sp : ASp) (das : List A) (t : ATA) : ATE := fun α h Q E => t α h (fun vs h1 => sp (vs ++ das) h1 Q E) E
theorem ae_call (F : AFn X.prog X.w X.K X.mg X.base k f fd ps sp) (hr : Room k X.A) (hg : Gl X x) (hm : X.mg x = some (.ref f)) (hk : PySem.W.keepIn X.K (.ref f) = true) (hb : Binds X.K fd ps ds) (hd : Vals dvs ds) (hda : ∀ H, RelAs X.K H das dvs)
    (ha : AAs X (e :: es) t) (hdb : (x == ("__debug__" : Str)) = false := by decide) (he : starEach (e :: es) X.env = (false, eval e X.env) :: starEach es X.env := by rfl) (hpl : (backTo pos (starEach es X.env)).any (·.1) = false := by rfl) :
    AE X (.Call (.Name x p) (e :: es) [] pos) (aCall sp das t) := by
  refine ⟨fun pins s σ H α h Q E I rs rh tk ht => ?_⟩
  refine wpAny_Call_Name_kw (ld_glob I hg hm ?_ hdb)
  refine PySem.W.callWith_K (h₀ := X.base) I.ok.mod.kin hk (thn (ha.run pos pins s σ H α h _ E I rs rh tk ht) fun us s1 ⟨vs, H1, I1, r, as, h1, m1, ras, rh1, q⟩ => ⟨I1.kIn, ?_⟩) he hpl
  exact thn (runA F hr hb hd hda I1 (rs.up m1) rh1 (tk.up m1) r ras q) fun u s2 ⟨v, H2, I2, r2, q2⟩ => ⟨v, H2, I2, r2, q2.up m1⟩
theorem ae_call0 (F : AFn X.prog X.w X.K X.mg X.base k f fd ps sp) (hr : Room k X.A) (hg : Gl X x) (hm : X.mg x = some (.ref f)) (hk : PySem.W.keepIn X.K (.ref f) = true) (hb : Binds X.K fd ps ds) (hd : Vals dvs ds) (hda : ∀ H, RelAs X.K H das dvs)
    (hdb : (x == ("__debug__" : Str)) = false := by decide) : AE X (.Call (.Name x p) [] [] pos) (aCall sp das aNil) := by
  refine ⟨fun pins s σ H α h Q E I rs rh tk ht => ?_⟩
  refine wpAny_Call_Name_kw (ld_glob I hg hm ?_ hdb)
  exact PySem.W.callWith_K0 I.kIn hk (runA (us := []) (vs := []) (as := []) F hr hb hd hda I rs rh tk .nil .nil ht)
/-- o.m(..) of an own instance of the class at C -/
def aMeth (C : Addr) (m : Str) (sp : ASp) (das : List A) (ta : ATE) (t : ATA) : ATE := fun α h Q E => ta α h (fun x h1 => match x with
  | .ref p => ∃ fs, h1 p = some (.ins C fs) ∧ fs.lookup m = none ∧ t α h1 (fun vs h2 => sp (.ref p :: (vs ++ das)) h2 Q E) E
  | _ => False) E
theorem ae_meth {pl : Sem Bool} (he : AE X o ta) (c : Cls X.K C) (hm : Meth X.K C m f) (F : AFn X.prog X.w X.K X.mg X.base k f fd ps sp) (hr : Room k X.A) (hb : Binds X.K fd ps ds) (hd : Vals dvs ds) (hda : ∀ H, RelAs X.K H das dvs) (ha : AAs X (e :: es) t)
    (hst : starEach (e :: es) X.env = (false, eval e X.env) :: starEach es X.env := by rfl) (hpl : (backTo pos (starEach es X.env)).any (·.1) = false := by rfl)
    (ht : eval (.Call (.Attribute o m apos) (e :: es) [] pos) X.env = (do
      let ov ← eval o X.env
      standAt apos.atName
      let (f, first) ← holding [ov] (getMethod ov m pl)
      callWith pos f first (backTo pos (starEach (e :: es) X.env)) (backToKw pos (keywordEach [] X.env))) := by rfl) :
    AE X (.Call (.Attribute o m apos) (e :: es) [] pos) (aMeth C m sp das ta t) := by
  refine ⟨fun pins s σ H α h Q E I rs rh tk hh => ?_⟩
  refine PySem.W.methodCall_KW (pl := pl) (thn (he.run pins s σ H α h _ E I rs rh tk hh) fun u s1 ⟨x, H1, I1, rx, a, h1, m1, ra, rh1, q⟩ => ?_) ht
  cases ra with
  | ref a =>
    obtain ⟨fs, ea, l, q⟩ := (show ∃ fs, h1 a = some (.ins C fs) ∧ fs.lookup m = none ∧ t α h1 (fun vs h2 => sp (.ref a :: (vs ++ das)) h2 Q E) E from q)
    obtain ⟨dx, vs0, f1, rk⟩ := rh1.ins ea
    obtain rfl : u = Value.ref a := rx
    refine getmeth_ok I1 f1 c hm (rk.lookN l) ?_
    refine PySem.W.callWith_K (first := [.ref a]) (h₀ := X.base) I.ok.mod.kin hm.kp (thn (ha.run pos pins s1 σ H1 α h1 _ E I1 (rs.up m1) rh1 (tk.up m1) q) fun us s2 ⟨vs, H2, I2, r, as, h2, m2, ras, rh2, q2⟩ => ⟨I2.kIn, ?_⟩) hst hpl
    exact thn (runA (us := .ref a :: us) (vs := .ref a :: vs) (as := .ref a :: as) F hr hb hd hda I2 ((rs.up m1).up m2) rh2 ((tk.up m1).up m2) (.cons rfl r) (.cons (.ref a) ras) q2) fun u s3 ⟨v, H3, I3, r3, q3⟩ => ⟨v, H3, I3, r3, q3.up (m1.trans m2)⟩
  | _ => exact (show False from q).elim
theorem ae_meth0 {pl : Sem Bool} (he : AE X o ta) (c : Cls X.K C) (hm : Meth X.K C m f) (F : AFn X.prog X.w X.K X.mg X.base k f fd ps sp) (hr : Room k X.A) (hb : Binds X.K fd ps ds) (hd : Vals dvs ds) (hda : ∀ H, RelAs X.K H das dvs)
    (ht : eval (.Call (.Attribute o m apos) [] [] pos) X.env = (do
      let ov ← eval o X.env
      standAt apos.atName
      let (f, first) ← holding [ov] (getMethod ov m pl)
      callWith pos f first (backTo pos (starEach [] X.env)) (backToKw pos (keywordEach [] X.env))) := by rfl) :
    AE X (.Call (.Attribute o m apos) [] [] pos) (aMeth C m sp das ta aNil) := by
  refine ⟨fun pins s σ H α h Q E I rs rh tk hh => ?_⟩
  refine PySem.W.methodCall_KW (pl := pl) (thn (he.run pins s σ H α h _ E I rs rh tk hh) fun u s1 ⟨x, H1, I1, rx, a, h1, m1, ra, rh1, q⟩ => ?_) ht
  cases ra with
  | ref a =>
    obtain ⟨fs, ea, l, q⟩ := (show ∃ fs, h1 a = some (.ins C fs) ∧ fs.lookup m = none ∧ sp (.ref a :: ([] ++ das)) h1 Q E from q)
    obtain ⟨dx, vs0, f1, rk⟩ := rh1.ins ea
    obtain rfl : u = Value.ref a := rx
    refine getmeth_ok I1 f1 c hm (rk.lookN l) ?_
    exact PySem.W.callWith_K0 (first := [.ref a]) I1.kIn hm.kp (thn (runA (us := [.ref a]) (vs := [.ref a]) (as := [.ref a]) F hr hb hd hda I1 (rs.up m1) rh1 (tk.up m1) (.cons rfl .nil) (.one (.ref a)) q) fun u s3 ⟨v, H3, I3, r3, q3⟩ => ⟨v, H3, I3, r3, q3.up m1⟩)
  | _ => exact (show False from q).elim
/-- C(..) with an own __init__ -/
def aMake (C : Addr) (sp : ASp) (das : List A) (t : ATA) : ATE := fun α h Q E => t α h (fun vs h1 => ∀ x, h1 x = none → sp (.ref x :: (vs ++ das)) (updA h1 x (.ins C [])) (fun v h2 => match v with
  | .non => Q (.ref x) h2
  | _ => False) E) E
theorem make_runA {pins : List (Addr × Obj)} {σ : L2.St} {H : Hp} {s : Shared} {α : ASt} {h : AH} {Q : AVK} {E : AXK} {us : List Value} {vs : List V} {as : List A} (M : Mk X.K C f) (F : AFn X.prog X.w X.K X.mg X.base k f fd ps sp) (hr : Room (k + 1) X.A) (hb : Binds X.K fd ps ds) (hd : Vals dvs ds) (hda : ∀ H, RelAs X.K H das dvs)
    (I : Inv X pins σ H s) (rs : RelS X.K H α σ) (rh : RelH X.K H h) (tk : TakesE X H α E) (r : Vals vs us) (ra : RelAs X.K H as vs)
    (q : ∀ x, h x = none → sp (.ref x :: (as ++ das)) (updA h x (.ins C [])) (fun v h2 => match v with
      | .non => Q (.ref x) h2
      | _ => False) E) : wpAny (model X.prog X.w) X.A (call (.ref C) us) (EP X pins σ (LQ X.K H Q)) X.xe s := by
  have f1 : H (s.heap.objs.size + 1) = none := I.hok.fresh (Nat.le_succ _)
  have f2 : H s.heap.objs.size = none := I.hok.fresh (Nat.le_refl _)
  have ne : s.heap.objs.size ≠ s.heap.objs.size + 1 := Nat.ne_of_lt (Nat.lt_succ_self _)
  have I2 := Inv.made (C := C) I
  have f3 : (upd H s.heap.objs.size (.own (s.heap.objs.size + 1))) (s.heap.objs.size + 1) = none := by rw [upd_ne (Ne.symm ne)]; exact f1
  have m2 : Mono H (upd (upd H s.heap.objs.size (.own (s.heap.objs.size + 1))) (s.heap.objs.size + 1) (.ins C s.heap.objs.size [])) := (Mono.new f2).trans (Mono.new f3)
  have rh2 : RelH X.K (upd (upd H s.heap.objs.size (.own (s.heap.objs.size + 1))) (s.heap.objs.size + 1) (.ins C s.heap.objs.size [])) (updA h (s.heap.objs.size + 1) (.ins C [])) := (rh.skip f2).new f3 (.ins .nil)
  have hsp : lowSp X.K sp (V.ref (s.heap.objs.size + 1) :: (vs ++ dvs)) _ (LQ X.K _ _) (LX X.K _ E) := ⟨A.ref (s.heap.objs.size + 1) :: (as ++ das), _, _, E, .cons (.ref _) ((ra.up m2).app (hda _)), rh2, q (s.heap.objs.size + 1) (rh.free f1), fun _ _ z => z, fun _ _ _ z => z⟩
  have r2 : Vals (V.ref (s.heap.objs.size + 1) :: (vs ++ dvs)) (Value.ref (s.heap.objs.size + 1) :: (us ++ ds)) := .cons rfl (r.append hd)
  have hl : (Value.ref (s.heap.objs.size + 1) :: us ++ ds).length = ps.length := by
    have e := r2.length
    rw [F.len _ _ _ _ hsp] at e
    exact e.symm
  refine wpAny_call (make_map (f := f) I.kIn M.makes M.init (beq_iff_eq.mp M.fn) (codeAny_mono (F.run _ X.stack _ _ ⟨Value.ref (s.heap.objs.size + 1) :: us, []⟩ (Value.ref (s.heap.objs.size + 1) :: (us ++ ds)) _ _ _ (hr.make C us [])
    (I2.env0.make C us []) (hb _ (Value.ref (s.heap.objs.size + 1) :: us) I2.kIn hl) r2 hsp) fun r s' hq' => ?_))
  cases r with
  | error e =>
    obtain ⟨Hb, mb, tk⟩ := tk
    exact tk e s' (XE.of_call I2 (fun cls d H' ⟨ed, h', m, rh', q⟩ => ⟨ed, (mb.trans m2).trans m, (rs.up m2).up m, h', rh', q⟩) hq')
  | ok fl =>
    cases fl with
    | ret u =>
      obtain ⟨v, H', I3, rv, a, h', m3, ra3, rh3, q3⟩ := I2.after hq'
      cases ra3 with
      | non => exact ⟨rv, ⟨V.ref (s.heap.objs.size + 1), H', I3, rfl, .ref _, h', m2.trans m3, .ref _, rh3, q3⟩⟩
      | _ => exact (show False from q3).elim
    | next => exact False.elim hq'
    | brk => exact False.elim hq'
    | cont => exact False.elim hq'
theorem ae_make (M : Mk X.K C f) (F : AFn X.prog X.w X.K X.mg X.base k f fd ps sp) (hr : Room (k + 1) X.A) (hg : Gl X x) (hm : X.mg x = some (.ref C)) (hb : Binds X.K fd ps ds) (hd : Vals dvs ds) (hda : ∀ H, RelAs X.K H das dvs)
    (ha : AAs X (e :: es) t) (hdb : (x == ("__debug__" : Str)) = false := by decide) (he : starEach (e :: es) X.env = (false, eval e X.env) :: starEach es X.env := by rfl) (hpl : (backTo pos (starEach es X.env)).any (·.1) = false := by rfl) :
    AE X (.Call (.Name x p) (e :: es) [] pos) (aMake C sp das t) := by
  refine ⟨fun pins s σ H α h Q E I rs rh tk ht => ?_⟩
  refine wpAny_Call_Name_kw (ld_glob I hg hm ?_ hdb)
  refine PySem.W.callWith_K (h₀ := X.base) I.ok.mod.kin M.kp (thn (ha.run pos pins s σ H α h _ E I rs rh tk ht) fun us s1 ⟨vs, H1, I1, r, as, h1, m1, ras, rh1, q⟩ => ⟨I1.kIn, ?_⟩) he hpl
  exact thn (make_runA M F hr hb hd hda I1 (rs.up m1) rh1 (tk.up m1) r ras q) fun u s2 ⟨v, H2, I2, r2, q2⟩ => ⟨v, H2, I2, r2, q2.up m1⟩
theorem ae_make0 (M : Mk X.K C f) (F : AFn X.prog X.w X.K X.mg X.base k f fd ps sp) (hr : Room (k + 1) X.A) (hg : Gl X x) (hm : X.mg x = some (.ref C)) (hb : Binds X.K fd ps ds) (hd : Vals dvs ds) (hda : ∀ H, RelAs X.K H das dvs)
    (hdb : (x == ("__debug__" : Str)) = false := by decide) : AE X (.Call (.Name x p) [] [] pos) (aMake C sp das aNil) := by
  refine ⟨fun pins s σ H α h Q E I rs rh tk ht => ?_⟩
  refine wpAny_Call_Name_kw (ld_glob I hg hm ?_ hdb)
  exact PySem.W.callWith_K0 I.kIn M.kp (make_runA (us := []) (vs := []) (as := []) M F hr hb hd hda I rs rh tk .nil .nil ht)
end
end G
namespace G
open PySem PySem.Spec L2

/-! ### built-in functions and types, called -/
/-- the items of a list or a tuple -/
def seqA (x : A) (h : AH) (R : List A → Prop) : Prop := match x with
  | .ref p => ∃ xs, LstA h p xs ∧ R xs
  | .fls xs => R xs
  | x => asT x R
theorem seqA_inv {K : Frg} {H : Hp} {h : AH} {x : A} {v : V} {R : List A → Prop} (rh : RelH K H h) (r : RelA K H x v) (q : seqA x h R) : ∃ p vs xs, v = .ref p ∧ (SqL K H p vs ∨ SqT K H p vs) ∧ RelAs K H xs vs ∧ R xs := by
  cases r with
  | ref p =>
    obtain ⟨xs, e, q⟩ := (show ∃ xs, LstA h p xs ∧ R xs from q)
    obtain ⟨vs, e', rv⟩ := rh.rd e
    exact ⟨p, vs, xs, rfl, .inl e', rv, q⟩
  | @tup p xs vs e r => exact ⟨p, vs, xs, rfl, .inr e.sq, r, q⟩
  | @fls p xs vs e r => exact ⟨p, vs, xs, rfl, .inl e.sq, r, q⟩
  | @kt p ks e => exact ⟨p, _, _, rfl, .inr (SqT.of e), rel_keysV ks, q⟩
  | _ => exact (show False from q).elim
def one (R : A → AH → AVK → Prop) : ARs := fun as h Q => match as with
  | [x] => R x h Q
  | _ => False
theorem one_inv {K : Frg} {H : Hp} {h : AH} {as : List A} {vs : List V} {Q : AVK} {R : A → AH → AVK → Prop} (r : RelAs K H as vs) (q : one R as h Q) : ∃ x v, vs = [v] ∧ RelA K H x v ∧ R x h Q := by
  cases r with
  | nil => exact q.elim
  | cons r t => cases t with
    | nil => exact ⟨_, _, rfl, r, q⟩
    | cons _ _ => exact (show False from q).elim
def two (R : A → A → AH → AVK → Prop) : ARs := fun as h Q => match as with
  | [x, y] => R x y h Q
  | _ => False
theorem two_inv {K : Frg} {H : Hp} {h : AH} {as : List A} {vs : List V} {Q : AVK} {R : A → A → AH → AVK → Prop} (r : RelAs K H as vs) (q : two R as h Q) : ∃ x y v w, vs = [v, w] ∧ RelA K H x v ∧ RelA K H y w ∧ R x y h Q := by
  cases r with
  | nil => exact q.elim
  | cons r t => cases t with
    | nil => exact (show False from q).elim
    | cons r2 t => cases t with
      | nil => exact ⟨_, _, _, _, rfl, r, r2, q⟩
      | cons _ _ => exact (show False from q).elim
section
variable {K : Frg}
abbrev lenA : ARs := one fun x h Q => seqA x h fun xs => Q (.int xs.length) h
theorem o_len : OpN K (fun xs H Q => ∃ p ys, xs = [.ref p] ∧ (SqL K H p ys ∨ SqT K H p ys) ∧ Q (.int ys.length) H) lenA := fun H h vs as Q Qv r rh k q => by
  obtain ⟨x, v, rfl, rx, q⟩ := one_inv r q
  obtain ⟨p, vs, xs, rfl, e, rv, q⟩ := seqA_inv rh rx q
  exact ⟨p, vs, rfl, e, k _ _ ⟨_, h, Mono.refl H, .int _, rh, by rw [← rv.len]; exact q⟩⟩
def absA : ARs := one fun x h Q => match x with
  | .int i => Q (.int (if i < 0 then -i else i)) h
  | _ => False
theorem o_abs : OpN K (fun xs H Q => ∃ i, xs = [.int i] ∧ Q (.int (if i < 0 then -i else i)) H) absA := fun H h vs as Q Qv r rh k q => by
  obtain ⟨x, v, rfl, rx, q⟩ := one_inv r q
  cases rx with
  | int i => exact ⟨i, rfl, k _ _ ⟨_, h, Mono.refl H, .int _, rh, q⟩⟩
  | _ => exact (show False from q).elim
/-- int(x) of an int or a truth -/
def intA : ARs := one fun x h Q => match x with
  | .int i => Q (.int i) h
  | .bl b => Q (.int (if b then 1 else 0)) h
  | _ => False
theorem o_int : OpN K (fun xs H Q => (∃ i, xs = [.int i] ∧ Q (.int i) H) ∨ ∃ k, xs = [.bl k] ∧ Q (.int (if k then 1 else 0)) H) intA := fun H h vs as Q Qv r rh k q => by
  obtain ⟨x, v, rfl, rx, q⟩ := one_inv r q
  cases rx with
  | int i => exact .inl ⟨i, rfl, k _ _ ⟨_, h, Mono.refl H, .int _, rh, q⟩⟩
  | bl b => exact .inr ⟨b, rfl, k _ _ ⟨_, h, Mono.refl H, .int _, rh, q⟩⟩
  | _ => exact (show False from q).elim
/-- all(xs) of a list of truths -/
def blsA (as : List A) : List A := as
theorem rel_bls {H : Hp} : ∀ {bs : List Bool} {vs : List V}, RelAs K H (bs.map A.bl) vs → vs = bs.map V.bl
  | [], _, .nil => rfl
  | b :: bs, _, .cons r t => by cases r; rw [List.map_cons, rel_bls t]
theorem rel_ints {H : Hp} : ∀ {bs : List Int} {vs : List V}, RelAs K H (bs.map A.int) vs → vs = bs.map V.int
  | [], _, .nil => rfl
  | b :: bs, _, .cons r t => by cases r; rw [List.map_cons, rel_ints t]
def allA : ARs := one fun x h Q => match x with
  | .ref p => ∃ bs : List Bool, LstA h p (bs.map A.bl) ∧ Q (.bl (bs.all id)) h
  | _ => False
theorem o_all : OpN K (rAll K) allA := fun H h vs as Q Qv r rh k q => by
  obtain ⟨x, v, rfl, rx, q⟩ := one_inv r q
  cases rx with
  | ref p =>
    obtain ⟨bs, e, q⟩ := (show ∃ bs : List Bool, LstA h p (bs.map A.bl) ∧ Q (.bl (bs.all id)) h from q)
    obtain ⟨vs, e', rv⟩ := rh.rd e
    have ev := rel_bls rv
    subst ev
    exact ⟨p, bs, rfl, e', k _ _ ⟨_, h, Mono.refl H, .bl _, rh, q⟩⟩
  | _ => exact (show False from q).elim
/-- list(x), tuple(x) of a list or a tuple -/
abbrev listA : ARs := one fun x h Q => seqA x h fun xs => ∀ p, h p = none → Q (.ref p) (updA h p (.lst xs))
theorem o_list : OpN K (fun xs H Q => ∃ p ys, xs = [.ref p] ∧ (SqL K H p ys ∨ SqT K H p ys) ∧ ∀ l, H l = none → Q (.ref l) (upd H l (.lst ys))) listA := fun H h vs as Q Qv r rh k q => by
  obtain ⟨x, v, rfl, rx, q⟩ := one_inv r q
  obtain ⟨p, vs, xs, rfl, e, rv, q⟩ := seqA_inv rh rx q
  exact ⟨p, vs, rfl, e, fun l hl => k _ _ ⟨.ref l, _, Mono.new hl, .ref l, rh.new hl (.lst rv), q l (rh.free hl)⟩⟩
def tupleA : ARs := one fun x h Q => match x with
  | .ref p => ∃ xs, LstA h p xs ∧ Q (.tup xs) h
  | .tup xs => Q (.tup xs) h
  | .kt ks => Q (.kt ks) h
  | _ => False
theorem o_tuple : OpN K (fun xs H Q => ∃ p ys, xs = [.ref p] ∧ ((SqL K H p ys ∧ ∀ l, H l = none → Q (.ref l) (upd H l (.tup ys))) ∨ (SqT K H p ys ∧ Q (.ref p) H))) tupleA := fun H h vs as Q Qv r rh k q => by
  obtain ⟨x, v, rfl, rx, q⟩ := one_inv r q
  cases rx with
  | ref p =>
    obtain ⟨xs, e, q⟩ := (show ∃ xs, LstA h p xs ∧ Q (.tup xs) h from q)
    obtain ⟨vs, e', rv⟩ := rh.rd e
    exact ⟨p, vs, rfl, .inl ⟨e', fun l hl => k _ _ ⟨_, h, Mono.new hl, .tup (.of upd_same) (rv.up (Mono.new hl)), rh.skip hl, q⟩⟩⟩
  | @tup p xs vs e rv => exact ⟨p, vs, rfl, .inr ⟨e.sq, k _ _ ⟨_, h, Mono.refl H, .tup e rv, rh, q⟩⟩⟩
  | @kt p ks e => exact ⟨p, _, rfl, .inr ⟨SqT.of e, k _ _ ⟨_, h, Mono.refl H, .kt e, rh, q⟩⟩⟩
  | _ => exact (show False from q).elim

/-! ### isinstance -/
/-- an own class whose instances isinstance asks rightly -/
def InsCls (K : Frg) (C : Addr) : Prop := Cls K C ∧ PySem.W.findIn K (.ref C) "__class__" = some (some (.builtin "object.__class__")) ∧
  PySem.W.specialIn K (.builtin "object.__class__") "__get__" = some (some (.builtin "getset_descriptor.__get__")) ∧ PySem.W.takesIn K (.builtin "object.__class__") = some true ∧ PySem.W.mroIn K C (.type "object") = some true
def tyU (K : Frg) (x : A) (h : AH) (t : Value) : Prop := match x with
  | .non => t = .type "NoneType"
  | .bl _ => t = .type "bool"
  | .int _ => t = .type "int"
  | .str _ => t = .type "str"
  | .tup _ => t = .type "tuple"
  | .kt _ => t = .type "tuple"
  | .ref p => ((∃ xs, LstA h p xs) ∧ t = .type "list") ∨ (((∃ xs, h p = some (.dK xs)) ∨ ∃ xs, h p = some (.dT xs)) ∧ t = .type "dict") ∨ ∃ C fs, h p = some (.ins C fs) ∧ InsCls K C ∧ t = .ref C
  | .ty _ => False
  | .fls _ => False
theorem tyU_rel {H : Hp} {h : AH} {x : A} {v : V} {t : Value} (rh : RelH K H h) (r : RelA K H x v) (q : tyU K x h t) : TyX K H v t := by
  cases r with
  | non => cases (show t = _ from q); exact .base .non
  | bl b => cases (show t = _ from q); exact .base (.bl b)
  | int i => cases (show t = _ from q); exact .base (.int i)
  | str z => cases (show t = _ from q); exact .base (.str z)
  | kt e => cases (show t = _ from q); exact .base (.tup e)
  | tup e _ =>
    cases (show t = _ from q)
    rcases e with e | ⟨o, its, n, lk, c, _⟩
    · exact .base (.tup e)
    · exact .kTuple lk c
  | ty _ => exact (show False from q).elim
  | fls _ _ => exact (show False from q).elim
  | ref p =>
    rcases q with ⟨⟨xs, e⟩, rfl⟩ | ⟨e, rfl⟩ | ⟨C, fs, e, c, rfl⟩
    · obtain ⟨vs, e', _⟩ := rh.lst e
      exact .base (.lst e')
    · rcases e with ⟨xs, e⟩ | ⟨xs, e⟩
      · obtain ⟨u, e', ro⟩ := rh p _ e
        cases ro
        exact .base (.dK e')
      · obtain ⟨u, e', ro⟩ := rh p _ e
        cases ro
        exact .base (.dT e')
    · obtain ⟨dx, vs, e', _⟩ := rh.ins e
      exact .base (.ins e' c.1 c.2.1 c.2.2.1 c.2.2.2.1 c.2.2.2.2)
/-- a class as a value -/
def clsU : A → Value
  | .ty n => .type n
  | .ref C => .ref C
  | _ => .none
def isCls : A → Bool
  | .ty _ => true
  | .ref _ => true
  | _ => false
theorem cls_rel {H : Hp} {c : A} {v : V} (r : RelA K H c v) (e : isCls c = true) : ClsV v (clsU c) := by
  cases r <;> first | exact .ty _ | exact .own _ | (simp [isCls] at e)
theorem clss_rel {H : Hp} : ∀ {cs : List A} {vs : List V}, RelAs K H cs vs → cs.all isCls = true → Paired ClsV vs (cs.map clsU)
  | _, _, .nil, _ => .nil
  | _, _, .cons r t, e => by
    rw [List.all_cons, Bool.and_eq_true] at e
    exact .cons (cls_rel r e.1) (clss_rel t e.2)
def isiA (K : Frg) : ARs := two fun x c h Q => match c with
  | .tup cs => cs.all isCls = true ∧ ∃ t b, tyU K x h t ∧ PySem.W.kitAny K t (cs.map clsU) = some b ∧ Q (.bl b) h
  | c => isCls c = true ∧ ∃ t b, tyU K x h t ∧ PySem.W.kitOne K t (clsU c) = some b ∧ Q (.bl b) h
def rIsiAll (K : Frg) : List V → Hp → VK → Prop := fun xs H Q => rIsi K xs H Q ∨ rIsiT K xs H Q ∨ rIsiK K xs H Q
theorem callr_isi {X : Cx} : CallR X (.builtin "isinstance") (rIsiAll X.K) := call_isi.or (call_isiT.or call_isiK)
theorem vals_cls {cs : List V} {us us' : List Value} (k : Paired ClsV cs us) (r : Vals cs us') : us' = us := ClsV.all k r
theorem o_isi : OpN K (rIsiAll K) (isiA K) := fun H h vs as Q Qv r rh k q => by
  obtain ⟨x, c, v, w, rfl, rx, rc, q⟩ := two_inv r q
  have gen : (isCls c = true ∧ ∃ t b, tyU K x h t ∧ PySem.W.kitOne K t (clsU c) = some b ∧ Q (.bl b) h) → rIsiAll K [v, w] H Qv := fun ⟨e, t, b, ty, kt, q⟩ =>
    .inl ⟨v, w, t, clsU c, b, rfl, cls_rel rc e, tyU_rel rh rx ty, kt, k _ _ ⟨_, h, Mono.refl H, .bl _, rh, q⟩⟩
  cases rc with
  | @tup p xs vs e rv =>
    obtain ⟨ec, t, b, ty, kt, q⟩ := (show xs.all isCls = true ∧ ∃ t b, tyU K x h t ∧ PySem.W.kitAny K t (xs.map clsU) = some b ∧ Q (.bl b) h from q)
    rcases e with e | ⟨o, its, n, lk, c, hd, hz, rvv⟩
    · exact .inr (.inl ⟨v, p, vs, t, _, b, rfl, e, clss_rel rv ec, tyU_rel rh rx ty, kt, k _ _ ⟨_, h, Mono.refl H, .bl _, rh, q⟩⟩)
    · have eu : its.toList = xs.map clsU := vals_cls (clss_rel rv ec) rvv
      obtain ⟨oc, od, oda, osl⟩ := o
      dsimp only at c hd
      subst c hd
      refine .inr (.inr ⟨v, p, od, xs.map clsU, n, osl, t, b, rfl, ?_, tyU_rel rh rx ty, kt, k _ _ ⟨_, h, Mono.refl H, .bl _, rh, q⟩⟩)
      rw [← eu]
      exact lk
  | _ => exact gen q
end

/-! ### slices -/
abbrev ATO := ASt → AH → (Option Int → AH → Prop) → AXK → Prop
def lowO (X : Cx) (t : ATO) : TO := fun σ H Qv => ∃ α h Q E, RelS X.K H α σ ∧ RelH X.K H h ∧ TakesE X H α E ∧ t α h Q E ∧ ∀ o H' h', Mono H H' → RelH X.K H' h' → Q o h' → Qv o H'
structure AOp (X : Cx) (e : Option Expr) (t : ATO) : Prop where
  po : PO X e (lowO X t)
theorem poImp {X : Cx} {e : Option Expr} {t t' : TO} (h : PO X e t) (k : ∀ σ H Q, t' σ H Q → t σ H Q) : PO X e t' := ⟨fun pins s σ H Q I q => h.run pins s σ H Q I (k _ _ _ q)⟩
def aNoPart : ATO := fun _ h Q _ => Q none h
def aPart (t : ATE) : ATO := fun α h Q E => t α h (fun x h1 => match x with
  | .int i => Q (some i) h1
  | _ => False) E
section
variable {X : Cx} {e lo hi : Expr} {pos p2 : Pos} {te : ATE} {tl th : ATO}
theorem ao_none : AOp X none aNoPart := ⟨poImp po_none fun σ H Q ⟨α, h, q, E, rs, rh, tk, ht, k⟩ => k _ H h (Mono.refl H) rh ht⟩
theorem ao_some (h : AE X e te) : AOp X (some e) (aPart te) := ⟨poImp (po_some h.pe) fun σ H Q ⟨α, h, q, E, rs, rh, tk, ht, k⟩ => low.then (H0 := H) rs rh tk ht fun v H1 x h1 m1 r1 rh1 rs1 q1 => by
  cases r1 with
  | int i => exact ⟨i, rfl, k _ _ h1 m1 rh1 q1⟩
  | _ => exact (show False from q1).elim⟩
def cutA (xs : List A) (lo hi : Option Int) : List A := (xs.drop (HT.sIx xs.length 0 lo)).take (HT.sIx xs.length xs.length hi - HT.sIx xs.length 0 lo)
theorem cut_rel {K : Frg} {H : Hp} {xs : List A} {vs : List V} (r : RelAs K H xs vs) (lo hi : Option Int) : RelAs K H (cutA xs lo hi) (cutV vs lo hi) := by
  unfold cutA cutV
  rw [r.len]
  exact (r.drop _).take _
def aSlL (te : ATE) (tl th : ATO) : ATE := fun α h Q E => te α h (fun x h1 => match x with
  | .ref p => tl α h1 (fun l h2 => th α h2 (fun u h3 => ∃ xs, LstA h3 p xs ∧ ∀ r, h3 r = none → Q (.ref r) (updA h3 r (.lst (cutA xs l u)))) E) E
  | .fls xs => tl α h1 (fun l h2 => th α h2 (fun u h3 => ∀ r, h3 r = none → Q (.ref r) (updA h3 r (.lst (cutA xs l u)))) E) E
  | _ => False) E
theorem ae_slL {lo hi : Option Expr} (he : AE X e te) (hl : AOp X lo tl) (hh : AOp X hi th) : AE X (.Subscript e (.Slice lo hi none p2) pos) (aSlL te tl th) :=
  .of (pe_slice sl_list he.pe hl.po hh.po) fun σ H Q ⟨α, h, q, E, rs, rh, tk, ht, k⟩ => low.then (H0 := H) rs rh tk ht fun v H1 x h1 m1 r1 rh1 rs1 q1 => by
    cases r1 with
    | ref p =>
      refine ⟨α, h1, _, E, rs1, rh1, tk.up m1, q1, fun l H2 h2 m2 rh2 q2 => ⟨α, h2, _, E, rs1.up m2, rh2, (tk.up m1).up m2, q2, fun u H3 h3 m3 rh3 q3 => ?_⟩⟩
      obtain ⟨xs, e, q⟩ := q3
      obtain ⟨vs, e', rv⟩ := rh3.rd e
      exact ⟨p, vs, rfl, e', fun r hr => k _ _ ⟨.ref r, _, ((m1.trans m2).trans m3).trans (Mono.new hr), .ref r, rh3.new hr (.lst (cut_rel rv l u)), q r (rh3.free hr)⟩⟩
    | @fls p xs vs eF rv =>
      refine ⟨α, h1, _, E, rs1, rh1, tk.up m1, q1, fun l H2 h2 m2 rh2 q2 => ⟨α, h2, _, E, rs1.up m2, rh2, (tk.up m1).up m2, q2, fun u H3 h3 m3 rh3 q3 => ?_⟩⟩
      exact ⟨p, vs, rfl, (eF.mono (m2.trans m3)).sq, fun r hr => k _ _ ⟨.ref r, _, ((m1.trans m2).trans m3).trans (Mono.new hr), .ref r, rh3.new hr (.lst (cut_rel (rv.up (m2.trans m3)) l u)), q3 r (rh3.free hr)⟩⟩
    | _ => exact (show False from q1).elim
/-- xs[::-1] -/
def aRev (te : ATE) : ATE := fun α h Q E => te α h (fun x h1 => match x with
  | .ref p => ∃ xs, LstA h1 p xs ∧ ∀ r, h1 r = none → Q (.ref r) (updA h1 r (.lst xs.reverse))
  | _ => False) E
theorem ae_rev {k : Nat} {p1 p2 p3 : Pos} (he : AE X e te) : AE X (.Subscript e (.Slice none none (some (.UnaryOp .USub (.Constant (.int 1) k p1) p2)) p3) pos) (aRev te) :=
  .of (pe_revL he.pe) fun σ H Q ⟨α, h, q, E, rs, rh, tk, ht, k⟩ => low.then (H0 := H) rs rh tk ht fun v H1 x h1 m1 r1 rh1 rs1 q1 => by
    cases r1 with
    | ref p =>
      obtain ⟨xs, e, q⟩ := (show ∃ xs, LstA h1 p xs ∧ ∀ r, h1 r = none → q (.ref r) (updA h1 r (.lst xs.reverse)) from q1)
      obtain ⟨vs, e', rv⟩ := rh1.rd e
      exact ⟨p, vs, rfl, e', fun r hr => k _ _ ⟨.ref r, _, m1.trans (Mono.new hr), .ref r, rh1.new hr (.lst rv.rev), q r (rh1.free hr)⟩⟩
    | _ => exact (show False from q1).elim
end

/-! ### methods of lists -/
abbrev ARm := A → List A → AH → AVK → Prop
def OpM (K : Frg) (r : V → List V → Hp → VK → Prop) (rA : ARm) : Prop := ∀ (H : Hp) (h : AH) (x : V) (a : A) (xs : List V) (as : List A) (Q : AVK) (Qv : VK), RelA K H a x → RelAs K H as xs → RelH K H h → (∀ v H', LQ K H Q v H' → Qv v H') → rA a as h Q → r x xs H Qv
def isLst (x : A) (h : AH) : Prop := match x with
  | .ref p => ∃ xs, LstA h p xs
  | _ => False
def aBmL (rA : ARm) (to : ATE) (t : ATA) : ATE := fun α h Q E => to α h (fun x h1 => isLst x h1 ∧ t α h1 (fun xs h2 => rA x xs h2 Q) E) E
section
variable {X : Cx} {o e : Expr} {es : List Expr} {to : ATE} {t : ATA} {name : Str} {apos cpos : Pos} {id : String} {r : V → List V → Hp → VK → Prop} {rA : ARm}
theorem isLst_rel {K : Frg} {H : Hp} {h : AH} {x : A} {v : V} (rh : RelH K H h) (r : RelA K H x v) (q : isLst x h) : tyV K "list" v H := by
  cases r with
  | ref p =>
    obtain ⟨xs, e⟩ := (show ∃ xs, LstA h p xs from q)
    obtain ⟨vs, e', _⟩ := rh.rd e
    exact .inl ⟨rfl, vs, e'⟩
  | _ => exact (show False from q).elim
theorem ae_bm (slot : Slot "list" name id) (hty : typeOf (.builtin id) = pure (.type "method_descriptor")) (hm : MtR X id r) (hr : OpM X.K r rA) (ho : AE X o to) (ha : AAs X (e :: es) t)
    (hbase : attributeBase o name X.env (eval o X.env) = eval o X.env := by rfl)
    (hfew : ((backTo cpos (starEach (e :: es) X.env)).all (fun x => !x.1) && (backToKw cpos (keywordEach [] X.env)).all (fun x => x.1.isSome)
      && decide ((e :: es).length + ([] : List Keyword).length + (if ([] : List Keyword).isEmpty then 0 else 1) < 30)) = true := by rfl)
    (hline : (apos.endLine == cpos.line) = true := by rfl) (hs : starEach (e :: es) X.env = (false, eval e X.env) :: starEach es X.env := by rfl) (hplain : (backTo cpos (starEach es X.env)).any (·.1) = false := by rfl) :
    AE X (.Call (.Attribute o name apos) (e :: es) [] cpos) (aBmL rA to t) := .of (pe_bm PySem.F.plainAttrs_list slot hty hm ho.pe ha.pa hbase hfew hline hs hplain) fun σ H Q ⟨α, h, q, E, rs, rh, tk, ht, k⟩ =>
  low.then (H0 := H) rs rh tk ht fun v H1 x h1 m1 r1 rh1 rs1 ⟨il, q1⟩ => ⟨isLst_rel rh1 r1 il, lowA.then rs1 rh1 (tk.up m1) q1 fun vs H2 xs h2 m2 r2 rh2 rs2 q2 => hr H2 h2 v x vs xs q Q (r1.up m2) r2 rh2 (fun z H' g => k _ _ (g.up (m1.trans m2))) q2⟩
theorem ae_bm0 (slot : Slot "list" name id) (hty : typeOf (.builtin id) = pure (.type "method_descriptor")) (hm : MtR X id r) (hr : OpM X.K r rA) (ho : AE X o to)
    (hbase : attributeBase o name X.env (eval o X.env) = eval o X.env := by rfl) (hline : (apos.endLine == cpos.line) = true := by rfl) : AE X (.Call (.Attribute o name apos) [] [] cpos) (aBmL rA to aNil) := .of (pe_bm0 PySem.F.plainAttrs_list slot hty hm ho.pe hbase hline) fun σ H Q ⟨α, h, q, E, rs, rh, tk, ht, k⟩ =>
  low.then (H0 := H) rs rh tk ht fun v H1 x h1 m1 r1 rh1 rs1 ⟨il, q1⟩ => ⟨isLst_rel rh1 r1 il, hr H1 h1 v x [] [] q Q r1 .nil rh1 (fun z H' g => k _ _ (g.up m1)) q1⟩
end
section
variable {K : Frg}
def appendA : ARm := fun x as h Q => match x, as with
  | .ref p, [y] => ∃ xs, h p = some (.lst xs) ∧ xs.length < sizeLine ∧ Q .non (updA h p (.lst (xs ++ [y])))
  | _, _ => False
theorem o_append : OpM K rAppend appendA := fun H h x a xs as Q Qv ra ras rh k q => by
  cases ra with
  | ref p => cases ras with
    | nil => exact (show False from q).elim
    | cons r1 t => cases t with
      | cons _ _ => exact (show False from q).elim
      | nil =>
        obtain ⟨ys, e, z, q⟩ := (show ∃ xs, h p = some (.lst xs) ∧ xs.length < sizeLine ∧ Q .non (updA h p (.lst (xs ++ [_]))) from q)
        obtain ⟨vs, f, rv⟩ := rh.lst e
        exact ⟨p, vs, _, rfl, rfl, f, by rw [← rv.len]; exact z, k _ _ ⟨.non, _, Mono.wr f ns_lst, .non, rh.wr f ns_lst (.lst (rv.app (.one r1))), q⟩⟩
  | _ => cases ras <;> exact (show False from q).elim
def reverseA : ARm := fun x as h Q => match x, as with
  | .ref p, [] => ∃ xs, h p = some (.lst xs) ∧ Q .non (updA h p (.lst xs.reverse))
  | _, _ => False
theorem o_reverse : OpM K rReverse reverseA := fun H h x a xs as Q Qv ra ras rh k q => by
  cases ra with
  | ref p => cases ras with
    | cons _ _ => exact (show False from q).elim
    | nil =>
      obtain ⟨ys, e, q⟩ := (show ∃ xs, h p = some (.lst xs) ∧ Q .non (updA h p (.lst xs.reverse)) from q)
      obtain ⟨vs, f, rv⟩ := rh.lst e
      exact ⟨p, vs, rfl, rfl, f, k _ _ ⟨.non, _, Mono.wr f ns_lst, .non, rh.wr f ns_lst (.lst rv.rev), q⟩⟩
  | _ => cases ras <;> exact (show False from q).elim
def clearA : ARm := fun x as h Q => match x, as with
  | .ref p, [] => ∃ xs, h p = some (.lst xs) ∧ Q .non (updA h p (.lst []))
  | _, _ => False
theorem o_clear : OpM K rClear clearA := fun H h x a xs as Q Qv ra ras rh k q => by
  cases ra with
  | ref p => cases ras with
    | cons _ _ => exact (show False from q).elim
    | nil =>
      obtain ⟨ys, e, q⟩ := (show ∃ xs, h p = some (.lst xs) ∧ Q .non (updA h p (.lst [])) from q)
      obtain ⟨vs, f, rv⟩ := rh.lst e
      exact ⟨p, vs, rfl, rfl, f, k _ _ ⟨.non, _, Mono.wr f ns_lst, .non, rh.wr f ns_lst (.lst .nil), q⟩⟩
  | _ => cases ras <;> exact (show False from q).elim
end

/-! ### raise, try -/
structure ExcK (K : Frg) (mg : Str → Option Value) (x : Str) (C : Addr) : Prop where
  q : PySem.W.excIn K C [.type "ValueError", .type "Exception", .type "BaseException", .type "object"] "ValueError.__new__" = true
  g : mg x = some (.ref C)
  kp : PySem.W.keepIn K (.ref C) = true
  b : PySem.W.subIn K (.ref C) (.type "BaseException") = some true
  t : PySem.W.typeIn K (.ref C) = some (.type "type")
def aRaise (C : Addr) : ATS := fun D α h => D.ex (.ref C) α h
theorem as_raise {X : Cx} {x m : Str} {C : Addr} {j : Nat} {p p2 pos pos' : Pos} (hc : X.calm = true) (T : ExcK X.K X.mg x C) (hg : Gl X x) (hdb : (x == ("__debug__" : Str)) = false := by decide) :
    AS X (.Raise (some (.Call (.Name x p) [.Constant (.str m) j p2] [] pos)) none pos') (aRaise C) :=
  ⟨fun pins s σ H α h D I rs rh ⟨Hb, mb, tk⟩ ht => (ps_raise hc tk (pmk_own PySem.F.excBase_ValueError T.q T.g T.kp (raises_own T.b T.t) hg hdb)).run pins s σ H _ I ⟨rfl, mb, α, h, rs, rh, ht⟩⟩
/-- the class of a caught exception: own, without a dict -/
def aTryOnly (K : Frg) (c : Value) (tb : ATS) (ts : Addr → Addr → ATS) : ATS := fun D α h => tb { D with ex := fun cls α' h' => ∃ b, PySem.W.exmOne K cls c = some b ∧
  (b = true → ∃ C, cls = .ref C ∧ ExcC K C ∧ ∀ a, h' a = none → ts a C { D with ex := fun _ _ _ => False } α' h') ∧ (b = false → D.ex cls α' h') } α h
def aTryAs (K : Frg) (c : Value) (i : Nat) (tb : ATS) (ts : Addr → Addr → ATS) : ATS := fun D α h => tb { D with ex := fun cls α' h' => ∃ b, PySem.W.exmOne K cls c = some b ∧
  (b = true → ∃ C, cls = .ref C ∧ ExcC K C ∧ ∀ a, h' a = none → ts a C { nx := fun α2 h2 => D.nx (α2.set i none) h2, rt := D.rt, bk := fun α2 h2 => D.bk (α2.set i none) h2, ct := fun α2 h2 => D.ct (α2.set i none) h2 } (α'.set i (some (.ref a))) h') ∧ (b = false → D.ex cls α' h') } α h
/-- a try body's reading, for any wish -/
def lowTry (X : Cx) (tb : ATS) (W : WX) : TS := fun D σ H => ∃ α h DA, RelS X.K H α σ ∧ RelH X.K H h ∧ tb DA α h ∧ (∀ cls d σ H', (d = none ∧ Mono H H' ∧ ∃ α h, RelS X.K H' α σ ∧ RelH X.K H' h ∧ DA.ex cls α h) → W cls d σ H') ∧ Reach X.K H DA D
theorem try_body {X : Cx} {body : List Stmt} {tb : ATS} (hb : ∀ (pn : List (Addr × Obj)) (xe : Value → Shared → Prop), PassesOwn (model X.prog X.w) X.A X.env xe → ASs (X.tr pn xe) body tb) :
    ∀ (W : WX) (pn : List (Addr × Obj)) (xe : Value → Shared → Prop), Takes (X.tr pn xe) W → PassesOwn (model X.prog X.w) X.A X.env xe → PSs (X.tr pn xe) body (lowTry X tb W) := fun W pn xe tk hp =>
  ⟨fun pins s σ H D I ⟨α, h, DA, rs, rh, ht, kW, k⟩ => thn ((hb pn xe hp).run pins s σ H α h DA I rs rh ⟨H, Mono.refl H, Takes.imp tk (kW)⟩ ht) fun f s' q => SP.imp q k.nx k.rt k.bk k.ct⟩
def lowSuite (X : Cx) (ts : Addr → Addr → ATS) (a : Addr) (cls : Value) (d : Option Addr) : TS := fun D σ H => ∃ C, cls = .ref C ∧ d = none ∧ ExcC X.K C ∧ ∃ α h DA, RelS X.K H α σ ∧ RelH X.K H h ∧ ts a C DA α h ∧ (∀ c α h, ¬ DA.ex c α h) ∧ Reach X.K H DA D
theorem try_suite {X : Cx} {b₀ : Stmt} {suite : List Stmt} {ts : Addr → Addr → ATS}
    (hsu : ∀ (a : Addr) (oe : Obj) (C : Addr) (pn : List (Addr × Obj)), ExcC X.K C → Zc (.ref C) none oe → (∃ vs, oe.data = .fields vs) → ASs (X.suite a ((a, oe) :: pn)) (b₀ :: suite) (ts a C)) :
    ∀ (a : Addr) (oe : Obj) (cls : Value) (d : Option Addr) (pn : List (Addr × Obj)), Zc cls d oe → (∃ vs, oe.data = .fields vs) → PSs (X.suite a ((a, oe) :: pn)) (b₀ :: suite) (lowSuite X ts a cls d) := fun a oe cls d pn hz hf =>
  ⟨fun pins s σ H D I ⟨C, e1, e2, ec, α, h, DA, rs, rh, ht, nx, k⟩ => by
    subst e1 e2
    refine thn ((hsu a oe C pn ec hz hf).run pins s σ H α h DA I rs rh ⟨H, Mono.refl H, fun u s' ⟨_, _, _, _, _, _, _, _, _, _, _, _, _, _, _, _, _, _, _, _, _, _, w⟩ => (nx _ _ _ w).elim⟩ ht) fun f s' q => SP.imp q k.nx k.rt k.bk k.ct⟩
section
variable {X : Cx} {x n : Str} {c : Value} {i : Nat} {body suite : List Stmt} {b₀ : Stmt} {np pos pos' : Pos} {tb : ATS} {ts : Addr → Addr → ATS}
theorem as_try_only (hs : X.stack = X.env :: X.outer) (hf : X.env.frame = some X.env.locals) (hc : Names X x c)
    (hb : ∀ (pn : List (Addr × Obj)) (xe : Value → Shared → Prop), PassesOwn (model X.prog X.w) X.A X.env xe → ASs (X.tr pn xe) body tb)
    (hsu : ∀ (a : Addr) (oe : Obj) (C : Addr) (pn : List (Addr × Obj)), ExcC X.K C → Zc (.ref C) none oe → (∃ vs, oe.data = .fields vs) → ASs (X.suite a ((a, oe) :: pn)) (b₀ :: suite) (ts a C)) :
    AS X (.Try body [.ExceptHandler (some (.Name x np)) none (b₀ :: suite) pos'] [] [] pos) (aTryOnly X.K c tb ts) :=
  ⟨fun pins s σ H α h D I rs rh ⟨Hb, mb, tk⟩ ht => (ps_try_only hs hf hc tk (try_body hb) (try_suite hsu)).run pins s σ H _ I ⟨α, h, _, rs, rh, ht, fun cls d σ' H' ⟨ed, m, α', h', rs', rh', b, eb, y, nn⟩ => by
    refine ⟨b, eb, fun e a ha => ?_, fun e => ⟨ed, mb.trans m, α', h', rs', rh', nn e⟩⟩
    obtain ⟨C, ec, xc, q⟩ := y e
    exact ⟨C, ec, ed, xc, α', h', _, rs', rh', q a (rh'.free ha), fun _ _ _ z => z, ⟨fun _ _ z => z.up m, fun _ _ z => z.up m, fun _ _ z => z.up m, fun _ _ z => z.up m⟩⟩, .self⟩⟩
theorem as_try_as (hs : X.stack = X.env :: X.outer) (hf : X.env.frame = some X.env.locals) (hN : X.N.Nodup) (hi : X.N[i]? = some n) (hln : X.env.kindOf n = some .local) (hc : Names X x c)
    (hb : ∀ (pn : List (Addr × Obj)) (xe : Value → Shared → Prop), PassesOwn (model X.prog X.w) X.A X.env xe → ASs (X.tr pn xe) body tb)
    (hsu : ∀ (a : Addr) (oe : Obj) (C : Addr) (pn : List (Addr × Obj)), ExcC X.K C → Zc (.ref C) none oe → (∃ vs, oe.data = .fields vs) → ASs (X.suite a ((a, oe) :: pn)) (b₀ :: suite) (ts a C)) :
    AS X (.Try body [.ExceptHandler (some (.Name x np)) (some n) (b₀ :: suite) pos'] [] [] pos) (aTryAs X.K c i tb ts) :=
  ⟨fun pins s σ H α h D I rs rh ⟨Hb, mb, tk⟩ ht => (ps_try_as (i := i) hs hf hN hi hln hc tk (try_body hb) (try_suite hsu)).run pins s σ H _ I ⟨α, h, _, rs, rh, ht, fun cls d σ' H' ⟨ed, m, α', h', rs', rh', b, eb, y, nn⟩ => by
    refine ⟨b, eb, fun e a ha => ?_, fun e => ⟨ed, mb.trans m, α', h', rs', rh', nn e⟩⟩
    obtain ⟨C, ec, xc, q⟩ := y e
    refine ⟨C, ec, ed, xc, α'.set i (some (.ref a)), h', _, rs'.set i (.ref a), rh', q a (rh'.free ha), fun _ _ _ z => z, ⟨fun σ2 H2 ⟨α2, h2, m2, rs2, rh2, q2⟩ => ?_, fun _ _ z => z.up m, fun σ2 H2 ⟨α2, h2, m2, rs2, rh2, q2⟩ => ?_, fun σ2 H2 ⟨α2, h2, m2, rs2, rh2, q2⟩ => ?_⟩⟩
    all_goals exact ⟨_, h2, m.trans m2, rs2.gone i, rh2, q2⟩, .self⟩⟩
/-! isinstance of the caught exception -/
def rIsEA (K : Frg) (D a : Addr) : List V → Hp → VK → Prop := fun xs H Q => rIsE K D a xs H Q ∨ ∃ (tp : Addr) (vs : List V) (us : List Value) (b : Bool), xs = [.ref a, .ref tp] ∧ TupAt K H tp vs ∧ Paired ClsV vs us ∧ PySem.W.kitAny K (.ref D) us = some b ∧ Q (.bl b) H
theorem call_isEA {X : Cx} {a D : Addr} {oe : Obj} {pn : List (Addr × Obj)} (C : ExcC X.K D) (hz : Zc (.ref D) none oe) (hf : ∃ vs, oe.data = .fields vs) : CallR (X.suite a ((a, oe) :: pn)) (.builtin "isinstance") (rIsEA X.K D a) := by
  intro pins s σ H xs us Q I r h
  rcases h with h | ⟨tp, vs, ws, b, rfl, hT, hP, e, q⟩
  · exact call_isE C hz hf pins s σ H xs us Q I r h
  · obtain ⟨u1, u2, rfl, r1, r2⟩ := vals2 r
    cases r1
    cases r2
    obtain ⟨hget, _⟩ := I.pin (a, oe) (List.mem_append.mpr (.inl List.mem_cons_self))
    obtain ⟨fs, hv⟩ := hf
    have J : PySem.W.InstAt s.heap a oe D none := by
      obtain ⟨oc, od, oda, osl⟩ := oe
      obtain ⟨h1, h2⟩ := hz
      dsimp only at h1 h2 hv
      subst h1 h2 hv
      exact ⟨hget, rfl, rfl, trivial⟩
    obtain ⟨its, rvv, ⟨o, ho, hcl, n, hd⟩, _⟩ := I.tuple hT.sq
    have eu : its = ws := vals_cls hP rvv
    subst eu
    obtain ⟨oc, od, oda, osl⟩ := o
    dsimp only at hcl hd
    subst hcl hd
    exact PySem.W.kia_tup (PySem.W.handS_kitx_exc C.hg C.hk C.hs C.hd C.ha C.hn C.ht C.hm) I.kIn J ho e (fun z => nomatch z) fun tk => ⟨.bl b, H, I.kept (t' := tk) fun _ _ z => z, rfl, q⟩
def isEA (K : Frg) (D a : Addr) : ARs := two fun x c h Q => match x, c with
  | .ref p, .tup cs => p = a ∧ cs.all isCls = true ∧ ∃ b, PySem.W.kitAny K (.ref D) (cs.map clsU) = some b ∧ Q (.bl b) h
  | .ref p, c => p = a ∧ isCls c = true ∧ ∃ b, PySem.W.kitOne K (.ref D) (clsU c) = some b ∧ Q (.bl b) h
  | _, _ => False
theorem o_isE {K : Frg} {D a : Addr} : OpN K (rIsEA K D a) (isEA K D a) := fun H h vs as Q Qv r rh k q => by
  obtain ⟨x, c, v, w, rfl, rx, rc, q⟩ := two_inv r q
  cases rx with
  | ref p =>
    have gen : (p = a ∧ isCls c = true ∧ ∃ b, PySem.W.kitOne K (.ref D) (clsU c) = some b ∧ Q (.bl b) h) → rIsEA K D a [.ref p, w] H Qv := fun ⟨e, ec, b, kt, q'⟩ => by
      subst e
      exact .inl ⟨w, clsU c, b, rfl, fun u ru => (cls_rel rc ec).eq ru, kt, k _ _ ⟨_, h, Mono.refl H, .bl _, rh, q'⟩⟩
    cases rc with
    | @tup tp xs vs e rv =>
      obtain ⟨rfl, ec, b, kt, q⟩ := (show p = a ∧ xs.all isCls = true ∧ ∃ b, PySem.W.kitAny K (.ref D) (xs.map clsU) = some b ∧ Q (.bl b) h from q)
      exact .inr ⟨tp, vs, _, b, rfl, e, clss_rel rv ec, kt, k _ _ ⟨_, h, Mono.refl H, .bl _, rh, q⟩⟩
    | _ => exact gen q
  | _ => cases rc <;> exact (show False from q).elim
end
end G
namespace G
open PySem PySem.Spec L2

/-! ### a < b < c -/
section
variable {X : Cx} {a b c : Expr} {pos : Pos} {ta tb tc : ATE} {r r' : R2} {rA rB : AR2} {op op' : CmpOp}
def aChn (rA rB : AR2) (ta tb tc : ATE) : ATE := fun α h Q E => ta α h (fun x h1 => tb α h1 (fun y h2 => rA x y h2 fun z h3 => asB z fun k => if k = true then tc α h3 (fun w h4 => rB y w h4 Q) E else Q (.bl false) h3) E) E
theorem low_chain (hr : Op2 X.K r rA) (hr' : Op2 X.K r' rB) {σ : L2.St} {H : Hp} {Qv : VK} (z : low X (aChn rA rB ta tb tc) σ H Qv) : tChain r r' (low X ta) (low X tb) (low X tc) σ H Qv := by
  obtain ⟨α, h, q, E, rs, rh, tk, ht, k⟩ := z
  refine low.then (H0 := H) rs rh tk ht fun v H1 x h1 m1 r1 rh1 rs1 q1 => low.then (H0 := H) rs1 rh1 (tk.up m1) q1 fun w H2 y h2 m2 r2 rh2 rs2 q2 => ?_
  refine hr H2 h2 v w x y _ _ (r1.up m2) r2 rh2 (fun z H3 ⟨za, h3, m3, r3, rh3, q3⟩ => ?_) q2
  obtain ⟨b, rfl, q4⟩ := bl_of r3 q3
  refine ⟨b, rfl, ?_⟩
  have mm := (m1.trans m2).trans m3
  cases b with
  | true =>
    rw [if_pos rfl] at q4
    exact iteT (low.then (H0 := H) (rs2.up m3) rh3 (tk.up mm) q4 fun u H4 w4 h4 m4 r4 rh4 rs4 q5 => hr' H4 h4 w u y w4 _ _ ((r2.up m3).up m4) r4 rh4 (fun z H5 g => k _ _ (g.up (mm.trans m4))) q5)
  | false =>
    rw [if_neg Bool.false_ne_true] at q4
    exact iteF (k _ _ ⟨_, h3, mm, .bl _, rh3, q4⟩)
theorem ae_chain (ho : OpR X (compareOp op) r) (ho' : OpR X (compareOp op') r') (hr : Op2 X.K r rA) (hr' : Op2 X.K r' rB) (ha : AE X a ta) (hb : AE X b tb) (hc : AE X c tc) (hm : lastMarks [op, op'] [b, c] = false := by rfl) :
    AE X (.Compare a [op, op'] [b, c] pos) (aChn rA rB ta tb tc) := .of (pe_chain ho ho' ha.pe hb.pe hc.pe hm) fun σ H Q z => low_chain hr hr' z
theorem at_chain (ho : OpR X (compareOp op) r) (ho' : OpR X (compareOp op') r') (hr : Op2 X.K r rA) (hr' : Op2 X.K r' rB) (ha : AE X a ta) (hb : AE X b tb) (hc : AE X c tc) (hm : lastMarks [op, op'] [b, c] = false := by rfl) :
    AT X (.Compare a [op, op'] [b, c] pos) (aTest (aChn rA rB ta tb tc)) := .of (pt_chain ho ho' ha.pe hb.pe hc.pe hm) fun σ H Q ⟨α, h, q, E, rs, rh, tk, ht, k⟩ => low_chain hr hr' ⟨α, h, _, E, rs, rh, tk, ht, fun v H' ⟨x, h', m, r1, rh', q1⟩ => by
  obtain ⟨b, e, q2⟩ := bl_of r1 q1
  exact ⟨b, e, k _ _ ⟨h', m, rh', q2⟩⟩⟩
end

/-! ### names of the module -/
section
variable {X : Cx} {x : Str} {pos : Pos}
theorem ae_gint {i : Int} (hg : Gl X x) (h : ∃ t, X.mg x = some (.int i t)) (hd : (x == ("__debug__" : Str)) = false := by decide) : AE X (.Name x pos) (aC (.int i)) := by
  obtain ⟨t, h⟩ := h
  exact ae_glob (v := .int i) hg h ⟨t, rfl⟩ (fun _ => .int i) hd
theorem ae_gref {C : Addr} (hg : Gl X x) (h : X.mg x = some (.ref C)) (hd : (x == ("__debug__" : Str)) = false := by decide) : AE X (.Name x pos) (aC (.ref C)) := ae_glob (v := .ref C) hg h rfl (fun _ => .ref C) hd
theorem ae_gval {p : Addr} {a : A} (hg : Gl X x) (h : X.mg x = some (.ref p)) (r : ∀ H, RelA X.K H a (.ref p)) (hd : (x == ("__debug__" : Str)) = false := by decide) : AE X (.Name x pos) (aC a) := ae_glob (v := .ref p) hg h rfl r hd
theorem ae_bty {n : String} (hg : Gl X x) (hm : X.mg x = none) (hv : bootBuiltins x = some (.type n)) (hn : x ≠ "__name__" := by decide) (hd : (x == ("__debug__" : Str)) = false := by decide) : AE X (.Name x pos) (aC (.ty n)) := ae_bltn (v := .ty n) hg hm hv rfl (fun _ => .ty n) hn hd
/-- {} -/
def aNewK : ATE := fun _ h Q _ => ∀ p, h p = none → Q (.ref p) (updA h p (.dK []))
def aNewT : ATE := fun _ h Q _ => ∀ p, h p = none → Q (.ref p) (updA h p (.dT []))
theorem ae_newK : AE X (.Dict [] [] pos) aNewK := .of pe_dnewK fun σ H Q ⟨α, h, q, E, rs, rh, tk, ht, k⟩ => fun p hp => k _ _ ⟨.ref p, _, Mono.new hp, .ref p, rh.new hp (.dK .nil), ht p (rh.free hp)⟩
theorem ae_newT : AE X (.Dict [] [] pos) aNewT := .of pe_dnewT fun σ H Q ⟨α, h, q, E, rs, rh, tk, ht, k⟩ => fun p hp => k _ _ ⟨.ref p, _, Mono.new hp, .ref p, rh.new hp (.dT .nil), ht p (rh.free hp)⟩
end

/-! ### defs -/
/-- the def at f keeps its promise -/
structure DefOk (P : Program) (w : World) (K : Frg) (mg : Str → Option Value) (base : Heap) (f : Addr) (k : Nat) (ps : List Str) (sp : ASp) : Prop where
  ex : ∃ fd, PySem.W.keepIn K (.ref f) = true ∧ Binds K fd ps [] ∧ AFn P w K mg base k f fd ps sp
section
variable {P : Program} {w : World} {K : Frg} {mg : Str → Option Value} {base : Heap} {x qual : Str} {params : Arguments} {body : List Stmt} {scope : Scope} {f : Addr} {N ps : List Str} {k : Nat} {sp : ASp} {t : ATS}
theorem defOk (F : ∃ fd, FunD K x qual params body scope [] [] f fd)
    (bind : ∀ (kV doc pm : Value) (an : Option Addr) (cdv ct : Value) (us : List Value), us.length = ps.length → bindArgs (PySem.W.fnOf x qual params body scope .none kV doc pm an cdv ct) ⟨us, []⟩ = pure (ps.zip us)) (S : FnScope N ps scope)
    (walk : ∀ (cdv : Value) (A : Around) (outer : List Env) (s : Shared) (H : Hp) (E : XK), Room k (cxOf (L2.CX P w) P w K mg base N qual scope f cdv A outer s H E).A →
      PassesOwn (model P w) (cxOf (L2.CX P w) P w K mg base N qual scope f cdv A outer s H E).A (cxOf (L2.CX P w) P w K mg base N qual scope f cdv A outer s H E).env (cxOf (L2.CX P w) P w K mg base N qual scope f cdv A outer s H E).xe →
      ASs (cxOf (L2.CX P w) P w K mg base N qual scope f cdv A outer s H E) body t)
    (len : ∀ as h Q E, sp as h Q E → as.length = ps.length)
    (read : ∀ as h Q E, sp as h Q E → t { nx := fun _ h' => Q .non h', rt := Q, ex := fun c _ h' => E c h' } (startA N as) h) : DefOk P w K mg base f (k + 1) ps sp := by
  obtain ⟨fd, F⟩ := F
  refine ⟨fd, F.kp, F.bindsN bind, fnA F S (fun X _ _ ⟨cdv, A, outer, s, H, E, e⟩ hr hp => ?_) len read⟩
  subst e
  exact walk cdv A outer s H E hr hp
theorem DefOk.mono {j : Nat} (F : DefOk P w K mg base f j ps sp) (h : j ≤ k) : DefOk P w K mg base f k ps sp := let ⟨fd, kp, b, F⟩ := F.ex; ⟨fd, kp, b, F.mono h⟩
theorem DefOk.imp {sp' : ASp} (F : DefOk P w K mg base f k ps sp) (h : ∀ as h Q E, sp' as h Q E → sp as h Q E) : DefOk P w K mg base f k ps sp' := let ⟨fd, kp, b, F⟩ := F.ex; ⟨fd, kp, b, F.imp h⟩
end
section
variable {X : Cx} {k : Nat} {f C : Addr} {ps : List Str} {sp : ASp} {x m : Str} {p pos apos : Pos} {e o : Expr} {es : List Expr} {ta : ATE} {t : ATA}
theorem c_call (F : DefOk X.prog X.w X.K X.mg X.base f k ps sp) (hr : Room k X.A) (hm : X.mg x = some (.ref f)) (ha : AAs X (e :: es) t) (hg : Gl X x := by rfl) (hdb : (x == ("__debug__" : Str)) = false := by decide) (he : starEach (e :: es) X.env = (false, eval e X.env) :: starEach es X.env := by rfl) (hpl : (backTo pos (starEach es X.env)).any (·.1) = false := by rfl) :
    AE X (.Call (.Name x p) (e :: es) [] pos) (aCall sp [] t) := by
  obtain ⟨fd, kp, b, F⟩ := F.ex
  exact ae_call F hr hg hm kp b .nil (fun _ => .nil) ha hdb he hpl
theorem c_call0 (F : DefOk X.prog X.w X.K X.mg X.base f k ps sp) (hr : Room k X.A) (hm : X.mg x = some (.ref f)) (hg : Gl X x := by rfl) (hdb : (x == ("__debug__" : Str)) = false := by decide) :
    AE X (.Call (.Name x p) [] [] pos) (aCall sp [] aNil) := by
  obtain ⟨fd, kp, b, F⟩ := F.ex
  exact ae_call0 F hr hg hm kp b .nil (fun _ => .nil) hdb
theorem c_meth {pl : Sem Bool} (he : AE X o ta) (c : Cls X.K C) (hm : Meth X.K C m f) (F : DefOk X.prog X.w X.K X.mg X.base f k ps sp) (hr : Room k X.A) (ha : AAs X (e :: es) t)
    (hst : starEach (e :: es) X.env = (false, eval e X.env) :: starEach es X.env := by rfl) (hpl : (backTo pos (starEach es X.env)).any (·.1) = false := by rfl)
    (ht : eval (.Call (.Attribute o m apos) (e :: es) [] pos) X.env = (do
      let ov ← eval o X.env
      standAt apos.atName
      let (f, first) ← holding [ov] (getMethod ov m pl)
      callWith pos f first (backTo pos (starEach (e :: es) X.env)) (backToKw pos (keywordEach [] X.env))) := by rfl) :
    AE X (.Call (.Attribute o m apos) (e :: es) [] pos) (aMeth C m sp [] ta t) := by
  obtain ⟨fd, kp, b, F⟩ := F.ex
  exact ae_meth he c hm F hr b .nil (fun _ => .nil) ha hst hpl ht
theorem c_meth0 {pl : Sem Bool} (he : AE X o ta) (c : Cls X.K C) (hm : Meth X.K C m f) (F : DefOk X.prog X.w X.K X.mg X.base f k ps sp) (hr : Room k X.A)
    (ht : eval (.Call (.Attribute o m apos) [] [] pos) X.env = (do
      let ov ← eval o X.env
      standAt apos.atName
      let (f, first) ← holding [ov] (getMethod ov m pl)
      callWith pos f first (backTo pos (starEach [] X.env)) (backToKw pos (keywordEach [] X.env))) := by rfl) :
    AE X (.Call (.Attribute o m apos) [] [] pos) (aMeth C m sp [] ta aNil) := by
  obtain ⟨fd, kp, b, F⟩ := F.ex
  exact ae_meth0 he c hm F hr b .nil (fun _ => .nil) ht
theorem c_make (M : Mk X.K C f) (F : DefOk X.prog X.w X.K X.mg X.base f k ps sp) (hr : Room (k + 1) X.A) (hm : X.mg x = some (.ref C)) (ha : AAs X (e :: es) t) (hg : Gl X x := by rfl) (hdb : (x == ("__debug__" : Str)) = false := by decide) (he : starEach (e :: es) X.env = (false, eval e X.env) :: starEach es X.env := by rfl) (hpl : (backTo pos (starEach es X.env)).any (·.1) = false := by rfl) :
    AE X (.Call (.Name x p) (e :: es) [] pos) (aMake C sp [] t) := by
  obtain ⟨fd, kp, b, F⟩ := F.ex
  exact ae_make M F hr hg hm b .nil (fun _ => .nil) ha hdb he hpl
theorem c_make0 (M : Mk X.K C f) (F : DefOk X.prog X.w X.K X.mg X.base f k ps sp) (hr : Room (k + 1) X.A) (hm : X.mg x = some (.ref C)) (hg : Gl X x := by rfl) (hdb : (x == ("__debug__" : Str)) = false := by decide) :
    AE X (.Call (.Name x p) [] [] pos) (aMake C sp [] aNil) := by
  obtain ⟨fd, kp, b, F⟩ := F.ex
  exact ae_make0 M F hr hg hm b .nil (fun _ => .nil) hdb
end

/-! ### tests whose answer hangs on the data -/
theorem ifd {c : Prop} [Decidable c] {x y : Prop} (h1 : c → x) (h2 : ¬ c → y) : if decide c = true then x else y := by
  by_cases h : c
  · rw [if_pos (decide_eq_true h)]; exact h1 h
  · rw [if_neg (by rw [decide_eq_false h]; exact Bool.false_ne_true)]; exact h2 h
theorem ifnd {c : Prop} [Decidable c] {x y : Prop} (h1 : ¬ c → x) (h2 : c → y) : if (!decide c) = true then x else y := by
  by_cases h : c
  · rw [if_neg (by rw [decide_eq_true h]; exact Bool.false_ne_true)]; exact h2 h
  · rw [if_pos (by rw [decide_eq_false h]; rfl)]; exact h1 h
theorem ifb {c : Bool} {x y : Prop} (h1 : c = true → x) (h2 : c = false → y) : if c = true then x else y := by
  cases c with
  | true => exact (if_pos rfl).mpr (h1 rfl)
  | false => exact (if_neg Bool.false_ne_true).mpr (h2 rfl)
theorem ifT {x y : Prop} (h : x) : if true = true then x else y := (if_pos rfl).mpr h
theorem ifF {x y : Prop} (h : y) : if false = true then x else y := (if_neg Bool.false_ne_true).mpr h
end G
namespace G
open PySem PySem.Spec L2

/-! ### the head's facts, each a Bool of the written part -/
abbrev AlG : Type := Bool × List He.FnW
def obsF (fb : List (Frg → Bool)) (fn : List He.DefD) (K : Frg) : AlG := ((fb.all fun f => f K) && fn.all fun d => d.ok K, fn.map fun d => He.fnW K d.at_)
def valG (fn : List He.DefD) : AlG := (true, fn.map He.DefD.val)
def SaysG (fb : List (Frg → Bool)) (fn : List He.DefD) (K : Frg) : Prop := obsF fb fn K = valG fn
def obsG (n : Nat) (fb : List (Frg → Bool)) (fn : List He.DefD) (g : Addr → Option Obj) : AlG := obsF fb fn (He.frG g (He.asD g n))
def hookG (n : Nat) (fb : List (Frg → Bool)) (fn : List He.DefD) : PySem.W.Hook where
  α := AlG
  obs := fun s => obsG n fb fn s.heap.get?
  val := fun _ => valG fn
  says := fun _ h => ∃ K : Frg, K.In h ∧ SaysG fb fn K
  of := fun _ _ e => ⟨_, He.frG_in, e⟩
  keeps := fun _ _ _ ⟨K, hK, c⟩ k => ⟨K, PySem.W.Frag.In.keeps hK k, c⟩
theorem obsG_eq {n : Nat} {fb : List (Frg → Bool)} {fn : List He.DefD} {g : Addr → Option Obj} {s : Shared} (h : ∀ a, g a = s.heap.get? a) : obsG n fb fn g = (hookG n fb fn).obs s := by
  have e : g = s.heap.get? := funext h
  rw [e] <;> rfl
section
variable {fb : List (Frg → Bool)} {fn : List He.DefD} {K : Frg}
theorem SaysG.fact (c : SaysG fb fn K) (i : Nat) {f : Frg → Bool} (h : fb[i]? = some f := by rfl) : f K = true := by
  have c1 := (He.ba (show ((fb.all fun f => f K) && fn.all fun d => d.ok K) = true from congrArg (fun z : AlG => z.1) c)).1
  exact List.all_eq_true.mp c1 f (List.mem_of_getElem? h)
theorem SaysG.def_ (c : SaysG fb fn K) (i : Nat) {d : He.DefD} (h : fn[i]? = some d := by rfl) : ∃ fd, FunD K d.name d.qual d.params d.body d.scope (d.dvs K) (d.kws K) (He.fAd K d.at_) fd := by
  have c2 := (He.ba (show ((fb.all fun f => f K) && fn.all fun d => d.ok K) = true from congrArg (fun z : AlG => z.1) c)).2
  have e : fn.map (fun d => He.fnW K d.at_) = fn.map He.DefD.val := congrArg (fun z : AlG => z.2) c
  have e2 : (fn.map fun d => He.fnW K d.at_)[i]? = (fn.map He.DefD.val)[i]? := by rw [e]
  rw [List.getElem?_map, List.getElem?_map, h] at e2
  exact He.DefD.funD (Option.some.inj e2) (List.all_eq_true.mp c2 d (List.mem_of_getElem? h))
end
/-- a tuple constant of the written part -/
def relAB (K : Frg) : Nat → A → Value → Bool
  | 0, _, _ => false
  | n + 1, a, u => match a, u with
    | .non, .none => true
    | .bl b, .bool c => b == c
    | .int i, .int j _ => decide (i = j)
    | .str x, .str y _ => decide (x = y)
    | .tup xs, .ref p => (match K.lookup p with
      | some ⟨.type c, _, .seq its _, _⟩ => decide (c = "tuple") && (decide (its.size ≤ sizeLine) && (decide (xs.length = its.size) && ((xs.zip its.toList).all fun q => relAB K n q.1 q.2)))
      | _ => false)
    | _, _ => false
theorem relAB_ok {K : Frg} : ∀ (n : Nat) (a : A) (u : Value), relAB K n a u = true → ∃ v, RelV v u ∧ ∀ H, RelA K H a v
  | 0, _, _, h => nomatch h
  | n + 1, a, u, h => by
    unfold relAB at h
    split at h
    · exact ⟨.non, rfl, fun _ => .non⟩
    · obtain rfl := eq_of_beq h
      exact ⟨.bl _, rfl, fun _ => .bl _⟩
    · obtain rfl := of_decide_eq_true h
      exact ⟨.int _, ⟨_, rfl⟩, fun _ => .int _⟩
    · obtain rfl := of_decide_eq_true h
      exact ⟨.str _, ⟨_, rfl⟩, fun _ => .str _⟩
    · rename_i xs p
      split at h
      · rename_i c d its m sl q
        obtain ⟨g1, h2⟩ := He.ba h
        obtain ⟨g2, h3⟩ := He.ba h2
        obtain ⟨g3, g4⟩ := He.ba h3
        have gl : xs.length = its.toList.length := by rw [of_decide_eq_true g3]; simp
        have all : ∀ (ys : List A) (us : List Value), ys.length = us.length → ((ys.zip us).all fun q => relAB K n q.1 q.2) = true → ∃ vs, Vals vs us ∧ ∀ H, RelAs K H ys vs := by
          intro ys
          induction ys with
          | nil =>
            intro us hl _
            cases us with
            | nil => exact ⟨[], .nil, fun _ => .nil⟩
            | cons _ _ => cases hl
          | cons y ys ih =>
            intro us hl ha
            cases us with
            | nil => cases hl
            | cons u us =>
              rw [List.zip_cons_cons, List.all_cons, Bool.and_eq_true] at ha
              obtain ⟨v, r, rA⟩ := relAB_ok n y u ha.1
              obtain ⟨vs, rs, rAs⟩ := ih us (Nat.succ.inj hl) ha.2
              exact ⟨v :: vs, .cons r rs, fun H => .cons (rA H) (rAs H)⟩
        obtain ⟨vs, rs, rAs⟩ := all xs its.toList gl g4
        exact ⟨.ref p, rfl, fun H => .tup (.inr ⟨_, its, m, q, congrArg Value.type (of_decide_eq_true g1), rfl, of_decide_eq_true g2, rs⟩) (rAs H)⟩
      · cases h
    · cases h
/-- a module's constant -/
def constB (K : Frg) (x : Str) (a : A) : Bool := match PySem.W.nsIn K mainGlobals x with
  | some (some u) => relAB K 8 a u
  | _ => false
theorem constB_ok {K : Frg} {h : Heap} {mg : Str → Option Value} (X : K.In h) (G : h.Ns mainGlobals mg) {x : Str} {a : A} (c : constB K x a = true) : ∃ u v, mg x = some u ∧ RelV v u ∧ ∀ H, RelA K H a v := by
  unfold constB at c
  cases e : PySem.W.nsIn K mainGlobals x with
  | none => rw [e] at c; cases c
  | some o =>
    cases o with
    | none => rw [e] at c; cases c
    | some u =>
      rw [e] at c
      obtain ⟨v, r, rA⟩ := relAB_ok 8 a u c
      exact ⟨u, v, PySem.W.mg_of X G e, r, rA⟩
theorem ae_gcon {X : Cx} {x : Str} {pos : Pos} {a : A} (hg : Gl X x) (h : ∃ u v, X.mg x = some u ∧ RelV v u ∧ ∀ H, RelA X.K H a v) (hd : (x == ("__debug__" : Str)) = false := by decide) : AE X (.Name x pos) (aC a) := by
  obtain ⟨u, v, h, r, rA⟩ := h
  exact ae_glob hg h r rA hd
/-! exceptions -/
def excCB (K : Frg) (D : Addr) : Bool := He.eqO (PySem.W.findIn K (.ref D) "__getattribute__") (some (some (.builtin "BaseException.__getattribute__"))) && (He.eqO (PySem.W.findIn K (.ref D) "__getattr__") (some none) &&
  (decide (PySem.W.subIn K (.ref D) (.type "BaseException") = some true) && (PySem.W.hasDictIn K D && (He.eqO (PySem.W.findIn K (.ref D) "__class__") (some (some (.builtin "object.__class__"))) &&
  (He.eqO (PySem.W.specialIn K (.builtin "object.__class__") "__get__") (some (some (.builtin "getset_descriptor.__get__"))) && (decide (PySem.W.takesIn K (.builtin "object.__class__") = some true) && decide (PySem.W.mroIn K D (.type "object") = some true)))))))
theorem excCB_ok {K : Frg} {D : Addr} (c : excCB K D = true) : ExcC K D := by
  obtain ⟨c1, c⟩ := He.ba c
  obtain ⟨c2, c⟩ := He.ba c
  obtain ⟨c3, c⟩ := He.ba c
  obtain ⟨c4, c⟩ := He.ba c
  obtain ⟨c5, c⟩ := He.ba c
  obtain ⟨c6, c⟩ := He.ba c
  obtain ⟨c7, c8⟩ := He.ba c
  exact ⟨He.eqO_ok c1, He.eqO_ok c2, of_decide_eq_true c3, c4, He.eqO_ok c5, He.eqO_ok c6, of_decide_eq_true c7, of_decide_eq_true c8⟩
theorem excK_ok {K : Frg} {h : Heap} {mg : Str → Option Value} (X : K.In h) (G : h.Ns mainGlobals mg) {x : Str} (c0 : (He.Fa.glo x).ok K = true) (c : (He.Fa.exc x).ok K = true) : ExcK K mg x (He.ga K x) := by
  obtain ⟨q, kp, b, t⟩ := He.exc_ok c
  exact ⟨q, He.glo_ok X G c0, kp, b, t⟩
def insCB (K : Frg) (x : Str) : Bool := (He.Fa.cls x).ok K && (He.eqO (PySem.W.findIn K (.ref (He.ga K x)) "__class__") (some (some (.builtin "object.__class__"))) &&
  (He.eqO (PySem.W.specialIn K (.builtin "object.__class__") "__get__") (some (some (.builtin "getset_descriptor.__get__"))) && (decide (PySem.W.takesIn K (.builtin "object.__class__") = some true) && decide (PySem.W.mroIn K (He.ga K x) (.type "object") = some true))))
theorem insC_ok {K : Frg} {x : Str} (c : insCB K x = true) : InsCls K (He.ga K x) := by
  obtain ⟨c1, c⟩ := He.ba c
  obtain ⟨c2, c⟩ := He.ba c
  obtain ⟨c3, c⟩ := He.ba c
  obtain ⟨c4, c5⟩ := He.ba c
  exact ⟨He.cls_ok c1, He.eqO_ok c2, He.eqO_ok c3, of_decide_eq_true c4, of_decide_eq_true c5⟩
def clsFB (K : Frg) (x f : Str) : Bool := (He.Fa.cls x).ok K && (He.Fa.noat x f).ok K
theorem clsF_ok {K : Frg} {x f : Str} (c : clsFB K x f = true) : ClsF K (He.ga K x) f := by
  obtain ⟨c1, c2⟩ := He.ba c
  exact ⟨He.cls_ok c1, He.noat_ok c2⟩
def exKB (K : Frg) (x : Str) : Bool := (He.Fa.glo x).ok K && (He.Fa.exc x).ok K
theorem exK_ok {K : Frg} {h : Heap} {mg : Str → Option Value} (X : K.In h) (G : h.Ns mainGlobals mg) {x : Str} (c : exKB K x = true) : ExcK K mg x (He.ga K x) := by
  obtain ⟨c1, c2⟩ := He.ba c
  exact excK_ok X G c1 c2
def exmB (K : Frg) (c d : Value) (b : Bool) : Bool := decide (PySem.W.exmOne K c d = some b)
theorem exmB_ok {K : Frg} {c d : Value} {b : Bool} (h : exmB K c d b = true) : PySem.W.exmOne K c d = some b := of_decide_eq_true h
def oneB (K : Frg) (c d : Value) (b : Bool) : Bool := decide (PySem.W.kitOne K c d = some b)
theorem oneB_ok {K : Frg} {c d : Value} {b : Bool} (h : oneB K c d b = true) : PySem.W.kitOne K c d = some b := of_decide_eq_true h
/-! the law's own end -/
theorem law_end {l : PySem.W.OpenLaw} {k : Nat} {q : Program} {loose : List Str} {XP : (Str → Option Value) → Heap → Prop} {YP : World → Heap → Prop} {d : DefRec} {sp : Frg → ASp}
    (hn : l.most = some 63) (hdf : d.params.defaults = []) (hr : Room k callerA)
    (F : ∀ (w : World) (mg : Str → Option Value) (fa : Addr) (h : Heap), YP w h → h.Ns mainGlobals mg → mg d.name = some (.ref fa) →
      ∃ (K : Frg) (fd : FuncData), K.In h ∧ (∀ (s : Shared) (u : Value), BindsTo s fd ⟨[u], []⟩ [("script", u)]) ∧
        (∀ (ns : List Int), ns.length ≤ 63 → (∀ z ∈ ns, Builtin.Int.intBits z ≤ 1048576) → sp K [.fls (ns.map A.int)] (fun _ => none) (fun v _ => v = .bl true) AE0) ∧
        ∀ base : Heap, K.In base → base.Ns mainGlobals mg → AFn l.prog w K mg base k fa fd ["script"] (sp K)) :
    PySem.W.WalkO q loose XP YP l.row.toRowW d [] (fun f vs => PySem.call f vs) := by
  refine Att.attach_callB hn hdf fun w s₀ s₁ mg mb fa o pm cd doc a vs ns Gr Y ho hd hcd hmg hobj hints hlen hbits hg => ?_
  obtain ⟨K, fd, KX, hb, hsp, hF⟩ := F w mg fa _ Y Gr.T.g hmg
  refine law_call KX Gr.T.g Gr.T.b Gr.T.builtins Gr.T.nolimit hg hobj hints (Nat.le_trans hlen (by decide)) hr hF hb (fun H hO hS => ?_) ?_
  · have fl : FlAt K H a (ns.map V.int) := by
      rcases hS with (e | e) | e
      · rcases hO a with z | ⟨ob, xs, z⟩
        · rw [e] at z; cases z
        · rw [e] at z; cases z
      · exact .inl e
      · exact .inr e
    have rl : ∀ zs : List Int, RelAs K H (zs.map A.int) (zs.map V.int) := by
      intro zs
      induction zs with
      | nil => exact .nil
      | cons z zs ih => exact .cons (.int z) ih
    refine ⟨[.fls (ns.map A.int)], fun _ => none, _, _, .one (.fls fl (rl ns)), (fun b u z => by cases (show none = some u from z)), hsp ns hlen hbits, ?_, ?_⟩
    · rintro v H' ⟨x, h', m, r, _, e⟩
      have e : x = .bl true := e
      subst e
      cases r
      rfl
    · rintro c dd H' ⟨_, h', m, _, z⟩
      exact z
  · intro H e s' ⟨_, _, _, _, _, _, _, _, _, _, _, _, z⟩
    exact z
end G
namespace G
open PySem PySem.Spec L2

/-! ### promises by the number of arguments -/
abbrev Sp0 := AH → AVK → AXK → Prop
abbrev Sp1 := A → Sp0
abbrev Sp2 := A → Sp1
abbrev Sp3 := A → Sp2
abbrev Sp4 := A → Sp3
abbrev Sp5 := A → Sp4
abbrev Sp6 := A → Sp5
def sp0 (R : Sp0) : ASp := fun as h Q E => match as with
  | [] => R h Q E
  | _ => False
def sp1 (R : Sp1) : ASp := fun as h Q E => match as with
  | [a] => R a h Q E
  | _ => False
def sp2 (R : Sp2) : ASp := fun as h Q E => match as with
  | [a, b] => R a b h Q E
  | _ => False
def sp3 (R : Sp3) : ASp := fun as h Q E => match as with
  | [a, b, c] => R a b c h Q E
  | _ => False
def sp4 (R : Sp4) : ASp := fun as h Q E => match as with
  | [a, b, c, d] => R a b c d h Q E
  | _ => False
def sp5 (R : Sp5) : ASp := fun as h Q E => match as with
  | [a, b, c, d, e] => R a b c d e h Q E
  | _ => False
def sp6 (R : Sp6) : ASp := fun as h Q E => match as with
  | [a, b, c, d, e, f] => R a b c d e f h Q E
  | _ => False
theorem sp0_in {R : Sp0} {T : List A → AH → AVK → AXK → Prop} (h : ∀ h Q E, R h Q E → T [] h Q E) : ∀ as h Q E, sp0 R as h Q E → T as h Q E := fun as g Q E q => match as, q with
  | [], q => h g Q E q
theorem sp1_in {R : Sp1} {T : List A → AH → AVK → AXK → Prop} (h : ∀ a h Q E, R a h Q E → T [a] h Q E) : ∀ as h Q E, sp1 R as h Q E → T as h Q E := fun as g Q E q => match as, q with
  | [a], q => h a g Q E q
theorem sp2_in {R : Sp2} {T : List A → AH → AVK → AXK → Prop} (h : ∀ a b h Q E, R a b h Q E → T [a, b] h Q E) : ∀ as h Q E, sp2 R as h Q E → T as h Q E := fun as g Q E q => match as, q with
  | [a, b], q => h a b g Q E q
theorem sp3_in {R : Sp3} {T : List A → AH → AVK → AXK → Prop} (h : ∀ a b c h Q E, R a b c h Q E → T [a, b, c] h Q E) : ∀ as h Q E, sp3 R as h Q E → T as h Q E := fun as g Q E q => match as, q with
  | [a, b, c], q => h a b c g Q E q
theorem sp4_in {R : Sp4} {T : List A → AH → AVK → AXK → Prop} (h : ∀ a b c d h Q E, R a b c d h Q E → T [a, b, c, d] h Q E) : ∀ as h Q E, sp4 R as h Q E → T as h Q E := fun as g Q E q => match as, q with
  | [a, b, c, d], q => h a b c d g Q E q
theorem sp5_in {R : Sp5} {T : List A → AH → AVK → AXK → Prop} (h : ∀ a b c d e h Q E, R a b c d e h Q E → T [a, b, c, d, e] h Q E) : ∀ as h Q E, sp5 R as h Q E → T as h Q E := fun as g Q E q => match as, q with
  | [a, b, c, d, e], q => h a b c d e g Q E q
theorem sp6_in {R : Sp6} {T : List A → AH → AVK → AXK → Prop} (h : ∀ a b c d e f h Q E, R a b c d e f h Q E → T [a, b, c, d, e, f] h Q E) : ∀ as h Q E, sp6 R as h Q E → T as h Q E := fun as g Q E q => match as, q with
  | [a, b, c, d, e, f], q => h a b c d e f g Q E q

/-! ### heaps that grow -/
/-- but at M all that stands stays -/
def Fx (M : Addr → Prop) (h h' : AH) : Prop := ∀ a o, ¬ M a → h a = some o → h' a = some o
abbrev Ext (h h' : AH) : Prop := ∀ a o, h a = some o → h' a = some o
section
variable {M : Addr → Prop} {h h1 h2 h3 : AH} {a p : Addr} {o : AO}
theorem Ext.refl (h : AH) : Ext h h := fun _ _ e => e
theorem Ext.trans (a : Ext h h1) (b : Ext h1 h2) : Ext h h2 := fun c o e => b c o (a c o e)
theorem Ext.new (e : h p = none) : Ext h (updA h p o) := fun c u z => by
  rw [updA_ne (fun q => by subst q; rw [e] at z; cases z)]; exact z
theorem Fx.refl (h : AH) : Fx M h h := fun _ _ _ e => e
theorem Fx.trans (a : Fx M h h1) (b : Fx M h1 h2) : Fx M h h2 := fun c o n e => b c o n (a c o n e)
theorem Ext.fx (a : Ext h h1) : Fx M h h1 := fun c o _ e => a c o e
theorem Fx.wr (m : M p) : Fx M h (updA h p o) := fun c u n z => by
  rw [updA_ne (fun q => n (by rw [q]; exact m))]; exact z
theorem Fx.new (e : h p = none) : Fx M h (updA h p o) := (Ext.new e).fx
theorem Fx.ext (f : Fx (fun _ => False) h h1) : Ext h h1 := fun c o e => f c o (fun z => z) e
theorem ne_none {p q : Addr} (e : h p = some o) (n : h q = none) : p ≠ q := fun z => by subst z; rw [e] at n; cases n
end

/-! ### isinstance of the plain kinds -/
theorem kit_refl {K : Frg} (t : Value) : PySem.W.kitOne K t t = some true := by
  unfold PySem.W.kitOne
  rw [if_pos (beq_iff_eq.mpr rfl)]
/-- the built-in kind of a value -/
def kindA (h : AH) : A → Option String
  | .non => some "NoneType"
  | .bl _ => some "bool"
  | .int _ => some "int"
  | .str _ => some "str"
  | .tup _ => some "tuple"
  | .kt _ => some "tuple"
  | .ref p => match h p with
    | some (.lst _) => some "list"
    | some (.dK _) => some "dict"
    | some (.dT _) => some "dict"
    | _ => none
  | .ty _ => none
  | .fls _ => none
def kindIs (k c : String) : Bool := k == c || (k == "bool" && c == "int")
theorem kind_ty {K : Frg} {h : AH} {x : A} {k : String} (e : kindA h x = some k) : tyU K x h (.type k) := by
  cases x with
  | ref p =>
    simp only [kindA] at e
    cases q : h p with
    | none => rw [q] at e; cases e
    | some o =>
      rw [q] at e
      cases o with
      | lst xs => cases e; exact .inl ⟨⟨xs, q⟩, rfl⟩
      | dK xs => cases e; exact .inr (.inl ⟨.inl ⟨xs, q⟩, rfl⟩)
      | dT xs => cases e; exact .inr (.inl ⟨.inr ⟨xs, q⟩, rfl⟩)
      | _ => cases e
  | ty n => cases e
  | fls xs => cases e
  | _ => cases e; rfl
def kinds : List String := ["NoneType", "bool", "int", "str", "tuple", "list", "dict"]
def kindsC : List String := ["bool", "int", "str", "tuple", "list", "dict"]
theorem kit_all : (kinds.all fun k => kindsC.all fun c => decide (PySem.W.kitOne [] (.type k) (.type c) = some (kindIs k c))) = true := by decide +kernel
theorem kit_kind {K : Frg} {k c : String} (hk : k ∈ kinds) (hc : c ∈ kindsC) : PySem.W.kitOne K (.type k) (.type c) = some (kindIs k c) := by
  have e : PySem.W.kitOne K (.type k) (.type c) = PySem.W.kitOne [] (.type k) (.type c) := rfl
  rw [e]
  exact of_decide_eq_true (List.all_eq_true.mp (List.all_eq_true.mp kit_all k hk) c hc)
theorem kind_mem {h : AH} {x : A} {k : String} (e : kindA h x = some k) : k ∈ kinds := by
  cases x with
  | ref p =>
    simp only [kindA] at e
    cases q : h p with
    | none => rw [q] at e; cases e
    | some o =>
      rw [q] at e
      cases o <;> first | (cases e; done) | (cases e; decide)
  | ty n => cases e
  | fls xs => cases e
  | _ => cases e; decide
/-- isinstance(x, T), isinstance(x, (T, U)) of a plain value -/
theorem isi_kind {K : Frg} {h : AH} {x : A} {k c : String} {Q : AVK} (e : kindA h x = some k) (q : Q (.bl (kindIs k c)) h) (hc : c ∈ kindsC := by decide) : isiA K [x, .ty c] h Q :=
  ⟨rfl, .type k, kindIs k c, kind_ty e, kit_kind (kind_mem e) hc, q⟩
theorem isi_kind2 {K : Frg} {h : AH} {x : A} {k c d : String} {Q : AVK} (e : kindA h x = some k) (q : Q (.bl (kindIs k c || kindIs k d)) h) (hc : c ∈ kindsC := by decide) (hd : d ∈ kindsC := by decide) : isiA K [x, .tup [.ty c, .ty d]] h Q := by
  refine ⟨rfl, .type k, _, kind_ty e, ?_, q⟩
  show PySem.W.kitAny K (.type k) [.type c, .type d] = _
  unfold PySem.W.kitAny PySem.W.kitAny PySem.W.kitAny
  rw [kit_kind (kind_mem e) hc, kit_kind (kind_mem e) hd]
  cases kindIs k c <;> cases kindIs k d <;> rfl
end G
namespace G
open PySem PySem.Spec L2
open Classical

/-! ### ghost heaps -/
noncomputable def hid (M : Addr → Prop) (h : AH) : AH := fun p => if M p then none else h p
noncomputable def nw (h h' : AH) : AH := fun p => if h p = none then h' p else none
section
variable {M M' : Addr → Prop} {h h' h'' h1 h2 : AH} {a p : Addr} {o : AO}
theorem hid_get (n : ¬ M p) : hid M h p = h p := if_neg n
theorem hid_some (e : hid M h p = some o) : ¬ M p ∧ h p = some o := by
  unfold hid at e
  split at e
  · cases e
  · exact ⟨‹_›, e⟩
theorem hid_of (n : ¬ M p) (e : h p = some o) : hid M h p = some o := by rw [hid_get n]; exact e
theorem hid_ext : Ext (hid M h) h := fun _ _ e => (hid_some e).2
theorem hid_sub (k : ∀ p, M' p → M p) : Ext (hid M h) (hid M' h) := fun p _ e => hid_of (fun z => (hid_some e).1 (k p z)) (hid_some e).2
theorem Fx.hd (f : Fx M h h') : Ext (hid M h) (hid M h') := fun p o e => hid_of (hid_some e).1 (f p o (hid_some e).1 (hid_some e).2)
theorem Fx.hdX (f : Fx M h h') : Ext (hid M h) h' := fun p o e => f p o (hid_some e).1 (hid_some e).2
theorem Fx.sub (f : Fx M h h') (k : ∀ p, M p → M' p) : Fx M' h h' := fun p o n e => f p o (fun z => n (k p z)) e
theorem Ext.hd (e : Ext h h') : Ext (hid M h) (hid M h') := fun p o z => hid_of (hid_some z).1 (e p o (hid_some z).2)
theorem nw_some (e : nw h h' p = some o) : h p = none ∧ h' p = some o := by
  unfold nw at e
  split at e
  · exact ⟨‹_›, e⟩
  · cases e
theorem nw_of (n : h p = none) (e : h' p = some o) : nw h h' p = some o := by unfold nw; rw [if_pos n]; exact e
theorem nw_ext : Ext (nw h h') h' := fun _ _ e => (nw_some e).2
theorem nw_up (e : Ext h' h'') : Ext (nw h h') (nw h h'') := fun _ _ z => nw_of (nw_some z).1 (e _ _ (nw_some z).2)
/-- what was new stays where only old things change -/
theorem nw_fx (f : Fx M h' h'') (k : ∀ p, M p → h p ≠ none) : Ext (nw h h') (nw h h'') := fun p o z => nw_of (nw_some z).1 (f p o (fun m => k p m (nw_some z).1) (nw_some z).2)
theorem nw_less (e : Ext h h1) : Ext (nw h1 h') (nw h h') := fun p o z => nw_of (by
  cases q : h p with
  | none => rfl
  | some u => have k := (nw_some z).1; rw [e p u q] at k; cases k) (nw_some z).2
theorem Ext.isN (e : Ext h h') (n : h' p = none) : h p = none := by
  cases q : h p with
  | none => rfl
  | some u => rw [e p u q] at n; cases n
/-- the parts of a heap that stand -/
theorem kindA_up (e : Ext h h') {x : A} {k : String} (q : kindA h x = some k) : kindA h' x = some k := by
  cases x with
  | ref p =>
    simp only [kindA] at q ⊢
    cases z : h p with
    | none => rw [z] at q; cases q
    | some o => rw [z] at q; rw [e p o z]; exact q
  | _ => exact q
/-- the items of a list or a tuple -/
def itA (h : AH) : A → Option (List A)
  | .ref p => match h p with
    | some (.lst xs) => some xs
    | _ => none
  | .tup xs => some xs
  | _ => none
theorem itA_up (e : Ext h h') {x : A} {xs : List A} (q : itA h x = some xs) : itA h' x = some xs := by
  cases x with
  | ref p =>
    simp only [itA] at q ⊢
    cases z : h p with
    | none => rw [z] at q; cases q
    | some o => rw [z] at q; rw [e p o z]; exact q
  | _ => exact q
theorem itA_ref {p : Addr} {xs : List A} : itA h (.ref p) = some xs ↔ h p = some (.lst xs) := by
  constructor
  · intro q
    simp only [itA] at q
    cases z : h p with
    | none => rw [z] at q; cases q
    | some o =>
      rw [z] at q
      cases o with
      | lst ys => cases q; rfl
      | _ => cases q
  · intro q
    simp only [itA]
    rw [q]
/-- where an item is asked: x is a list or a tuple -/
theorem seqA_it {x : A} {xs : List A} {R : List A → Prop} (q : itA h x = some xs) (r : R xs) : seqA x h R := by
  cases x with
  | ref p => exact ⟨xs, itA_ref.mp q, r⟩
  | tup ys => cases q; exact r
  | _ => cases q
theorem kind_it {x : A} {xs : List A} (q : itA h x = some xs) : (kindA h x = some "list" ∧ ∃ p, x = .ref p ∧ h p = some (.lst xs)) ∨ (kindA h x = some "tuple" ∧ x = .tup xs) := by
  cases x with
  | ref p =>
    have e := itA_ref.mp q
    exact .inl ⟨by simp only [kindA]; rw [e], p, rfl, e⟩
  | tup ys => cases q; exact .inr ⟨rfl, rfl⟩
  | _ => cases q
theorem it_kind {x : A} {k : String} (q : kindA h x = some k) (s : kindIs k "list" = true ∨ (kindIs k "tuple" = true ∧ ∀ ks, x ≠ .kt ks)) : ∃ xs, itA h x = some xs := by
  cases x with
  | ref p =>
    simp only [kindA] at q
    cases z : h p with
    | none => rw [z] at q; cases q
    | some o =>
      rw [z] at q
      cases o with
      | lst ys => exact ⟨ys, itA_ref.mpr z⟩
      | lK _ => cases q
      | lT _ => cases q
      | ins _ _ => cases q
      | dK _ => cases q; rcases s with s | ⟨s, _⟩ <;> cases s
      | dT _ => cases q; rcases s with s | ⟨s, _⟩ <;> cases s
  | tup ys => exact ⟨ys, rfl⟩
  | kt ks =>
    cases q
    rcases s with s | ⟨_, s⟩
    · cases s
    · exact absurd rfl (s ks)
  | ty _ => cases q
  | fls _ => cases q
  | non => cases q; rcases s with s | ⟨s, _⟩ <;> cases s
  | bl _ => cases q; rcases s with s | ⟨s, _⟩ <;> cases s
  | int _ => cases q; rcases s with s | ⟨s, _⟩ <;> cases s
  | str _ => cases q; rcases s with s | ⟨s, _⟩ <;> cases s
end

/-- a def whose promise promises nothing -/
theorem defOk0 {P : Program} {w : World} {K : Frg} {mg : Str → Option Value} {base : Heap} {x qual : Str} {params : Arguments} {body : List Stmt} {scope : Scope} {f : Addr} {N ps : List Str} {k : Nat} {sp : ASp}
    (F : ∃ fd, FunD K x qual params body scope [] [] f fd)
    (bind : ∀ (kV doc pm : Value) (an : Option Addr) (cdv ct : Value) (us : List Value), us.length = ps.length → bindArgs (PySem.W.fnOf x qual params body scope .none kV doc pm an cdv ct) ⟨us, []⟩ = pure (ps.zip us)) (S : FnScope N ps scope)
    (no : ∀ as h Q E, sp as h Q E → False) : DefOk P w K mg base f (k + 1) ps sp := by
  obtain ⟨fd, F⟩ := F
  exact ⟨fd, F.kp, F.bindsN bind, F.ok S (fun vs H Q E ⟨as, h, QA, EA, r, _, hs, _⟩ => (no _ _ _ _ hs).elim) fun cdv A outer s H vs Q E hr ⟨as, h, QA, EA, r, rh, hs, kQ, kE⟩ => (no _ _ _ _ hs).elim⟩
/-! ### loops -/
section
variable {h : AH} {α : ASt}
/-- a walk over a list or a tuple -/
theorem for_it {x : A} {xs : List A} {g : ATG} {tb : ATS} {D : AEnds} (Pv : Nat → ASt → AH → Prop) (q : itA h x = some xs) (p0 : Pv 0 α h) (stay : ∀ p, x = .ref p → ∀ i α h, i ≤ xs.length → Pv i α h → h p = some (.lst xs))
    (step : ∀ i (hi : i < xs.length) α h, Pv i α h → g xs[i] α h fun α2 h2 => tb { D with nx := Pv (i + 1), ct := Pv (i + 1), bk := D.nx } α2 h2) (done : ∀ α h, Pv xs.length α h → D.nx α h) :
    seqOf x h fun S => loopS S g tb D α h := by
  have st : ∀ i x' α h, i < xs.length → xs[i]? = some x' → Pv i α h → g x' α h fun α2 h2 => tb { D with nx := Pv (i + 1), ct := Pv (i + 1), bk := D.nx } α2 h2 := fun i x' α h hi e pv => by
    rw [List.getElem?_eq_getElem hi] at e
    cases e
    exact step i hi α h pv
  cases x with
  | ref p => exact ⟨xs, itA_ref.mp q, Pv, p0, fun i α h hi pv => stay p rfl i α h hi pv, st, done⟩
  | tup ys => cases q; exact ⟨Pv, p0, fun _ _ _ _ _ => trivial, st, done⟩
  | _ => cases q
theorem for_fls {xs : List A} {g : ATG} {tb : ATS} {D : AEnds} (Pv : Nat → ASt → AH → Prop) (p0 : Pv 0 α h)
    (step : ∀ i (hi : i < xs.length) α h, Pv i α h → g xs[i] α h fun α2 h2 => tb { D with nx := Pv (i + 1), ct := Pv (i + 1), bk := D.nx } α2 h2) (done : ∀ α h, Pv xs.length α h → D.nx α h) :
    seqOf (.fls xs) h fun S => loopS S g tb D α h :=
  ⟨Pv, p0, fun _ _ _ _ _ => trivial, fun i x' α h hi e pv => by
    have e : xs[i]? = some x' := e
    rw [List.getElem?_eq_getElem hi] at e
    cases e
    exact step i hi α h pv, done⟩
/-- a list comprehension without a test -/
theorem lcS_mk {S : ASrc} {g : ATG} {te : ATE} {vs : List Nat} {D : Addr} {Q : AH → Prop} (Pv : Nat → AH → Prop) (p0 : Pv 0 (updA h D (.lst []))) (stay : ∀ i h', i ≤ S.n → Pv i h' → S.stay h')
    (step : ∀ i x h', i < S.n → S.item i x → Pv i h' → g x (wipeA α vs) h' fun α2 h2 => te α2 h2 (fun y h4 => ∃ acc, h4 D = some (.lst acc) ∧ acc.length < sizeLine ∧ Pv (i + 1) (updA h4 D (.lst (acc ++ [y])))) AE0)
    (done : ∀ h', Pv S.n h' → Q h') : lcS S g aYes te vs α h D Q := ⟨Pv, p0, stay, step, done⟩
theorem lc_it {x : A} {xs : List A} {g : ATG} {te : ATE} {vs : List Nat} {Q : Addr → AH → Prop} (Pv : Addr → Nat → AH → Prop) (q : itA h x = some xs) (p0 : ∀ D, h D = none → Pv D 0 (updA h D (.lst [])))
    (stay : ∀ D, h D = none → ∀ p, x = .ref p → ∀ i h', i ≤ xs.length → Pv D i h' → h' p = some (.lst xs))
    (step : ∀ D, h D = none → ∀ i (hi : i < xs.length) h', Pv D i h' → g xs[i] (wipeA α vs) h' fun α2 h2 => te α2 h2 (fun y h4 => ∃ acc, h4 D = some (.lst acc) ∧ acc.length < sizeLine ∧ Pv D (i + 1) (updA h4 D (.lst (acc ++ [y])))) AE0)
    (done : ∀ D, h D = none → ∀ h', Pv D xs.length h' → Q D h') : seqOf x h fun S => ∀ D, h D = none → lcS S g aYes te vs α h D fun h2 => Q D h2 := by
  have st : ∀ D, h D = none → ∀ i x' h', i < xs.length → xs[i]? = some x' → Pv D i h' → g x' (wipeA α vs) h' fun α2 h2 => te α2 h2 (fun y h4 => ∃ acc, h4 D = some (.lst acc) ∧ acc.length < sizeLine ∧ Pv D (i + 1) (updA h4 D (.lst (acc ++ [y])))) AE0 := fun D hD i x' h' hi e pv => by
    rw [List.getElem?_eq_getElem hi] at e
    cases e
    exact step D hD i hi h' pv
  cases x with
  | ref p => exact ⟨xs, itA_ref.mp q, fun D hD => lcS_mk (Pv D) (p0 D hD) (fun i h' hi pv => stay D hD p rfl i h' hi pv) (st D hD) (done D hD)⟩
  | tup ys => cases q; exact fun D hD => lcS_mk (Pv D) (p0 D hD) (fun _ _ _ _ => trivial) (st D hD) (done D hD)
  | _ => cases q
end
end G
namespace G
open PySem PySem.Spec L2
theorem bits_lt {i : Int} (h : i.natAbs < 2 ^ 64) : Builtin.Int.intBits i ≤ 64 := by
  unfold Builtin.Int.intBits
  split
  · omega
  · have := PySem.Flt.log2_lt_of (k := 64) (by decide) h
    omega
theorem mul_r {i j : Int} (h : j.natAbs < 2 ^ 64) : IntMulOk i j := IntMulOk.of_right (bits_lt h)
theorem mul_l {i j : Int} (h : i.natAbs < 2 ^ 64) : IntMulOk i j := IntMulOk.of_left (bits_lt h)
section
variable {h : AH} {p : Addr} {xs : List A} {i : Int} {v : A} {Q : AVK}
theorem ix_ref (e : h p = some (.lst xs)) (a : atI xs i = some v) (q : Q v h) : ixA (.ref p) (.int i) h Q := ⟨xs, v, e, a, q⟩
theorem ix_tup (a : atI xs i = some v) (q : Q v h) : ixA (.tup xs) (.int i) h Q := by
  show (match atI xs i with
    | some v => Q v h
    | none => False)
  rw [a]
  exact q
theorem ix_it {x : A} (e : itA h x = some xs) (a : atI xs i = some v) (q : Q v h) : ixA x (.int i) h Q := by
  cases x with
  | ref p => exact ix_ref (itA_ref.mp e) a q
  | tup ys => cases e; exact ix_tup a q
  | _ => cases e
/-- a valid index -/
theorem ixN_of {n : Nat} {i : Int} (h0 : 0 ≤ i) (h : i < n) : ixN n i = some i.toNat := by
  unfold ixN
  rw [if_pos h0, if_pos h]
theorem atI_of {α : Type} {xs : List α} {i : Int} (h0 : 0 ≤ i) (h : i < xs.length) : atI xs i = some (xs[i.toNat]'(by omega)) := by
  unfold atI
  rw [ixN_of h0 h]
  simp
end
theorem takeS {α : Type} {xs : List α} {i : Nat} (h : i < xs.length) : xs.take (i + 1) = xs.take i ++ [xs[i]] := by
  rw [List.take_succ, List.getElem?_eq_getElem h]
  rfl
theorem Ext.wr {h h' : AH} {p : Addr} {o : AO} (n : h p = none) (e : Ext h h') : Ext h (updA h' p o) := fun a u z => by
  rw [updA_ne (fun q => by subst q; rw [n] at z; cases z)]
  exact e a u z
theorem Fx.wr' {M : Addr → Prop} {h h' : AH} {p : Addr} {o : AO} (m : M p ∨ h p = none) (e : Fx M h h') : Fx M h (updA h' p o) := fun a u n z => by
  rw [updA_ne (fun q => by
    subst q
    rcases m with m | m
    · exact n m
    · rw [m] at z; cases z)]
  exact e a u n z
theorem Paired.of_get {α β : Type} {F : α → β → Prop} : ∀ {l₁ : List α} {l₂ : List β}, l₁.length = l₂.length → (∀ i (h1 : i < l₁.length) (h2 : i < l₂.length), F l₁[i] l₂[i]) → Paired F l₁ l₂
  | [], [], _, _ => .nil
  | [], _ :: _, h, _ => nomatch h
  | _ :: _, [], h, _ => nomatch h
  | a :: as, b :: bs, h, k => .cons (k 0 (Nat.zero_lt_succ _) (Nat.zero_lt_succ _)) (Paired.of_get (Nat.succ.inj h) fun i h1 h2 => k (i + 1) (Nat.succ_lt_succ h1) (Nat.succ_lt_succ h2))
theorem Paired.get {α β : Type} {F : α → β → Prop} : ∀ {l₁ : List α} {l₂ : List β}, Paired F l₁ l₂ → ∀ i (h1 : i < l₁.length) (h2 : i < l₂.length), F l₁[i] l₂[i]
  | _, _, .nil, _, h, _ => absurd h (Nat.not_lt_zero _)
  | _, _, .cons r t, 0, _, _ => r
  | _, _, .cons r t, i + 1, h1, h2 => Paired.get t i (Nat.lt_of_succ_lt_succ h1) (Nat.lt_of_succ_lt_succ h2)
theorem Paired.choose {α β : Type} {F : α → β → Prop} : ∀ {l : List α}, (∀ i (h : i < l.length), ∃ b, F l[i] b) → ∃ l₂, Paired F l l₂
  | [], _ => ⟨[], .nil⟩
  | a :: as, h => by
    obtain ⟨b, hb⟩ := h 0 (Nat.zero_lt_succ _)
    obtain ⟨bs, hbs⟩ := Paired.choose (l := as) fun i hi => h (i + 1) (Nat.succ_lt_succ hi)
    exact ⟨b :: bs, .cons hb hbs⟩
theorem atI_cons {α : Type} {x : α} {l : List α} : atI (x :: l) 0 = some x := by
  rw [atI_of (by decide) (by simp)]
  rfl
theorem ixN_zero {n : Nat} : ixN (n + 1) 0 = some 0 := by rw [ixN_of (by decide) (by omega)]; rfl
theorem cd {i j : Int} (a : 0 < j := by decide) (b : j.natAbs.log2 < 9000 := by decide) : CDivW i j := ⟨a, b⟩
section
variable {h : AH} {α : ASt} {g : ATG} {tb : ATS} {D : AEnds}
theorem loop_enum {p : Addr} {xs : List A} (Pv : Nat → ASt → AH → Prop) (p0 : Pv 0 α h) (stay : ∀ i α h, i ≤ xs.length → Pv i α h → h p = some (.lst xs))
    (step : ∀ i (hi : i < xs.length) α h, Pv i α h → g (.tup [.int (i : Nat), xs[i]]) α h fun α2 h2 => tb { D with nx := Pv (i + 1), ct := Pv (i + 1), bk := D.nx } α2 h2) (done : ∀ α h, Pv xs.length α h → D.nx α h) :
    loopS ⟨xs.length, fun i a => ∃ x, a = .tup [.int (i : Nat), x] ∧ xs[i]? = some x, fun h' => LstA h' p xs⟩ g tb D α h :=
  ⟨Pv, p0, stay, fun i x α h hi it pv => by
    obtain ⟨x', rfl, e⟩ := (show ∃ x', x = .tup [.int (i : Nat), x'] ∧ xs[i]? = some x' from it)
    rw [List.getElem?_eq_getElem hi] at e
    cases e
    exact step i hi α h pv, done⟩
theorem loop_rng {n : Nat} {lo : Int} (Pv : Nat → ASt → AH → Prop) (p0 : Pv 0 α h)
    (step : ∀ i (hi : i < n) α h, Pv i α h → g (.int (lo + (i : Nat))) α h fun α2 h2 => tb { D with nx := Pv (i + 1), ct := Pv (i + 1), bk := D.nx } α2 h2) (done : ∀ α h, Pv n α h → D.nx α h) :
    loopS ⟨n, fun i a => a = .int (lo + (i : Nat)), fun _ => True⟩ g tb D α h :=
  ⟨Pv, p0, fun _ _ _ _ _ => trivial, fun i x α h hi it pv => by
    have e : x = .int (lo + (i : Nat)) := it
    subst e
    exact step i hi α h pv, done⟩
end
/-- the rest of a suite behind a cut -/
theorem seq_cut {t u : ATS} {D : AEnds} {α : ASt} {h : AH} (P : ASt → AH → Prop) (first : ∀ J : ASt → AH → Prop, (∀ α h, P α h → J α h) → t { D with nx := J } α h) (rest : ∀ α h, P α h → u D α h) : aSeq t u D α h := first (u D) rest
/-- lists of a range -/
theorem lc_rng {h : AH} {α : ASt} {g : ATG} {te : ATE} {vs : List Nat} {D : Addr} {Q : AH → Prop} {n : Nat} {lo : Int} (Pv : Nat → AH → Prop) (p0 : Pv 0 (updA h D (.lst [])))
    (step : ∀ i (hi : i < n) h', Pv i h' → g (.int (lo + (i : Nat))) (wipeA α vs) h' fun α2 h2 => te α2 h2 (fun y h4 => ∃ acc, h4 D = some (.lst acc) ∧ acc.length < sizeLine ∧ Pv (i + 1) (updA h4 D (.lst (acc ++ [y])))) AE0)
    (done : ∀ h', Pv n h' → Q h') : lcS ⟨n, fun i a => a = .int (lo + (i : Nat)), fun _ => True⟩ g aYes te vs α h D Q :=
  lcS_mk Pv p0 (fun _ _ _ _ => trivial) (fun i x h' hi it pv => by
    have e : x = .int (lo + (i : Nat)) := it
    subst e
    exact step i hi h' pv) done
end G
namespace G
open PySem PySem.Spec L2

/-! ### tables of values -/
section
variable {κ : Type} [DecidableEq κ]
def vl : List (κ × A) → κ → Option A
  | [], _ => none
  | p :: r, k => if p.1 = k then some p.2 else vl r k
def pt : List (κ × A) → κ → A → List (κ × A)
  | [], k, v => [(k, v)]
  | p :: r, k, v => if p.1 = k then (p.1, v) :: r else p :: pt r k v
def dr (kvs : List (κ × A)) (k : κ) : List (κ × A) := kvs.filter fun kv => decide (kv.1 ≠ k)
/-- no key twice -/
def NoTwice (kvs : List (κ × A)) : Prop := (kvs.map (·.1)).Nodup
theorem vl_pt (k j : κ) (v : A) : ∀ kvs : List (κ × A), vl (pt kvs k v) j = if j = k then some v else vl kvs j
  | [] => by
    by_cases h : k = j
    · simp [pt, vl, h]
    · simp [pt, vl, h, Ne.symm h]
  | p :: r => by
    unfold pt
    by_cases h1 : p.1 = k
    · rw [if_pos h1]
      by_cases h2 : j = k
      · subst h2; simp [vl, h1]
      · have : ¬ p.1 = j := fun e => h2 (by rw [← e, h1])
        simp [vl, this, h2]
    · rw [if_neg h1]
      by_cases h2 : p.1 = j
      · have : ¬ j = k := fun e => h1 (by rw [h2, e])
        simp [vl, h2, this]
      · simp only [vl, if_neg h2]
        exact vl_pt k j v r
theorem vl_dr (k j : κ) : ∀ kvs : List (κ × A), vl (dr kvs k) j = if j = k then none else vl kvs j
  | [] => by simp [dr, vl]
  | p :: r => by
    have ih := vl_dr k j r
    unfold dr at ih ⊢
    by_cases h1 : p.1 = k
    · rw [List.filter_cons_of_neg (by simp [h1])]
      rw [ih]
      by_cases h2 : j = k
      · simp [h2]
      · have : ¬ p.1 = j := fun e => h2 (by rw [← e, h1])
        simp [vl, h2, this]
    · rw [List.filter_cons_of_pos (by simp [h1])]
      by_cases h2 : p.1 = j
      · have : ¬ j = k := fun e => h1 (by rw [h2, e])
        simp [vl, h2, this]
      · simp only [vl, if_neg h2]
        exact ih
theorem vl_mem {k : κ} {v : A} : ∀ {kvs : List (κ × A)}, vl kvs k = some v → (k, v) ∈ kvs
  | [], e => nomatch e
  | p :: r, e => by
    unfold vl at e
    by_cases h : p.1 = k
    · rw [if_pos h] at e; cases e; subst h; exact List.mem_cons_self
    · rw [if_neg h] at e; exact List.mem_cons_of_mem _ (vl_mem e)
theorem pt_len (k : κ) (v : A) : ∀ kvs : List (κ × A), (pt kvs k v).length ≤ kvs.length + 1
  | [] => by simp [pt]
  | p :: r => by
    unfold pt
    split
    · simp
    · have := pt_len k v r; simp; exact this
theorem pt_keys (k : κ) (v : A) : ∀ (kvs : List (κ × A)), (pt kvs k v).map (·.1) = if k ∈ kvs.map (·.1) then kvs.map (·.1) else kvs.map (·.1) ++ [k]
  | [] => by simp [pt]
  | p :: r => by
    unfold pt
    by_cases h : p.1 = k
    · rw [if_pos h]; simp [h]
    · rw [if_neg h, List.map_cons, pt_keys k v r]
      have hk : ¬ k = p.1 := fun e => h e.symm
      by_cases h2 : k ∈ r.map (·.1)
      · rw [if_pos h2, if_pos (by rw [List.map_cons]; exact List.mem_cons_of_mem _ h2)]; rfl
      · rw [if_neg h2, if_neg (by rw [List.map_cons]; intro m; exact (List.mem_cons.mp m).elim hk h2)]; rfl
theorem dr_len (k : κ) (kvs : List (κ × A)) : (dr kvs k).length ≤ kvs.length := List.length_filter_le _ _
end
section
variable {κ : Type} [DecidableEq κ] {K : Frg} {H : Hp}
theorem vl_rel : ∀ {xs : List (κ × A)} {vs : List (κ × V)} (k : κ), RelK K H xs vs → (∀ a, vl xs k = some a → ∃ v, valV vs k = some v ∧ RelA K H a v) ∧ (vl xs k = none → valV vs k = none)
  | _, _, k, .nil => ⟨(fun a e => nomatch e), fun _ => rfl⟩
  | p :: xs, q :: vs, k, .cons r t => by
    obtain ⟨e1, r1⟩ := r
    obtain ⟨i1, i2⟩ := vl_rel k t
    unfold vl
    by_cases h : p.1 = k
    · rw [if_pos h]
      refine ⟨fun a e => ?_, (fun e => nomatch e)⟩
      cases e
      exact ⟨q.2, valV_pos (by rw [← e1]; exact h), r1⟩
    · rw [if_neg h]
      have hq : ¬ q.1 = k := by rw [← e1]; exact h
      exact ⟨fun a e => let ⟨v, e2, r2⟩ := i1 a e; ⟨v, by rw [valV_neg hq]; exact e2, r2⟩, fun e => by rw [valV_neg hq]; exact i2 e⟩
theorem vl_opt {xs : List (κ × A)} {vs : List (κ × V)} (k : κ) (r : RelK K H xs vs) : (vl xs k).isSome = (valV vs k).isSome := by
  obtain ⟨i1, i2⟩ := vl_rel k r
  cases e : vl xs k with
  | none => rw [i2 e]; rfl
  | some a => obtain ⟨v, e2, _⟩ := i1 a e; rw [e2]; rfl
theorem putK_cons_pos {p : κ × V} {r : List (κ × V)} {k : κ} {v : V} (h : p.1 = k) (n : ∀ q ∈ r, q.1 ≠ k) : putK (p :: r) k v = (p.1, v) :: r := by
  unfold putK
  rw [if_pos (by rw [List.any_cons, decide_eq_true h]; rfl), List.map_cons, if_pos h]
  congr 1
  have : ∀ l : List (κ × V), (∀ q ∈ l, q.1 ≠ k) → l.map (fun kv => if kv.1 = k then (kv.1, v) else kv) = l := fun l hl => by
    induction l with
    | nil => rfl
    | cons q l ih => rw [List.map_cons, if_neg (hl q List.mem_cons_self), ih fun q hq => hl q (List.mem_cons_of_mem _ hq)]
  exact this r n
theorem putK_cons_neg {p : κ × V} {r : List (κ × V)} {k : κ} {v : V} (h : ¬ p.1 = k) : putK (p :: r) k v = p :: putK r k v := by
  unfold putK
  rw [List.any_cons, decide_eq_false h, Bool.false_or]
  by_cases z : (r.any fun kv => decide (kv.1 = k)) = true
  · rw [if_pos z, if_pos z, List.map_cons, if_neg h]
  · rw [if_neg z, if_neg z]; rfl
/-- put, where no key stands twice -/
theorem pt_rel {a : A} {v : V} (k : κ) (r : RelA K H a v) : ∀ {xs : List (κ × A)} {vs : List (κ × V)}, NoTwice xs → RelK K H xs vs → RelK K H (pt xs k a) (putK vs k v)
  | _, _, _, .nil => by
    show RelK K H [(k, a)] (putK [] k v)
    exact .cons ⟨rfl, r⟩ .nil
  | p :: xs, q :: vs, nt, .cons r1 t => by
    unfold NoTwice at nt
    rw [List.map_cons, List.nodup_cons] at nt
    unfold pt
    by_cases h : p.1 = k
    · have hq : q.1 = k := by rw [← r1.1]; exact h
      have hn : ∀ z ∈ vs, z.1 ≠ k := fun z hz e => by
        have : ∀ {xs : List (κ × A)} {vs : List (κ × V)}, RelK K H xs vs → xs.map (·.1) = vs.map (·.1) := fun {xs vs} t => by
          induction t with
          | nil => rfl
          | cons a _ ih => rw [List.map_cons, List.map_cons, a.1, ih]
        apply nt.1
        rw [this t, h, ← e]
        exact List.mem_map.mpr ⟨z, hz, rfl⟩
      rw [if_pos h, putK_cons_pos hq hn]
      exact .cons ⟨r1.1, r⟩ t
    · have hq : ¬ q.1 = k := by rw [← r1.1]; exact h
      rw [if_neg h, putK_cons_neg hq]
      exact .cons r1 (pt_rel k r nt.2 t)
theorem dr_rel (k : κ) : ∀ {xs : List (κ × A)} {vs : List (κ × V)}, RelK K H xs vs → RelK K H (dr xs k) (dropK vs k)
  | _, _, .nil => .nil
  | p :: xs, q :: vs, .cons r t => by
    have ih := dr_rel k t
    unfold dr dropK at ih ⊢
    by_cases h : p.1 = k
    · rw [List.filter_cons_of_neg (by simp [h]), List.filter_cons_of_neg (by rw [← r.1]; simp [h])]; exact ih
    · rw [List.filter_cons_of_pos (by simp [h]), List.filter_cons_of_pos (by rw [← r.1]; simp [h])]; exact .cons r ih
theorem NoTwice.pt {xs : List (κ × A)} {k : κ} {v : A} (n : NoTwice xs) : NoTwice (pt xs k v) := by
  unfold NoTwice at n ⊢
  rw [pt_keys]
  split
  · exact n
  · rename_i h
    rw [List.nodup_append]
    exact ⟨n, by simp, fun a ha b hb e => h (by rw [List.mem_singleton.mp hb] at e; rw [← e]; exact ha)⟩
theorem NoTwice.dr {xs : List (κ × A)} {k : κ} (n : NoTwice xs) : NoTwice (dr xs k) := by
  unfold NoTwice G.dr at *
  exact List.Sublist.nodup (List.Sublist.map _ List.filter_sublist) n
theorem NoTwice.nil : NoTwice ([] : List (κ × A)) := List.nodup_nil
end

/-! ### dicts: read, asked, written -/
/-- what the dict x holds at the key y: none = not a dict and a key of it -/
def dgA (h : AH) (x y : A) : Option (Option A) := match x with
  | .ref p => match h p with
    | some (.dK kvs) => (keyA y).map fun k => vl kvs k
    | some (.lK kvs) => (keyA y).map fun k => vl kvs k
    | some (.dT kvs) => match y with
      | .kt k => some (vl kvs k)
      | _ => none
    | some (.lT kvs) => match y with
      | .kt k => some (vl kvs k)
      | _ => none
    | _ => none
  | _ => none
theorem RelO.dKi {K : Frg} {H : Hp} {kvs : List (Key × A)} {u : HO} (r : RelO K H (.dK kvs) u) : ∃ vs, u = .dK vs ∧ RelK K H kvs vs := by cases r; exact ⟨_, rfl, ‹_›⟩
theorem RelO.dTi {K : Frg} {H : Hp} {kvs : List (List Key × A)} {u : HO} (r : RelO K H (.dT kvs) u) : ∃ vs, u = .dT vs ∧ RelK K H kvs vs := by cases r; exact ⟨_, rfl, ‹_›⟩
theorem dg_rel {K : Frg} {H : Hp} {h : AH} {x y : A} {v w : V} {o : Option A} (rh : RelH K H h) (rx : RelA K H x v) (ry : RelA K H y w) (e : dgA h x y = some o) :
    ∃ p o', v = .ref p ∧ DGet H p w o' ∧ o.isSome = o'.isSome ∧ ∀ a, o = some a → ∃ u, o' = some u ∧ RelA K H a u := by
  cases rx with
  | ref p =>
    simp only [dgA] at e
    have fin : ∀ {κ : Type} [DecidableEq κ] {kvs : List (κ × A)} {vs : List (κ × V)} {k : κ}, RelK K H kvs vs → o = vl kvs k → o.isSome = (valV vs k).isSome ∧ ∀ a, o = some a → ∃ u, valV vs k = some u ∧ RelA K H a u := fun {κ _ kvs vs k} r eo => by
      subst eo
      exact ⟨vl_opt k r, fun a ea => (vl_rel k r).1 a ea⟩
    have key : ∀ {k : Key}, keyA y = some k → w = kV k := fun ek => keyA_rel ry ek
    cases q : h p with
    | none => rw [q] at e; cases e
    | some ob =>
      rw [q] at e
      obtain ⟨u, e', ro⟩ := rh p _ q
      cases ob with
      | dK kvs =>
        cases ro with
        | dK r =>
          cases ek : keyA y with
          | none => rw [ek] at e; cases e
          | some k =>
            rw [ek] at e
            cases e
            rw [key ek]
            obtain ⟨f1, f2⟩ := fin r rfl
            exact ⟨p, _, rfl, .inl ⟨_, k, .inl e', rfl, rfl⟩, f1, f2⟩
      | lK kvs =>
        cases ro with
        | lK r =>
          cases ek : keyA y with
          | none => rw [ek] at e; cases e
          | some k =>
            rw [ek] at e
            cases e
            rw [key ek]
            obtain ⟨f1, f2⟩ := fin r rfl
            exact ⟨p, _, rfl, .inl ⟨_, k, .inr ⟨_, e'⟩, rfl, rfl⟩, f1, f2⟩
      | dT kvs =>
        cases ro with
        | dT r =>
          cases ry with
          | kt ey =>
            cases e
            obtain ⟨f1, f2⟩ := fin r rfl
            exact ⟨p, _, rfl, .inr ⟨_, _, _, .inl e', rfl, ey, rfl⟩, f1, f2⟩
          | _ => cases e
      | lT kvs =>
        cases ro with
        | lT r =>
          cases ry with
          | kt ey =>
            cases e
            obtain ⟨f1, f2⟩ := fin r rfl
            exact ⟨p, _, rfl, .inr ⟨_, _, _, .inr ⟨_, e'⟩, rfl, ey, rfl⟩, f1, f2⟩
          | _ => cases e
      | _ => cases e
  | _ => cases e
section
variable {X : Cx} {o i e value : Expr} {pos pos' tpos : Pos} {td ty tv : ATE}
def aDGet (td ty : ATE) : ATE := fun α h Q E => td α h (fun x h1 => ty α h1 (fun y h2 => ∃ v, dgA h2 x y = some (some v) ∧ Q v h2) E) E
theorem ae_dget (hu : X.A.units + 1 < cLine) (ho : AE X o td) (hi : AE X i ty) (hs : NoSl i) : AE X (.Subscript o i pos) (aDGet td ty) := .of (pe_dget hu ho.pe hi.pe hs) fun σ H Qv ⟨α, h, q, E, rs, rh, tk, ht, k⟩ =>
  low.then (H0 := H) rs rh tk ht fun v H1 x h1 m1 r1 rh1 rs1 q1 => low.then (H0 := H) rs1 rh1 (tk.up m1) q1 fun w H2 y h2 m2 r2 rh2 rs2 ⟨z, ez, q2⟩ => by
    obtain ⟨p, o', e1, g, _, gs⟩ := dg_rel rh2 (r1.up m2) r2 ez
    obtain ⟨u, eu, ru⟩ := gs z rfl
    subst eu
    exact ⟨p, u, e1, g, k _ _ ⟨z, h2, m1.trans m2, ru, rh2, q2⟩⟩
def rDIn (neg : Bool) : R2 := fun y x H Q => ∃ a o, x = .ref a ∧ DGet H a y o ∧ Q (.bl (nb neg o.isSome)) H
theorem opr_din (hu : X.A.units + 1 < cLine) : OpR X (compareOp .In) (rDIn false) := fun pins s σ H y x iv u Q I ry rx ⟨a, ov, ex, g, q⟩ => by
  subst ex
  obtain rfl : u = Value.ref a := rx
  exact d_in hu I g ry fun s3 I3 => ⟨.bl ov.isSome, H, I3, rfl, q⟩
theorem opr_dnotin (hu : X.A.units + 1 < cLine) : OpR X (compareOp .NotIn) (rDIn true) := fun pins s σ H y x iv u Q I ry rx ⟨a, ov, ex, g, q⟩ => by
  subst ex
  obtain rfl : u = Value.ref a := rx
  exact d_notIn hu I g ry fun s3 I3 => ⟨.bl (!ov.isSome), H, I3, rfl, q⟩
def inDA (neg : Bool) : AR2 := fun y x h Q => ∃ o, dgA h x y = some o ∧ Q (.bl (nb neg o.isSome)) h
theorem o_din {K : Frg} (neg : Bool) : Op2 K (rDIn neg) (inDA neg) := fun H h y x b a Q Qv rb ra rh k ⟨o, eo, q⟩ => by
  obtain ⟨p, o', e1, g, es, _⟩ := dg_rel rh ra rb eo
  exact ⟨p, o', e1, g, k _ _ ⟨_, h, Mono.refl H, .bl _, rh, by rw [← es]; exact q⟩⟩
/-- the object behind x[y] = v -/
def dpA (h : AH) (x y v : A) (R : Addr → AO → Prop) : Prop := match x with
  | .ref p => match h p with
    | some (.dK kvs) => ∃ k, keyA y = some k ∧ NoTwice kvs ∧ kvs.length < sizeLine ∧ R p (.dK (pt kvs k v))
    | some (.dT kvs) => match y with
      | .kt k => NoTwice kvs ∧ kvs.length < sizeLine ∧ R p (.dT (pt kvs k v))
      | _ => False
    | _ => False
  | _ => False
theorem RelK.len {κ : Type} {K : Frg} {H : Hp} {xs : List (κ × A)} {vs : List (κ × V)} (r : RelK K H xs vs) : xs.length = vs.length := Paired.length r
theorem dp_rel {K : Frg} {H : Hp} {h : AH} {x y z : A} {v w u : V} {R : Addr → AO → Prop} (rh : RelH K H h) (rx : RelA K H x v) (ry : RelA K H y w) (rz : RelA K H z u) (e : dpA h x y z R) :
    ∃ p o H', v = .ref p ∧ DPut H p w u H' ∧ Mono H H' ∧ RelH K H' (updA h p o) ∧ R p o := by
  cases rx with
  | ref p =>
    simp only [dpA] at e
    cases q : h p with
    | none => rw [q] at e; exact e.elim
    | some ob =>
      rw [q] at e
      obtain ⟨u', e', ro⟩ := rh p _ q
      cases ob with
      | dK kvs =>
        obtain ⟨vs, rfl, r⟩ := ro.dKi
        obtain ⟨k, ek, nt, l, eR⟩ := (show ∃ k, keyA y = some k ∧ NoTwice kvs ∧ kvs.length < sizeLine ∧ R p (.dK (pt kvs k z)) from e)
        rw [keyA_rel ry ek]
        exact ⟨p, _, _, rfl, DPut.k e' (by rw [← RelK.len r]; exact l), Mono.wr e' ns_dK, rh.wr e' ns_dK (.dK (pt_rel k rz nt r)), eR⟩
      | dT kvs =>
        obtain ⟨vs, rfl, r⟩ := ro.dTi
        cases ry with
        | @kt b ks ey =>
          obtain ⟨nt, l, eR⟩ := (show NoTwice kvs ∧ kvs.length < sizeLine ∧ R p (.dT (pt kvs ks z)) from e)
          exact ⟨p, _, _, rfl, DPut.t e' ey (by rw [← RelK.len r]; exact l), Mono.wr e' ns_dT, rh.wr e' ns_dT (.dT (pt_rel ks rz nt r)), eR⟩
        | _ => exact (show False from e).elim
      | _ => exact (show False from e).elim
  | _ => exact (show False from e).elim
def aDPut (td ty tv : ATE) : ATS := fun D α h => tv α h (fun v h1 => td α h1 (fun x h2 => ty α h2 (fun y h3 => dpA h3 x y v fun p o => D.nx α (updA h3 p o)) fun c h3 => D.ex c α h3) fun c h3 => D.ex c α h3) fun c h3 => D.ex c α h3
theorem as_dput (hu : X.A.units + 1 < cLine) (ho : AE X o td) (hi : AE X i ty) (hv : AE X value tv) (hs : swapsWith value (some (.Subscript o i pos')) pos.line X.env = pure false) : AS X (.Assign [.Subscript o i pos'] value pos) (aDPut td ty tv) :=
  .of (ps_dput hu ho.pe hi.pe hv.pe hs) fun D σ H ⟨α, h, DA, rs, rh, tk, ht, k⟩ =>
    low.then (H0 := H) rs rh (tk.e α) ht fun v H1 x h1 m1 r1 rh1 rs1 q1 => low.then (H0 := H) rs1 rh1 ((tk.up m1).e α) q1 fun ov H2 y h2 m2 r2 rh2 rs2 q2 => low.then (H0 := H) rs2 rh2 ((tk.up (m1.trans m2)).e α) q2 fun iv H3 z h3 m3 r3 rh3 rs3 q3 => by
      obtain ⟨p, ob, H', e1, g, m4, rh4, q4⟩ := dp_rel rh3 (r2.up m3) r3 ((r1.up m2).up m3) q3
      exact ⟨p, H', e1, g, k.nx _ _ ⟨α, _, ((m1.trans m2).trans m3).trans m4, rs3.up m4, rh4, q4⟩⟩
/-- d[y] op= v -/
def aDAug (td ty tv : ATE) (rA : AR2) : ATS := fun D α h => td α h (fun x h1 => ty α h1 (fun y h2 => ∃ v, dgA h2 x y = some (some v) ∧ tv α h2 (fun y2 h3 => rA v y2 h3 fun z h4 => dpA h4 x y z fun p o => D.nx α (updA h4 p o)) fun c h3 => D.ex c α h3) fun c h3 => D.ex c α h3) fun c h3 => D.ex c α h3
theorem as_daug {op : Operator} {rd : V → V → Hp → VK → Prop} {rA : AR2} (hu : X.A.units + 1 < cLine) (ho : AE X o td) (hi : AE X i ty) (hv : AE X value tv) (hop : InOp X op rd) (hr : Op2 X.K rd rA)
    (ha : ∀ ov iv new, augStore i ov iv new = (do holding [new, ov, iv] (setItem ov iv new); release [new, ov, iv] []; pure .next) := by intro _ _ _; rfl) : AS X (.AugAssign (.Subscript o i tpos) op value pos) (aDAug td ty tv rA) :=
  .of (ps_daug hu ho.pe hi.pe hv.pe hop ha) fun D σ H ⟨α, h, DA, rs, rh, tk, ht, k⟩ =>
    low.then (H0 := H) rs rh (tk.e α) ht fun v H1 x h1 m1 r1 rh1 rs1 q1 => low.then (H0 := H) rs1 rh1 ((tk.up m1).e α) q1 fun w H2 y h2 m2 r2 rh2 rs2 ⟨z, ez, q2⟩ => by
      obtain ⟨p, o', e1, g, _, gs⟩ := dg_rel rh2 (r1.up m2) r2 ez
      obtain ⟨u, eu, ru⟩ := gs z rfl
      subst eu
      refine ⟨p, u, e1, g, low.then (H0 := H) rs2 rh2 ((tk.up (m1.trans m2)).e α) q2 fun w3 H3 y2 h3 m3 r3 rh3 rs3 q3 => hr H3 h3 u w3 z y2 _ _ (ru.up m3) r3 rh3 (fun w4 H4 ⟨z2, h4, m4, r4, rh4, q4⟩ => ?_) q3⟩
      obtain ⟨p', ob, H', e1', g', m5, rh5, q5⟩ := dp_rel rh4 (((r1.up m2).up m3).up m4) ((r2.up m3).up m4) r4 q4
      have : p' = p := by rw [e1] at e1'; injection e1' with e; exact e.symm
      subst this
      exact ⟨H', g', k.nx _ _ ⟨α, _, (((m1.trans m2).trans m3).trans m4).trans m5, (rs3.up m4).up m5, rh5, q5⟩⟩
/-- e.f op= v -/
def aFAug (K : Frg) (ta tv : ATE) (rA : AR2) (f : Str) : ATS := fun D α h => ta α h (fun x h1 => match x with
  | .ref p => ∃ C fs v, h1 p = some (.ins C fs) ∧ ClsF K C f ∧ fs.lookup f = some v ∧ tv α h1 (fun y h2 => rA v y h2 fun z h3 => ∃ fs', h3 p = some (.ins C fs') ∧ fs'.length < 1000 ∧ D.nx α (updA h3 p (.ins C (putFA f z fs')))) fun c h3 => D.ex c α h3
  | _ => False) fun c h3 => D.ex c α h3
theorem as_faug {f : Str} {op : Operator} {rd : V → V → Hp → VK → Prop} {rA : AR2} (ha : AE X o td) (hv : AE X value tv) (hop : InOp X op rd) (hr : Op2 X.K rd rA) : AS X (.AugAssign (.Attribute o f tpos) op value pos) (aFAug X.K td tv rA f) :=
  .of (ps_fldaug ha.pe hv.pe hop) fun D σ H ⟨α, h, DA, rs, rh, tk, ht, k⟩ => low.then (H0 := H) rs rh (tk.e α) ht fun v H1 x h1 m1 r1 rh1 rs1 q1 => by
    cases r1 with
    | ref p =>
      obtain ⟨C, fs, u, e1, c, l, q⟩ := (show ∃ C fs v, h1 p = some (.ins C fs) ∧ ClsF X.K C f ∧ fs.lookup f = some v ∧ tv α h1 (fun y h2 => rA v y h2 fun z h3 => ∃ fs', h3 p = some (.ins C fs') ∧ fs'.length < 1000 ∧ DA.nx α (updA h3 p (.ins C (putFA f z fs')))) _ from q1)
      obtain ⟨dx, vs, f1, rk⟩ := rh1.ins e1
      obtain ⟨w, l', rw'⟩ := rk.look l
      refine ⟨p, C, dx, vs, w, rfl, f1, c.1, c.2, l', low.then (H0 := H) rs1 rh1 ((tk.up m1).e α) q fun w3 H2 y2 h2 m2 r2 rh2 rs2 q2 => hr H2 h2 w w3 u y2 _ _ (rw'.up m2) r2 rh2 ?_ q2⟩
      rintro w4 H3 ⟨z2, h3, m3, r3, rh3, fs', e3, l3, q3⟩
      obtain ⟨dx', vs', f3, rk3⟩ := rh3.ins e3
      exact ⟨dx', vs', f3, by rw [← Paired.len rk3]; exact l3, k.nx _ _ ⟨α, _, ((m1.trans m2).trans m3).trans (Mono.wr f3 ns_ins), (rs2.up m3).up (Mono.wr f3 ns_ins), rh3.wr f3 ns_ins (.ins (RelK.putF r3 rk3)), q3⟩⟩
    | _ => exact (show False from q1).elim
end
theorem o_radd {K : Frg} : Op2 K L2.rAdd (iA0 fun i j => .int (i + j)) := fun H h x y a b Q Qv ra rb rh k q => by
  obtain ⟨i, j, rfl, rfl, q⟩ := iA0_inv ra rb q
  exact ⟨i, j, rfl, rfl, k _ _ ⟨_, h, Mono.refl H, .int _, rh, q⟩⟩
theorem o_rsub {K : Frg} : Op2 K L2.rSub (iA0 fun i j => .int (i - j)) := fun H h x y a b Q Qv ra rb rh k q => by
  obtain ⟨i, j, rfl, rfl, q⟩ := iA0_inv ra rb q
  exact ⟨i, j, rfl, rfl, k _ _ ⟨_, h, Mono.refl H, .int _, rh, q⟩⟩

/-! ### displays of dicts -/
def aPairs : List (ATE × ATE) → ASt → AH → (List (A × A) → AH → Prop) → AXK → Prop
  | [], _, h, Q, _ => Q [] h
  | (tk, tv) :: r, α, h, Q, E => tk α h (fun x h1 => tv α h1 (fun y h2 => aPairs r α h2 (fun ps h3 => Q ((x, y) :: ps) h3) E) E) E
abbrev RelPs (K : Frg) (H : Hp) : List (A × A) → List (V × V) → Prop := Paired fun p q => RelA K H p.1 q.1 ∧ RelA K H p.2 q.2
def lowPs (X : Cx) (l : List (ATE × ATE)) : List (TE × TE) := l.map fun p => (low X p.1, low X p.2)
theorem low_pairs {X : Cx} {α : ASt} {E : AXK} : ∀ (l : List (ATE × ATE)) {σ : L2.St} {H : Hp} {h : AH} {Q : List (A × A) → AH → Prop} {Qv : List (V × V) → Hp → Prop}, RelS X.K H α σ → RelH X.K H h → TakesE X H α E → aPairs l α h Q E →
    (∀ ps H' as h', Mono H H' → RelPs X.K H' as ps → RelH X.K H' h' → Q as h' → Qv ps H') → tPairs (lowPs X l) σ H Qv
  | [], σ, H, h, Q, Qv, rs, rh, tk, q, k => k [] H [] h (Mono.refl H) .nil rh q
  | (tk', tv) :: r, σ, H, h, Q, Qv, rs, rh, tk, q, k => low.then (H0 := H) rs rh tk q fun v H1 x h1 m1 r1 rh1 rs1 q1 => low.then (H0 := H) rs1 rh1 (tk.up m1) q1 fun w H2 y h2 m2 r2 rh2 rs2 q2 =>
    low_pairs r rs2 rh2 (tk.up (m1.trans m2)) q2 fun ps H3 as h3 m3 r3 rh3 q3 => k _ _ _ h3 ((m1.trans m2).trans m3) (.cons ⟨(r1.up m2).up m3, r2.up m3⟩ r3) rh3 q3
def keysP : List (A × A) → Option (List (Key × A))
  | [] => some []
  | (x, y) :: r => match keyA x, keysP r with
    | some k, some ks => some ((k, y) :: ks)
    | _, _ => none
theorem keysP_rel {K : Frg} {H : Hp} : ∀ {as : List (A × A)} {ps : List (V × V)} {ks : List (Key × A)}, RelPs K H as ps → keysP as = some ks → ∃ kvs : List (Key × V), ps = kvs.map (fun kv => (kV kv.1, kv.2)) ∧ RelK K H ks kvs
  | _, _, ks, .nil, e => by simp [keysP] at e; subst e; exact ⟨[], rfl, .nil⟩
  | (x, y) :: as, p :: ps, ks, .cons r t, e => by
    unfold keysP at e
    cases e1 : keyA x with
    | none => rw [e1] at e; simp at e
    | some k =>
      cases e2 : keysP as with
      | none => rw [e1, e2] at e; simp at e
      | some l =>
        rw [e1, e2] at e
        simp at e; subst e
        obtain ⟨kvs, e3, r3⟩ := keysP_rel t e2
        refine ⟨(k, p.2) :: kvs, ?_, .cons ⟨rfl, r.2⟩ r3⟩
        rw [List.map_cons, ← e3, ← keyA_rel r.1 e1]
def mgA (kvs : List (Key × A)) : List (Key × A) := kvs.foldl (fun acc kv => pt acc kv.1 kv.2) []
theorem mg_rel {K : Frg} {H : Hp} : ∀ {more : List (Key × A)} {rs : List (Key × V)} {kvs : List (Key × A)} {vs : List (Key × V)}, NoTwice kvs → RelK K H more rs → RelK K H kvs vs → RelK K H (more.foldl (fun acc kv => pt acc kv.1 kv.2) kvs) (mergeK vs rs)
  | [], _, kvs, vs, n, .nil, r => r
  | p :: more, q :: rs, kvs, vs, n, .cons r1 t, r => by
    have e : RelK K H (pt kvs p.1 p.2) (putK vs q.1 q.2) := by rw [← r1.1]; exact pt_rel _ r1.2 n r
    exact mg_rel (rs := rs) (kvs := pt kvs p.1 p.2) (vs := putK vs q.1 q.2) (NoTwice.pt n) t e
def aDisp (l : List (ATE × ATE)) : ATE := fun α h Q E => ∀ p, h p = none → aPairs l α (updA h p (.dK [])) (fun ps h2 => h2 p = some (.dK []) ∧ ps.length ≤ 15 ∧ match keysP ps with
  | some kvs => Q (.ref p) (updA h2 p (.dK (mgA kvs)))
  | none => False) E
structure APs (X : Cx) (pos : Pos) (keys : List (Option Expr)) (values : List Expr) (l : List (ATE × ATE)) : Prop where
  pps : PPs X pos keys values (lowPs X l)
theorem aps_nil {X : Cx} {pos : Pos} : APs X pos [] [] [] := ⟨pps_nil⟩
theorem aps_cons {X : Cx} {pos : Pos} {k v : Expr} {ks : List (Option Expr)} {vs : List Expr} {tk tv : ATE} {l : List (ATE × ATE)} (hk : AE X k tk) (hv : AE X v tv) (hr : APs X pos ks vs l) : APs X pos (some k :: ks) (v :: vs) ((tk, tv) :: l) := ⟨pps_cons hk.pe hv.pe hr.pps⟩
theorem ae_disp {X : Cx} {pos : Pos} {keys : List (Option Expr)} {values : List Expr} {l : List (ATE × ATE)} (h : APs X pos keys values l) (hall : keys.all (·.isSome) = true := by rfl) (hl : keys.length = values.length := by rfl) (h0 : keys ≠ [] := by simp)
    (h15 : keys.length ≤ 15 := by decide) : AE X (.Dict keys values pos) (aDisp l) := .of (pe_disp h.pps hall hl h0 h15) fun σ H Qv ⟨α, h, q, E, rs, rh, tk, ht, k⟩ => fun p hp =>
  low_pairs l (rs.up (Mono.new hp)) (rh.new hp (.dK .nil)) (tk.up (Mono.new hp)) (ht p (rh.free hp)) fun ps H2 as h2 m2 r2 rh2 ⟨e2, l2, q2⟩ => by
    obtain ⟨u, e3, ro⟩ := rh2 p _ e2
    obtain ⟨vs, rfl, r3⟩ := ro.dKi
    cases r3
    cases ek : keysP as with
    | none => rw [ek] at q2; exact q2.elim
    | some ks =>
      rw [ek] at q2
      obtain ⟨kvs, e4, r4⟩ := keysP_rel r2 ek
      refine ⟨e3, kvs, e4, ?_, k _ _ ⟨.ref p, _, ((Mono.new hp).trans m2).trans (Mono.wr e3 ns_dK), .ref p, rh2.wr e3 ns_dK (.dK (mg_rel NoTwice.nil r4 .nil)), q2⟩⟩
      have : ps.length = as.length := (Paired.length r2).symm
      rw [e4, List.length_map] at this
      omega

/-! ### more methods: insert, pop, a dict's pop; max, min -/
section
variable {K : Frg}
def insertA : ARm := fun x as h Q => match x, as with
  | .ref p, [.int i, y] => ∃ xs, h p = some (.lst xs) ∧ xs.length < sizeLine ∧ (0 ≤ i ∧ i < 2 ^ 63) ∧ Q .non (updA h p (.lst (xs.take i.toNat ++ [y] ++ xs.drop i.toNat)))
  | _, _ => False
theorem o_insert : OpM K (fun x vs H Q => ∃ (l : Addr) (xs : List V) (i : Int) (y : V), x = .ref l ∧ vs = [.int i, y] ∧ H l = some (.lst xs) ∧ xs.length < sizeLine ∧ 0 ≤ i ∧ i < 2 ^ 63 ∧
    Q .non (upd H l (.lst (xs.take i.toNat ++ [y] ++ xs.drop i.toNat)))) insertA := fun H h x a xs as Q Qv ra ras rh k q => by
  cases ra with
  | ref p => cases ras with
    | nil => exact (show False from q).elim
    | cons r1 t => cases t with
      | nil => cases r1 <;> exact (show False from q).elim
      | cons r2 t => cases t with
        | cons _ _ => cases r1 <;> exact (show False from q).elim
        | nil => cases r1 with
          | int i =>
            obtain ⟨ys, e, z, ⟨i0, i1⟩, q⟩ := (show ∃ xs, h p = some (.lst xs) ∧ xs.length < sizeLine ∧ (0 ≤ i ∧ i < 2 ^ 63) ∧ Q .non (updA h p (.lst (xs.take i.toNat ++ [_] ++ xs.drop i.toNat))) from q)
            obtain ⟨vs, f, rv⟩ := rh.lst e
            exact ⟨p, vs, i, _, rfl, rfl, f, by rw [← rv.len]; exact z, i0, i1, k _ _ ⟨.non, _, Mono.wr f ns_lst, .non, rh.wr f ns_lst (.lst (((rv.take _).app (.one r2)).app (rv.drop _))), q⟩⟩
          | _ => exact (show False from q).elim
  | _ => cases ras with
    | nil => exact (show False from q).elim
    | cons r1 t => cases t with
      | nil => cases r1 <;> exact (show False from q).elim
      | cons r2 t => cases r1 <;> cases t <;> exact (show False from q).elim
def popAtA : ARm := fun x as h Q => match x, as with
  | .ref p, [.int i] => ∃ xs j y, h p = some (.lst xs) ∧ (-(2 ^ 63) ≤ i ∧ i < 2 ^ 63) ∧ seqIndex? i xs.length = some j ∧ xs[j]? = some y ∧ Q y (updA h p (.lst (xs.eraseIdx j)))
  | _, _ => False
theorem o_popAt : OpM K rPopAt popAtA := fun H h x a xs as Q Qv ra ras rh k q => by
  cases ra with
  | ref p => cases ras with
    | nil => exact (show False from q).elim
    | cons r1 t => cases t with
      | cons _ _ => cases r1 <;> exact (show False from q).elim
      | nil => cases r1 with
        | int i =>
          obtain ⟨ys, j, y, e, ⟨i0, i1⟩, ej, ey, q⟩ := (show ∃ xs j y, h p = some (.lst xs) ∧ (-(2 ^ 63) ≤ i ∧ i < 2 ^ 63) ∧ seqIndex? i xs.length = some j ∧ xs[j]? = some y ∧ Q y (updA h p (.lst (xs.eraseIdx j))) from q)
          obtain ⟨vs, f, rv⟩ := rh.lst e
          obtain ⟨w, ew, rw'⟩ := rv.get ey
          exact ⟨p, vs, i, j, w, rfl, rfl, f, i0, i1, by rw [← rv.len]; exact ej, ew, k _ _ ⟨y, _, Mono.wr f ns_lst, rw'.up (Mono.wr f ns_lst), rh.wr f ns_lst (.lst (rv.erase j)), q⟩⟩
        | _ => exact (show False from q).elim
  | _ => cases ras with
    | nil => exact (show False from q).elim
    | cons r1 t => cases r1 <;> cases t <;> exact (show False from q).elim
/-- a dict's methods -/
def isDct (x : A) (h : AH) : Prop := match x with
  | .ref p => (∃ xs, h p = some (.dK xs)) ∨ ∃ xs, h p = some (.dT xs)
  | _ => False
theorem isDct_rel {H : Hp} {h : AH} {x : A} {v : V} (rh : RelH K H h) (r : RelA K H x v) (q : isDct x h) : tyV K "dict" v H := by
  cases r with
  | ref p =>
    rcases (show (∃ xs, h p = some (.dK xs)) ∨ ∃ xs, h p = some (.dT xs) from q) with ⟨xs, e⟩ | ⟨xs, e⟩
    · obtain ⟨u, e', ro⟩ := rh p _ e
      obtain ⟨vs, rfl, _⟩ := ro.dKi
      exact .inr (.inr (.inl ⟨rfl, .inl ⟨vs, e'⟩⟩))
    · obtain ⟨u, e', ro⟩ := rh p _ e
      obtain ⟨vs, rfl, _⟩ := ro.dTi
      exact .inr (.inr (.inl ⟨rfl, .inr ⟨vs, e'⟩⟩))
  | _ => exact (show False from q).elim
def dpopA : ARm := fun x as h Q => match x, as with
  | .ref p, [.kt k, d] => ∃ kvs, h p = some (.dT kvs) ∧ match vl kvs k with
    | some v => Q v (updA h p (.dT (dr kvs k)))
    | none => Q d h
  | _, _ => False
theorem o_dpop : OpM K L2.DX.rPopT dpopA := fun H h x a xs as Q Qv ra ras rh k q => by
  cases ra with
  | ref p => cases ras with
    | nil => exact (show False from q).elim
    | cons r1 t => cases t with
      | nil => cases r1 <;> exact (show False from q).elim
      | cons r2 t => cases t with
        | cons _ _ => cases r1 <;> exact (show False from q).elim
        | nil => cases r1 with
          | @kt b ks eb =>
            obtain ⟨kvs, e, q⟩ := (show ∃ kvs, h p = some (.dT kvs) ∧ match vl kvs ks with
              | some v => Q v (updA h p (.dT (dr kvs ks)))
              | none => Q _ h from q)
            obtain ⟨u, e', ro⟩ := rh p _ e
            obtain ⟨vs, rfl, r⟩ := ro.dTi
            obtain ⟨i1, i2⟩ := vl_rel ks r
            refine ⟨p, vs, ks, b, _, rfl, rfl, e', eb, fun v ev => ?_, fun ev => ?_⟩
            · cases el : vl kvs ks with
              | none => rw [i2 el] at ev; cases ev
              | some a =>
                rw [el] at q
                obtain ⟨w, ew, rw'⟩ := i1 a el
                rw [ew] at ev
                cases ev
                exact k _ _ ⟨a, _, Mono.wr e' ns_dT, rw'.up (Mono.wr e' ns_dT), rh.wr e' ns_dT (.dT (dr_rel ks r)), q⟩
            · cases el : vl kvs ks with
              | some a =>
                obtain ⟨w, ew, _⟩ := i1 a el
                rw [ew] at ev
                cases ev
              | none =>
                rw [el] at q
                exact k _ _ ⟨_, h, Mono.refl H, r2, rh, q⟩
          | _ => exact (show False from q).elim
  | _ => cases ras with
    | nil => exact (show False from q).elim
    | cons r1 t => cases t with
      | nil => cases r1 <;> exact (show False from q).elim
      | cons r2 t => cases r1 <;> cases t <;> exact (show False from q).elim
def maxA : ARs := two fun x y h Q => match x, y with
  | .int i, .int j => Q (.int (if j > i then j else i)) h
  | _, _ => False
def minA : ARs := two fun x y h Q => match x, y with
  | .int i, .int j => Q (.int (if j < i then j else i)) h
  | _, _ => False
theorem o_max : OpN K (fun xs H Q => ∃ i j, xs = [.int i, .int j] ∧ Q (.int (if j > i then j else i)) H) maxA := fun H h vs as Q Qv r rh k q => by
  obtain ⟨x, y, v, w, rfl, rx, ry, q⟩ := two_inv r q
  cases rx with
  | int i => cases ry with
    | int j => exact ⟨i, j, rfl, k _ _ ⟨_, h, Mono.refl H, .int _, rh, q⟩⟩
    | _ => exact (show False from q).elim
  | _ => cases ry <;> exact (show False from q).elim
theorem o_min : OpN K (fun xs H Q => ∃ i j, xs = [.int i, .int j] ∧ Q (.int (if j < i then j else i)) H) minA := fun H h vs as Q Qv r rh k q => by
  obtain ⟨x, y, v, w, rfl, rx, ry, q⟩ := two_inv r q
  cases rx with
  | int i => cases ry with
    | int j => exact ⟨i, j, rfl, k _ _ ⟨_, h, Mono.refl H, .int _, rh, q⟩⟩
    | _ => exact (show False from q).elim
  | _ => cases ry <;> exact (show False from q).elim
end
def aBmD (rA : ARm) (to : ATE) (t : ATA) : ATE := fun α h Q E => to α h (fun x h1 => isDct x h1 ∧ t α h1 (fun xs h2 => rA x xs h2 Q) E) E
section
variable {X : Cx} {o e : Expr} {es : List Expr} {to : ATE} {t : ATA} {name : Str} {apos cpos : Pos} {id : String} {r : V → List V → Hp → VK → Prop} {rA : ARm}
theorem ae_bmD (slot : Slot "dict" name id) (hty : typeOf (.builtin id) = pure (.type "method_descriptor")) (hm : MtR X id r) (hr : OpM X.K r rA) (ho : AE X o to) (ha : AAs X (e :: es) t)
    (hbase : attributeBase o name X.env (eval o X.env) = eval o X.env := by rfl)
    (hfew : ((backTo cpos (starEach (e :: es) X.env)).all (fun x => !x.1) && (backToKw cpos (keywordEach [] X.env)).all (fun x => x.1.isSome)
      && decide ((e :: es).length + ([] : List Keyword).length + (if ([] : List Keyword).isEmpty then 0 else 1) < 30)) = true := by rfl)
    (hline : (apos.endLine == cpos.line) = true := by rfl) (hs : starEach (e :: es) X.env = (false, eval e X.env) :: starEach es X.env := by rfl) (hplain : (backTo cpos (starEach es X.env)).any (·.1) = false := by rfl) :
    AE X (.Call (.Attribute o name apos) (e :: es) [] cpos) (aBmD rA to t) := .of (pe_bm PySem.F.plainAttrs_dict slot hty hm ho.pe ha.pa hbase hfew hline hs hplain) fun σ H Q ⟨α, h, q, E, rs, rh, tk, ht, k⟩ =>
  low.then (H0 := H) rs rh tk ht fun v H1 x h1 m1 r1 rh1 rs1 ⟨il, q1⟩ => ⟨isDct_rel rh1 r1 il, lowA.then rs1 rh1 (tk.up m1) q1 fun vs H2 xs h2 m2 r2 rh2 rs2 q2 => hr H2 h2 v x vs xs q Q (r1.up m2) r2 rh2 (fun z H' g => k _ _ (g.up (m1.trans m2))) q2⟩
end
end G
namespace G
open PySem PySem.Spec L2

/-! ### fractions -/
def fr (q : Rat) : A := .tup [.int q.num, .int q.den]
theorem gcd_fmod (a b : Int) : Int.gcd b (a.fmod b) = Int.gcd a b := by rw [Int.fmod_def, Int.gcd_sub_mul_left_right, Int.gcd_comm]
theorem fmod_pos {i m : Int} (h : 0 < m) : 0 ≤ i.fmod m ∧ i.fmod m < m := ⟨Int.fmod_nonneg_of_pos i h, Int.fmod_lt_of_pos i h⟩
theorem fmod_small (a : Int) {b : Int} (hb : b ≠ 0) : (a.fmod b).natAbs < b.natAbs := by
  by_cases h : 0 < b
  · have := fmod_pos (i := a) h
    omega
  · have e := Int.neg_fmod_neg (-a) (-b)
    rw [Int.neg_neg, Int.neg_neg] at e
    have := fmod_pos (i := -a) (m := -b) (by omega)
    rw [e]
    omega
section
variable {t b : Int}
theorem gcd_pos (hb : b ≠ 0) : 0 < (Int.gcd t b : Int) := by
  have : Int.gcd t b ≠ 0 := fun e => hb (Int.gcd_eq_zero_iff.mp e).2
  omega
theorem gcd_le (hb : b ≠ 0) : Int.gcd t b ≤ b.natAbs := Int.gcd_le_natAbs_right t hb
theorem made_pos (hb : 0 < b) : t / (Int.gcd t b : Int) = (Rat.divInt t b).num ∧ b / (Int.gcd t b : Int) = ((Rat.divInt t b).den : Int) := by
  rw [Rat.num_divInt, Rat.den_divInt, if_neg (by omega), Int.sign_eq_one_of_pos hb, Int.one_mul, Int.gcd_comm b t]
  refine ⟨rfl, ?_⟩
  rw [Int.natCast_ediv]
  congr 1
  omega
theorem made_neg (hb : b < 0) : t.fdiv (-(Int.gcd t b : Int)) = (Rat.divInt t b).num ∧ b.fdiv (-(Int.gcd t b : Int)) = ((Rat.divInt t b).den : Int) := by
  have hg := gcd_pos (t := t) (by omega : b ≠ 0)
  rw [Rat.num_divInt, Rat.den_divInt, if_neg (by omega), Int.sign_eq_neg_one_of_neg hb, Int.gcd_comm b t]
  have d1 := Int.gcd_dvd_left t b
  have d2 := Int.gcd_dvd_right t b
  rw [Int.fdiv_neg (by omega), Int.fdiv_neg (by omega), if_pos d1, if_pos d2, Int.fdiv_eq_ediv_of_dvd d1, Int.fdiv_eq_ediv_of_dvd d2]
  refine ⟨?_, ?_⟩
  · rw [Int.neg_one_mul, Int.neg_ediv_of_dvd d1]
  · rw [Int.natCast_ediv, ← Int.neg_ediv_of_dvd d2]
    congr 1
    omega
end
theorem fr_add (p q : Rat) : Rat.divInt (p.num * q.den + q.num * p.den) (p.den * q.den) = p + q := by
  have hp : (p.den : Int) ≠ 0 := by have := p.den_nz; omega
  have hq : (q.den : Int) ≠ 0 := by have := q.den_nz; omega
  rw [← Rat.divInt_add_divInt _ _ hp hq, Rat.num_divInt_den, Rat.num_divInt_den]
theorem fr_mul (p q : Rat) : Rat.divInt (p.num * q.num) (p.den * q.den) = p * q := by
  rw [← Rat.divInt_mul_divInt, Rat.num_divInt_den, Rat.num_divInt_den]
theorem den_pos (q : Rat) : 0 < (q.den : Int) := by have := q.den_pos; omega
theorem fr_inj {p q : Rat} (e : fr p = fr q) : p = q := by
  unfold fr at e
  injection e with e
  injection e with e1 e
  injection e1 with e1
  injection e with e2 _
  injection e2 with e2
  exact Rat.ext e1 (by omega)
/-! sizes -/
def Sz (n : Nat) (q : Rat) : Prop := q.num.natAbs < 2 ^ n ∧ q.den < 2 ^ n
theorem Sz.mono {n m : Nat} {q : Rat} (h : Sz n q) (k : n ≤ m) : Sz m q := ⟨Nat.lt_of_lt_of_le h.1 (Nat.pow_le_pow_right (by decide) k), Nat.lt_of_lt_of_le h.2 (Nat.pow_le_pow_right (by decide) k)⟩
theorem bits_le {i : Int} {n : Nat} (h : i.natAbs < 2 ^ n) : Builtin.Int.intBits i ≤ n := by
  unfold Builtin.Int.intBits
  split
  · omega
  · rename_i z
    have hi : i.natAbs ≠ 0 := by
      intro e
      exact z (by rw [beq_iff_eq]; omega)
    have := (Nat.log2_lt hi).mpr h
    omega
theorem mul_bits {i j : Int} {n m : Nat} (hi : i.natAbs < 2 ^ n) (hj : j.natAbs < 2 ^ m) (h : n + m ≤ 134217728) : IntMulOk i j := by
  have h1 := bits_le hi
  have h2 := bits_le hj
  have e : bitsLine = 134217728 := by decide
  unfold IntMulOk
  intro z
  rw [Bool.and_eq_true] at z
  have z2 := z.2
  unfold Builtin.Int.intTooBig at z2
  have z3 := of_decide_eq_true z2
  rw [e] at z3
  omega
theorem log2_small {n k : Nat} (h : n < 2 ^ k) (hk : k ≤ 9000) : n.log2 < 9000 := by
  by_cases z : n = 0
  · subst z; decide
  · exact Nat.lt_of_lt_of_le ((Nat.log2_lt z).mpr h) hk
theorem abs_mul_lt {i j : Int} {n m : Nat} (hi : i.natAbs < 2 ^ n) (hj : j.natAbs < 2 ^ m) : (i * j).natAbs < 2 ^ (n + m) := by
  rw [Int.natAbs_mul, Nat.pow_add]
  exact Nat.mul_lt_mul'' hi hj
theorem divInt_size {t b : Int} {n : Nat} (ht : t.natAbs < 2 ^ n) (hb : b.natAbs < 2 ^ n) (h0 : b ≠ 0) : Sz n (Rat.divInt t b) := by
  refine ⟨?_, ?_⟩
  · rw [Rat.num_divInt]
    refine Nat.lt_of_le_of_lt ?_ ht
    refine Nat.le_trans (Int.natAbs_ediv_le_natAbs _ _) ?_
    rw [Int.natAbs_mul]
    have : b.sign.natAbs ≤ 1 := by rw [Int.natAbs_sign_of_ne_zero h0]; exact Nat.le_refl 1
    calc b.sign.natAbs * t.natAbs ≤ 1 * t.natAbs := Nat.mul_le_mul_right _ this
      _ = t.natAbs := Nat.one_mul _
  · rw [Rat.den_divInt, if_neg h0]
    exact Nat.lt_of_le_of_lt (Nat.div_le_self _ _) hb
theorem Sz.mul {n m : Nat} {p q : Rat} (hp : Sz n p) (hq : Sz m q) : Sz (n + m) (p * q) := by
  rw [← fr_mul]
  refine divInt_size (abs_mul_lt hp.1 hq.1) ?_ (by have := p.den_nz; have := q.den_nz; simp; omega)
  exact abs_mul_lt (i := (p.den : Int)) (j := (q.den : Int)) (by simpa using hp.2) (by simpa using hq.2)
theorem Sz.add {n m : Nat} {p q : Rat} (hp : Sz n p) (hq : Sz m q) : Sz (n + m + 1) (p + q) := by
  rw [← fr_add]
  have a1 := abs_mul_lt (j := (q.den : Int)) hp.1 (by simpa using hq.2)
  have a2 := abs_mul_lt (j := (p.den : Int)) hq.1 (by simpa using hp.2)
  have a3 := abs_mul_lt (i := (p.den : Int)) (j := (q.den : Int)) (n := n) (m := m) (by simpa using hp.2) (by simpa using hq.2)
  rw [Nat.add_comm m n] at a2
  have e : 2 ^ (n + m + 1) = 2 ^ (n + m) + 2 ^ (n + m) := by rw [Nat.pow_succ]; omega
  refine divInt_size ?_ ?_ (by have := p.den_nz; have := q.den_nz; simp; omega)
  · rw [e]
    have := Int.natAbs_add_le (p.num * q.den) (q.num * p.den)
    omega
  · rw [e]; omega
end G
namespace G
open PySem PySem.Spec L2
section
variable {h : AH} {α : ASt}
/-- a comprehension whose items are known: the i-th is F i; only new objects are made -/
theorem lc_map {x : A} {xs : List A} {g : ATG} {te : ATE} {vs : List Nat} {Q : Addr → AH → Prop} (F : Nat → A) (q : itA h x = some xs) (sz : xs.length ≤ 1000)
    (step : ∀ i (hi : i < xs.length) h' (C : A → AH → Prop), Ext h h' → (∀ h4, Ext h' h4 → C (F i) h4) → g xs[i] (wipeA α vs) h' fun α2 h2 => te α2 h2 C AE0)
    (done : ∀ D h', h D = none → Ext h h' → h' D = some (.lst ((List.range xs.length).map F)) → Q D h') : seqOf x h fun S => ∀ D, h D = none → lcS S g aYes te vs α h D fun h2 => Q D h2 := by
  refine lc_it (fun D i h' => Ext h h' ∧ h' D = some (.lst ((List.range i).map F))) q (fun D hD => ⟨Ext.new hD, updA_same⟩) (fun D hD p e i h' _ pv => by subst e; exact pv.1 _ _ (itA_ref.mp q)) (fun D hD i hi h' pv => ?_) fun D hD h' pv => done D h' hD pv.1 pv.2
  obtain ⟨ex, eD⟩ := pv
  refine step i hi h' _ ex fun h4 e4 => ⟨_, e4 _ _ eD, ?_, Ext.wr hD (ex.trans e4), ?_⟩
  · rw [List.length_map, List.length_range]
    exact Nat.lt_of_lt_of_le (by omega : i < 1000) (by decide)
  · rw [updA_same, List.range_succ, List.map_append]
    rfl
theorem lc_rmap {n : Nat} {g : ATG} {te : ATE} {vs : List Nat} {D : Addr} {Q : AH → Prop} (F : Nat → A) (sz : n ≤ 1000) (hD : h D = none)
    (step : ∀ i (hi : i < n) h' (C : A → AH → Prop), Ext h h' → (∀ h4, Ext h' h4 → C (F i) h4) → g (.int (0 + (i : Nat))) (wipeA α vs) h' fun α2 h2 => te α2 h2 C AE0)
    (done : ∀ h', Ext h h' → h' D = some (.lst ((List.range n).map F)) → Q h') : lcS ⟨n, fun i a => a = .int (0 + (i : Nat)), fun _ => True⟩ g aYes te vs α h D Q := by
  refine lc_rng (fun i h' => Ext h h' ∧ h' D = some (.lst ((List.range i).map F))) ⟨Ext.new hD, updA_same⟩ (fun i hi h' pv => ?_) fun h' pv => done h' pv.1 pv.2
  obtain ⟨ex, eD⟩ := pv
  refine step i hi h' _ ex fun h4 e4 => ⟨_, e4 _ _ eD, ?_, Ext.wr hD (ex.trans e4), ?_⟩
  · rw [List.length_map, List.length_range]
    exact Nat.lt_of_lt_of_le (by omega : i < 1000) (by decide)
  · rw [updA_same, List.range_succ, List.map_append]
    rfl
/-- a comprehension with a test that no item passes -/
theorem lc_none {x : A} {xs : List A} {g : ATG} {tt : ATT} {te : ATE} {vs : List Nat} {Q : Addr → AH → Prop} (q : itA h x = some xs)
    (step : ∀ i (hi : i < xs.length) h' (C : ASt → Bool → AH → Prop), Ext h h' → (∀ α2, C α2 false h') → g xs[i] (wipeA α vs) h' fun α2 h2 => tt α2 h2 (C α2) AE0)
    (done : ∀ D h', h D = none → Ext h h' → h' D = some (.lst []) → Q D h') : seqOf x h fun S => ∀ D, h D = none → lcS S g tt te vs α h D fun h2 => Q D h2 := by
  have st : ∀ D, h D = none → ∀ i x' h', i < xs.length → xs[i]? = some x' → (Ext h h' ∧ h' D = some (.lst [])) → g x' (wipeA α vs) h' fun α2 h2 => tt α2 h2 (fun b h3 => if b = true then te α2 h3 (fun y h4 => ∃ acc, h4 D = some (.lst acc) ∧ acc.length < sizeLine ∧ (Ext h (updA h4 D (.lst (acc ++ [y]))) ∧ updA h4 D (.lst (acc ++ [y])) D = some (.lst []))) AE0 else (Ext h h3 ∧ h3 D = some (.lst []))) AE0 := fun D hD i x' h' hi e pv => by
    rw [List.getElem?_eq_getElem hi] at e
    cases e
    exact step i hi h' (fun α2 b h3 => if b = true then te α2 h3 (fun y h4 => ∃ acc, h4 D = some (.lst acc) ∧ acc.length < sizeLine ∧ (Ext h (updA h4 D (.lst (acc ++ [y]))) ∧ updA h4 D (.lst (acc ++ [y])) D = some (.lst []))) AE0 else (Ext h h3 ∧ h3 D = some (.lst []))) pv.1 fun α2 => ifF pv
  cases x with
  | ref p => exact ⟨xs, itA_ref.mp q, fun D hD => ⟨fun _ h' => Ext h h' ∧ h' D = some (.lst []), ⟨Ext.new hD, updA_same⟩, fun i h' hi pv => pv.1 _ _ (itA_ref.mp q), st D hD, fun h' pv => done D h' hD pv.1 pv.2⟩⟩
  | tup ys => cases q; exact fun D hD => ⟨fun _ h' => Ext h h' ∧ h' D = some (.lst []), ⟨Ext.new hD, updA_same⟩, fun _ _ _ _ => trivial, st D hD, fun h' pv => done D h' hD pv.1 pv.2⟩
  | _ => cases q
end
theorem getD_at {α : Type} {l : List α} {i : Nat} (d : α) (h : i < l.length) : l.getD i d = l[i] := by simp [h]
theorem range_map_get {α β : Type} (f : α → β) (d : α) (l : List α) : (List.range l.length).map (fun i => f (l.getD i d)) = l.map f := by
  refine List.ext_getElem (by simp) fun i h1 h2 => ?_
  simp at h1
  simp [h1]
end G
namespace GL
open PySem PySem.Spec L2 G
def top (i : Nat) : Stmt := PySem.Challenge.pw_glazehall_k53_whole_keepers_by_turns.main.body.getD i (.Pass ⟨0, 0, 0, 0⟩)
abbrev s_divisor : Stmt := top 5
abbrev s_made : Stmt := top 6
abbrev s_plus : Stmt := top 7
abbrev s_times : Stmt := top 8
abbrev s_behind : Stmt := top 11
abbrev s_Keeper_init : Stmt := inClass (top 13) 0
abbrev s_Keeper_many : Stmt := inClass (top 13) 1
abbrev s_Keeper_made : Stmt := inClass (top 13) 2
abbrev s_Keeper_height : Stmt := inClass (top 13) 3
abbrev s_Keeper_check : Stmt := inClass (top 13) 4
abbrev s_Keeper_rule_at : Stmt := inClass (top 13) 5
abbrev s_Keeper_put_at : Stmt := inClass (top 13) 6
abbrev s_Keeper_put_in : Stmt := inClass (top 13) 7
abbrev s_Keeper_take_out : Stmt := inClass (top 13) 8
abbrev s_Keeper_part : Stmt := inClass (top 13) 9
abbrev s_Keeper_whole : Stmt := inClass (top 13) 10
abbrev s_law_cell_at : Stmt := top 15
abbrev s_law_well : Stmt := top 16
abbrev s_law_draw : Stmt := top 17
abbrev s_law_lowest : Stmt := top 18
abbrev s_law_five : Stmt := top 19
abbrev s_law_rule : Stmt := top 20
abbrev s_law_product : Stmt := top 21
abbrev s_law_height : Stmt := top 22
abbrev s_law_still : Stmt := top 23
abbrev s_law_whole : Stmt := top 24
abbrev s_law_refused : Stmt := top 25
abbrev s_law_changed : Stmt := top 26
abbrev s_law_deed : Stmt := top 27
abbrev s_law : Stmt := top 28
def d_divisor : He.DefD := ⟨("divisor", none), "divisor", "divisor", defArgs s_divisor, defBody s_divisor, defScope s_divisor, [], []⟩
def d_made : He.DefD := ⟨("made", none), "made", "made", defArgs s_made, defBody s_made, defScope s_made, [], []⟩
def d_plus : He.DefD := ⟨("plus", none), "plus", "plus", defArgs s_plus, defBody s_plus, defScope s_plus, [], []⟩
def d_times : He.DefD := ⟨("times", none), "times", "times", defArgs s_times, defBody s_times, defScope s_times, [], []⟩
def d_behind : He.DefD := ⟨("behind", none), "behind", "behind", defArgs s_behind, defBody s_behind, defScope s_behind, [], []⟩
def d_Keeper_init : He.DefD := ⟨("Keeper", some "__init__"), "__init__", "Keeper.__init__", defArgs s_Keeper_init, defBody s_Keeper_init, defScope s_Keeper_init, [], []⟩
def d_Keeper_many : He.DefD := ⟨("Keeper", some "many"), "many", "Keeper.many", defArgs s_Keeper_many, defBody s_Keeper_many, defScope s_Keeper_many, [], []⟩
def d_Keeper_made : He.DefD := ⟨("Keeper", some "made"), "made", "Keeper.made", defArgs s_Keeper_made, defBody s_Keeper_made, defScope s_Keeper_made, [], []⟩
def d_Keeper_height : He.DefD := ⟨("Keeper", some "height"), "height", "Keeper.height", defArgs s_Keeper_height, defBody s_Keeper_height, defScope s_Keeper_height, [], []⟩
def d_Keeper_check : He.DefD := ⟨("Keeper", some "check"), "check", "Keeper.check", defArgs s_Keeper_check, defBody s_Keeper_check, defScope s_Keeper_check, [], []⟩
def d_Keeper_rule_at : He.DefD := ⟨("Keeper", some "rule_at"), "rule_at", "Keeper.rule_at", defArgs s_Keeper_rule_at, defBody s_Keeper_rule_at, defScope s_Keeper_rule_at, [], []⟩
def d_Keeper_put_at : He.DefD := ⟨("Keeper", some "put_at"), "put_at", "Keeper.put_at", defArgs s_Keeper_put_at, defBody s_Keeper_put_at, defScope s_Keeper_put_at, [], []⟩
def d_Keeper_put_in : He.DefD := ⟨("Keeper", some "put_in"), "put_in", "Keeper.put_in", defArgs s_Keeper_put_in, defBody s_Keeper_put_in, defScope s_Keeper_put_in, [], []⟩
def d_Keeper_take_out : He.DefD := ⟨("Keeper", some "take_out"), "take_out", "Keeper.take_out", defArgs s_Keeper_take_out, defBody s_Keeper_take_out, defScope s_Keeper_take_out, [], []⟩
def d_Keeper_part : He.DefD := ⟨("Keeper", some "part"), "part", "Keeper.part", defArgs s_Keeper_part, defBody s_Keeper_part, defScope s_Keeper_part, [], []⟩
def d_Keeper_whole : He.DefD := ⟨("Keeper", some "whole"), "whole", "Keeper.whole", defArgs s_Keeper_whole, defBody s_Keeper_whole, defScope s_Keeper_whole, [], []⟩
def d_law_cell_at : He.DefD := ⟨("_law_cell_at", none), "_law_cell_at", "_law_cell_at", defArgs s_law_cell_at, defBody s_law_cell_at, defScope s_law_cell_at, [], []⟩
def d_law_well : He.DefD := ⟨("_law_well", none), "_law_well", "_law_well", defArgs s_law_well, defBody s_law_well, defScope s_law_well, [], []⟩
def d_law_draw : He.DefD := ⟨("_law_draw", none), "_law_draw", "_law_draw", defArgs s_law_draw, defBody s_law_draw, defScope s_law_draw, [], []⟩
def d_law_lowest : He.DefD := ⟨("_law_lowest", none), "_law_lowest", "_law_lowest", defArgs s_law_lowest, defBody s_law_lowest, defScope s_law_lowest, [], []⟩
def d_law_five : He.DefD := ⟨("_law_five", none), "_law_five", "_law_five", defArgs s_law_five, defBody s_law_five, defScope s_law_five, [], []⟩
def d_law_rule : He.DefD := ⟨("_law_rule", none), "_law_rule", "_law_rule", defArgs s_law_rule, defBody s_law_rule, defScope s_law_rule, [], []⟩
def d_law_product : He.DefD := ⟨("_law_product", none), "_law_product", "_law_product", defArgs s_law_product, defBody s_law_product, defScope s_law_product, [], []⟩
def d_law_height : He.DefD := ⟨("_law_height", none), "_law_height", "_law_height", defArgs s_law_height, defBody s_law_height, defScope s_law_height, [], []⟩
def d_law_still : He.DefD := ⟨("_law_still", none), "_law_still", "_law_still", defArgs s_law_still, defBody s_law_still, defScope s_law_still, [], []⟩
def d_law_whole : He.DefD := ⟨("_law_whole", none), "_law_whole", "_law_whole", defArgs s_law_whole, defBody s_law_whole, defScope s_law_whole, [], []⟩
def d_law_refused : He.DefD := ⟨("_law_refused", none), "_law_refused", "_law_refused", defArgs s_law_refused, defBody s_law_refused, defScope s_law_refused, [], []⟩
def d_law_changed : He.DefD := ⟨("_law_changed", none), "_law_changed", "_law_changed", defArgs s_law_changed, defBody s_law_changed, defScope s_law_changed, [], []⟩
def d_law_deed : He.DefD := ⟨("_law_deed", none), "_law_deed", "_law_deed", defArgs s_law_deed, defBody s_law_deed, defScope s_law_deed, [], []⟩
def d_law : He.DefD := ⟨("law", none), "law", "law", defArgs s_law, defBody s_law, defScope s_law, [], []⟩
abbrev N_divisor : List Str := ["one", "other"]
abbrev a_divisor : List Str := ["one", "other"]
theorem sc_divisor : FnScope N_divisor a_divisor (defScope s_divisor) := ⟨rfl, rfl, rfl, by decide +kernel, rfl, by decide +kernel, by decide +kernel⟩
abbrev N_made : List Str := ["top", "bottom", "share"]
abbrev a_made : List Str := ["top", "bottom"]
theorem sc_made : FnScope N_made a_made (defScope s_made) := ⟨rfl, rfl, rfl, by decide +kernel, rfl, by decide +kernel, by decide +kernel⟩
abbrev N_plus : List Str := ["one", "other"]
abbrev a_plus : List Str := ["one", "other"]
theorem sc_plus : FnScope N_plus a_plus (defScope s_plus) := ⟨rfl, rfl, rfl, by decide +kernel, rfl, by decide +kernel, by decide +kernel⟩
abbrev N_times : List Str := ["one", "other"]
abbrev a_times : List Str := ["one", "other"]
theorem sc_times : FnScope N_times a_times (defScope s_times) := ⟨rfl, rfl, rfl, by decide +kernel, rfl, by decide +kernel, by decide +kernel⟩
abbrev N_behind : List Str := ["first", "second", "g", "p", "a", "q", "b", "gain", "part", "more", "wide", "high"]
abbrev a_behind : List Str := ["first", "second"]
theorem sc_behind : FnScope N_behind a_behind (defScope s_behind) := ⟨rfl, rfl, rfl, by decide +kernel, rfl, by decide +kernel, by decide +kernel⟩
abbrev N_Keeper_init : List Str := ["self", "rules"]
abbrev a_Keeper_init : List Str := ["self", "rules"]
theorem sc_Keeper_init : FnScope N_Keeper_init a_Keeper_init (defScope s_Keeper_init) := ⟨rfl, rfl, rfl, by decide +kernel, rfl, by decide +kernel, by decide +kernel⟩
abbrev N_Keeper_many : List Str := ["self"]
abbrev a_Keeper_many : List Str := ["self"]
theorem sc_Keeper_many : FnScope N_Keeper_many a_Keeper_many (defScope s_Keeper_many) := ⟨rfl, rfl, rfl, by decide +kernel, rfl, by decide +kernel, by decide +kernel⟩
abbrev N_Keeper_made : List Str := ["self"]
abbrev a_Keeper_made : List Str := ["self"]
theorem sc_Keeper_made : FnScope N_Keeper_made a_Keeper_made (defScope s_Keeper_made) := ⟨rfl, rfl, rfl, by decide +kernel, rfl, by decide +kernel, by decide +kernel⟩
abbrev N_Keeper_height : List Str := ["self", "high", "wide"]
abbrev a_Keeper_height : List Str := ["self"]
theorem sc_Keeper_height : FnScope N_Keeper_height a_Keeper_height (defScope s_Keeper_height) := ⟨rfl, rfl, rfl, by decide +kernel, rfl, by decide +kernel, by decide +kernel⟩
abbrev N_Keeper_check : List Str := ["self", "k", "most"]
abbrev a_Keeper_check : List Str := ["self", "k", "most"]
theorem sc_Keeper_check : FnScope N_Keeper_check a_Keeper_check (defScope s_Keeper_check) := ⟨rfl, rfl, rfl, by decide +kernel, rfl, by decide +kernel, by decide +kernel⟩
abbrev N_Keeper_rule_at : List Str := ["self", "k"]
abbrev a_Keeper_rule_at : List Str := ["self", "k"]
theorem sc_Keeper_rule_at : FnScope N_Keeper_rule_at a_Keeper_rule_at (defScope s_Keeper_rule_at) := ⟨rfl, rfl, rfl, by decide +kernel, rfl, by decide +kernel, by decide +kernel⟩
abbrev N_Keeper_put_at : List Str := ["self", "k", "rule", "wide", "turn"]
abbrev a_Keeper_put_at : List Str := ["self", "k", "rule"]
theorem sc_Keeper_put_at : FnScope N_Keeper_put_at a_Keeper_put_at (defScope s_Keeper_put_at) := ⟨rfl, rfl, rfl, by decide +kernel, rfl, by decide +kernel, by decide +kernel⟩
abbrev N_Keeper_put_in : List Str := ["self", "k", "rule"]
abbrev a_Keeper_put_in : List Str := ["self", "k", "rule"]
theorem sc_Keeper_put_in : FnScope N_Keeper_put_in a_Keeper_put_in (defScope s_Keeper_put_in) := ⟨rfl, rfl, rfl, by decide +kernel, rfl, by decide +kernel, by decide +kernel⟩
abbrev N_Keeper_take_out : List Str := ["self", "k"]
abbrev a_Keeper_take_out : List Str := ["self", "k"]
theorem sc_Keeper_take_out : FnScope N_Keeper_take_out a_Keeper_take_out (defScope s_Keeper_take_out) := ⟨rfl, rfl, rfl, by decide +kernel, rfl, by decide +kernel, by decide +kernel⟩
abbrev N_Keeper_part : List Str := ["self", "low", "wide", "half"]
abbrev a_Keeper_part : List Str := ["self", "low", "wide"]
theorem sc_Keeper_part : FnScope N_Keeper_part a_Keeper_part (defScope s_Keeper_part) := ⟨rfl, rfl, rfl, by decide +kernel, rfl, by decide +kernel, by decide +kernel⟩
abbrev N_Keeper_whole : List Str := ["self", "wide", "turn"]
abbrev a_Keeper_whole : List Str := ["self"]
theorem sc_Keeper_whole : FnScope N_Keeper_whole a_Keeper_whole (defScope s_Keeper_whole) := ⟨rfl, rfl, rfl, by decide +kernel, rfl, by decide +kernel, by decide +kernel⟩
abbrev N_law_cell_at : List Str := ["script", "k"]
abbrev a_law_cell_at : List Str := ["script", "k"]
theorem sc_law_cell_at : FnScope N_law_cell_at a_law_cell_at (defScope s_law_cell_at) := ⟨rfl, rfl, rfl, by decide +kernel, rfl, by decide +kernel, by decide +kernel⟩
abbrev N_law_well : List Str := ["cell"]
abbrev a_law_well : List Str := ["cell"]
theorem sc_law_well : FnScope N_law_well a_law_well (defScope s_law_well) := ⟨rfl, rfl, rfl, by decide +kernel, rfl, by decide +kernel, by decide +kernel⟩
abbrev N_law_draw : List Str := ["well", "many", "found", "number"]
abbrev a_law_draw : List Str := ["well", "many"]
theorem sc_law_draw : FnScope N_law_draw a_law_draw (defScope s_law_draw) := ⟨rfl, rfl, rfl, by decide +kernel, rfl, by decide +kernel, by decide +kernel⟩
abbrev N_law_lowest : List Str := ["top", "bottom", "left", "right"]
abbrev a_law_lowest : List Str := ["top", "bottom"]
theorem sc_law_lowest : FnScope N_law_lowest a_law_lowest (defScope s_law_lowest) := ⟨rfl, rfl, rfl, by decide +kernel, rfl, by decide +kernel, by decide +kernel⟩
abbrev N_law_five : List Str := ["well", "u", "s", "some"]
abbrev a_law_five : List Str := ["well"]
theorem sc_law_five : FnScope N_law_five a_law_five (defScope s_law_five) := ⟨rfl, rfl, rfl, by decide +kernel, rfl, by decide +kernel, by decide +kernel⟩
abbrev N_law_rule : List Str := ["five", "bottom", "top"]
abbrev a_law_rule : List Str := ["five", "bottom"]
theorem sc_law_rule : FnScope N_law_rule a_law_rule (defScope s_law_rule) := ⟨rfl, rfl, rfl, by decide +kernel, rfl, by decide +kernel, by decide +kernel⟩
abbrev N_law_product : List Str := ["row", "g", "p", "a", "q", "b", "d", "one"]
abbrev a_law_product : List Str := ["row"]
theorem sc_law_product : FnScope N_law_product a_law_product (defScope s_law_product) := ⟨rfl, rfl, rfl, by decide +kernel, rfl, by decide +kernel, by decide +kernel⟩
abbrev N_law_height : List Str := ["many", "found", "wide"]
abbrev a_law_height : List Str := ["many"]
theorem sc_law_height : FnScope N_law_height a_law_height (defScope s_law_height) := ⟨rfl, rfl, rfl, by decide +kernel, rfl, by decide +kernel, by decide +kernel⟩
abbrev N_law_still : List Str := ["keeper", "state", "row", "some", "told", "one", "k", "five"]
abbrev a_law_still : List Str := ["keeper", "state"]
theorem sc_law_still : FnScope N_law_still a_law_still (defScope s_law_still) := ⟨rfl, rfl, rfl, by decide +kernel, rfl, by decide +kernel, by decide +kernel⟩
abbrev N_law_whole : List Str := ["keeper", "state", "row", "found", "more", "most"]
abbrev a_law_whole : List Str := ["keeper", "state"]
theorem sc_law_whole : FnScope N_law_whole a_law_whole (defScope s_law_whole) := ⟨rfl, rfl, rfl, by decide +kernel, rfl, by decide +kernel, by decide +kernel⟩
abbrev N_law_refused : List Str := ["keeper", "state", "well", "fork", "many", "at", "rule", "found", "e"]
abbrev a_law_refused : List Str := ["keeper", "state", "well"]
theorem sc_law_refused : FnScope N_law_refused a_law_refused (defScope s_law_refused) := ⟨rfl, rfl, rfl, by decide +kernel, rfl, by decide +kernel, by decide +kernel⟩
abbrev N_law_changed : List Str := ["keeper", "state", "well", "fork", "row", "five", "at"]
abbrev a_law_changed : List Str := ["keeper", "state", "well", "fork"]
theorem sc_law_changed : FnScope N_law_changed a_law_changed (defScope s_law_changed) := ⟨rfl, rfl, rfl, by decide +kernel, rfl, by decide +kernel, by decide +kernel⟩
abbrev N_law_deed : List Str := ["keeper", "state", "well", "fork"]
abbrev a_law_deed : List Str := ["keeper", "state", "well"]
theorem sc_law_deed : FnScope N_law_deed a_law_deed (defScope s_law_deed) := ⟨rfl, rfl, rfl, by decide +kernel, rfl, by decide +kernel, by decide +kernel⟩
abbrev N_law : List Str := ["script", "first", "many", "row", "handed", "keepers", "states", "cell", "well", "at", "k", "five"]
abbrev a_law : List Str := ["script"]
theorem sc_law : FnScope N_law a_law (defScope s_law) := ⟨rfl, rfl, rfl, by decide +kernel, rfl, by decide +kernel, by decide +kernel⟩
abbrev c_HallError (K : Frg) : Addr := He.ga K "HallError"
abbrev c_NoFraction (K : Frg) : Addr := He.ga K "NoFraction"
abbrev c_NoLayer (K : Frg) : Addr := He.ga K "NoLayer"
abbrev c_Keeper (K : Frg) : Addr := He.ga K "Keeper"
abbrev f_divisor (K : Frg) : Addr := He.fAd K d_divisor.at_
abbrev f_made (K : Frg) : Addr := He.fAd K d_made.at_
abbrev f_plus (K : Frg) : Addr := He.fAd K d_plus.at_
abbrev f_times (K : Frg) : Addr := He.fAd K d_times.at_
abbrev f_behind (K : Frg) : Addr := He.fAd K d_behind.at_
abbrev f_Keeper_init (K : Frg) : Addr := He.fAd K d_Keeper_init.at_
abbrev f_Keeper_many (K : Frg) : Addr := He.fAd K d_Keeper_many.at_
abbrev f_Keeper_made (K : Frg) : Addr := He.fAd K d_Keeper_made.at_
abbrev f_Keeper_height (K : Frg) : Addr := He.fAd K d_Keeper_height.at_
abbrev f_Keeper_check (K : Frg) : Addr := He.fAd K d_Keeper_check.at_
abbrev f_Keeper_rule_at (K : Frg) : Addr := He.fAd K d_Keeper_rule_at.at_
abbrev f_Keeper_put_at (K : Frg) : Addr := He.fAd K d_Keeper_put_at.at_
abbrev f_Keeper_put_in (K : Frg) : Addr := He.fAd K d_Keeper_put_in.at_
abbrev f_Keeper_take_out (K : Frg) : Addr := He.fAd K d_Keeper_take_out.at_
abbrev f_Keeper_part (K : Frg) : Addr := He.fAd K d_Keeper_part.at_
abbrev f_Keeper_whole (K : Frg) : Addr := He.fAd K d_Keeper_whole.at_
abbrev f_law_cell_at (K : Frg) : Addr := He.fAd K d_law_cell_at.at_
abbrev f_law_well (K : Frg) : Addr := He.fAd K d_law_well.at_
abbrev f_law_draw (K : Frg) : Addr := He.fAd K d_law_draw.at_
abbrev f_law_lowest (K : Frg) : Addr := He.fAd K d_law_lowest.at_
abbrev f_law_five (K : Frg) : Addr := He.fAd K d_law_five.at_
abbrev f_law_rule (K : Frg) : Addr := He.fAd K d_law_rule.at_
abbrev f_law_product (K : Frg) : Addr := He.fAd K d_law_product.at_
abbrev f_law_height (K : Frg) : Addr := He.fAd K d_law_height.at_
abbrev f_law_still (K : Frg) : Addr := He.fAd K d_law_still.at_
abbrev f_law_whole (K : Frg) : Addr := He.fAd K d_law_whole.at_
abbrev f_law_refused (K : Frg) : Addr := He.fAd K d_law_refused.at_
abbrev f_law_changed (K : Frg) : Addr := He.fAd K d_law_changed.at_
abbrev f_law_deed (K : Frg) : Addr := He.fAd K d_law_deed.at_
abbrev f_law (K : Frg) : Addr := He.fAd K d_law.at_
def v_IDENTITY : A := .tup [.tup [.int 1, .int 1], .tup [.int 0, .int 1], .tup [.int 0, .int 1], .tup [.int 1, .int 1], .tup [.int 0, .int 1]]
def fb0 : List (Frg → Bool) := [(fun K => excCB K (c_NoFraction K)),
  (fun K => excCB K (c_NoLayer K)),
  (fun K => (He.Fa.cls "Keeper").ok K),
  (fun K => (He.Fa.mkr "Keeper").ok K),
  (fun K => (He.Fa.meth "Keeper" "many").ok K),
  (fun K => (He.Fa.meth "Keeper" "made").ok K),
  (fun K => (He.Fa.meth "Keeper" "height").ok K),
  (fun K => (He.Fa.meth "Keeper" "check").ok K),
  (fun K => (He.Fa.meth "Keeper" "rule_at").ok K),
  (fun K => (He.Fa.meth "Keeper" "put_at").ok K),
  (fun K => (He.Fa.meth "Keeper" "put_in").ok K),
  (fun K => (He.Fa.meth "Keeper" "take_out").ok K),
  (fun K => (He.Fa.meth "Keeper" "part").ok K),
  (fun K => (He.Fa.meth "Keeper" "whole").ok K),
  (fun K => clsFB K "Keeper" "row"),
  (fun K => clsFB K "Keeper" "parts"),
  (fun K => clsFB K "Keeper" "number"),
  (fun K => exmB K (.ref (c_NoFraction K)) (.ref (c_HallError K)) true),
  (fun K => oneB K (.ref (c_NoFraction K)) (.ref (c_NoLayer K)) false),
  (fun K => oneB K (.ref (c_NoFraction K)) (.type "ValueError") true),
  (fun K => exmB K (.ref (c_NoLayer K)) (.ref (c_HallError K)) true),
  (fun K => oneB K (.ref (c_NoLayer K)) (.type "ValueError") true),
  (fun K => (He.Fa.glo "divisor").ok K),
  (fun K => (He.Fa.glo "made").ok K),
  (fun K => (He.Fa.glo "plus").ok K),
  (fun K => (He.Fa.glo "times").ok K),
  (fun K => (He.Fa.glo "behind").ok K),
  (fun K => (He.Fa.glo "_law_cell_at").ok K),
  (fun K => (He.Fa.glo "_law_well").ok K),
  (fun K => (He.Fa.glo "_law_draw").ok K),
  (fun K => (He.Fa.glo "_law_lowest").ok K),
  (fun K => (He.Fa.glo "_law_five").ok K),
  (fun K => (He.Fa.glo "_law_rule").ok K),
  (fun K => (He.Fa.glo "_law_product").ok K),
  (fun K => (He.Fa.glo "_law_height").ok K),
  (fun K => (He.Fa.glo "_law_still").ok K),
  (fun K => (He.Fa.glo "_law_whole").ok K),
  (fun K => (He.Fa.glo "_law_refused").ok K),
  (fun K => (He.Fa.glo "_law_changed").ok K),
  (fun K => (He.Fa.glo "_law_deed").ok K)]
def fb1 : List (Frg → Bool) := [(fun K => (He.Fa.glo "law").ok K),
  (fun K => (He.Fa.glo "HallError").ok K),
  (fun K => (He.Fa.glo "NoFraction").ok K),
  (fun K => (He.Fa.glo "NoLayer").ok K),
  (fun K => (He.Fa.glo "Keeper").ok K),
  (fun K => (He.Fa.free "abs").ok K),
  (fun K => (He.Fa.free "bool").ok K),
  (fun K => (He.Fa.free "int").ok K),
  (fun K => (He.Fa.free "isinstance").ok K),
  (fun K => (He.Fa.free "len").ok K),
  (fun K => (He.Fa.free "list").ok K),
  (fun K => (He.Fa.free "max").ok K),
  (fun K => (He.Fa.free "min").ok K),
  (fun K => (He.Fa.free "range").ok K),
  (fun K => (He.Fa.free "tuple").ok K),
  (fun K => (He.Fa.free "ValueError").ok K),
  (fun K => constB K "IDENTITY" v_IDENTITY),
  (fun K => exKB K "NoFraction"),
  (fun K => exKB K "NoLayer")]
def fb : List (Frg → Bool) := fb0 ++ fb1
def fn0 : List He.DefD := [d_divisor, d_made, d_plus, d_times, d_behind, d_Keeper_init, d_Keeper_many, d_Keeper_made, d_Keeper_height, d_Keeper_check, d_Keeper_rule_at, d_Keeper_put_at, d_Keeper_put_in, d_Keeper_take_out, d_Keeper_part, d_Keeper_whole, d_law_cell_at, d_law_well, d_law_draw, d_law_lowest]
def fn1 : List He.DefD := [d_law_five, d_law_rule, d_law_product, d_law_height, d_law_still, d_law_whole, d_law_refused, d_law_changed, d_law_deed, d_law]
def fn : List He.DefD := fn0 ++ fn1
structure TK (K : Frg) : Prop where
  e_NoFraction : ExcC K (c_NoFraction K)
  e_NoLayer : ExcC K (c_NoLayer K)
  cl_Keeper : Cls K (c_Keeper K)
  k_Keeper : Mk K (c_Keeper K) (f_Keeper_init K)
  m_Keeper_many : Meth K (c_Keeper K) "many" (f_Keeper_many K)
  m_Keeper_made : Meth K (c_Keeper K) "made" (f_Keeper_made K)
  m_Keeper_height : Meth K (c_Keeper K) "height" (f_Keeper_height K)
  m_Keeper_check : Meth K (c_Keeper K) "check" (f_Keeper_check K)
  m_Keeper_rule_at : Meth K (c_Keeper K) "rule_at" (f_Keeper_rule_at K)
  m_Keeper_put_at : Meth K (c_Keeper K) "put_at" (f_Keeper_put_at K)
  m_Keeper_put_in : Meth K (c_Keeper K) "put_in" (f_Keeper_put_in K)
  m_Keeper_take_out : Meth K (c_Keeper K) "take_out" (f_Keeper_take_out K)
  m_Keeper_part : Meth K (c_Keeper K) "part" (f_Keeper_part K)
  m_Keeper_whole : Meth K (c_Keeper K) "whole" (f_Keeper_whole K)
  cf_Keeper_row : ClsF K (c_Keeper K) "row"
  cf_Keeper_parts : ClsF K (c_Keeper K) "parts"
  cf_Keeper_number : ClsF K (c_Keeper K) "number"
  em_NoFraction_HallError : PySem.W.exmOne K (.ref (c_NoFraction K)) (.ref (c_HallError K)) = some true
  ki_NoFraction_NoLayer : PySem.W.kitOne K (.ref (c_NoFraction K)) (.ref (c_NoLayer K)) = some false
  ki_NoFraction_ValueError : PySem.W.kitOne K (.ref (c_NoFraction K)) (.type "ValueError") = some true
  em_NoLayer_HallError : PySem.W.exmOne K (.ref (c_NoLayer K)) (.ref (c_HallError K)) = some true
  ki_NoLayer_ValueError : PySem.W.kitOne K (.ref (c_NoLayer K)) (.type "ValueError") = some true
structure Txt (K : Frg) (mg : Str → Option Value) : Prop extends TK K where
  g_divisor : mg "divisor" = some (.ref (f_divisor K))
  g_made : mg "made" = some (.ref (f_made K))
  g_plus : mg "plus" = some (.ref (f_plus K))
  g_times : mg "times" = some (.ref (f_times K))
  g_behind : mg "behind" = some (.ref (f_behind K))
  g__law_cell_at : mg "_law_cell_at" = some (.ref (f_law_cell_at K))
  g__law_well : mg "_law_well" = some (.ref (f_law_well K))
  g__law_draw : mg "_law_draw" = some (.ref (f_law_draw K))
  g__law_lowest : mg "_law_lowest" = some (.ref (f_law_lowest K))
  g__law_five : mg "_law_five" = some (.ref (f_law_five K))
  g__law_rule : mg "_law_rule" = some (.ref (f_law_rule K))
  g__law_product : mg "_law_product" = some (.ref (f_law_product K))
  g__law_height : mg "_law_height" = some (.ref (f_law_height K))
  g__law_still : mg "_law_still" = some (.ref (f_law_still K))
  g__law_whole : mg "_law_whole" = some (.ref (f_law_whole K))
  g__law_refused : mg "_law_refused" = some (.ref (f_law_refused K))
  g__law_changed : mg "_law_changed" = some (.ref (f_law_changed K))
  g__law_deed : mg "_law_deed" = some (.ref (f_law_deed K))
  g_law : mg "law" = some (.ref (f_law K))
  g_HallError : mg "HallError" = some (.ref (c_HallError K))
  g_NoFraction : mg "NoFraction" = some (.ref (c_NoFraction K))
  g_NoLayer : mg "NoLayer" = some (.ref (c_NoLayer K))
  g_Keeper : mg "Keeper" = some (.ref (c_Keeper K))
  n_abs : mg "abs" = none
  n_bool : mg "bool" = none
  n_int : mg "int" = none
  n_isinstance : mg "isinstance" = none
  n_len : mg "len" = none
  n_list : mg "list" = none
  n_max : mg "max" = none
  n_min : mg "min" = none
  n_range : mg "range" = none
  n_tuple : mg "tuple" = none
  n_ValueError : mg "ValueError" = none
  v_IDENTITY : ∃ u v, mg "IDENTITY" = some u ∧ RelV v u ∧ ∀ H, RelA K H v_IDENTITY v
  x_NoFraction : ExcK K mg "NoFraction" (c_NoFraction K)
  x_NoLayer : ExcK K mg "NoLayer" (c_NoLayer K)
theorem fact {K : Frg} (c : SaysG fb fn K) (i : Nat) {f : Frg → Bool} (h : fb[i]? = some f := by rfl) : f K = true := c.fact i h
theorem tk {K : Frg} (c : SaysG fb fn K) : TK K := {
  e_NoFraction := excCB_ok (fact c 0 (f := (fun K => excCB K (c_NoFraction K))))
  e_NoLayer := excCB_ok (fact c 1 (f := (fun K => excCB K (c_NoLayer K))))
  cl_Keeper := He.cls_ok (fact c 2 (f := (fun K => (He.Fa.cls "Keeper").ok K)))
  k_Keeper := He.mkr_ok (fact c 3 (f := (fun K => (He.Fa.mkr "Keeper").ok K)))
  m_Keeper_many := He.meth_ok (fact c 4 (f := (fun K => (He.Fa.meth "Keeper" "many").ok K)))
  m_Keeper_made := He.meth_ok (fact c 5 (f := (fun K => (He.Fa.meth "Keeper" "made").ok K)))
  m_Keeper_height := He.meth_ok (fact c 6 (f := (fun K => (He.Fa.meth "Keeper" "height").ok K)))
  m_Keeper_check := He.meth_ok (fact c 7 (f := (fun K => (He.Fa.meth "Keeper" "check").ok K)))
  m_Keeper_rule_at := He.meth_ok (fact c 8 (f := (fun K => (He.Fa.meth "Keeper" "rule_at").ok K)))
  m_Keeper_put_at := He.meth_ok (fact c 9 (f := (fun K => (He.Fa.meth "Keeper" "put_at").ok K)))
  m_Keeper_put_in := He.meth_ok (fact c 10 (f := (fun K => (He.Fa.meth "Keeper" "put_in").ok K)))
  m_Keeper_take_out := He.meth_ok (fact c 11 (f := (fun K => (He.Fa.meth "Keeper" "take_out").ok K)))
  m_Keeper_part := He.meth_ok (fact c 12 (f := (fun K => (He.Fa.meth "Keeper" "part").ok K)))
  m_Keeper_whole := He.meth_ok (fact c 13 (f := (fun K => (He.Fa.meth "Keeper" "whole").ok K)))
  cf_Keeper_row := clsF_ok (fact c 14 (f := (fun K => clsFB K "Keeper" "row")))
  cf_Keeper_parts := clsF_ok (fact c 15 (f := (fun K => clsFB K "Keeper" "parts")))
  cf_Keeper_number := clsF_ok (fact c 16 (f := (fun K => clsFB K "Keeper" "number")))
  em_NoFraction_HallError := exmB_ok (fact c 17 (f := (fun K => exmB K (.ref (c_NoFraction K)) (.ref (c_HallError K)) true)))
  ki_NoFraction_NoLayer := oneB_ok (fact c 18 (f := (fun K => oneB K (.ref (c_NoFraction K)) (.ref (c_NoLayer K)) false)))
  ki_NoFraction_ValueError := oneB_ok (fact c 19 (f := (fun K => oneB K (.ref (c_NoFraction K)) (.type "ValueError") true)))
  em_NoLayer_HallError := exmB_ok (fact c 20 (f := (fun K => exmB K (.ref (c_NoLayer K)) (.ref (c_HallError K)) true)))
  ki_NoLayer_ValueError := oneB_ok (fact c 21 (f := (fun K => oneB K (.ref (c_NoLayer K)) (.type "ValueError") true)))
  }
theorem txt {K : Frg} {h : Heap} {mg : Str → Option Value} (X : K.In h) (Gm : h.Ns mainGlobals mg) (c : SaysG fb fn K) : Txt K mg := { tk c with
  g_divisor := He.glo_ok X Gm (fact c 22 (f := (fun K => (He.Fa.glo "divisor").ok K)))
  g_made := He.glo_ok X Gm (fact c 23 (f := (fun K => (He.Fa.glo "made").ok K)))
  g_plus := He.glo_ok X Gm (fact c 24 (f := (fun K => (He.Fa.glo "plus").ok K)))
  g_times := He.glo_ok X Gm (fact c 25 (f := (fun K => (He.Fa.glo "times").ok K)))
  g_behind := He.glo_ok X Gm (fact c 26 (f := (fun K => (He.Fa.glo "behind").ok K)))
  g__law_cell_at := He.glo_ok X Gm (fact c 27 (f := (fun K => (He.Fa.glo "_law_cell_at").ok K)))
  g__law_well := He.glo_ok X Gm (fact c 28 (f := (fun K => (He.Fa.glo "_law_well").ok K)))
  g__law_draw := He.glo_ok X Gm (fact c 29 (f := (fun K => (He.Fa.glo "_law_draw").ok K)))
  g__law_lowest := He.glo_ok X Gm (fact c 30 (f := (fun K => (He.Fa.glo "_law_lowest").ok K)))
  g__law_five := He.glo_ok X Gm (fact c 31 (f := (fun K => (He.Fa.glo "_law_five").ok K)))
  g__law_rule := He.glo_ok X Gm (fact c 32 (f := (fun K => (He.Fa.glo "_law_rule").ok K)))
  g__law_product := He.glo_ok X Gm (fact c 33 (f := (fun K => (He.Fa.glo "_law_product").ok K)))
  g__law_height := He.glo_ok X Gm (fact c 34 (f := (fun K => (He.Fa.glo "_law_height").ok K)))
  g__law_still := He.glo_ok X Gm (fact c 35 (f := (fun K => (He.Fa.glo "_law_still").ok K)))
  g__law_whole := He.glo_ok X Gm (fact c 36 (f := (fun K => (He.Fa.glo "_law_whole").ok K)))
  g__law_refused := He.glo_ok X Gm (fact c 37 (f := (fun K => (He.Fa.glo "_law_refused").ok K)))
  g__law_changed := He.glo_ok X Gm (fact c 38 (f := (fun K => (He.Fa.glo "_law_changed").ok K)))
  g__law_deed := He.glo_ok X Gm (fact c 39 (f := (fun K => (He.Fa.glo "_law_deed").ok K)))
  g_law := He.glo_ok X Gm (fact c 40 (f := (fun K => (He.Fa.glo "law").ok K)))
  g_HallError := He.glo_ok X Gm (fact c 41 (f := (fun K => (He.Fa.glo "HallError").ok K)))
  g_NoFraction := He.glo_ok X Gm (fact c 42 (f := (fun K => (He.Fa.glo "NoFraction").ok K)))
  g_NoLayer := He.glo_ok X Gm (fact c 43 (f := (fun K => (He.Fa.glo "NoLayer").ok K)))
  g_Keeper := He.glo_ok X Gm (fact c 44 (f := (fun K => (He.Fa.glo "Keeper").ok K)))
  n_abs := He.free_ok X Gm (fact c 45 (f := (fun K => (He.Fa.free "abs").ok K)))
  n_bool := He.free_ok X Gm (fact c 46 (f := (fun K => (He.Fa.free "bool").ok K)))
  n_int := He.free_ok X Gm (fact c 47 (f := (fun K => (He.Fa.free "int").ok K)))
  n_isinstance := He.free_ok X Gm (fact c 48 (f := (fun K => (He.Fa.free "isinstance").ok K)))
  n_len := He.free_ok X Gm (fact c 49 (f := (fun K => (He.Fa.free "len").ok K)))
  n_list := He.free_ok X Gm (fact c 50 (f := (fun K => (He.Fa.free "list").ok K)))
  n_max := He.free_ok X Gm (fact c 51 (f := (fun K => (He.Fa.free "max").ok K)))
  n_min := He.free_ok X Gm (fact c 52 (f := (fun K => (He.Fa.free "min").ok K)))
  n_range := He.free_ok X Gm (fact c 53 (f := (fun K => (He.Fa.free "range").ok K)))
  n_tuple := He.free_ok X Gm (fact c 54 (f := (fun K => (He.Fa.free "tuple").ok K)))
  n_ValueError := He.free_ok X Gm (fact c 55 (f := (fun K => (He.Fa.free "ValueError").ok K)))
  v_IDENTITY := constB_ok X Gm (fact c 56 (f := (fun K => constB K "IDENTITY" v_IDENTITY)))
  x_NoFraction := exK_ok X Gm (fact c 57 (f := (fun K => exKB K "NoFraction")))
  x_NoLayer := exK_ok X Gm (fact c 58 (f := (fun K => exKB K "NoLayer")))
  }
end GL
namespace GL
open PySem PySem.Spec L2 G
def WellAt (h : AH) (w : Addr) : Prop := ∃ a b c : Int, h w = some (.lst [.int a, .int b, .int c])
/-- all but the well stays -/
def Wl (w : Addr) (h h' : AH) : Prop := WellAt h' w ∧ Fx (fun p => p = w) h h'
def R_law_well (_ : Frg) : Sp1 := fun x h Q _ => ∃ i, x = .int i ∧ ∀ w h', h w = none → WellAt h' w → Ext h h' → Q (.ref w) h'
def R_law_draw (_ : Frg) : Sp2 := fun x y h Q _ => ∃ (w : Addr) (m : Int), x = .ref w ∧ y = .int m ∧ 0 < m ∧ m.natAbs.log2 < 9000 ∧ WellAt h w ∧ ∀ (r : Int) h', 0 ≤ r → r < m → Wl w h h' → Q (.int r) h'
theorem Wl.trans {w : Addr} {h h1 h2 : AH} (a : Wl w h h1) (b : Wl w h1 h2) : Wl w h h2 := ⟨b.1, a.2.trans b.2⟩
theorem Wl.ext {w : Addr} {h h1 : AH} (hw : WellAt h w) (e : Ext h h1) : Wl w h h1 := ⟨let ⟨a, b, c, z⟩ := hw; ⟨a, b, c, e _ _ z⟩, e.fx⟩
theorem Wl.refl {w : Addr} {h : AH} (hw : WellAt h w) : Wl w h h := ⟨hw, Fx.refl h⟩
theorem well_ne {h : AH} {w p : Addr} (hw : WellAt h w) (hp : h p = none) : p ≠ w := fun z => by subst z; obtain ⟨_, _, _, z⟩ := hw; rw [hp] at z; cases z
theorem Wl.isN {w : Addr} {h h' : AH} (W : Wl w h h') {p : Addr} (e : h' p = none) : h p = none := by
  have n := well_ne W.1 e
  cases z : h p with
  | none => rfl
  | some o => rw [W.2 _ _ n z] at e; cases e
theorem Ext.wl {h h1 h2 : AH} {w : Addr} (e : Ext h h1) (n : h w = none) (W : Wl w h1 h2) : Ext h h2 := fun a o z => W.2 a o (fun m => by subst m; rw [n] at z; cases z) (e _ _ z)

def R_divisor (_ : Frg) : Sp2 := fun x y h Q _ => ∃ a b : Int, x = .int a ∧ y = .int b ∧ Q (.int (Int.gcd a b)) h
def R_made (K : Frg) : Sp2 := fun x y h Q E => ∃ t b : Int, x = .int t ∧ y = .int b ∧ (b = 0 → E (.ref (c_NoFraction K)) h) ∧ (b ≠ 0 → b.natAbs.log2 < 9000 ∧ Q (fr (Rat.divInt t b)) h)
def R_plus (_ : Frg) : Sp2 := fun x y h Q _ => ∃ p q : Rat, x = fr p ∧ y = fr q ∧ Sz 4000 p ∧ Sz 4000 q ∧ Q (fr (p + q)) h
def R_times (_ : Frg) : Sp2 := fun x y h Q _ => ∃ p q : Rat, x = fr p ∧ y = fr q ∧ Sz 4000 p ∧ Sz 4000 q ∧ Q (fr (p * q)) h

abbrev sp_divisor (K : Frg) : ASp := sp2 (R_divisor K)
def t_divisor (K : Frg) : ATS := (aSeq (aWhile (aTest (a2 (eqA true) (aVar 1) (aC (.int 0))))
  (aPar 0 1 (aCons (aVar 1) (aCons (a2 modA (aVar 0) (aVar 1)) aNil))))
  (aRet (aN absA (aCons (aVar 0) aNil))))
abbrev sp_made (K : Frg) : ASp := sp2 (R_made K)
def t_made (K : Frg) : ATS := (aSeq (aIfS (aTest (a2 (eqA false) (aVar 1) (aC (.int 0))))
  (aRaise (c_NoFraction K))
  aNext)
  (aSeq (aAsg (aCall (sp_divisor K) [] (aCons (aVar 0) (aCons (aVar 1) aNil))) (agN 2))
  (aSeq (aIfS (aTest (a2 ltA (aVar 1) (aC (.int 0))))
  (aAsg (a1 negA (aVar 2)) (agN 2))
  aNext)
  (aRet (aTup (aCons (a2 divA (aVar 0) (aVar 2)) (aCons (a2 divA (aVar 1) (aVar 2)) aNil)))))))
abbrev sp_plus (K : Frg) : ASp := sp2 (R_plus K)
def t_plus (K : Frg) : ATS := (aRet (aCall (sp_made K) [] (aCons (a2 addA (a2 mulA (a2 ixA (aVar 0) (aC (.int 0))) (a2 ixA (aVar 1) (aC (.int 1)))) (a2 mulA (a2 ixA (aVar 1) (aC (.int 0))) (a2 ixA (aVar 0) (aC (.int 1))))) (aCons (a2 mulA (a2 ixA (aVar 0) (aC (.int 1))) (a2 ixA (aVar 1) (aC (.int 1)))) aNil))))
abbrev sp_times (K : Frg) : ASp := sp2 (R_times K)
def t_times (K : Frg) : ATS := (aRet (aCall (sp_made K) [] (aCons (a2 mulA (a2 ixA (aVar 0) (aC (.int 0))) (a2 ixA (aVar 1) (aC (.int 0)))) (aCons (a2 mulA (a2 ixA (aVar 0) (aC (.int 1))) (a2 ixA (aVar 1) (aC (.int 1)))) aNil))))
abbrev sp_law_well (K : Frg) : ASp := sp1 (R_law_well K)
def t_law_well (K : Frg) : ATS := (aRet (aLst (aCons (a2 mulA (aVar 0) (aN intA (aCons (a2 geA (aVar 0) (a2 powA (aC (.int 10)) (aC (.int 18)))) aNil))) (aCons (a2 modP (aVar 0) (aC (.int 2147483647))) (aCons (aC (.int 0)) aNil)))))
abbrev sp_law_draw (K : Frg) : ASp := sp2 (R_law_draw K)
def t_law_draw (K : Frg) : ATS := (aSeq (aIfS (aTest (a2 gtA (a2 ixA (aVar 0) (aC (.int 0))) (aC (.int 0))))
  (aSeq (aAsg (a2 modA (a2 ixA (aVar 0) (aC (.int 0))) (aVar 1)) (agN 2))
  (aSeq (aSetL (aVar 0) (aC (.int 0)) (a2 divA (a2 ixA (aVar 0) (aC (.int 0))) (aVar 1)))
  (aRet (aVar 2))))
  aNext)
  (aSeq (aSetL (aVar 0) (aC (.int 2)) (a2 addA (a2 ixA (aVar 0) (aC (.int 2))) (aC (.int 1))))
  (aSeq (aAsg (a2 modP (a2 mulA (a2 addA (a2 addA (a2 ixA (aVar 0) (aC (.int 1))) (a2 mulA (aC (.int 7919)) (a2 ixA (aVar 0) (aC (.int 2))))) (aC (.int 1))) (aC (.int 48271))) (aC (.int 2147483647))) (agN 3))
  (aSeq (aAsg (a2 modP (a2 mulA (aVar 3) (a2 addA (a2 divP (aVar 3) (aC (.int 1009))) (aC (.int 69621)))) (aC (.int 2147483647))) (agN 3))
  (aRet (a2 modA (a2 modP (a2 mulA (aVar 3) (a2 addA (a2 divP (aVar 3) (aC (.int 2003))) (aC (.int 40692)))) (aC (.int 2147483399))) (aVar 1)))))))

theorem rd_law_well {K : Frg} (T : TK K) {x0 : A} {h : AH} {Q : AVK} {E : AXK} (hR : R_law_well K x0 h Q E) : t_law_well K { nx := fun _ h' => Q .non h', rt := Q, ex := fun c _ h' => E c h' } [some x0] h := by
  obtain ⟨i, rfl, q⟩ := hR
  unfold t_law_well
  try dsimp only [nb, aRet, aRetN, aSeq, aIfS, aNext, aBreak, aCont, aDrop, aAsg, aPar, aAug, aSetL, aSetF, aFld, aVar, aC, aNil, aCons, aTup, aLst, a1, a2, aN, aAndV, aOrV, aNotV, aIf, aAnd, aOr, aNot, aTest, aChn, aCall, aMeth, aMake, aBmL, aRaise, aTryOnly, aTryAs, aFor, aiSeq, aiRng1, aiRng2, aiEnum, agN, agNil, agCons, agTup, aSlL, aRev, aNoPart, aPart, aNewK, aNewT, aLc, aWhile, asB, asT, iA, iA0, subA, modA, modP, divP, divA, powA, ltA, leA, gtA, geA, addA, mulA, negA, lenA, absA, intA, allA, listA, tupleA, one, two, sp0, sp1, sp2, sp3, sp4, sp5, sp6, appendA, reverseA, clearA, wipeA, putFA, List.getElem?_cons_zero, List.getElem?_cons_succ, List.set_cons_zero, List.set_cons_succ, List.cons_append, List.nil_append, List.append_nil]
  refine ⟨⟨by decide, by decide, by decide⟩, mul_r ?_, by decide, (by simp; decide), fun p hp => q p _ hp ⟨_, _, _, updA_same⟩ (Ext.new hp)⟩
  split <;> decide
theorem rd_law_draw {K : Frg} (T : TK K) {x0 x1 : A} {h : AH} {Q : AVK} {E : AXK} (hR : R_law_draw K x0 x1 h Q E) : t_law_draw K { nx := fun _ h' => Q .non h', rt := Q, ex := fun c _ h' => E c h' } [some x0, some x1, none, none] h := by
  obtain ⟨w, m, rfl, rfl, hm, hl, ⟨a, b, c, hw⟩, q⟩ := hR
  unfold t_law_draw
  try dsimp only [nb, aRet, aRetN, aSeq, aIfS, aNext, aBreak, aCont, aDrop, aAsg, aPar, aAug, aSetL, aSetF, aFld, aVar, aC, aNil, aCons, aTup, aLst, a1, a2, aN, aAndV, aOrV, aNotV, aIf, aAnd, aOr, aNot, aTest, aChn, aCall, aMeth, aMake, aBmL, aRaise, aTryOnly, aTryAs, aFor, aiSeq, aiRng1, aiRng2, aiEnum, agN, agNil, agCons, agTup, aSlL, aRev, aNoPart, aPart, aNewK, aNewT, aLc, aWhile, asB, asT, iA, iA0, subA, modA, modP, divP, divA, powA, ltA, leA, gtA, geA, addA, mulA, negA, lenA, absA, intA, allA, listA, tupleA, one, two, sp0, sp1, sp2, sp3, sp4, sp5, sp6, appendA, reverseA, clearA, wipeA, putFA, List.getElem?_cons_zero, List.getElem?_cons_succ, List.set_cons_zero, List.set_cons_succ, List.cons_append, List.nil_append, List.append_nil]
  refine ix_ref hw rfl ?_
  try dsimp only [nb, aRet, aRetN, aSeq, aIfS, aNext, aBreak, aCont, aDrop, aAsg, aPar, aAug, aSetL, aSetF, aFld, aVar, aC, aNil, aCons, aTup, aLst, a1, a2, aN, aAndV, aOrV, aNotV, aIf, aAnd, aOr, aNot, aTest, aChn, aCall, aMeth, aMake, aBmL, aRaise, aTryOnly, aTryAs, aFor, aiSeq, aiRng1, aiRng2, aiEnum, agN, agNil, agCons, agTup, aSlL, aRev, aNoPart, aPart, aNewK, aNewT, aLc, aWhile, asB, asT, iA, iA0, subA, modA, modP, divP, divA, powA, ltA, leA, gtA, geA, addA, mulA, negA, lenA, absA, intA, allA, listA, tupleA, one, two, sp0, sp1, sp2, sp3, sp4, sp5, sp6, appendA, reverseA, clearA, wipeA, putFA, List.getElem?_cons_zero, List.getElem?_cons_succ, List.set_cons_zero, List.set_cons_succ, List.cons_append, List.nil_append, List.append_nil]
  refine ifd (fun h1 => ?_) fun h1 => ?_
  · refine ix_ref hw rfl ?_
    try dsimp only [nb, aRet, aRetN, aSeq, aIfS, aNext, aBreak, aCont, aDrop, aAsg, aPar, aAug, aSetL, aSetF, aFld, aVar, aC, aNil, aCons, aTup, aLst, a1, a2, aN, aAndV, aOrV, aNotV, aIf, aAnd, aOr, aNot, aTest, aChn, aCall, aMeth, aMake, aBmL, aRaise, aTryOnly, aTryAs, aFor, aiSeq, aiRng1, aiRng2, aiEnum, agN, agNil, agCons, agTup, aSlL, aRev, aNoPart, aPart, aNewK, aNewT, aLc, aWhile, asB, asT, iA, iA0, subA, modA, modP, divP, divA, powA, ltA, leA, gtA, geA, addA, mulA, negA, lenA, absA, intA, allA, listA, tupleA, one, two, sp0, sp1, sp2, sp3, sp4, sp5, sp6, appendA, reverseA, clearA, wipeA, putFA, List.getElem?_cons_zero, List.getElem?_cons_succ, List.set_cons_zero, List.set_cons_succ, List.cons_append, List.nil_append, List.append_nil]
    refine ⟨by omega, ix_ref hw rfl ?_⟩
    try dsimp only [nb, aRet, aRetN, aSeq, aIfS, aNext, aBreak, aCont, aDrop, aAsg, aPar, aAug, aSetL, aSetF, aFld, aVar, aC, aNil, aCons, aTup, aLst, a1, a2, aN, aAndV, aOrV, aNotV, aIf, aAnd, aOr, aNot, aTest, aChn, aCall, aMeth, aMake, aBmL, aRaise, aTryOnly, aTryAs, aFor, aiSeq, aiRng1, aiRng2, aiEnum, agN, agNil, agCons, agTup, aSlL, aRev, aNoPart, aPart, aNewK, aNewT, aLc, aWhile, asB, asT, iA, iA0, subA, modA, modP, divP, divA, powA, ltA, leA, gtA, geA, addA, mulA, negA, lenA, absA, intA, allA, listA, tupleA, one, two, sp0, sp1, sp2, sp3, sp4, sp5, sp6, appendA, reverseA, clearA, wipeA, putFA, List.getElem?_cons_zero, List.getElem?_cons_succ, List.set_cons_zero, List.set_cons_succ, List.cons_append, List.nil_append, List.append_nil]
    refine .inl ⟨⟨hm, hl⟩, _, _, hw, rfl, ?_⟩
    exact q _ _ (fmod_pos hm).1 (fmod_pos hm).2 ⟨⟨_, _, _, updA_same⟩, Fx.wr rfl⟩
  · refine ix_ref hw rfl ?_
    try dsimp only [nb, aRet, aRetN, aSeq, aIfS, aNext, aBreak, aCont, aDrop, aAsg, aPar, aAug, aSetL, aSetF, aFld, aVar, aC, aNil, aCons, aTup, aLst, a1, a2, aN, aAndV, aOrV, aNotV, aIf, aAnd, aOr, aNot, aTest, aChn, aCall, aMeth, aMake, aBmL, aRaise, aTryOnly, aTryAs, aFor, aiSeq, aiRng1, aiRng2, aiEnum, agN, agNil, agCons, agTup, aSlL, aRev, aNoPart, aPart, aNewK, aNewT, aLc, aWhile, asB, asT, iA, iA0, subA, modA, modP, divP, divA, powA, ltA, leA, gtA, geA, addA, mulA, negA, lenA, absA, intA, allA, listA, tupleA, one, two, sp0, sp1, sp2, sp3, sp4, sp5, sp6, appendA, reverseA, clearA, wipeA, putFA, List.getElem?_cons_zero, List.getElem?_cons_succ, List.set_cons_zero, List.set_cons_succ, List.cons_append, List.nil_append, List.append_nil]
    refine ⟨_, _, hw, rfl, ix_ref updA_same rfl (ix_ref updA_same rfl ?_)⟩
    try dsimp only [nb, aRet, aRetN, aSeq, aIfS, aNext, aBreak, aCont, aDrop, aAsg, aPar, aAug, aSetL, aSetF, aFld, aVar, aC, aNil, aCons, aTup, aLst, a1, a2, aN, aAndV, aOrV, aNotV, aIf, aAnd, aOr, aNot, aTest, aChn, aCall, aMeth, aMake, aBmL, aRaise, aTryOnly, aTryAs, aFor, aiSeq, aiRng1, aiRng2, aiEnum, agN, agNil, agCons, agTup, aSlL, aRev, aNoPart, aPart, aNewK, aNewT, aLc, aWhile, asB, asT, iA, iA0, subA, modA, modP, divP, divA, powA, ltA, leA, gtA, geA, addA, mulA, negA, lenA, absA, intA, allA, listA, tupleA, one, two, sp0, sp1, sp2, sp3, sp4, sp5, sp6, appendA, reverseA, clearA, wipeA, putFA, List.getElem?_cons_zero, List.getElem?_cons_succ, List.set_cons_zero, List.set_cons_succ, List.cons_append, List.nil_append, List.append_nil]
    have e : ∀ z : Int, 0 ≤ z % 2147483647 ∧ z % 2147483647 < 2147483647 := fun z => ⟨Int.emod_nonneg _ (by decide), Int.emod_lt_of_pos _ (by decide)⟩
    refine ⟨mul_l (by decide), mul_r (by decide), by decide, ⟨by decide, by decide⟩, mul_l ?_, by decide, ⟨by decide, by decide⟩, mul_l ?_, by decide, by omega, ?_⟩
    · have := e ((b + 7919 * (c + 1) + 1) * 48271)
      omega
    · have := e ((b + 7919 * (c + 1) + 1) * 48271 % 2147483647 * ((b + 7919 * (c + 1) + 1) * 48271 % 2147483647 / 1009 + 69621))
      omega
    · exact q _ _ (fmod_pos hm).1 (fmod_pos hm).2 ⟨⟨_, _, _, updA_same⟩, Fx.wr rfl⟩

theorem rd_divisor {K : Frg} (T : TK K) {x0 x1 : A} {h : AH} {Q : AVK} {E : AXK} (hR : R_divisor K x0 x1 h Q E) : t_divisor K { nx := fun _ h' => Q .non h', rt := Q, ex := fun c _ h' => E c h' } [some x0, some x1] h := by
  obtain ⟨a, b, rfl, rfl, q⟩ := hR
  unfold t_divisor
  refine seq_cut (fun α h' => ∃ c : Int, α = [some (.int c), some (.int 0)] ∧ c.natAbs = Int.gcd a b ∧ h = h') (fun J hJ => ?_) fun α h' pv => ?_
  · refine ⟨fun m α h' => ∃ c d : Int, α = [some (.int c), some (.int d)] ∧ Int.gcd c d = Int.gcd a b ∧ d.natAbs = m ∧ h' = h, ⟨_, a, b, rfl, rfl, rfl, rfl⟩, fun m α h' pv => ?_⟩
    obtain ⟨c, d, rfl, e, rfl, rfl⟩ := pv
    try dsimp only [nb, aRet, aRetN, aSeq, aIfS, aNext, aBreak, aCont, aDrop, aAsg, aPar, aAug, aSetL, aSetF, aFld, aVar, aC, aNil, aCons, aTup, aLst, a1, a2, aN, aAndV, aOrV, aNotV, aIf, aAnd, aOr, aNot, aTest, aChn, aCall, aMeth, aMake, aBmL, aRaise, aTryOnly, aTryAs, aFor, aiSeq, aiRng1, aiRng2, aiEnum, agN, agNil, agCons, agTup, aSlL, aRev, aNoPart, aPart, aNewK, aNewT, aLc, aWhile, asB, asT, iA, iA0, subA, modA, modP, divP, divA, powA, ltA, leA, gtA, geA, addA, mulA, negA, lenA, absA, intA, allA, listA, tupleA, one, two, sp0, sp1, sp2, sp3, sp4, sp5, sp6, appendA, reverseA, clearA, wipeA, putFA, List.getElem?_cons_zero, List.getElem?_cons_succ, List.set_cons_zero, List.set_cons_succ, List.cons_append, List.nil_append, List.append_nil, eqA]
    refine ifnd (fun hd => ⟨hd, _, fmod_small c hd, d, _, rfl, by rw [gcd_fmod]; exact e, rfl, rfl⟩) fun hd => ?_
    subst hd
    rw [Int.gcd_zero_right] at e
    exact hJ _ _ ⟨c, rfl, e, rfl⟩
  · obtain ⟨c, rfl, e, rfl⟩ := pv
    try dsimp only [nb, aRet, aRetN, aSeq, aIfS, aNext, aBreak, aCont, aDrop, aAsg, aPar, aAug, aSetL, aSetF, aFld, aVar, aC, aNil, aCons, aTup, aLst, a1, a2, aN, aAndV, aOrV, aNotV, aIf, aAnd, aOr, aNot, aTest, aChn, aCall, aMeth, aMake, aBmL, aRaise, aTryOnly, aTryAs, aFor, aiSeq, aiRng1, aiRng2, aiEnum, agN, agNil, agCons, agTup, aSlL, aRev, aNoPart, aPart, aNewK, aNewT, aLc, aWhile, asB, asT, iA, iA0, subA, modA, modP, divP, divA, powA, ltA, leA, gtA, geA, addA, mulA, negA, lenA, absA, intA, allA, listA, tupleA, one, two, sp0, sp1, sp2, sp3, sp4, sp5, sp6, appendA, reverseA, clearA, wipeA, putFA, List.getElem?_cons_zero, List.getElem?_cons_succ, List.set_cons_zero, List.set_cons_succ, List.cons_append, List.nil_append, List.append_nil]
    have : (if c < 0 then -c else c) = (Int.gcd a b : Int) := by rw [← e]; split <;> omega
    rw [this]
    exact q
theorem rd_made {K : Frg} (T : TK K) {x0 x1 : A} {h : AH} {Q : AVK} {E : AXK} (hR : R_made K x0 x1 h Q E) : t_made K { nx := fun _ h' => Q .non h', rt := Q, ex := fun c _ h' => E c h' } [some x0, some x1, none] h := by
  obtain ⟨t, b, rfl, rfl, q0, q1⟩ := hR
  unfold t_made
  refine seq_cut (fun α h' => α = [some (.int t), some (.int b), none] ∧ h' = h ∧ b ≠ 0) (fun J hJ => ?_) fun α h' pv => ?_
  · dsimp only [aIfS]
    try dsimp only [nb, aRet, aRetN, aNext, aBreak, aCont, aDrop, aAsg, aPar, aAug, aSetL, aSetF, aFld, aVar, aC, aNil, aCons, aTup, aLst, a1, a2, aN, aAndV, aOrV, aNotV, aIf, aAnd, aOr, aNot, aTest, aChn, aCall, aMeth, aMake, aBmL, aRaise, aTryOnly, aTryAs, aiSeq, aiRng1, aiRng2, aiEnum, agN, agNil, agCons, agTup, aSlL, aRev, aNoPart, aPart, aNewK, aNewT, aLc, asB, asT, iA, iA0, subA, modA, modP, divP, divA, powA, ltA, leA, gtA, geA, addA, mulA, negA, lenA, absA, intA, allA, listA, tupleA, one, two, sp0, sp1, sp2, sp3, sp4, sp5, sp6, appendA, reverseA, clearA, wipeA, putFA, List.getElem?_cons_zero, List.getElem?_cons_succ, List.set_cons_zero, List.set_cons_succ, List.cons_append, List.nil_append, List.append_nil, eqA]
    refine ifd (fun hb => q0 hb) fun hb => hJ _ _ ⟨rfl, rfl, hb⟩
  obtain ⟨rfl, rfl, hb⟩ := pv
  have hq := (q1 hb).2
  have hg := gcd_pos (t := t) hb
  have hl : (Int.gcd t b).log2 < 9000 := by
    refine Nat.lt_of_le_of_lt ?_ (q1 hb).1
    have : b.natAbs ≠ 0 := by omega
    rw [Nat.le_log2 this]
    exact Nat.le_trans (Nat.log2_self_le (by omega)) (gcd_le hb)
  try dsimp only [nb, aRet, aRetN, aSeq, aIfS, aNext, aBreak, aCont, aDrop, aAsg, aPar, aAug, aSetL, aSetF, aFld, aVar, aC, aNil, aCons, aTup, aLst, a1, a2, aN, aAndV, aOrV, aNotV, aIf, aAnd, aOr, aNot, aTest, aChn, aCall, aMeth, aMake, aBmL, aRaise, aTryOnly, aTryAs, aFor, aiSeq, aiRng1, aiRng2, aiEnum, agN, agNil, agCons, agTup, aSlL, aRev, aNoPart, aPart, aNewK, aNewT, aLc, aWhile, asB, asT, iA, iA0, subA, modA, modP, divP, divA, powA, ltA, leA, gtA, geA, addA, mulA, negA, lenA, absA, intA, allA, listA, tupleA, one, two, sp0, sp1, sp2, sp3, sp4, sp5, sp6, appendA, reverseA, clearA, wipeA, putFA, List.getElem?_cons_zero, List.getElem?_cons_succ, List.set_cons_zero, List.set_cons_succ, List.cons_append, List.nil_append, List.append_nil, R_divisor, eqA]
  refine ⟨t, b, rfl, rfl, ?_⟩
  refine ifd (fun hn => ?_) fun hn => ?_
  · have e := made_neg (t := t) hn
    refine .inr ⟨⟨by omega, by simpa using hl⟩, .inr ⟨⟨by omega, by simpa using hl⟩, by simp; decide, ?_⟩⟩
    rw [e.1, e.2]
    exact hq
  · have e := made_pos (t := t) (by omega : 0 < b)
    refine .inl ⟨⟨hg, by simpa using hl⟩, .inl ⟨⟨hg, by simpa using hl⟩, by simp; decide, ?_⟩⟩
    rw [e.1, e.2]
    exact hq
theorem rd_plus {K : Frg} (T : TK K) {x0 x1 : A} {h : AH} {Q : AVK} {E : AXK} (hR : R_plus K x0 x1 h Q E) : t_plus K { nx := fun _ h' => Q .non h', rt := Q, ex := fun c _ h' => E c h' } [some x0, some x1] h := by
  obtain ⟨p, q, rfl, rfl, hp, hq, k⟩ := hR
  unfold t_plus
  try dsimp only [nb, aRet, aRetN, aSeq, aIfS, aNext, aBreak, aCont, aDrop, aAsg, aPar, aAug, aSetL, aSetF, aFld, aVar, aC, aNil, aCons, aTup, aLst, a1, a2, aN, aAndV, aOrV, aNotV, aIf, aAnd, aOr, aNot, aTest, aChn, aCall, aMeth, aMake, aBmL, aRaise, aTryOnly, aTryAs, aFor, aiSeq, aiRng1, aiRng2, aiEnum, agN, agNil, agCons, agTup, aSlL, aRev, aNoPart, aPart, aNewK, aNewT, aLc, aWhile, asB, asT, iA, iA0, subA, modA, modP, divP, divA, powA, ltA, leA, gtA, geA, addA, mulA, negA, lenA, absA, intA, allA, listA, tupleA, one, two, sp0, sp1, sp2, sp3, sp4, sp5, sp6, appendA, reverseA, clearA, wipeA, putFA, List.getElem?_cons_zero, List.getElem?_cons_succ, List.set_cons_zero, List.set_cons_succ, List.cons_append, List.nil_append, List.append_nil, R_made, fr]
  have l := log2_small (Nat.lt_of_lt_of_le (abs_mul_lt (i := (p.den : Int)) (j := (q.den : Int)) (n := 4000) (m := 4000) (by simpa using hp.2) (by simpa using hq.2)) (Nat.le_refl _)) (by decide)
  have hpd : ((p.den : Int)).natAbs < 2 ^ 4000 := by simpa using hp.2
  have hqd : ((q.den : Int)).natAbs < 2 ^ 4000 := by simpa using hq.2
  refine ix_tup rfl (ix_tup rfl ⟨mul_bits hp.1 hqd (by decide), ix_tup rfl (ix_tup rfl ⟨mul_bits hq.1 hpd (by decide), ix_tup rfl (ix_tup rfl ⟨mul_bits hpd hqd (by decide), _, _, rfl, rfl, fun z => ?_, fun z => ⟨l, ?_⟩⟩)⟩)⟩)
  · exact absurd z (Int.mul_ne_zero (by have := den_pos p; omega) (by have := den_pos q; omega))
  · rw [fr_add]; exact k
theorem rd_times {K : Frg} (T : TK K) {x0 x1 : A} {h : AH} {Q : AVK} {E : AXK} (hR : R_times K x0 x1 h Q E) : t_times K { nx := fun _ h' => Q .non h', rt := Q, ex := fun c _ h' => E c h' } [some x0, some x1] h := by
  obtain ⟨p, q, rfl, rfl, hp, hq, k⟩ := hR
  unfold t_times
  try dsimp only [nb, aRet, aRetN, aSeq, aIfS, aNext, aBreak, aCont, aDrop, aAsg, aPar, aAug, aSetL, aSetF, aFld, aVar, aC, aNil, aCons, aTup, aLst, a1, a2, aN, aAndV, aOrV, aNotV, aIf, aAnd, aOr, aNot, aTest, aChn, aCall, aMeth, aMake, aBmL, aRaise, aTryOnly, aTryAs, aFor, aiSeq, aiRng1, aiRng2, aiEnum, agN, agNil, agCons, agTup, aSlL, aRev, aNoPart, aPart, aNewK, aNewT, aLc, aWhile, asB, asT, iA, iA0, subA, modA, modP, divP, divA, powA, ltA, leA, gtA, geA, addA, mulA, negA, lenA, absA, intA, allA, listA, tupleA, one, two, sp0, sp1, sp2, sp3, sp4, sp5, sp6, appendA, reverseA, clearA, wipeA, putFA, List.getElem?_cons_zero, List.getElem?_cons_succ, List.set_cons_zero, List.set_cons_succ, List.cons_append, List.nil_append, List.append_nil, R_made, fr]
  have l := log2_small (Nat.lt_of_lt_of_le (abs_mul_lt (i := (p.den : Int)) (j := (q.den : Int)) (n := 4000) (m := 4000) (by simpa using hp.2) (by simpa using hq.2)) (Nat.le_refl _)) (by decide)
  have hpd : ((p.den : Int)).natAbs < 2 ^ 4000 := by simpa using hp.2
  have hqd : ((q.den : Int)).natAbs < 2 ^ 4000 := by simpa using hq.2
  refine ix_tup rfl (ix_tup rfl ⟨mul_bits hp.1 hq.1 (by decide), ix_tup rfl (ix_tup rfl ⟨mul_bits hpd hqd (by decide), _, _, rfl, rfl, fun z => ?_, fun z => ⟨l, ?_⟩⟩)⟩)
  · exact absurd z (Int.mul_ne_zero (by have := den_pos p; omega) (by have := den_pos q; omega))
  · rw [fr_mul]; exact k

end GL
namespace GL
open PySem PySem.Spec L2 G
structure Rul where
  g : Rat
  p : Rat
  a : Rat
  q : Rat
  b : Rat
theorem Rul.ext' {r s : Rul} (h1 : r.g = s.g) (h2 : r.p = s.p) (h3 : r.a = s.a) (h4 : r.q = s.q) (h5 : r.b = s.b) : r = s := by
  cases r; cases s; simp only at h1 h2 h3 h4 h5; subst h1 h2 h3 h4 h5; rfl
def rulA (r : Rul) : A := .tup [fr r.g, fr r.p, fr r.a, fr r.q, fr r.b]
def comp (r s : Rul) : Rul := ⟨s.g * r.g, s.g * r.p + s.p * r.q, (s.g * r.a + s.p * r.b) + s.a, s.q * r.q, s.q * r.b + s.b⟩
def idR : Rul := ⟨1, 0, 0, 1, 0⟩
theorem comp_assoc (r s t : Rul) : comp (comp r s) t = comp r (comp s t) := by
  apply Rul.ext' <;> simp only [comp] <;> grind
theorem comp_id (r : Rul) : comp idR r = r := by
  apply Rul.ext' <;> simp only [comp, idR] <;> grind
theorem id_comp (r : Rul) : comp r idR = r := by
  apply Rul.ext' <;> simp only [comp, idR] <;> grind
def prodR (l : List Rul) : Rul := l.foldl comp idR
theorem foldl_comp (l : List Rul) : ∀ r : Rul, l.foldl comp r = comp r (prodR l) := by
  induction l with
  | nil => intro r; exact (id_comp r).symm
  | cons s l ih =>
    intro r
    unfold prodR
    rw [List.foldl_cons, List.foldl_cons, ih (comp r s), ih (comp idR s), comp_id, comp_assoc]
theorem prodR_append (l m : List Rul) : prodR (l ++ m) = comp (prodR l) (prodR m) := by
  unfold prodR
  rw [List.foldl_append, foldl_comp]
  rfl
theorem prodR_one (r : Rul) : prodR [r] = r := comp_id r
theorem rul_same {h : AH} {n : Nat} (r : Rul) : SamR h (SamA h (n + 2)) (rulA r) (rulA r) := by
  have f : ∀ x : Rat, SamA h (n + 2) (fr x) (fr x) := fun x => .inr (.inr (.inr ⟨_, _, rfl, rfl, .cons (.inl ⟨rfl, rfl⟩) (.cons (.inl ⟨rfl, rfl⟩) .nil)⟩))
  exact .inr ⟨_, _, rfl, rfl, .cons (f _) (.cons (f _) (.cons (f _) (.cons (f _) (.cons (f _) .nil))))⟩
theorem rulA_inj {r s : Rul} (e : rulA r = rulA s) : r = s := by
  unfold rulA at e
  injection e with e
  simp only [List.cons.injEq, and_true] at e
  obtain ⟨e1, e2, e3, e4, e5⟩ := e
  exact Rul.ext' (fr_inj e1) (fr_inj e2) (fr_inj e3) (fr_inj e4) (fr_inj e5)
def RSz (n : Nat) (r : Rul) : Prop := Sz n r.g ∧ Sz n r.p ∧ Sz n r.a ∧ Sz n r.q ∧ Sz n r.b
/-- rules over 16 ^ m -/
structure IRul where
  g : Int
  p : Int
  a : Int
  q : Int
  b : Int
def mkR (d : Int) (i : IRul) : Rul := ⟨Rat.divInt i.g d, Rat.divInt i.p d, Rat.divInt i.a d, Rat.divInt i.q d, Rat.divInt i.b d⟩
def compI (d : Int) (r s : IRul) : IRul := ⟨s.g * r.g, s.g * r.p + s.p * r.q, s.g * r.a + s.p * r.b + s.a * d, s.q * r.q, s.q * r.b + s.b * d⟩
theorem divInt_add {x y d : Int} (h : d ≠ 0) : Rat.divInt x d + Rat.divInt y d = Rat.divInt (x + y) d := by
  rw [Rat.divInt_eq_div, Rat.divInt_eq_div, Rat.divInt_eq_div, Rat.intCast_add]
  grind
theorem divInt_scale {x d e : Int} (h : e ≠ 0) : Rat.divInt x d = Rat.divInt (x * e) (e * d) := by
  rw [Int.mul_comm x e]
  exact (Rat.divInt_mul_left h).symm
theorem comp_mkR {d e : Int} (hd : d ≠ 0) (he : e ≠ 0) (r s : IRul) : comp (mkR d r) (mkR e s) = mkR (d * e) (compI d r s) := by
  have hde : e * d ≠ 0 := Int.mul_ne_zero he hd
  rw [Int.mul_comm d e]
  apply Rul.ext' <;> simp only [comp, mkR, compI]
  · rw [Rat.divInt_mul_divInt]
  · rw [Rat.divInt_mul_divInt, Rat.divInt_mul_divInt, divInt_add hde]
  · rw [Rat.divInt_mul_divInt, Rat.divInt_mul_divInt, divInt_add hde, divInt_scale (x := s.a) hd, Int.mul_comm d e, divInt_add hde]
  · rw [Rat.divInt_mul_divInt]
  · rw [Rat.divInt_mul_divInt, divInt_scale (x := s.b) hd, Int.mul_comm d e, divInt_add hde]
def NB (m : Nat) (x : Int) : Prop := 4 * x.natAbs ≤ 64 ^ m
def INB (m : Nat) (i : IRul) : Prop := NB m i.g ∧ NB m i.p ∧ NB m i.a ∧ NB m i.q ∧ NB m i.b
theorem nb_mul {m n : Nat} {x y : Int} (hx : NB m x) (hy : NB n y) : 16 * (x * y).natAbs ≤ 64 ^ (m + n) := by
  unfold NB at hx hy
  rw [Int.natAbs_mul, Nat.pow_add]
  have := Nat.mul_le_mul hx hy
  have e : 4 * x.natAbs * (4 * y.natAbs) = 16 * (x.natAbs * y.natAbs) := by grind
  omega
theorem nb_scale {m n : Nat} {x : Int} (hm : 1 ≤ m) (hx : NB n x) : 16 * (x * (16 ^ m : Int)).natAbs ≤ 64 ^ (m + n) := by
  unfold NB at hx
  have e1 : ((16 ^ m : Int)).natAbs = 16 ^ m := by rw [Int.natAbs_pow]; rfl
  rw [Int.natAbs_mul, e1, Nat.pow_add]
  have h4 : 4 * 16 ^ m ≤ 64 ^ m := by
    have : (64 : Nat) ^ m = 4 ^ m * 16 ^ m := by rw [← Nat.mul_pow]
    rw [this]
    refine Nat.mul_le_mul_right _ ?_
    calc 4 = 4 ^ 1 := rfl
      _ ≤ 4 ^ m := Nat.pow_le_pow_right (by decide) hm
  have := Nat.mul_le_mul h4 hx
  have e : 4 * 16 ^ m * (4 * x.natAbs) = 16 * (x.natAbs * 16 ^ m) := by grind
  omega
theorem compI_nb {m n : Nat} {r s : IRul} (hm : 1 ≤ m) (hr : INB m r) (hs : INB n s) : INB (m + n) (compI (16 ^ m) r s) := by
  obtain ⟨r1, r2, r3, r4, r5⟩ := hr
  obtain ⟨s1, s2, s3, s4, s5⟩ := hs
  have c : ∀ {x y : Int}, NB n x → NB m y → 16 * (x * y).natAbs ≤ 64 ^ (m + n) := fun hx hy => by rw [Nat.add_comm m n]; exact nb_mul hx hy
  have a1 := c s1 r1
  have a2 := c s1 r2
  have a3 := c s2 r4
  have a4 := c s1 r3
  have a5 := c s2 r5
  have a6 := nb_scale hm s3
  have a7 := c s4 r4
  have a8 := c s4 r5
  have a9 := nb_scale hm s5
  unfold INB NB compI
  simp only
  refine ⟨by omega, ?_, ?_, by omega, ?_⟩
  · have := Int.natAbs_add_le (s.g * r.p) (s.p * r.q); omega
  · have h1 := Int.natAbs_add_le (s.g * r.a + s.p * r.b) (s.a * 16 ^ m)
    have h2 := Int.natAbs_add_le (s.g * r.a) (s.p * r.b)
    omega
  · have := Int.natAbs_add_le (s.q * r.b) (s.b * 16 ^ m); omega
/-- a rule over 16 ^ m, of bounded size -/
def RB (m : Nat) (r : Rul) : Prop := ∃ i, r = mkR (16 ^ m) i ∧ INB m i
theorem pow16 (m : Nat) : (16 ^ m : Int) ≠ 0 := by
  have : (0 : Int) < 16 ^ m := Int.pow_pos (by decide)
  omega
theorem RB.comp {m n : Nat} {r s : Rul} (hm : 1 ≤ m) (hr : RB m r) (hs : RB n s) : RB (m + n) (comp r s) := by
  obtain ⟨i, rfl, hi⟩ := hr
  obtain ⟨j, rfl, hj⟩ := hs
  refine ⟨compI (16 ^ m) i j, ?_, compI_nb hm hi hj⟩
  rw [comp_mkR (pow16 m) (pow16 n), ← Int.pow_add]
theorem nb_lt {m : Nat} {x : Int} (h : NB m x) : x.natAbs < 2 ^ (6 * m + 1) := by
  unfold NB at h
  have e : (64 : Nat) ^ m = 2 ^ (6 * m) := by rw [Nat.pow_mul]
  rw [Nat.pow_succ]
  rw [e] at h
  have : 0 < 2 ^ (6 * m) := Nat.pow_pos (by decide)
  omega
theorem d16_lt (m : Nat) : ((16 ^ m : Int)).natAbs < 2 ^ (6 * m + 1) := by
  have e1 : ((16 ^ m : Int)).natAbs = 2 ^ (4 * m) := by rw [Int.natAbs_pow, Nat.pow_mul]; rfl
  rw [e1]
  exact Nat.pow_lt_pow_right (by decide) (by omega)
theorem RB.sz {m n : Nat} {r : Rul} (h : RB m r) (hn : 6 * m + 1 ≤ n) : RSz n r := by
  obtain ⟨i, rfl, h1, h2, h3, h4, h5⟩ := h
  have one : ∀ x, NB m x → Sz n (Rat.divInt x (16 ^ m)) := fun x hx => (divInt_size (nb_lt hx) (d16_lt m) (pow16 m)).mono hn
  exact ⟨one _ h1, one _ h2, one _ h3, one _ h4, one _ h5⟩
theorem RB.prod : ∀ (l : List Rul), l ≠ [] → (∀ r ∈ l, RB 1 r) → RB l.length (prodR l) := by
  intro l
  induction l with
  | nil => intro h; exact absurd rfl h
  | cons r l ih =>
    intro _ h
    cases l with
    | nil => rw [prodR_one]; exact h r List.mem_cons_self
    | cons s l =>
      have e : prodR (r :: s :: l) = GL.comp r (prodR (s :: l)) := by
        have := prodR_append [r] (s :: l)
        rw [prodR_one] at this
        exact this
      rw [e]
      have := RB.comp (m := 1) (Nat.le_refl 1) (h r List.mem_cons_self) (ih (by simp) fun x hx => h x (List.mem_cons_of_mem _ hx))
      rw [Nat.add_comm] at this
      exact this
def R_behind (_ : Frg) : Sp2 := fun x y h Q _ => ∃ r s : Rul, x = rulA r ∧ y = rulA s ∧ RSz 500 r ∧ RSz 500 s ∧ Q (rulA (comp r s)) h

abbrev sp_behind (K : Frg) : ASp := sp2 (R_behind K)
def t_behind (K : Frg) : ATS := (aSeq (aAsg (aVar 0) (agTup 5 (agCons (agN 2) (agCons (agN 3) (agCons (agN 4) (agCons (agN 5) (agCons (agN 6) agNil)))))))
  (aSeq (aAsg (aVar 1) (agTup 5 (agCons (agN 7) (agCons (agN 8) (agCons (agN 9) (agCons (agN 10) (agCons (agN 11) agNil)))))))
  (aRet (aTup (aCons (aCall (sp_times K) [] (aCons (aVar 7) (aCons (aVar 2) aNil))) (aCons (aCall (sp_plus K) [] (aCons (aCall (sp_times K) [] (aCons (aVar 7) (aCons (aVar 3) aNil))) (aCons (aCall (sp_times K) [] (aCons (aVar 8) (aCons (aVar 5) aNil))) aNil))) (aCons (aCall (sp_plus K) [] (aCons (aCall (sp_plus K) [] (aCons (aCall (sp_times K) [] (aCons (aVar 7) (aCons (aVar 4) aNil))) (aCons (aCall (sp_times K) [] (aCons (aVar 8) (aCons (aVar 6) aNil))) aNil))) (aCons (aVar 9) aNil))) (aCons (aCall (sp_times K) [] (aCons (aVar 10) (aCons (aVar 5) aNil))) (aCons (aCall (sp_plus K) [] (aCons (aCall (sp_times K) [] (aCons (aVar 10) (aCons (aVar 6) aNil))) (aCons (aVar 11) aNil))) aNil)))))))))

theorem rd_behind {K : Frg} (T : TK K) {x0 x1 : A} {h : AH} {Q : AVK} {E : AXK} (hR : R_behind K x0 x1 h Q E) : t_behind K { nx := fun _ h' => Q .non h', rt := Q, ex := fun c _ h' => E c h' } [some x0, some x1, none, none, none, none, none, none, none, none, none, none] h := by
  obtain ⟨r, s, rfl, rfl, ⟨r1, r2, r3, r4, r5⟩, ⟨s1, s2, s3, s4, s5⟩, q⟩ := hR
  unfold t_behind
  refine seq_cut (fun α h' => α = [some (rulA r), some (rulA s), some (fr r.g), some (fr r.p), some (fr r.a), some (fr r.q), some (fr r.b), none, none, none, none, none] ∧ h = h') (fun J hJ => ?_) fun α h' pv => ?_
  · try dsimp only [nb, aRet, aRetN, aSeq, aIfS, aNext, aBreak, aCont, aDrop, aAsg, aPar, aAug, aSetL, aSetF, aFld, aVar, aC, aNil, aCons, aTup, aLst, a1, a2, aN, aAndV, aOrV, aNotV, aIf, aAnd, aOr, aNot, aTest, aChn, aCall, aMeth, aMake, aBmL, aRaise, aTryOnly, aTryAs, aFor, aiSeq, aiRng1, aiRng2, aiEnum, agN, agNil, agCons, agTup, aSlL, aRev, aNoPart, aPart, aNewK, aNewT, aLc, aWhile, asB, asT, iA, iA0, subA, modA, modP, divP, divA, powA, ltA, leA, gtA, geA, addA, mulA, negA, lenA, absA, intA, allA, listA, tupleA, one, two, sp0, sp1, sp2, sp3, sp4, sp5, sp6, appendA, reverseA, clearA, wipeA, putFA, List.getElem?_cons_zero, List.getElem?_cons_succ, List.set_cons_zero, List.set_cons_succ, List.cons_append, List.nil_append, List.append_nil, rulA]
    exact ⟨rfl, rfl, hJ _ _ ⟨rfl, rfl⟩⟩
  obtain ⟨rfl, rfl⟩ := pv
  refine seq_cut (fun α h' => α = [some (rulA r), some (rulA s), some (fr r.g), some (fr r.p), some (fr r.a), some (fr r.q), some (fr r.b), some (fr s.g), some (fr s.p), some (fr s.a), some (fr s.q), some (fr s.b)] ∧ h = h') (fun J hJ => ?_) fun α h' pv => ?_
  · try dsimp only [nb, aRet, aRetN, aSeq, aIfS, aNext, aBreak, aCont, aDrop, aAsg, aPar, aAug, aSetL, aSetF, aFld, aVar, aC, aNil, aCons, aTup, aLst, a1, a2, aN, aAndV, aOrV, aNotV, aIf, aAnd, aOr, aNot, aTest, aChn, aCall, aMeth, aMake, aBmL, aRaise, aTryOnly, aTryAs, aFor, aiSeq, aiRng1, aiRng2, aiEnum, agN, agNil, agCons, agTup, aSlL, aRev, aNoPart, aPart, aNewK, aNewT, aLc, aWhile, asB, asT, iA, iA0, subA, modA, modP, divP, divA, powA, ltA, leA, gtA, geA, addA, mulA, negA, lenA, absA, intA, allA, listA, tupleA, one, two, sp0, sp1, sp2, sp3, sp4, sp5, sp6, appendA, reverseA, clearA, wipeA, putFA, List.getElem?_cons_zero, List.getElem?_cons_succ, List.set_cons_zero, List.set_cons_succ, List.cons_append, List.nil_append, List.append_nil, rulA]
    exact ⟨rfl, rfl, hJ _ _ ⟨rfl, rfl⟩⟩
  obtain ⟨rfl, rfl⟩ := pv
  have up : ∀ {x : Rat}, Sz 500 x → Sz 4000 x := fun h => h.mono (by decide)
  have m2 : ∀ {x y : Rat}, Sz 500 x → Sz 500 y → Sz 1000 (x * y) := fun hx hy => (hx.mul hy)
  have up2 : ∀ {x : Rat}, Sz 1000 x → Sz 4000 x := fun h => h.mono (by decide)
  try dsimp only [nb, aRet, aRetN, aSeq, aIfS, aNext, aBreak, aCont, aDrop, aAsg, aPar, aAug, aSetL, aSetF, aFld, aVar, aC, aNil, aCons, aTup, aLst, a1, a2, aN, aAndV, aOrV, aNotV, aIf, aAnd, aOr, aNot, aTest, aChn, aCall, aMeth, aMake, aBmL, aRaise, aTryOnly, aTryAs, aFor, aiSeq, aiRng1, aiRng2, aiEnum, agN, agNil, agCons, agTup, aSlL, aRev, aNoPart, aPart, aNewK, aNewT, aLc, aWhile, asB, asT, iA, iA0, subA, modA, modP, divP, divA, powA, ltA, leA, gtA, geA, addA, mulA, negA, lenA, absA, intA, allA, listA, tupleA, one, two, sp0, sp1, sp2, sp3, sp4, sp5, sp6, appendA, reverseA, clearA, wipeA, putFA, List.getElem?_cons_zero, List.getElem?_cons_succ, List.set_cons_zero, List.set_cons_succ, List.cons_append, List.nil_append, List.append_nil, R_times, R_plus]
  refine ⟨_, _, rfl, rfl, up s1, up r1, _, _, rfl, rfl, up s1, up r2, _, _, rfl, rfl, up s2, up r4, _, _, rfl, rfl, up2 (m2 s1 r2), up2 (m2 s2 r4), ?_⟩
  refine ⟨_, _, rfl, rfl, up s1, up r3, _, _, rfl, rfl, up s2, up r5, _, _, rfl, rfl, up2 (m2 s1 r3), up2 (m2 s2 r5), _, _, rfl, rfl, ((m2 s1 r3).add (m2 s2 r5)).mono (by decide), up s3, ?_⟩
  refine ⟨_, _, rfl, rfl, up s4, up r4, _, _, rfl, rfl, up s4, up r5, _, _, rfl, rfl, up2 (m2 s4 r5), up s5, by simp; decide, q⟩

end GL
namespace GL
open PySem PySem.Spec L2 G
/-! ### the halved rows: which products are missing -/
section
variable (n : Nat) (has : Nat → Nat → Bool)
def miss : Nat → Nat → Nat
  | 0, _ => 0
  | j + 1, low => if n ≤ low + 2 ^ j then miss j low else (if has low (j + 1) = true then 0 else 1) + miss j low + miss j (low + 2 ^ j)
def closed : Nat → Nat → Prop
  | 0, _ => True
  | j + 1, low => if n ≤ low + 2 ^ j then closed j low else (has low (j + 1) = true → miss n has j low = 0 ∧ miss n has j (low + 2 ^ j) = 0) ∧ closed j low ∧ closed j (low + 2 ^ j)
end
section
variable {n : Nat} {has : Nat → Nat → Bool} {j low : Nat}
theorem miss_s (c : n ≤ low + 2 ^ j) : miss n has (j + 1) low = miss n has j low := by rw [miss]; exact if_pos c
theorem miss_b (c : ¬ n ≤ low + 2 ^ j) : miss n has (j + 1) low = (if has low (j + 1) = true then 0 else 1) + miss n has j low + miss n has j (low + 2 ^ j) := by rw [miss]; exact if_neg c
theorem closed_s (c : n ≤ low + 2 ^ j) : closed n has (j + 1) low ↔ closed n has j low := by rw [closed, if_pos c]
theorem closed_b (c : ¬ n ≤ low + 2 ^ j) : closed n has (j + 1) low ↔ (has low (j + 1) = true → miss n has j low = 0 ∧ miss n has j (low + 2 ^ j) = 0) ∧ closed n has j low ∧ closed n has j (low + 2 ^ j) := by rw [closed, if_neg c]
end
theorem miss_congr {n : Nat} {has has' : Nat → Nat → Bool} : ∀ (j low : Nat), (∀ l i, low ≤ l → l < low + 2 ^ j → 1 ≤ i → i ≤ j → has l i = has' l i) → miss n has j low = miss n has' j low ∧ (closed n has j low ↔ closed n has' j low)
  | 0, low, _ => ⟨rfl, Iff.rfl⟩
  | j + 1, low, h => by
    have e : 2 ^ (j + 1) = 2 ^ j + 2 ^ j := by rw [Nat.pow_succ]; omega
    have hp : 0 < 2 ^ j := Nat.pow_pos (by decide)
    obtain ⟨a1, a2⟩ := miss_congr j low fun l i h1 h2 h3 h4 => h l i h1 (by omega) h3 (by omega)
    obtain ⟨b1, b2⟩ := miss_congr (n := n) (has := has) (has' := has') j (low + 2 ^ j) fun l i h1 h2 h3 h4 => h l i (by omega) (by omega) h3 (by omega)
    have c := h low (j + 1) (Nat.le_refl _) (by omega) (by omega) (Nat.le_refl _)
    unfold miss closed
    rw [a1, b1, c, a2, b2]
    exact ⟨rfl, Iff.rfl⟩
/-- how many rules stand under a node -/
theorem miss_le {n : Nat} {has : Nat → Nat → Bool} : ∀ (j low : Nat), low < n → miss n has j low + 1 ≤ min (n - low) (2 ^ j)
  | 0, low, h => by unfold miss; simp; omega
  | j + 1, low, h => by
    have e : 2 ^ (j + 1) = 2 ^ j + 2 ^ j := by rw [Nat.pow_succ]; omega
    have hp : 0 < 2 ^ j := Nat.pow_pos (by decide)
    have a := miss_le (has := has) j low h
    by_cases c : n ≤ low + 2 ^ j
    · rw [miss_s c]; omega
    · rw [miss_b c]
      have b := miss_le (n := n) (has := has) j (low + 2 ^ j) (by omega)
      split <;> omega
theorem miss_all {n : Nat} : ∀ (j low : Nat), low < n → miss n (fun _ _ => false) j low + 1 = min (n - low) (2 ^ j)
  | 0, low, h => by unfold miss; simp; omega
  | j + 1, low, h => by
    have e : 2 ^ (j + 1) = 2 ^ j + 2 ^ j := by rw [Nat.pow_succ]; omega
    have hp : 0 < 2 ^ j := Nat.pow_pos (by decide)
    have a := miss_all j low h
    by_cases c : n ≤ low + 2 ^ j
    · rw [miss_s c]; omega
    · rw [miss_b c]
      have b := miss_all (n := n) j (low + 2 ^ j) (by omega)
      simp
      omega
theorem closed_none {n : Nat} : ∀ (j low : Nat), closed n (fun _ _ => false) j low
  | 0, _ => trivial
  | j + 1, low => by
    unfold closed
    split
    · exact closed_none j low
    · exact ⟨(fun h => nomatch h), closed_none j low, closed_none j _⟩
/-- the path of k is taken away -/
def pathOff (k : Nat) (has : Nat → Nat → Bool) : Nat → Nat → Bool := fun l i => has l i && !decide (l = k / 2 ^ i * 2 ^ i)
theorem in_path {k i : Nat} : k / 2 ^ i * 2 ^ i ≤ k ∧ k < k / 2 ^ i * 2 ^ i + 2 ^ i := by
  have hp : 0 < 2 ^ i := Nat.pow_pos (by decide)
  have h1 := Nat.div_mul_le_self k (2 ^ i)
  have h2 := Nat.lt_div_mul_add hp (a := k)
  exact ⟨h1, h2⟩
theorem aligned_sub {low l i j : Nat} (h : 2 ^ j ∣ low) (hi : i ≤ j) (hl : 2 ^ i ∣ l) (h1 : low ≤ l) (h2 : l < low + 2 ^ j) : l + 2 ^ i ≤ low + 2 ^ j := by
  have hp : 0 < 2 ^ i := Nat.pow_pos (by decide)
  obtain ⟨c, hc⟩ := Nat.dvd_trans (Nat.pow_dvd_pow 2 hi) h
  obtain ⟨d, hd⟩ := hl
  obtain ⟨e, he⟩ := Nat.pow_dvd_pow 2 hi
  have h3 : 2 ^ i * d < 2 ^ i * (c + e) := by rw [Nat.mul_add, ← hc, ← hd, ← he]; exact h2
  have h4 : d < c + e := Nat.lt_of_mul_lt_mul_left h3
  have h5 := Nat.mul_le_mul_left (2 ^ i) (by omega : d + 1 ≤ c + e)
  rw [Nat.mul_add, Nat.mul_add, Nat.mul_one, ← hc, ← hd, ← he] at h5
  exact h5
theorem path_out {k : Nat} {has : Nat → Nat → Bool} {n j low : Nat} (ha : 2 ^ j ∣ low) (hk : k < low ∨ low + 2 ^ j ≤ k) : miss n has j low = miss n (pathOff k has) j low ∧ (closed n has j low ↔ closed n (pathOff k has) j low) := by
  refine miss_congr j low fun l i h1 h2 h3 h4 => ?_
  unfold pathOff
  by_cases e : l = k / 2 ^ i * 2 ^ i
  · have p := in_path (k := k) (i := i)
    have := aligned_sub ha h4 (l := l) (by rw [e]; exact Nat.dvd_mul_left _ _) h1 h2
    omega
  · rw [decide_eq_false e]; simp
theorem path_in {k n : Nat} {has : Nat → Nat → Bool} : ∀ (j low : Nat), 2 ^ j ∣ low → low ≤ k → k < low + 2 ^ j → closed n has j low → miss n (pathOff k has) j low ≤ miss n has j low + j ∧ closed n (pathOff k has) j low
  | 0, low, _, _, _, _ => ⟨by unfold miss; omega, trivial⟩
  | j + 1, low, ha, h1, h2, hc => by
    have e : 2 ^ (j + 1) = 2 ^ j + 2 ^ j := by rw [Nat.pow_succ]; omega
    have hp : 0 < 2 ^ j := Nat.pow_pos (by decide)
    have hal : 2 ^ j ∣ low := Nat.dvd_trans (Nat.pow_dvd_pow 2 (Nat.le_succ j)) ha
    have har : 2 ^ j ∣ low + 2 ^ j := Nat.dvd_add hal (Nat.dvd_refl _)
    by_cases c : n ≤ low + 2 ^ j
    · rw [closed_s c] at hc
      rw [miss_s c, miss_s c, closed_s c]
      by_cases c2 : k < low + 2 ^ j
      · have := path_in j low hal h1 c2 hc
        exact ⟨by omega, this.2⟩
      · have := path_out (k := k) (n := n) (has := has) hal (.inr (by omega) : k < low ∨ low + 2 ^ j ≤ k)
        exact ⟨by omega, this.2.mp hc⟩
    · rw [closed_b c] at hc
      rw [miss_b c, miss_b c, closed_b c]
      obtain ⟨c1, c2, c3⟩ := hc
      have off : pathOff k has low (j + 1) = false := by
        unfold pathOff
        have : k / 2 ^ (j + 1) * 2 ^ (j + 1) = low := by
          obtain ⟨d, hd⟩ := ha
          have : k / 2 ^ (j + 1) = d := by
            rw [Nat.div_eq_iff (Nat.pow_pos (by decide)), Nat.mul_comm d]
            omega
          rw [this, hd, Nat.mul_comm]
        rw [decide_eq_true this.symm]; simp
      rw [off]
      by_cases hl : k < low + 2 ^ j
      · have l1 := path_in j low hal h1 hl c2
        have r1 := path_out (n := n) (has := has) har (.inl hl : k < low + 2 ^ j ∨ low + 2 ^ j + 2 ^ j ≤ k)
        refine ⟨?_, (fun z => nomatch z), l1.2, r1.2.mp c3⟩
        rw [← r1.1]
        by_cases hh : has low (j + 1) = true
        · have := c1 hh; rw [if_pos hh]; simp; omega
        · rw [if_neg hh]; simp; omega
      · have l1 := path_out (n := n) (has := has) hal (.inr (by omega) : k < low ∨ low + 2 ^ j ≤ k)
        have r1 := path_in (k := k) j (low + 2 ^ j) har (by omega) (by omega) c3
        refine ⟨?_, (fun z => nomatch z), l1.2.mp c2, r1.2⟩
        rw [← l1.1]
        by_cases hh : has low (j + 1) = true
        · have := c1 hh; rw [if_pos hh]; simp; omega
        · rw [if_neg hh]; simp; omega
/-- the height of n rules -/
def IsH (n j : Nat) : Prop := n ≤ 2 ^ j ∧ ∀ i, i < j → 2 ^ i < n
theorem IsH.uniq {n i j : Nat} (hi : IsH n i) (hj : IsH n j) : i = j := by
  rcases Nat.lt_trichotomy i j with h | h | h
  · have := hj.2 i h; have := hi.1; omega
  · exact h
  · have := hi.2 j h; have := hj.1; omega
theorem IsH.le {n j : Nat} (h : IsH n j) (hn : n ≤ 64) : j ≤ 6 := by
  by_cases c : j ≤ 6
  · exact c
  · have := h.2 6 (by omega); omega
theorem IsH.ex : ∀ n : Nat, ∃ j, IsH n j := fun n => by
  have : ∀ m, (∃ j, IsH n j) ∨ ∀ i, i < m → 2 ^ i < n := by
    intro m
    induction m with
    | zero => exact .inr fun i h => absurd h (Nat.not_lt_zero i)
    | succ m ih =>
      rcases ih with h | h
      · exact .inl h
      · by_cases c : n ≤ 2 ^ m
        · exact .inl ⟨m, c, h⟩
        · exact .inr fun i hi => by
            by_cases e : i = m
            · subst e; omega
            · exact h i (by omega)
  rcases this (n + 1) with h | h
  · exact h
  · have := h n (by omega)
    have := Nat.lt_two_pow_self (n := n)
    omega
/-! segments -/
def sg (rs : List Rul) (low w : Nat) : Rul := prodR ((rs.drop low).take w)
theorem sg_one {rs : List Rul} {low : Nat} (h : low < rs.length) : sg rs low 1 = rs[low] := by
  unfold sg
  rw [List.drop_eq_getElem_cons h, List.take_succ_cons, List.take_zero, prodR_one]
theorem sg_short {rs : List Rul} {low w v : Nat} (h : rs.length ≤ low + w) (hv : w ≤ v) : sg rs low v = sg rs low w := by
  unfold sg
  rw [List.take_of_length_le (by rw [List.length_drop]; omega), List.take_of_length_le (by rw [List.length_drop]; omega)]
theorem sg_two {rs : List Rul} {low w : Nat} (h : low + w < rs.length) : sg rs low (w + w) = comp (sg rs low w) (sg rs (low + w) w) := by
  unfold sg
  rw [List.take_add, prodR_append, List.drop_drop, Nat.add_comm low w]
theorem sg_all {rs : List Rul} {w : Nat} (h : rs.length ≤ w) : sg rs 0 w = prodR rs := by
  unfold sg
  rw [List.drop_zero, List.take_of_length_le h]
theorem sg_set {rs : List Rul} {low w k : Nat} {r : Rul} (h : k < low ∨ low + w ≤ k) : sg (rs.set k r) low w = sg rs low w := by
  unfold sg
  congr 1
  refine List.ext_getElem? fun i => ?_
  rw [List.getElem?_take, List.getElem?_take]
  split
  · rw [List.getElem?_drop, List.getElem?_drop, List.getElem?_set_ne (by omega)]
  · rfl
theorem sg_size {rs : List Rul} (hb : ∀ r ∈ rs, RB 1 r) (hl : rs.length ≤ 64) {low w : Nat} (h : low < rs.length) (hw : 0 < w) : RSz 500 (sg rs low w) := by
  have hne : (rs.drop low).take w ≠ [] := by
    intro e
    have := congrArg List.length e
    rw [List.length_take, List.length_drop, List.length_nil] at this
    omega
  have := RB.prod _ hne fun r hr => hb r (List.mem_of_mem_drop (List.mem_of_mem_take hr))
  refine this.sz ?_
  rw [List.length_take, List.length_drop]
  omega
end GL
namespace GL
open PySem PySem.Spec L2 G
/-! ### keepers -/
def kf (R P : Addr) (n : Nat) : List (Str × A) := [("row", .ref R), ("parts", .ref P), ("number", .int n)]
theorem kf_num {R P : Addr} {n m : Nat} : putFA "number" (.int (m : Int)) (kf R P n) = kf R P m := rfl
theorem kf_parts {R P P' : Addr} {n : Nat} : putFA "parts" (.ref P') (kf R P n) = kf R P' n := rfl
structure KeepAt (K : Frg) (h : AH) (k R P : Addr) (rs : List Rul) (kvs : List (List Key × A)) (n : Nat) : Prop where
  k : h k = some (.ins (c_Keeper K) (kf R P n))
  r : h R = some (.lst (rs.map rulA))
  p : h P = some (.dT kvs)
def keyLJ (low j : Nat) : List Key := [.inl (low : Int), .inl ((2 ^ j : Nat) : Int)]
def hasK (kvs : List (List Key × A)) : Nat → Nat → Bool := fun l i => (vl kvs (keyLJ l i)).isSome
theorem pow_inj {i j : Nat} (h : 2 ^ i = 2 ^ j) : i = j := (Nat.pow_right_inj (by decide)).mp h
theorem keyLJ_inj {l i low j : Nat} (e : keyLJ l i = keyLJ low j) : l = low ∧ i = j := by
  unfold keyLJ at e
  simp only [List.cons.injEq, Sum.inl.injEq, and_true] at e
  obtain ⟨e1, e2⟩ := e
  exact ⟨by omega, pow_inj (by omega)⟩
def CacheOk (rs : List Rul) (kvs : List (List Key × A)) (H : Nat) : Prop := ∀ ks v, vl kvs ks = some v → ∃ low j, ks = keyLJ low j ∧ 2 ^ j ∣ low ∧ 1 ≤ j ∧ j ≤ H ∧ v = rulA (sg rs low (2 ^ j))
theorem has_pt {kvs : List (List Key × A)} {low j : Nat} {v : A} (l i : Nat) : hasK (pt kvs (keyLJ low j) v) l i = if l = low ∧ i = j then true else hasK kvs l i := by
  unfold hasK
  rw [vl_pt]
  by_cases h : keyLJ l i = keyLJ low j
  · rw [if_pos h, if_pos (keyLJ_inj h)]; rfl
  · rw [if_neg h, if_neg (fun e => h (by rw [e.1, e.2]))]
theorem CacheOk.pt {rs : List Rul} {kvs : List (List Key × A)} {H low j : Nat} (c : CacheOk rs kvs H) (h1 : 2 ^ j ∣ low) (h2 : 1 ≤ j) (h3 : j ≤ H) : CacheOk rs (pt kvs (keyLJ low j) (rulA (sg rs low (2 ^ j)))) H := fun ks v e => by
  rw [vl_pt] at e
  by_cases h : ks = keyLJ low j
  · rw [if_pos h] at e
    cases e
    exact ⟨low, j, h, h1, h2, h3, rfl⟩
  · rw [if_neg h] at e
    exact c ks v e
def R_Keeper_init (K : Frg) : Sp2 := fun x y h Q _ => ∃ (k L : Addr) (rs : List Rul), x = .ref k ∧ y = .ref L ∧ h k = some (.ins (c_Keeper K) []) ∧ h L = some (.lst (rs.map rulA)) ∧
  ∀ h' R P, Fx (fun p => p = k) h h' → h R = none → h P = none → KeepAt K h' k R P rs [] 0 → Q .non h'
def R_Keeper_many (K : Frg) : Sp1 := fun x h Q _ => ∃ k R P rs kvs n, x = .ref k ∧ KeepAt K h k R P rs kvs n ∧ Q (.int rs.length) h
def R_Keeper_made (K : Frg) : Sp1 := fun x h Q _ => ∃ k R P rs kvs n, x = .ref k ∧ KeepAt K h k R P rs kvs n ∧ Q (.int n) h
def R_Keeper_height (K : Frg) : Sp1 := fun x h Q _ => ∃ k R P rs kvs n, x = .ref k ∧ KeepAt K h k R P rs kvs n ∧ rs.length ≤ 64 ∧ ∀ j : Nat, IsH rs.length j → Q (.int j) h
def R_Keeper_check (K : Frg) : Sp3 := fun _ y z h Q E => ∃ i m : Int, y = .int i ∧ z = .int m ∧ ((i < 0 ∨ m ≤ i) → E (.ref (c_NoLayer K)) h) ∧ (0 ≤ i → i < m → Q .non h)
def R_Keeper_rule_at (K : Frg) : Sp2 := fun x y h Q E => ∃ (k R P : Addr) (rs : List Rul) (kvs : List (List Key × A)) (n : Nat) (i : Int), x = .ref k ∧ y = .int i ∧ KeepAt K h k R P rs kvs n ∧
  ((i < 0 ∨ (rs.length : Int) ≤ i) → E (.ref (c_NoLayer K)) h) ∧ (∀ j (hj : j < rs.length), i = (j : Int) → Q (rulA rs[j]) h)
/-- the dict without the path of i, up to the height m -/
def offs (i : Nat) : Nat → List (List Key × A) → List (List Key × A)
  | 0, kvs => kvs
  | m + 1, kvs => dr (offs i m kvs) (keyLJ (i / 2 ^ (m + 1) * 2 ^ (m + 1)) (m + 1))
def R_Keeper_put_at (K : Frg) : Sp3 := fun x y z h Q E => ∃ (k R P : Addr) (rs : List Rul) (kvs : List (List Key × A)) (n : Nat) (i : Int) (r : Rul), x = .ref k ∧ y = .int i ∧ z = rulA r ∧ KeepAt K h k R P rs kvs n ∧ rs.length ≤ 64 ∧
  ((i < 0 ∨ (rs.length : Int) ≤ i) → E (.ref (c_NoLayer K)) h) ∧ (∀ j H, j < rs.length → i = (j : Int) → IsH rs.length H → ∀ h', Fx (fun p => p = R ∨ p = P) h h' → KeepAt K h' k R P (rs.set j r) (offs j H kvs) n → Q .non h')
def R_Keeper_put_in (K : Frg) : Sp3 := fun x y z h Q E => ∃ (k R P : Addr) (rs : List Rul) (kvs : List (List Key × A)) (n : Nat) (i : Int) (r : Rul), x = .ref k ∧ y = .int i ∧ z = rulA r ∧ KeepAt K h k R P rs kvs n ∧ rs.length ≤ 64 ∧
  ((i < 0 ∨ (rs.length : Int) < i) → E (.ref (c_NoLayer K)) h) ∧ (∀ j : Nat, j ≤ rs.length → i = (j : Int) → ∀ h' P', Fx (fun p => p = R ∨ p = k) h h' → h P' = none → KeepAt K h' k R P' (rs.take j ++ [r] ++ rs.drop j) [] n → Q .non h')
def R_Keeper_take_out (K : Frg) : Sp2 := fun x y h Q E => ∃ (k R P : Addr) (rs : List Rul) (kvs : List (List Key × A)) (n : Nat) (i : Int), x = .ref k ∧ y = .int i ∧ KeepAt K h k R P rs kvs n ∧ rs.length ≤ 64 ∧
  ((i < 0 ∨ (rs.length : Int) ≤ i) → E (.ref (c_NoLayer K)) h) ∧ (∀ j : Nat, j < rs.length → i = (j : Int) → ∀ h' P', Fx (fun p => p = R ∨ p = k) h h' → h P' = none → KeepAt K h' k R P' (rs.eraseIdx j) [] n → Q .non h')
structure PartPost (K : Frg) (h h' : AH) (k R P : Addr) (rs : List Rul) (kvs kvs' : List (List Key × A)) (num H j low : Nat) : Prop where
  fx : Fx (fun p => p = k ∨ p = P) h h'
  ka : KeepAt K h' k R P rs kvs' (num + miss rs.length (hasK kvs) j low)
  co : CacheOk rs kvs' H
  nt : NoTwice kvs'
  kl : kvs'.length ≤ kvs.length + miss rs.length (hasK kvs) j low
  fr : ∀ l i, ¬ (low ≤ l ∧ l < low + 2 ^ j ∧ 1 ≤ i ∧ i ≤ j) → hasK kvs' l i = hasK kvs l i
  ms : miss rs.length (hasK kvs') j low = 0
  cl : closed rs.length (hasK kvs') j low
def R_Keeper_part : Nat → Frg → Sp3
  | 0, _ => fun _ _ _ _ _ _ => False
  | n + 1, K => fun x y z h Q _ => ∃ (k R P : Addr) (low j H num : Nat) (rs : List Rul) (kvs : List (List Key × A)), x = .ref k ∧ y = .int low ∧ z = .int ((2 ^ j : Nat) : Int) ∧ j ≤ n ∧ KeepAt K h k R P rs kvs num ∧ rs.length ≤ 64 ∧ (∀ r ∈ rs, RB 1 r) ∧
    low < rs.length ∧ 2 ^ j ∣ low ∧ j ≤ H ∧ closed rs.length (hasK kvs) j low ∧ CacheOk rs kvs H ∧ NoTwice kvs ∧ kvs.length ≤ num ∧ num + miss rs.length (hasK kvs) j low ≤ 100000 ∧
    ∀ kvs' h', PartPost K h h' k R P rs kvs kvs' num H j low → Q (rulA (sg rs low (2 ^ j))) h'
abbrev depth_Keeper_part : Nat := 8
def R_Keeper_whole (K : Frg) : Sp1 := fun x h Q _ => ∃ (k R P : Addr) (H num : Nat) (rs : List Rul) (kvs : List (List Key × A)), x = .ref k ∧ KeepAt K h k R P rs kvs num ∧ rs.length ≤ 64 ∧ (∀ r ∈ rs, RB 1 r) ∧ IsH rs.length H ∧
    closed rs.length (hasK kvs) H 0 ∧ CacheOk rs kvs H ∧ NoTwice kvs ∧ kvs.length ≤ num ∧ num + miss rs.length (hasK kvs) H 0 ≤ 100000 ∧
    (rs = [] → ∀ h', Ext h h' → Q (rulA idR) h') ∧ (rs ≠ [] → ∀ kvs' h', PartPost K h h' k R P rs kvs kvs' num H H 0 → Q (rulA (prodR rs)) h')
abbrev sp_Keeper_init (K : Frg) : ASp := sp2 (R_Keeper_init K)
def t_Keeper_init (K : Frg) : ATS := (aSeq (aSetF K (aVar 0) (aN listA (aCons (aVar 1) aNil)) "row")
  (aSeq (aSetF K (aVar 0) aNewT "parts")
  (aSetF K (aVar 0) (aC (.int 0)) "number")))
abbrev sp_Keeper_many (K : Frg) : ASp := sp1 (R_Keeper_many K)
def t_Keeper_many (K : Frg) : ATS := (aRet (aN lenA (aCons (aFld K (aVar 0) "row") aNil)))
abbrev sp_Keeper_made (K : Frg) : ASp := sp1 (R_Keeper_made K)
def t_Keeper_made (K : Frg) : ATS := (aRet (aFld K (aVar 0) "number"))
abbrev sp_Keeper_height (K : Frg) : ASp := sp1 (R_Keeper_height K)
def t_Keeper_height (K : Frg) : ATS := (aSeq (aAsg (aC (.int 0)) (agN 1))
  (aSeq (aAsg (aC (.int 1)) (agN 2))
  (aSeq (aWhile (aTest (a2 ltA (aVar 2) (aN lenA (aCons (aFld K (aVar 0) "row") aNil))))
  (aSeq (aAsg (a2 mulA (aVar 2) (aC (.int 2))) (agN 2))
  (aAug 1 (aC (.int 1)) (iA0 fun i j => .int (i + j)))))
  (aRet (aVar 1)))))
abbrev sp_Keeper_check (K : Frg) : ASp := sp3 (R_Keeper_check K)
def t_Keeper_check (K : Frg) : ATS := (aIfS (aOr (aTest (a2 ltA (aVar 1) (aC (.int 0)))) (aTest (a2 geA (aVar 1) (aVar 2))))
  (aRaise (c_NoLayer K))
  aNext)
abbrev sp_Keeper_rule_at (K : Frg) : ASp := sp2 (R_Keeper_rule_at K)
def t_Keeper_rule_at (K : Frg) : ATS := (aSeq (aDrop (aMeth (c_Keeper K) "check" (sp_Keeper_check K) [] (aVar 0) (aCons (aVar 1) (aCons (aN lenA (aCons (aFld K (aVar 0) "row") aNil)) aNil))))
  (aRet (a2 ixA (aFld K (aVar 0) "row") (aVar 1))))
abbrev sp_Keeper_put_at (K : Frg) : ASp := sp3 (R_Keeper_put_at K)
def t_Keeper_put_at (K : Frg) : ATS := (aSeq (aDrop (aMeth (c_Keeper K) "check" (sp_Keeper_check K) [] (aVar 0) (aCons (aVar 1) (aCons (aN lenA (aCons (aFld K (aVar 0) "row") aNil)) aNil))))
  (aSeq (aSetL (aFld K (aVar 0) "row") (aVar 1) (aVar 2))
  (aSeq (aAsg (aC (.int 2)) (agN 3))
  (aFor (aiRng1 (aCons (aMeth (c_Keeper K) "height" (sp_Keeper_height K) [] (aVar 0) aNil) aNil)) (agN 4)
  (aSeq (aDrop (aBmD dpopA (aFld K (aVar 0) "parts") (aCons (aKt (aCons (a2 mulA (a2 divA (aVar 1) (aVar 3)) (aVar 3)) (aCons (aVar 3) aNil))) (aCons (aC .non) aNil))))
  (aAsg (a2 mulA (aVar 3) (aC (.int 2))) (agN 3)))))))
abbrev sp_Keeper_put_in (K : Frg) : ASp := sp3 (R_Keeper_put_in K)
def t_Keeper_put_in (K : Frg) : ATS := (aSeq (aDrop (aMeth (c_Keeper K) "check" (sp_Keeper_check K) [] (aVar 0) (aCons (aVar 1) (aCons (a2 addA (aN lenA (aCons (aFld K (aVar 0) "row") aNil)) (aC (.int 1))) aNil))))
  (aSeq (aDrop (aBmL insertA (aFld K (aVar 0) "row") (aCons (aVar 1) (aCons (aVar 2) aNil))))
  (aSetF K (aVar 0) aNewT "parts")))
abbrev sp_Keeper_take_out (K : Frg) : ASp := sp2 (R_Keeper_take_out K)
def t_Keeper_take_out (K : Frg) : ATS := (aSeq (aDrop (aMeth (c_Keeper K) "check" (sp_Keeper_check K) [] (aVar 0) (aCons (aVar 1) (aCons (aN lenA (aCons (aFld K (aVar 0) "row") aNil)) aNil))))
  (aSeq (aDrop (aBmL popAtA (aFld K (aVar 0) "row") (aCons (aVar 1) aNil)))
  (aSetF K (aVar 0) aNewT "parts")))
abbrev sp_Keeper_part (n : Nat) (K : Frg) : ASp := sp3 (R_Keeper_part n K)
def t_Keeper_part (n : Nat) (K : Frg) : ATS := (aSeq (aIfS (aTest (a2 (eqA false) (aVar 2) (aC (.int 1))))
  (aRet (a2 ixA (aFld K (aVar 0) "row") (aVar 1)))
  aNext)
  (aSeq (aAsg (a2 divP (aVar 2) (aC (.int 2))) (agN 3))
  (aSeq (aIfS (aTest (a2 geA (a2 addA (aVar 1) (aVar 3)) (aN lenA (aCons (aFld K (aVar 0) "row") aNil))))
  (aRet (aMeth (c_Keeper K) "part" (sp_Keeper_part n K) [] (aVar 0) (aCons (aVar 1) (aCons (aVar 3) aNil))))
  aNext)
  (aSeq (aIfS (aTest (a2 (inDA true) (aKt (aCons (aVar 1) (aCons (aVar 2) aNil))) (aFld K (aVar 0) "parts")))
  (aSeq (aFAug K (aVar 0) (aC (.int 1)) (iA0 fun i j => .int (i + j)) "number")
  (aDPut (aFld K (aVar 0) "parts") (aKt (aCons (aVar 1) (aCons (aVar 2) aNil))) (aCall (sp_behind K) [] (aCons (aMeth (c_Keeper K) "part" (sp_Keeper_part n K) [] (aVar 0) (aCons (aVar 1) (aCons (aVar 3) aNil))) (aCons (aMeth (c_Keeper K) "part" (sp_Keeper_part n K) [] (aVar 0) (aCons (a2 addA (aVar 1) (aVar 3)) (aCons (aVar 3) aNil))) aNil)))))
  aNext)
  (aRet (aDGet (aFld K (aVar 0) "parts") (aKt (aCons (aVar 1) (aCons (aVar 2) aNil)))))))))
abbrev sp_Keeper_whole (K : Frg) : ASp := sp1 (R_Keeper_whole K)
def t_Keeper_whole (K : Frg) : ATS := (aSeq (aIfS (aTest (a2 (eqA false) (aFld K (aVar 0) "row") (aLst aNil)))
  (aRet (aC v_IDENTITY))
  aNext)
  (aSeq (aAsg (aC (.int 1)) (agN 1))
  (aSeq (aFor (aiRng1 (aCons (aMeth (c_Keeper K) "height" (sp_Keeper_height K) [] (aVar 0) aNil) aNil)) (agN 2)
  (aAsg (a2 mulA (aVar 1) (aC (.int 2))) (agN 1)))
  (aRet (aMeth (c_Keeper K) "part" (sp_Keeper_part depth_Keeper_part K) [] (aVar 0) (aCons (aC (.int 0)) (aCons (aVar 1) aNil)))))))

theorem rd_Keeper_init {K : Frg} (T : TK K) {x0 x1 : A} {h : AH} {Q : AVK} {E : AXK} (hR : R_Keeper_init K x0 x1 h Q E) : t_Keeper_init K { nx := fun _ h' => Q .non h', rt := Q, ex := fun c _ h' => E c h' } [some x0, some x1] h := by
  obtain ⟨k, L, rs, rfl, rfl, hk, hL, q⟩ := hR
  unfold t_Keeper_init
  try dsimp only [nb, aRet, aRetN, aSeq, aIfS, aNext, aBreak, aCont, aDrop, aAsg, aPar, aAug, aSetL, aSetF, aFld, aVar, aC, aNil, aCons, aTup, aLst, a1, a2, aN, aAndV, aOrV, aNotV, aIf, aAnd, aOr, aNot, aTest, aChn, aCall, aMeth, aMake, aBmL, aRaise, aTryOnly, aTryAs, aFor, aiSeq, aiRng1, aiRng2, aiEnum, agN, agNil, agCons, agTup, aSlL, aRev, aNoPart, aPart, aNewK, aNewT, aLc, aWhile, asB, asT, iA, iA0, subA, modA, modP, divP, divA, powA, ltA, leA, gtA, geA, addA, mulA, negA, lenA, absA, intA, allA, listA, tupleA, one, two, sp0, sp1, sp2, sp3, sp4, sp5, sp6, appendA, reverseA, clearA, wipeA, putFA, List.getElem?_cons_zero, List.getElem?_cons_succ, List.set_cons_zero, List.set_cons_succ, List.cons_append, List.nil_append, List.append_nil]
  refine seqA_it (itA_ref.mpr hL) fun R hR => ?_
  have nR : R ≠ k := fun z => by subst z; rw [hk] at hR; cases hR
  have e1 := Ext.new (o := .lst (rs.map rulA)) hR
  refine ⟨_, _, e1 _ _ hk, T.cf_Keeper_row, Nat.le_of_ble_eq_true rfl, fun P hP => ?_⟩
  have nP : P ≠ k := fun z => by subst z; rw [updA_same] at hP; cases hP
  have nPR : P ≠ R := fun z => by subst z; rw [updA_ne nR, updA_same] at hP; cases hP
  have hP0 : h P = none := by rw [updA_ne nP, updA_ne nPR] at hP; exact hP
  refine ⟨_, _, by rw [updA_ne nP.symm, updA_same], T.cf_Keeper_parts, Nat.le_of_ble_eq_true rfl, _, _, updA_same, T.cf_Keeper_number, Nat.le_of_ble_eq_true rfl, ?_⟩
  refine q _ R P ?_ hR hP0 ⟨updA_same, ?_, ?_⟩
  · exact Fx.wr' (.inl rfl) (Fx.wr' (.inl rfl) (Fx.wr' (.inr hP0) (Fx.wr' (.inl rfl) e1.fx)))
  · rw [updA_ne nR, updA_ne nR, updA_ne nPR.symm, updA_ne nR, updA_same]
  · rw [updA_ne nP, updA_ne nP, updA_same]
theorem rd_Keeper_many {K : Frg} (T : TK K) {x0 : A} {h : AH} {Q : AVK} {E : AXK} (hR : R_Keeper_many K x0 h Q E) : t_Keeper_many K { nx := fun _ h' => Q .non h', rt := Q, ex := fun c _ h' => E c h' } [some x0] h := by
  obtain ⟨k, R, P, rs, kvs, n, rfl, ka, q⟩ := hR
  unfold t_Keeper_many
  try dsimp only [nb, aRet, aRetN, aSeq, aIfS, aNext, aBreak, aCont, aDrop, aAsg, aPar, aAug, aSetL, aSetF, aFld, aVar, aC, aNil, aCons, aTup, aLst, a1, a2, aN, aAndV, aOrV, aNotV, aIf, aAnd, aOr, aNot, aTest, aChn, aCall, aMeth, aMake, aBmL, aRaise, aTryOnly, aTryAs, aFor, aiSeq, aiRng1, aiRng2, aiEnum, agN, agNil, agCons, agTup, aSlL, aRev, aNoPart, aPart, aNewK, aNewT, aLc, aWhile, asB, asT, iA, iA0, subA, modA, modP, divP, divA, powA, ltA, leA, gtA, geA, addA, mulA, negA, lenA, absA, intA, allA, listA, tupleA, one, two, sp0, sp1, sp2, sp3, sp4, sp5, sp6, appendA, reverseA, clearA, wipeA, putFA, List.getElem?_cons_zero, List.getElem?_cons_succ, List.set_cons_zero, List.set_cons_succ, List.cons_append, List.nil_append, List.append_nil]
  refine ⟨_, _, _, ka.k, T.cf_Keeper_row, rfl, seqA_it (itA_ref.mpr ka.r) ?_⟩
  rw [List.length_map]
  exact q
theorem rd_Keeper_made {K : Frg} (T : TK K) {x0 : A} {h : AH} {Q : AVK} {E : AXK} (hR : R_Keeper_made K x0 h Q E) : t_Keeper_made K { nx := fun _ h' => Q .non h', rt := Q, ex := fun c _ h' => E c h' } [some x0] h := by
  obtain ⟨k, R, P, rs, kvs, n, rfl, ka, q⟩ := hR
  unfold t_Keeper_made
  try dsimp only [nb, aRet, aRetN, aSeq, aIfS, aNext, aBreak, aCont, aDrop, aAsg, aPar, aAug, aSetL, aSetF, aFld, aVar, aC, aNil, aCons, aTup, aLst, a1, a2, aN, aAndV, aOrV, aNotV, aIf, aAnd, aOr, aNot, aTest, aChn, aCall, aMeth, aMake, aBmL, aRaise, aTryOnly, aTryAs, aFor, aiSeq, aiRng1, aiRng2, aiEnum, agN, agNil, agCons, agTup, aSlL, aRev, aNoPart, aPart, aNewK, aNewT, aLc, aWhile, asB, asT, iA, iA0, subA, modA, modP, divP, divA, powA, ltA, leA, gtA, geA, addA, mulA, negA, lenA, absA, intA, allA, listA, tupleA, one, two, sp0, sp1, sp2, sp3, sp4, sp5, sp6, appendA, reverseA, clearA, wipeA, putFA, List.getElem?_cons_zero, List.getElem?_cons_succ, List.set_cons_zero, List.set_cons_succ, List.cons_append, List.nil_append, List.append_nil]
  exact ⟨_, _, _, ka.k, T.cf_Keeper_number, rfl, q⟩
theorem rd_Keeper_check {K : Frg} (T : TK K) {x0 x1 x2 : A} {h : AH} {Q : AVK} {E : AXK} (hR : R_Keeper_check K x0 x1 x2 h Q E) : t_Keeper_check K { nx := fun _ h' => Q .non h', rt := Q, ex := fun c _ h' => E c h' } [some x0, some x1, some x2] h := by
  obtain ⟨i, m, rfl, rfl, q1, q2⟩ := hR
  unfold t_Keeper_check
  dsimp only [aIfS]
  try dsimp only [nb, aRet, aRetN, aNext, aBreak, aCont, aDrop, aAsg, aPar, aAug, aSetL, aSetF, aFld, aVar, aC, aNil, aCons, aTup, aLst, a1, a2, aN, aAndV, aOrV, aNotV, aIf, aAnd, aOr, aNot, aTest, aChn, aCall, aMeth, aMake, aBmL, aRaise, aTryOnly, aTryAs, aiSeq, aiRng1, aiRng2, aiEnum, agN, agNil, agCons, agTup, aSlL, aRev, aNoPart, aPart, aNewK, aNewT, aLc, asB, asT, iA, iA0, subA, modA, modP, divP, divA, powA, ltA, leA, gtA, geA, addA, mulA, negA, lenA, absA, intA, allA, listA, tupleA, one, two, sp0, sp1, sp2, sp3, sp4, sp5, sp6, appendA, reverseA, clearA, wipeA, putFA, List.getElem?_cons_zero, List.getElem?_cons_succ, List.set_cons_zero, List.set_cons_succ, List.cons_append, List.nil_append, List.append_nil]
  refine ifd (fun h1 => ifT (q1 (.inl h1))) fun h1 => ifd (fun h2 => q1 (.inr h2)) fun h2 => q2 (by omega) (by omega)
theorem rd_Keeper_rule_at {K : Frg} (T : TK K) {x0 x1 : A} {h : AH} {Q : AVK} {E : AXK} (hR : R_Keeper_rule_at K x0 x1 h Q E) : t_Keeper_rule_at K { nx := fun _ h' => Q .non h', rt := Q, ex := fun c _ h' => E c h' } [some x0, some x1] h := by
  obtain ⟨k, R, P, rs, kvs, n, i, rfl, rfl, ka, q1, q2⟩ := hR
  unfold t_Keeper_rule_at
  try dsimp only [nb, aRet, aRetN, aSeq, aIfS, aNext, aBreak, aCont, aDrop, aAsg, aPar, aAug, aSetL, aSetF, aFld, aVar, aC, aNil, aCons, aTup, aLst, a1, a2, aN, aAndV, aOrV, aNotV, aIf, aAnd, aOr, aNot, aTest, aChn, aCall, aMeth, aMake, aBmL, aRaise, aTryOnly, aTryAs, aFor, aiSeq, aiRng1, aiRng2, aiEnum, agN, agNil, agCons, agTup, aSlL, aRev, aNoPart, aPart, aNewK, aNewT, aLc, aWhile, asB, asT, iA, iA0, subA, modA, modP, divP, divA, powA, ltA, leA, gtA, geA, addA, mulA, negA, lenA, absA, intA, allA, listA, tupleA, one, two, sp0, sp1, sp2, sp3, sp4, sp5, sp6, appendA, reverseA, clearA, wipeA, putFA, List.getElem?_cons_zero, List.getElem?_cons_succ, List.set_cons_zero, List.set_cons_succ, List.cons_append, List.nil_append, List.append_nil, R_Keeper_check]
  refine ⟨_, ka.k, rfl, _, _, _, ka.k, T.cf_Keeper_row, rfl, seqA_it (itA_ref.mpr ka.r) ?_⟩
  rw [List.length_map]
  refine ⟨i, _, rfl, rfl, q1, fun h0 h1 => ⟨_, _, _, ka.k, T.cf_Keeper_row, rfl, ?_⟩⟩
  refine ix_ref ka.r (atI_of h0 (by rw [List.length_map]; exact h1)) ?_
  rw [List.getElem_map]
  exact q2 i.toNat (by omega) (by omega)
end GL
namespace GL
open PySem PySem.Spec L2 G
theorem map_erase {α β : Type} (f : α → β) : ∀ (l : List α) (j : Nat), (l.eraseIdx j).map f = (l.map f).eraseIdx j
  | [], _ => rfl
  | _ :: _, 0 => rfl
  | a :: l, j + 1 => by
    show f a :: (l.eraseIdx j).map f = f a :: (l.map f).eraseIdx j
    rw [map_erase f l j]
theorem pow2_cast (j : Nat) : ((2 ^ j : Nat) : Int) * 2 = ((2 ^ (j + 1) : Nat) : Int) := by rw [Nat.pow_succ]; omega
theorem pow2_small {j : Nat} (h : j ≤ 7) : ((2 ^ j : Nat) : Int).natAbs < 2 ^ 64 := by
  rw [Int.natAbs_natCast]
  exact Nat.lt_of_le_of_lt (Nat.pow_le_pow_right (by decide) h) (by decide)
theorem rd_Keeper_height {K : Frg} (T : TK K) {x0 : A} {h : AH} {Q : AVK} {E : AXK} (hR : R_Keeper_height K x0 h Q E) : t_Keeper_height K { nx := fun _ h' => Q .non h', rt := Q, ex := fun c _ h' => E c h' } [some x0, none, none] h := by
  obtain ⟨k, R, P, rs, kvs, n, rfl, ka, hl, q⟩ := hR
  unfold t_Keeper_height
  try dsimp only [nb, aRet, aRetN, aSeq, aIfS, aNext, aBreak, aCont, aDrop, aAsg, aPar, aAug, aSetL, aSetF, aFld, aVar, aC, aNil, aCons, aTup, aLst, a1, a2, aN, aAndV, aOrV, aNotV, aIf, aAnd, aOr, aNot, aTest, aChn, aCall, aMeth, aMake, aBmL, aRaise, aTryOnly, aTryAs, aFor, aiSeq, aiRng1, aiRng2, aiEnum, agN, agNil, agCons, agTup, aSlL, aRev, aNoPart, aPart, aNewK, aNewT, aLc, aWhile, asB, asT, iA, iA0, subA, modA, modP, divP, divA, powA, ltA, leA, gtA, geA, addA, mulA, negA, lenA, absA, intA, allA, listA, tupleA, one, two, sp0, sp1, sp2, sp3, sp4, sp5, sp6, appendA, reverseA, clearA, wipeA, putFA, List.getElem?_cons_zero, List.getElem?_cons_succ, List.set_cons_zero, List.set_cons_succ, List.cons_append, List.nil_append, List.append_nil]
  refine ⟨fun m α h' => ∃ j : Nat, α = [some (.ref k), some (.int (j : Int)), some (.int ((2 ^ j : Nat) : Int))] ∧ h = h' ∧ (∀ i, i < j → 2 ^ i < rs.length) ∧ m = 100 - j ∧ j ≤ 7, ⟨100, 0, rfl, rfl, (fun i h => absurd h (Nat.not_lt_zero i)), rfl, by decide⟩, fun m α h' pv => ?_⟩
  obtain ⟨j, rfl, rfl, hlo, rfl, hj⟩ := pv
  try dsimp only [nb, aRet, aRetN, aSeq, aIfS, aNext, aBreak, aCont, aDrop, aAsg, aPar, aAug, aSetL, aSetF, aFld, aVar, aC, aNil, aCons, aTup, aLst, a1, a2, aN, aAndV, aOrV, aNotV, aIf, aAnd, aOr, aNot, aTest, aChn, aCall, aMeth, aMake, aBmL, aRaise, aTryOnly, aTryAs, aFor, aiSeq, aiRng1, aiRng2, aiEnum, agN, agNil, agCons, agTup, aSlL, aRev, aNoPart, aPart, aNewK, aNewT, aLc, aWhile, asB, asT, iA, iA0, subA, modA, modP, divP, divA, powA, ltA, leA, gtA, geA, addA, mulA, negA, lenA, absA, intA, allA, listA, tupleA, one, two, sp0, sp1, sp2, sp3, sp4, sp5, sp6, appendA, reverseA, clearA, wipeA, putFA, List.getElem?_cons_zero, List.getElem?_cons_succ, List.set_cons_zero, List.set_cons_succ, List.cons_append, List.nil_append, List.append_nil]
  refine ⟨_, _, _, ka.k, T.cf_Keeper_row, rfl, seqA_it (itA_ref.mpr ka.r) ?_⟩
  rw [List.length_map]
  refine ifd (fun hlt => ?_) fun hge => ?_
  · have hlt' : 2 ^ j < rs.length := by omega
    have hj6 : j < 6 := by
      by_cases c : j < 6
      · exact c
      · have : 2 ^ 6 ≤ 2 ^ j := Nat.pow_le_pow_right (by decide) (by omega)
        omega
    refine ⟨mul_r (by decide), _, ?_, j + 1, ?_, rfl, fun i hi => ?_, rfl, by omega⟩
    · omega
    · rw [pow2_cast]; rfl
    · by_cases c : i < j
      · exact hlo i c
      · have : i = j := by omega
        subst this; exact hlt'
  · exact q j ⟨by omega, hlo⟩
theorem offs_path {i : Nat} : ∀ (m : Nat) (kvs : List (List Key × A)) (l j : Nat), 1 ≤ j → hasK (offs i m kvs) l j = if j ≤ m then pathOff i (hasK kvs) l j else hasK kvs l j
  | 0, kvs, l, j, h => by rw [if_neg (by omega)]; rfl
  | m + 1, kvs, l, j, h => by
    have ih := offs_path (i := i) m kvs l j h
    have e0 : hasK (offs i (m + 1) kvs) l j = if keyLJ l j = keyLJ (i / 2 ^ (m + 1) * 2 ^ (m + 1)) (m + 1) then false else hasK (offs i m kvs) l j := by
      show (vl (dr (offs i m kvs) (keyLJ (i / 2 ^ (m + 1) * 2 ^ (m + 1)) (m + 1))) (keyLJ l j)).isSome = _
      rw [vl_dr]
      split <;> rfl
    rw [e0]
    by_cases c : keyLJ l j = keyLJ (i / 2 ^ (m + 1) * 2 ^ (m + 1)) (m + 1)
    · rw [if_pos c]
      obtain ⟨e1, e2⟩ := keyLJ_inj c
      subst e2
      rw [if_pos (Nat.le_refl _)]
      unfold pathOff
      rw [decide_eq_true e1]
      simp
    · rw [if_neg c, ih]
      by_cases c2 : j ≤ m
      · rw [if_pos c2, if_pos (by omega)]
      · rw [if_neg c2]
        by_cases c3 : j ≤ m + 1
        · have e : j = m + 1 := by omega
          subst e
          rw [if_pos (Nat.le_refl _)]
          have : ¬ l = i / 2 ^ (m + 1) * 2 ^ (m + 1) := fun e => c (by rw [e])
          unfold pathOff
          rw [decide_eq_false this]
          simp
        · rw [if_neg c3]
theorem offs_sub {i : Nat} : ∀ (m : Nat) (kvs : List (List Key × A)) (ks : List Key) (v : A), vl (offs i m kvs) ks = some v → vl kvs ks = some v
  | 0, _, _, _, e => e
  | m + 1, kvs, ks, v, e => by
    unfold offs at e
    rw [vl_dr] at e
    split at e
    · cases e
    · exact offs_sub m kvs ks v e
theorem offs_len {i : Nat} : ∀ (m : Nat) (kvs : List (List Key × A)), (offs i m kvs).length ≤ kvs.length
  | 0, _ => Nat.le_refl _
  | m + 1, kvs => Nat.le_trans (dr_len _ _) (offs_len m kvs)
theorem offs_nt {i : Nat} : ∀ (m : Nat) (kvs : List (List Key × A)), NoTwice kvs → NoTwice (offs i m kvs)
  | 0, _, n => n
  | m + 1, kvs, n => (offs_nt m kvs n).dr
theorem rd_Keeper_put_at {K : Frg} (T : TK K) {x0 x1 x2 : A} {h : AH} {Q : AVK} {E : AXK} (hR : R_Keeper_put_at K x0 x1 x2 h Q E) : t_Keeper_put_at K { nx := fun _ h' => Q .non h', rt := Q, ex := fun c _ h' => E c h' } [some x0, some x1, some x2, none, none] h := by
  obtain ⟨k, R, P, rs, kvs, n, i, r, rfl, rfl, rfl, ka, hl, q1, q2⟩ := hR
  unfold t_Keeper_put_at
  refine seq_cut (fun α h' => α = [some (.ref k), some (.int i), some (rulA r), none, none] ∧ h = h' ∧ 0 ≤ i ∧ i < rs.length) (fun J hJ => ?_) fun α h' pv => ?_
  · try dsimp only [nb, aRet, aRetN, aSeq, aIfS, aNext, aBreak, aCont, aDrop, aAsg, aPar, aAug, aSetL, aSetF, aFld, aVar, aC, aNil, aCons, aTup, aLst, a1, a2, aN, aAndV, aOrV, aNotV, aIf, aAnd, aOr, aNot, aTest, aChn, aCall, aMeth, aMake, aBmL, aRaise, aTryOnly, aTryAs, aFor, aiSeq, aiRng1, aiRng2, aiEnum, agN, agNil, agCons, agTup, aSlL, aRev, aNoPart, aPart, aNewK, aNewT, aLc, aWhile, asB, asT, iA, iA0, subA, modA, modP, divP, divA, powA, ltA, leA, gtA, geA, addA, mulA, negA, lenA, absA, intA, allA, listA, tupleA, one, two, sp0, sp1, sp2, sp3, sp4, sp5, sp6, appendA, reverseA, clearA, wipeA, putFA, List.getElem?_cons_zero, List.getElem?_cons_succ, List.set_cons_zero, List.set_cons_succ, List.cons_append, List.nil_append, List.append_nil, R_Keeper_check]
    refine ⟨_, ka.k, rfl, _, _, _, ka.k, T.cf_Keeper_row, rfl, seqA_it (itA_ref.mpr ka.r) ?_⟩
    rw [List.length_map]
    exact ⟨i, _, rfl, rfl, q1, fun h0 h1 => hJ _ _ ⟨rfl, rfl, h0, h1⟩⟩
  obtain ⟨rfl, rfl, h0, h1⟩ := pv
  obtain ⟨j, rfl⟩ := Int.eq_ofNat_of_zero_le h0
  have hj : j < rs.length := by omega
  obtain ⟨H, hH⟩ := IsH.ex rs.length
  have hH6 := hH.le hl
  have nRk : k ≠ R := fun z => by have a := ka.k; rw [z, ka.r] at a; cases a
  have nRP : P ≠ R := fun z => by have a := ka.p; rw [z, ka.r] at a; cases a
  have nkP : k ≠ P := fun z => by have a := ka.k; rw [z, ka.p] at a; cases a
  refine seq_cut (fun α h' => α = [some (.ref k), some (.int (j : Int)), some (rulA r), none, none] ∧ Fx (fun p => p = R ∨ p = P) h h' ∧ KeepAt K h' k R P (rs.set j r) kvs n) (fun J hJ => ?_) fun α h' pv => ?_
  · try dsimp only [nb, aRet, aRetN, aSeq, aIfS, aNext, aBreak, aCont, aDrop, aAsg, aPar, aAug, aSetL, aSetF, aFld, aVar, aC, aNil, aCons, aTup, aLst, a1, a2, aN, aAndV, aOrV, aNotV, aIf, aAnd, aOr, aNot, aTest, aChn, aCall, aMeth, aMake, aBmL, aRaise, aTryOnly, aTryAs, aFor, aiSeq, aiRng1, aiRng2, aiEnum, agN, agNil, agCons, agTup, aSlL, aRev, aNoPart, aPart, aNewK, aNewT, aLc, aWhile, asB, asT, iA, iA0, subA, modA, modP, divP, divA, powA, ltA, leA, gtA, geA, addA, mulA, negA, lenA, absA, intA, allA, listA, tupleA, one, two, sp0, sp1, sp2, sp3, sp4, sp5, sp6, appendA, reverseA, clearA, wipeA, putFA, List.getElem?_cons_zero, List.getElem?_cons_succ, List.set_cons_zero, List.set_cons_succ, List.cons_append, List.nil_append, List.append_nil]
    refine ⟨_, _, _, ka.k, T.cf_Keeper_row, rfl, _, j, ka.r, ?_, hJ _ _ ⟨rfl, Fx.wr (.inl rfl), ⟨?_, ?_, ?_⟩⟩⟩
    · rw [List.length_map]
      exact ixN_of (by omega) (by omega)
    · rw [updA_ne nRk]; exact ka.k
    · rw [updA_same, List.map_set]
    · rw [updA_ne nRP]; exact ka.p
  obtain ⟨rfl, fx, kb⟩ := pv
  refine seq_cut (fun α h' => α = [some (.ref k), some (.int (j : Int)), some (rulA r), some (.int 2), none] ∧ Fx (fun p => p = R ∨ p = P) h h' ∧ KeepAt K h' k R P (rs.set j r) kvs n) (fun J hJ => ?_) fun α h' pv => ?_
  · try dsimp only [nb, aRet, aRetN, aSeq, aIfS, aNext, aBreak, aCont, aDrop, aAsg, aPar, aAug, aSetL, aSetF, aFld, aVar, aC, aNil, aCons, aTup, aLst, a1, a2, aN, aAndV, aOrV, aNotV, aIf, aAnd, aOr, aNot, aTest, aChn, aCall, aMeth, aMake, aBmL, aRaise, aTryOnly, aTryAs, aFor, aiSeq, aiRng1, aiRng2, aiEnum, agN, agNil, agCons, agTup, aSlL, aRev, aNoPart, aPart, aNewK, aNewT, aLc, aWhile, asB, asT, iA, iA0, subA, modA, modP, divP, divA, powA, ltA, leA, gtA, geA, addA, mulA, negA, lenA, absA, intA, allA, listA, tupleA, one, two, sp0, sp1, sp2, sp3, sp4, sp5, sp6, appendA, reverseA, clearA, wipeA, putFA, List.getElem?_cons_zero, List.getElem?_cons_succ, List.set_cons_zero, List.set_cons_succ, List.cons_append, List.nil_append, List.append_nil]
    exact hJ _ _ ⟨rfl, fx, kb⟩
  obtain ⟨rfl, fx, kb⟩ := pv
  try dsimp only [nb, aRet, aRetN, aSeq, aIfS, aNext, aBreak, aCont, aDrop, aAsg, aPar, aAug, aSetL, aSetF, aFld, aVar, aC, aNil, aCons, aTup, aLst, a1, a2, aN, aAndV, aOrV, aNotV, aIf, aAnd, aOr, aNot, aTest, aChn, aCall, aMeth, aMake, aBmL, aRaise, aTryOnly, aTryAs, aFor, aiSeq, aiRng1, aiRng2, aiEnum, agN, agNil, agCons, agTup, aSlL, aRev, aNoPart, aPart, aNewK, aNewT, aLc, aWhile, asB, asT, iA, iA0, subA, modA, modP, divP, divA, powA, ltA, leA, gtA, geA, addA, mulA, negA, lenA, absA, intA, allA, listA, tupleA, one, two, sp0, sp1, sp2, sp3, sp4, sp5, sp6, appendA, reverseA, clearA, wipeA, putFA, List.getElem?_cons_zero, List.getElem?_cons_succ, List.set_cons_zero, List.set_cons_succ, List.cons_append, List.nil_append, List.append_nil, R_Keeper_height]
  refine ⟨_, kb.k, rfl, k, R, P, _, _, _, rfl, kb, by rw [List.length_set]; exact hl, fun H2 hH2 => ?_⟩
  rw [List.length_set] at hH2
  have := hH2.uniq hH
  subst this
  refine ⟨by omega, ?_⟩
  rw [Int.toNat_natCast]
  refine loop_rng (fun m α h' => (∃ o4, α = [some (.ref k), some (.int (j : Int)), some (rulA r), some (.int ((2 ^ (m + 1) : Nat) : Int)), o4]) ∧ Fx (fun p => p = R ∨ p = P) h h' ∧ KeepAt K h' k R P (rs.set j r) (offs j m kvs) n) ⟨⟨_, rfl⟩, fx, kb⟩ (fun m hm α h' pv => ?_) fun α h' pv => ?_
  · obtain ⟨⟨o4, rfl⟩, fx, kb⟩ := pv
    try dsimp only [nb, aRet, aRetN, aSeq, aIfS, aNext, aBreak, aCont, aDrop, aAsg, aPar, aAug, aSetL, aSetF, aFld, aVar, aC, aNil, aCons, aTup, aLst, a1, a2, aN, aAndV, aOrV, aNotV, aIf, aAnd, aOr, aNot, aTest, aChn, aCall, aMeth, aMake, aBmL, aRaise, aTryOnly, aTryAs, aFor, aiSeq, aiRng1, aiRng2, aiEnum, agN, agNil, agCons, agTup, aSlL, aRev, aNoPart, aPart, aNewK, aNewT, aLc, aWhile, asB, asT, iA, iA0, subA, modA, modP, divP, divA, powA, ltA, leA, gtA, geA, addA, mulA, negA, lenA, absA, intA, allA, listA, tupleA, one, two, sp0, sp1, sp2, sp3, sp4, sp5, sp6, appendA, reverseA, clearA, wipeA, putFA, List.getElem?_cons_zero, List.getElem?_cons_succ, List.set_cons_zero, List.set_cons_succ, List.cons_append, List.nil_append, List.append_nil, aKt, keysA, keyA, dpopA]
    have hp : 0 < 2 ^ (m + 1) := Nat.pow_pos (by decide)
    refine ⟨_, _, _, kb.k, T.cf_Keeper_parts, rfl, .inr ⟨_, kb.p⟩, .inl ⟨⟨by omega, ?_⟩, mul_r (pow2_small (by omega)), by simp; decide, _, kb.p, ?_⟩⟩
    · exact log2_small (k := 64) (pow2_small (by omega)) (by decide)
    have ek : ([Sum.inl ((j : Int) / ((2 ^ (m + 1) : Nat) : Int) * ((2 ^ (m + 1) : Nat) : Int)), Sum.inl ((2 ^ (m + 1) : Nat) : Int)] : List Key) = keyLJ (j / 2 ^ (m + 1) * 2 ^ (m + 1)) (m + 1) := by
      unfold keyLJ
      congr 2
    rw [ek]
    have fin : ∀ h2 : AH, Fx (fun p => p = R ∨ p = P) h h2 → KeepAt K h2 k R P (rs.set j r) (offs j (m + 1) kvs) n → (∃ o4, [some (.ref k), some (.int (j : Int)), some (rulA r), some (.int (((2 ^ (m + 1) : Nat) : Int) * 2)), some (.int (0 + (m : Nat)))] = [some (A.ref k), some (.int (j : Int)), some (rulA r), some (.int ((2 ^ (m + 1 + 1) : Nat) : Int)), o4]) ∧ Fx (fun p => p = R ∨ p = P) h h2 ∧ KeepAt K h2 k R P (rs.set j r) (offs j (m + 1) kvs) n := fun h2 f kk => ⟨⟨_, by rw [pow2_cast]⟩, f, kk⟩
    cases e : vl (offs j m kvs) (keyLJ (j / 2 ^ (m + 1) * 2 ^ (m + 1)) (m + 1)) with
    | none =>
      refine ⟨mul_r (by decide), fin h' fx ?_⟩
      have e2 : offs j (m + 1) kvs = offs j m kvs := by
        show dr (offs j m kvs) _ = _
        unfold dr
        rw [List.filter_eq_self]
        intro p hp
        refine decide_eq_true fun z => ?_
        have : ∀ (l : List (List Key × A)) (k : List Key), p ∈ l → p.1 = k → vl l k ≠ none := by
          intro l k hm ek
          induction l with
          | nil => cases hm
          | cons q l ih =>
            unfold vl
            by_cases c : q.1 = k
            · rw [if_pos c]; simp
            · rw [if_neg c]
              rcases List.mem_cons.mp hm with hm | hm
              · subst hm; exact absurd ek c
              · exact ih hm
        exact this _ _ hp z e
      rw [e2]; exact kb
    | some v =>
      refine ⟨mul_r (by decide), fin _ (Fx.wr' (.inl (.inr rfl)) fx) ⟨?_, ?_, updA_same⟩⟩
      · rw [updA_ne nkP]; exact kb.k
      · rw [updA_ne nRP.symm]; exact kb.r
  · obtain ⟨⟨o4, rfl⟩, fx, kb⟩ := pv
    exact q2 j H2 hj rfl hH h' fx kb
theorem rd_Keeper_put_in {K : Frg} (T : TK K) {x0 x1 x2 : A} {h : AH} {Q : AVK} {E : AXK} (hR : R_Keeper_put_in K x0 x1 x2 h Q E) : t_Keeper_put_in K { nx := fun _ h' => Q .non h', rt := Q, ex := fun c _ h' => E c h' } [some x0, some x1, some x2] h := by
  obtain ⟨k, R, P, rs, kvs, n, i, r, rfl, rfl, rfl, ka, hl, q1, q2⟩ := hR
  unfold t_Keeper_put_in
  try dsimp only [nb, aRet, aRetN, aSeq, aIfS, aNext, aBreak, aCont, aDrop, aAsg, aPar, aAug, aSetL, aSetF, aFld, aVar, aC, aNil, aCons, aTup, aLst, a1, a2, aN, aAndV, aOrV, aNotV, aIf, aAnd, aOr, aNot, aTest, aChn, aCall, aMeth, aMake, aBmL, aRaise, aTryOnly, aTryAs, aFor, aiSeq, aiRng1, aiRng2, aiEnum, agN, agNil, agCons, agTup, aSlL, aRev, aNoPart, aPart, aNewK, aNewT, aLc, aWhile, asB, asT, iA, iA0, subA, modA, modP, divP, divA, powA, ltA, leA, gtA, geA, addA, mulA, negA, lenA, absA, intA, allA, listA, tupleA, one, two, sp0, sp1, sp2, sp3, sp4, sp5, sp6, appendA, reverseA, clearA, wipeA, putFA, List.getElem?_cons_zero, List.getElem?_cons_succ, List.set_cons_zero, List.set_cons_succ, List.cons_append, List.nil_append, List.append_nil, R_Keeper_check]
  refine ⟨_, ka.k, rfl, _, _, _, ka.k, T.cf_Keeper_row, rfl, seqA_it (itA_ref.mpr ka.r) ?_⟩
  rw [List.length_map]
  refine ⟨i, _, rfl, rfl, fun z => q1 (by omega), fun h0 h1 => ⟨_, _, _, ka.k, T.cf_Keeper_row, rfl, ⟨_, ka.r⟩, ?_⟩⟩
  obtain ⟨j, rfl⟩ := Int.eq_ofNat_of_zero_le h0
  have hj : j ≤ rs.length := by omega
  have nRk : k ≠ R := fun z => by have a := ka.k; rw [z, ka.r] at a; cases a
  try dsimp only [nb, aRet, aRetN, aSeq, aIfS, aNext, aBreak, aCont, aDrop, aAsg, aPar, aAug, aSetL, aSetF, aFld, aVar, aC, aNil, aCons, aTup, aLst, a1, a2, aN, aAndV, aOrV, aNotV, aIf, aAnd, aOr, aNot, aTest, aChn, aCall, aMeth, aMake, aBmL, aRaise, aTryOnly, aTryAs, aFor, aiSeq, aiRng1, aiRng2, aiEnum, agN, agNil, agCons, agTup, aSlL, aRev, aNoPart, aPart, aNewK, aNewT, aLc, aWhile, asB, asT, iA, iA0, subA, modA, modP, divP, divA, powA, ltA, leA, gtA, geA, addA, mulA, negA, lenA, absA, intA, allA, listA, tupleA, one, two, sp0, sp1, sp2, sp3, sp4, sp5, sp6, appendA, reverseA, clearA, wipeA, putFA, List.getElem?_cons_zero, List.getElem?_cons_succ, List.set_cons_zero, List.set_cons_succ, List.cons_append, List.nil_append, List.append_nil, insertA]
  refine ⟨_, ka.r, by rw [List.length_map]; exact Nat.lt_of_le_of_lt hl (by decide), ⟨h0, by omega⟩, fun P' hP' => ?_⟩
  have nPR : P' ≠ R := fun z => by subst z; rw [updA_same] at hP'; cases hP'
  have hP0 : h P' = none := by rw [updA_ne nPR] at hP'; exact hP'
  have nPk : P' ≠ k := fun z => by subst z; rw [ka.k] at hP0; cases hP0
  refine ⟨_, _, by rw [updA_ne nPk.symm, updA_ne nRk]; exact ka.k, T.cf_Keeper_parts, Nat.le_of_ble_eq_true rfl, ?_⟩
  refine q2 j hj rfl _ P' (Fx.wr' (.inl (.inr rfl)) (Fx.wr' (.inr hP0) (Fx.wr (.inl rfl)))) hP0 ⟨updA_same, ?_, ?_⟩
  · rw [updA_ne nRk.symm, updA_ne nPR.symm, updA_same, Int.toNat_natCast, List.map_append, List.map_append, List.map_take, List.map_drop]
    rfl
  · rw [updA_ne nPk, updA_same]
theorem rd_Keeper_take_out {K : Frg} (T : TK K) {x0 x1 : A} {h : AH} {Q : AVK} {E : AXK} (hR : R_Keeper_take_out K x0 x1 h Q E) : t_Keeper_take_out K { nx := fun _ h' => Q .non h', rt := Q, ex := fun c _ h' => E c h' } [some x0, some x1] h := by
  obtain ⟨k, R, P, rs, kvs, n, i, rfl, rfl, ka, hl, q1, q2⟩ := hR
  unfold t_Keeper_take_out
  try dsimp only [nb, aRet, aRetN, aSeq, aIfS, aNext, aBreak, aCont, aDrop, aAsg, aPar, aAug, aSetL, aSetF, aFld, aVar, aC, aNil, aCons, aTup, aLst, a1, a2, aN, aAndV, aOrV, aNotV, aIf, aAnd, aOr, aNot, aTest, aChn, aCall, aMeth, aMake, aBmL, aRaise, aTryOnly, aTryAs, aFor, aiSeq, aiRng1, aiRng2, aiEnum, agN, agNil, agCons, agTup, aSlL, aRev, aNoPart, aPart, aNewK, aNewT, aLc, aWhile, asB, asT, iA, iA0, subA, modA, modP, divP, divA, powA, ltA, leA, gtA, geA, addA, mulA, negA, lenA, absA, intA, allA, listA, tupleA, one, two, sp0, sp1, sp2, sp3, sp4, sp5, sp6, appendA, reverseA, clearA, wipeA, putFA, List.getElem?_cons_zero, List.getElem?_cons_succ, List.set_cons_zero, List.set_cons_succ, List.cons_append, List.nil_append, List.append_nil, R_Keeper_check]
  refine ⟨_, ka.k, rfl, _, _, _, ka.k, T.cf_Keeper_row, rfl, seqA_it (itA_ref.mpr ka.r) ?_⟩
  rw [List.length_map]
  refine ⟨i, _, rfl, rfl, q1, fun h0 h1 => ⟨_, _, _, ka.k, T.cf_Keeper_row, rfl, ⟨_, ka.r⟩, ?_⟩⟩
  obtain ⟨j, rfl⟩ := Int.eq_ofNat_of_zero_le h0
  have hj : j < rs.length := by omega
  have nRk : k ≠ R := fun z => by have a := ka.k; rw [z, ka.r] at a; cases a
  try dsimp only [nb, aRet, aRetN, aSeq, aIfS, aNext, aBreak, aCont, aDrop, aAsg, aPar, aAug, aSetL, aSetF, aFld, aVar, aC, aNil, aCons, aTup, aLst, a1, a2, aN, aAndV, aOrV, aNotV, aIf, aAnd, aOr, aNot, aTest, aChn, aCall, aMeth, aMake, aBmL, aRaise, aTryOnly, aTryAs, aFor, aiSeq, aiRng1, aiRng2, aiEnum, agN, agNil, agCons, agTup, aSlL, aRev, aNoPart, aPart, aNewK, aNewT, aLc, aWhile, asB, asT, iA, iA0, subA, modA, modP, divP, divA, powA, ltA, leA, gtA, geA, addA, mulA, negA, lenA, absA, intA, allA, listA, tupleA, one, two, sp0, sp1, sp2, sp3, sp4, sp5, sp6, appendA, reverseA, clearA, wipeA, putFA, List.getElem?_cons_zero, List.getElem?_cons_succ, List.set_cons_zero, List.set_cons_succ, List.cons_append, List.nil_append, List.append_nil, popAtA]
  refine ⟨_, j, rulA rs[j], ka.r, ⟨by omega, by omega⟩, ?_, ?_, fun P' hP' => ?_⟩
  · rw [List.length_map]
    exact (ixN_seq (ixN_of (n := rs.length) (i := (j : Int)) (by omega) (by omega))).1
  · rw [List.getElem?_map, List.getElem?_eq_getElem hj]; rfl
  have nPR : P' ≠ R := fun z => by subst z; rw [updA_same] at hP'; cases hP'
  have hP0 : h P' = none := by rw [updA_ne nPR] at hP'; exact hP'
  have nPk : P' ≠ k := fun z => by subst z; rw [ka.k] at hP0; cases hP0
  refine ⟨_, _, by rw [updA_ne nPk.symm, updA_ne nRk]; exact ka.k, T.cf_Keeper_parts, Nat.le_of_ble_eq_true rfl, ?_⟩
  refine q2 j hj rfl _ P' (Fx.wr' (.inl (.inr rfl)) (Fx.wr' (.inr hP0) (Fx.wr (.inl rfl)))) hP0 ⟨updA_same, ?_, ?_⟩
  · rw [updA_ne nRk.symm, updA_ne nPR.symm, updA_same]
    congr 2
    exact (map_erase rulA rs j).symm
  · rw [updA_ne nPk, updA_same]
end GL
namespace GL
open PySem PySem.Spec L2 G
theorem pow2_half (j : Nat) : ((2 ^ (j + 1) : Nat) : Int) / 2 = ((2 ^ j : Nat) : Int) := by rw [Nat.pow_succ]; omega
theorem rd_Keeper_part {K : Frg} (T : TK K) {n : Nat} {x0 x1 x2 : A} {h : AH} {Q : AVK} {E : AXK} (hR : R_Keeper_part (n + 1) K x0 x1 x2 h Q E) : t_Keeper_part n K { nx := fun _ h' => Q .non h', rt := Q, ex := fun c _ h' => E c h' } [some x0, some x1, some x2, none] h := by
  obtain ⟨k, R, P, low, j, H, num, rs, kvs, rfl, rfl, rfl, hj, ka, hl, hb, hlow, hdv, hjH, hc, co, nt, kl, nl, q⟩ := hR
  have nRk : k ≠ R := fun z => by have a := ka.k; rw [z, ka.r] at a; cases a
  have nRP : P ≠ R := fun z => by have a := ka.p; rw [z, ka.r] at a; cases a
  have nkP : k ≠ P := fun z => by have a := ka.k; rw [z, ka.p] at a; cases a
  have hp : 0 < 2 ^ j := Nat.pow_pos (by decide)
  have hj6 : j ≤ 6 ∨ True := .inr trivial
  unfold t_Keeper_part
  refine seq_cut (fun α h' => α = [some (.ref k), some (.int (low : Int)), some (.int ((2 ^ j : Nat) : Int)), none] ∧ h = h' ∧ 1 ≤ j) (fun J hJ => ?_) fun α h' pv => ?_
  · dsimp only [aIfS]
    try dsimp only [nb, aRet, aRetN, aNext, aBreak, aCont, aDrop, aAsg, aPar, aAug, aSetL, aSetF, aFld, aVar, aC, aNil, aCons, aTup, aLst, a1, a2, aN, aAndV, aOrV, aNotV, aIf, aAnd, aOr, aNot, aTest, aChn, aCall, aMeth, aMake, aBmL, aRaise, aTryOnly, aTryAs, aiSeq, aiRng1, aiRng2, aiEnum, agN, agNil, agCons, agTup, aSlL, aRev, aNoPart, aPart, aNewK, aNewT, aLc, asB, asT, iA, iA0, subA, modA, modP, divP, divA, powA, ltA, leA, gtA, geA, addA, mulA, negA, lenA, absA, intA, allA, listA, tupleA, one, two, sp0, sp1, sp2, sp3, sp4, sp5, sp6, appendA, reverseA, clearA, wipeA, putFA, List.getElem?_cons_zero, List.getElem?_cons_succ, List.set_cons_zero, List.set_cons_succ, List.cons_append, List.nil_append, List.append_nil, eqA]
    refine ifd (fun h1 => ?_) fun h1 => hJ _ _ ⟨rfl, rfl, ?_⟩
    · have j0 : j = 0 := by
        cases j with
        | zero => rfl
        | succ j => have := Nat.one_lt_two_pow (n := j + 1) (by omega); omega
      subst j0
      refine ⟨_, _, _, ka.k, T.cf_Keeper_row, rfl, ix_ref ka.r (atI_of (by omega) (by rw [List.length_map]; omega)) ?_⟩
      rw [List.getElem_map]
      have := q kvs h ⟨Fx.refl h, by unfold miss; exact ka, co, nt, by unfold miss; exact Nat.le_refl _, fun _ _ _ => rfl, by unfold miss; rfl, trivial⟩
      rw [Nat.pow_zero, sg_one hlow] at this
      exact this
    · cases j with
      | zero => exact absurd rfl h1
      | succ j => omega
  obtain ⟨rfl, rfl, hj1⟩ := pv
  obtain ⟨i, rfl⟩ : ∃ i, j = i + 1 := ⟨j - 1, by omega⟩
  have e2 : 2 ^ (i + 1) = 2 ^ i + 2 ^ i := by rw [Nat.pow_succ]; omega
  have hpi : 0 < 2 ^ i := Nat.pow_pos (by decide)
  have hal : 2 ^ i ∣ low := Nat.dvd_trans (Nat.pow_dvd_pow 2 (Nat.le_succ i)) hdv
  refine seq_cut (fun α h' => α = [some (.ref k), some (.int (low : Int)), some (.int ((2 ^ (i + 1) : Nat) : Int)), some (.int ((2 ^ i : Nat) : Int))] ∧ h = h') (fun J hJ => ?_) fun α h' pv => ?_
  · try dsimp only [nb, aRet, aRetN, aSeq, aIfS, aNext, aBreak, aCont, aDrop, aAsg, aPar, aAug, aSetL, aSetF, aFld, aVar, aC, aNil, aCons, aTup, aLst, a1, a2, aN, aAndV, aOrV, aNotV, aIf, aAnd, aOr, aNot, aTest, aChn, aCall, aMeth, aMake, aBmL, aRaise, aTryOnly, aTryAs, aFor, aiSeq, aiRng1, aiRng2, aiEnum, agN, agNil, agCons, agTup, aSlL, aRev, aNoPart, aPart, aNewK, aNewT, aLc, aWhile, asB, asT, iA, iA0, subA, modA, modP, divP, divA, powA, ltA, leA, gtA, geA, addA, mulA, negA, lenA, absA, intA, allA, listA, tupleA, one, two, sp0, sp1, sp2, sp3, sp4, sp5, sp6, appendA, reverseA, clearA, wipeA, putFA, List.getElem?_cons_zero, List.getElem?_cons_succ, List.set_cons_zero, List.set_cons_succ, List.cons_append, List.nil_append, List.append_nil]
    refine ⟨cd, ?_⟩
    rw [pow2_half]
    exact hJ _ _ ⟨rfl, rfl⟩
  obtain ⟨rfl, rfl⟩ := pv
  obtain ⟨m, rfl⟩ : ∃ m, n = m + 1 := ⟨n - 1, by omega⟩
  refine seq_cut (fun α h' => α = [some (.ref k), some (.int (low : Int)), some (.int ((2 ^ (i + 1) : Nat) : Int)), some (.int ((2 ^ i : Nat) : Int))] ∧ h = h' ∧ ¬ rs.length ≤ low + 2 ^ i) (fun J hJ => ?_) fun α h' pv => ?_
  · dsimp only [aIfS]
    try dsimp only [nb, aRet, aRetN, aNext, aBreak, aCont, aDrop, aAsg, aPar, aAug, aSetL, aSetF, aFld, aVar, aC, aNil, aCons, aTup, aLst, a1, a2, aN, aAndV, aOrV, aNotV, aIf, aAnd, aOr, aNot, aTest, aChn, aCall, aMeth, aMake, aBmL, aRaise, aTryOnly, aTryAs, aiSeq, aiRng1, aiRng2, aiEnum, agN, agNil, agCons, agTup, aSlL, aRev, aNoPart, aPart, aNewK, aNewT, aLc, asB, asT, iA, iA0, subA, modA, modP, divP, divA, powA, ltA, leA, gtA, geA, addA, mulA, negA, lenA, absA, intA, allA, listA, tupleA, one, two, sp0, sp1, sp2, sp3, sp4, sp5, sp6, appendA, reverseA, clearA, wipeA, putFA, List.getElem?_cons_zero, List.getElem?_cons_succ, List.set_cons_zero, List.set_cons_succ, List.cons_append, List.nil_append, List.append_nil, R_Keeper_part]
    refine ⟨_, _, _, ka.k, T.cf_Keeper_row, rfl, seqA_it (itA_ref.mpr ka.r) ?_⟩
    rw [List.length_map]
    refine ifd (fun h1 => ?_) fun h1 => hJ _ _ ⟨rfl, rfl, by omega⟩
    have hs : rs.length ≤ low + 2 ^ i := by omega
    rw [closed_s hs] at hc
    rw [miss_s hs] at nl
    refine ⟨_, ka.k, rfl, k, R, P, low, i, H, num, rs, kvs, rfl, rfl, rfl, by omega, ka, hl, hb, hlow, hal, by omega, hc, co, nt, kl, nl, fun kvs' h' po => ?_⟩
    have := q kvs' h' ⟨po.fx, by rw [miss_s hs]; exact po.ka, po.co, po.nt, by rw [miss_s hs]; exact po.kl, fun l i' hn => po.fr l i' fun hh => hn ⟨hh.1, by omega, hh.2.2.1, by omega⟩, by rw [miss_s hs]; exact po.ms, (closed_s hs).mpr po.cl⟩
    rw [sg_short hs (by omega)] at this
    exact this
  obtain ⟨rfl, rfl, hs⟩ := pv
  rw [closed_b hs] at hc
  obtain ⟨c1, c2, c3⟩ := hc
  have har : 2 ^ i ∣ low + 2 ^ i := Nat.dvd_add hal (Nat.dvd_refl _)
  refine seq_cut (fun α h' => α = [some (.ref k), some (.int (low : Int)), some (.int ((2 ^ (i + 1) : Nat) : Int)), some (.int ((2 ^ i : Nat) : Int))] ∧ ∃ kvs', PartPost K h h' k R P rs kvs kvs' num H (i + 1) low ∧ hasK kvs' low (i + 1) = true) (fun J hJ => ?_) fun α h' pv => ?_
  · dsimp only [aIfS]
    try dsimp only [nb, aRet, aRetN, aNext, aBreak, aCont, aDrop, aAsg, aPar, aAug, aSetL, aSetF, aFld, aVar, aC, aNil, aCons, aTup, aLst, a1, a2, aN, aAndV, aOrV, aNotV, aIf, aAnd, aOr, aNot, aTest, aChn, aCall, aMeth, aMake, aBmL, aRaise, aTryOnly, aTryAs, aiSeq, aiRng1, aiRng2, aiEnum, agN, agNil, agCons, agTup, aSlL, aRev, aNoPart, aPart, aNewK, aNewT, aLc, asB, asT, iA, iA0, subA, modA, modP, divP, divA, powA, ltA, leA, gtA, geA, addA, mulA, negA, lenA, absA, intA, allA, listA, tupleA, one, two, sp0, sp1, sp2, sp3, sp4, sp5, sp6, appendA, reverseA, clearA, wipeA, putFA, List.getElem?_cons_zero, List.getElem?_cons_succ, List.set_cons_zero, List.set_cons_succ, List.cons_append, List.nil_append, List.append_nil, inDA, aKt, keysA, keyA]
    have hdg : dgA h (.ref P) (.kt (keyLJ low (i + 1))) = some (vl kvs (keyLJ low (i + 1))) := by
      simp only [dgA]
      rw [ka.p]
    refine ⟨by simp; decide, _, _, _, ka.k, T.cf_Keeper_parts, rfl, _, hdg, ?_⟩
    by_cases hh : hasK kvs low (i + 1) = true
    · have hh2 : (vl kvs (keyLJ low (i + 1))).isSome = true := hh
      rw [hh2]
      refine ifF (hJ _ _ ⟨rfl, kvs, ?_, hh⟩)
      obtain ⟨m1, m2⟩ := c1 hh
      have mz : miss rs.length (hasK kvs) (i + 1) low = 0 := by rw [miss_b hs, if_pos hh, m1, m2]
      exact ⟨Fx.refl h, by rw [mz]; exact ka, co, nt, by rw [mz]; exact Nat.le_refl _, fun _ _ _ => rfl, mz, (closed_b hs).mpr ⟨c1, c2, c3⟩⟩
    · have hh2 : (vl kvs (keyLJ low (i + 1))).isSome = false := by
        have : hasK kvs low (i + 1) = false := by revert hh; cases hasK kvs low (i + 1) <;> simp
        exact this
      rw [hh2]
      refine ifT ?_
      have mt : miss rs.length (hasK kvs) (i + 1) low = 1 + miss rs.length (hasK kvs) i low + miss rs.length (hasK kvs) i (low + 2 ^ i) := by rw [miss_b hs, if_neg hh]
      rw [mt] at nl
      refine seq_cut (fun α h' => α = [some (.ref k), some (.int (low : Int)), some (.int ((2 ^ (i + 1) : Nat) : Int)), some (.int ((2 ^ i : Nat) : Int))] ∧ Fx (fun p => p = k ∨ p = P) h h' ∧ KeepAt K h' k R P rs kvs (num + 1)) (fun J2 hJ2 => ?_) fun α h1 pv => ?_
      · try dsimp only [nb, aRet, aRetN, aSeq, aIfS, aNext, aBreak, aCont, aDrop, aAsg, aPar, aAug, aSetL, aSetF, aFld, aVar, aC, aNil, aCons, aTup, aLst, a1, a2, aN, aAndV, aOrV, aNotV, aIf, aAnd, aOr, aNot, aTest, aChn, aCall, aMeth, aMake, aBmL, aRaise, aTryOnly, aTryAs, aFor, aiSeq, aiRng1, aiRng2, aiEnum, agN, agNil, agCons, agTup, aSlL, aRev, aNoPart, aPart, aNewK, aNewT, aLc, aWhile, asB, asT, iA, iA0, subA, modA, modP, divP, divA, powA, ltA, leA, gtA, geA, addA, mulA, negA, lenA, absA, intA, allA, listA, tupleA, one, two, sp0, sp1, sp2, sp3, sp4, sp5, sp6, appendA, reverseA, clearA, wipeA, putFA, List.getElem?_cons_zero, List.getElem?_cons_succ, List.set_cons_zero, List.set_cons_succ, List.cons_append, List.nil_append, List.append_nil, aFAug]
        refine ⟨_, _, _, ka.k, T.cf_Keeper_number, rfl, _, ka.k, Nat.le_of_ble_eq_true rfl, hJ2 _ _ ⟨rfl, Fx.wr (.inl rfl), ⟨?_, ?_, ?_⟩⟩⟩
        · rw [updA_same]; rfl
        · rw [updA_ne nRk.symm]; exact ka.r
        · rw [updA_ne nkP.symm]; exact ka.p
      obtain ⟨rfl, fx1, k1⟩ := pv
      try dsimp only [nb, aRet, aRetN, aSeq, aIfS, aNext, aBreak, aCont, aDrop, aAsg, aPar, aAug, aSetL, aSetF, aFld, aVar, aC, aNil, aCons, aTup, aLst, a1, a2, aN, aAndV, aOrV, aNotV, aIf, aAnd, aOr, aNot, aTest, aChn, aCall, aMeth, aMake, aBmL, aRaise, aTryOnly, aTryAs, aFor, aiSeq, aiRng1, aiRng2, aiEnum, agN, agNil, agCons, agTup, aSlL, aRev, aNoPart, aPart, aNewK, aNewT, aLc, aWhile, asB, asT, iA, iA0, subA, modA, modP, divP, divA, powA, ltA, leA, gtA, geA, addA, mulA, negA, lenA, absA, intA, allA, listA, tupleA, one, two, sp0, sp1, sp2, sp3, sp4, sp5, sp6, appendA, reverseA, clearA, wipeA, putFA, List.getElem?_cons_zero, List.getElem?_cons_succ, List.set_cons_zero, List.set_cons_succ, List.cons_append, List.nil_append, List.append_nil, R_Keeper_part, R_behind, aDPut, aKt, keysA, keyA]
      refine ⟨_, k1.k, rfl, k, R, P, low, i, H, num + 1, rs, kvs, rfl, rfl, rfl, by omega, k1, hl, hb, hlow, hal, by omega, c2, co, nt, by omega, by omega, fun kv2 h2 p2 => ?_⟩
      have outL : ∀ l i', low + 2 ^ i ≤ l → hasK kv2 l i' = hasK kvs l i' := fun l i' h => p2.fr l i' fun z => by omega
      have cg := miss_congr (n := rs.length) (has := hasK kv2) (has' := hasK kvs) i (low + 2 ^ i) fun l i' h1 h2 h3 h4 => outL l i' h1
      refine ⟨_, p2.ka.k, rfl, k, R, P, low + 2 ^ i, i, H, num + 1 + miss rs.length (hasK kvs) i low, rs, kv2, rfl, by congr 1, rfl, by omega, p2.ka, hl, hb, by omega, har, by omega, cg.2.mpr c3, p2.co, p2.nt, by have := p2.kl; omega, by rw [cg.1]; omega, fun kv3 h3 p3 => ?_⟩
      have inL : ∀ l i', l < low + 2 ^ i → hasK kv3 l i' = hasK kv2 l i' := fun l i' h => p3.fr l i' fun z => by omega
      refine ⟨_, _, rfl, rfl, sg_size hb hl hlow hpi, sg_size hb hl (by omega) hpi, _, _, _, p3.ka.k, T.cf_Keeper_parts, rfl, by simp; decide, ?_⟩
      have hsg : comp (sg rs low (2 ^ i)) (sg rs (low + 2 ^ i) (2 ^ i)) = sg rs low (2 ^ (i + 1)) := by rw [e2]; exact (sg_two (by omega)).symm
      rw [hsg]
      have hlen : kv3.length < sizeLine := by
        have := p3.kl
        have := p2.kl
        rw [cg.1] at *
        exact Nat.lt_of_le_of_lt (by omega : _ ≤ 100000) (by decide)
      have goal : p3.ka.p = p3.ka.p := rfl
      simp only [dpA]
      rw [p3.ka.p]
      refine ⟨p3.nt, hlen, hJ _ _ ⟨rfl, pt kv3 (keyLJ low (i + 1)) (rulA (sg rs low (2 ^ (i + 1)))), ?_, ?_⟩⟩
      · have hpt := fun l i' => has_pt (kvs := kv3) (low := low) (j := i + 1) (v := rulA (sg rs low (2 ^ (i + 1)))) l i'
        have cgL := miss_congr (n := rs.length) (has := hasK (pt kv3 (keyLJ low (i + 1)) (rulA (sg rs low (2 ^ (i + 1)))))) (has' := hasK kv2) i low fun l i' h1 h2 h3 h4 => by
          rw [hpt, if_neg (by omega)]; exact inL l i' h2
        have cgR := miss_congr (n := rs.length) (has := hasK (pt kv3 (keyLJ low (i + 1)) (rulA (sg rs low (2 ^ (i + 1)))))) (has' := hasK kv3) i (low + 2 ^ i) fun l i' h1 h2 h3 h4 => by
          rw [hpt, if_neg (by omega)]
        have mL : miss rs.length (hasK (pt kv3 (keyLJ low (i + 1)) (rulA (sg rs low (2 ^ (i + 1)))))) i low = 0 := by rw [cgL.1]; exact p2.ms
        have mR : miss rs.length (hasK (pt kv3 (keyLJ low (i + 1)) (rulA (sg rs low (2 ^ (i + 1)))))) i (low + 2 ^ i) = 0 := by rw [cgR.1]; exact p3.ms
        have hself : hasK (pt kv3 (keyLJ low (i + 1)) (rulA (sg rs low (2 ^ (i + 1))))) low (i + 1) = true := by rw [hpt, if_pos ⟨rfl, rfl⟩]
        have nk := p3.kl
        rw [cg.1] at nk
        have nk2 := p2.kl
        have pl := pt_len (keyLJ low (i + 1)) (rulA (sg rs low (2 ^ (i + 1)))) kv3
        have enum : num + 1 + miss rs.length (hasK kvs) i low + miss rs.length (hasK kv2) i (low + 2 ^ i) = num + miss rs.length (hasK kvs) (i + 1) low := by rw [cg.1, mt]; omega
        refine ⟨Fx.wr' (.inl (.inr rfl)) ((fx1.trans p2.fx).trans p3.fx), ⟨?_, ?_, updA_same⟩, p3.co.pt hdv (by omega) hjH, p3.nt.pt, ?_, fun l i' hn => ?_, ?_, ?_⟩
        · rw [updA_ne nkP, ← enum]; exact p3.ka.k
        · rw [updA_ne nRP.symm]; exact p3.ka.r
        · rw [mt]; omega
        · rw [hpt, if_neg (fun z => hn ⟨by omega, by omega, by omega, by omega⟩), p3.fr l i' (fun z => hn ⟨by omega, by omega, by omega, by omega⟩), p2.fr l i' (fun z => hn ⟨by omega, by omega, by omega, by omega⟩)]
        · rw [miss_b hs, if_pos hself, mL, mR]
        · exact (closed_b hs).mpr ⟨fun _ => ⟨mL, mR⟩, cgL.2.mpr p2.cl, cgR.2.mpr p3.cl⟩
      · rw [has_pt, if_pos ⟨rfl, rfl⟩]
  obtain ⟨rfl, kvs', po, hh⟩ := pv
  try dsimp only [nb, aRet, aRetN, aSeq, aIfS, aNext, aBreak, aCont, aDrop, aAsg, aPar, aAug, aSetL, aSetF, aFld, aVar, aC, aNil, aCons, aTup, aLst, a1, a2, aN, aAndV, aOrV, aNotV, aIf, aAnd, aOr, aNot, aTest, aChn, aCall, aMeth, aMake, aBmL, aRaise, aTryOnly, aTryAs, aFor, aiSeq, aiRng1, aiRng2, aiEnum, agN, agNil, agCons, agTup, aSlL, aRev, aNoPart, aPart, aNewK, aNewT, aLc, aWhile, asB, asT, iA, iA0, subA, modA, modP, divP, divA, powA, ltA, leA, gtA, geA, addA, mulA, negA, lenA, absA, intA, allA, listA, tupleA, one, two, sp0, sp1, sp2, sp3, sp4, sp5, sp6, appendA, reverseA, clearA, wipeA, putFA, List.getElem?_cons_zero, List.getElem?_cons_succ, List.set_cons_zero, List.set_cons_succ, List.cons_append, List.nil_append, List.append_nil, aDGet, aKt, keysA, keyA]
  have hv : ∃ v, vl kvs' (keyLJ low (i + 1)) = some v := Option.isSome_iff_exists.mp hh
  obtain ⟨v, ev⟩ := hv
  have hdg : dgA h' (.ref P) (.kt (keyLJ low (i + 1))) = some (some v) := by
    simp only [dgA]
    rw [po.ka.p]
    show some (vl kvs' (keyLJ low (i + 1))) = some (some v)
    rw [ev]
  refine ⟨_, _, _, po.ka.k, T.cf_Keeper_parts, rfl, by simp; decide, v, hdg, ?_⟩
  obtain ⟨l', j', ek, _, _, _, ew⟩ := po.co _ _ ev
  obtain ⟨e3, e4⟩ := keyLJ_inj ek
  subst e3 e4 ew
  exact q kvs' h' po
end GL
namespace GL
open PySem PySem.Spec L2 G
theorem v_id : v_IDENTITY = rulA idR := rfl
theorem eqA_lists {neg : Bool} {h : AH} {n : Nat} {p q : Addr} {xs ys : List A} {Q : AVK} (e1 : h p = some (.lst xs)) (e2 : h q = some (.lst ys)) (s : Paired (SamA h n) xs ys) (hn : n ≤ 60) (k : Q (.bl (!neg)) h) : eqA neg (.ref p) (.ref q) h Q :=
  .inr ⟨n, hn, .inl ⟨p, q, xs, ys, rfl, rfl, e1, e2, s⟩, k⟩
theorem eqA_len {neg : Bool} {h : AH} {p q : Addr} {xs ys : List A} {Q : AVK} (e1 : h p = some (.lst xs)) (e2 : h q = some (.lst ys)) (s : xs.length ≠ ys.length) (k : Q (.bl neg) h) : eqA neg (.ref p) (.ref q) h Q :=
  .inl (.inr ⟨p, q, xs, ys, rfl, rfl, e1, e2, s, k⟩)
theorem eqA_tup {neg : Bool} {h : AH} {n : Nat} {xs ys : List A} {Q : AVK} (s : Paired (SamA h n) xs ys) (hn : n ≤ 60) (k : Q (.bl (!neg)) h) : eqA neg (.tup xs) (.tup ys) h Q :=
  .inr ⟨n, hn, .inr ⟨xs, ys, rfl, rfl, s⟩, k⟩
theorem eqA_rul {neg : Bool} {h : AH} {r : Rul} {Q : AVK} (k : Q (.bl (!neg)) h) : eqA neg (rulA r) (rulA r) h Q := .inr ⟨2, by decide, rul_same r, k⟩
theorem KeepAt.up {K : Frg} {h h' : AH} {k R P : Addr} {rs : List Rul} {kvs : List (List Key × A)} {n : Nat} (e : Ext h h') (a : KeepAt K h k R P rs kvs n) : KeepAt K h' k R P rs kvs n := ⟨e _ _ a.k, e _ _ a.r, e _ _ a.p⟩
theorem rd_Keeper_whole {K : Frg} (T : TK K) {x0 : A} {h : AH} {Q : AVK} {E : AXK} (hR : R_Keeper_whole K x0 h Q E) : t_Keeper_whole K { nx := fun _ h' => Q .non h', rt := Q, ex := fun c _ h' => E c h' } [some x0, none, none] h := by
  obtain ⟨k, R, P, H, num, rs, kvs, rfl, ka, hl, hb, hH, hc, co, nt, kl, nl, q1, q2⟩ := hR
  have hH6 := hH.le hl
  unfold t_Keeper_whole
  refine seq_cut (fun α h' => α = [some (.ref k), none, none] ∧ Ext h h' ∧ rs ≠ []) (fun J hJ => ?_) fun α h' pv => ?_
  · dsimp only [aIfS]
    try dsimp only [nb, aRet, aRetN, aNext, aBreak, aCont, aDrop, aAsg, aPar, aAug, aSetL, aSetF, aFld, aVar, aC, aNil, aCons, aTup, aLst, a1, a2, aN, aAndV, aOrV, aNotV, aIf, aAnd, aOr, aNot, aTest, aChn, aCall, aMeth, aMake, aBmL, aRaise, aTryOnly, aTryAs, aiSeq, aiRng1, aiRng2, aiEnum, agN, agNil, agCons, agTup, aSlL, aRev, aNoPart, aPart, aNewK, aNewT, aLc, asB, asT, iA, iA0, subA, modA, modP, divP, divA, powA, ltA, leA, gtA, geA, addA, mulA, negA, lenA, absA, intA, allA, listA, tupleA, one, two, sp0, sp1, sp2, sp3, sp4, sp5, sp6, appendA, reverseA, clearA, wipeA, putFA, List.getElem?_cons_zero, List.getElem?_cons_succ, List.set_cons_zero, List.set_cons_succ, List.cons_append, List.nil_append, List.append_nil]
    refine ⟨_, _, _, ka.k, T.cf_Keeper_row, rfl, by simp, fun L hL => ?_⟩
    have e1 := Ext.new (o := .lst []) hL
    by_cases hr : rs = []
    · subst hr
      refine eqA_lists (n := 1) (e1 _ _ ka.r) updA_same .nil (by decide) (ifT ?_)
      rw [v_id]
      exact q1 rfl _ e1
    · refine eqA_len (e1 _ _ ka.r) updA_same (fun z => hr ?_) (ifF (hJ _ _ ⟨rfl, e1, hr⟩))
      rw [List.length_map] at z
      exact List.length_eq_zero_iff.mp z
  obtain ⟨rfl, ex, hr⟩ := pv
  have kb := ka.up ex
  refine seq_cut (fun α h' => α = [some (.ref k), some (.int 1), none] ∧ Ext h h') (fun J hJ => ?_) fun α h' pv => ?_
  · try dsimp only [nb, aRet, aRetN, aSeq, aIfS, aNext, aBreak, aCont, aDrop, aAsg, aPar, aAug, aSetL, aSetF, aFld, aVar, aC, aNil, aCons, aTup, aLst, a1, a2, aN, aAndV, aOrV, aNotV, aIf, aAnd, aOr, aNot, aTest, aChn, aCall, aMeth, aMake, aBmL, aRaise, aTryOnly, aTryAs, aFor, aiSeq, aiRng1, aiRng2, aiEnum, agN, agNil, agCons, agTup, aSlL, aRev, aNoPart, aPart, aNewK, aNewT, aLc, aWhile, asB, asT, iA, iA0, subA, modA, modP, divP, divA, powA, ltA, leA, gtA, geA, addA, mulA, negA, lenA, absA, intA, allA, listA, tupleA, one, two, sp0, sp1, sp2, sp3, sp4, sp5, sp6, appendA, reverseA, clearA, wipeA, putFA, List.getElem?_cons_zero, List.getElem?_cons_succ, List.set_cons_zero, List.set_cons_succ, List.cons_append, List.nil_append, List.append_nil]
    exact hJ _ _ ⟨rfl, ex⟩
  obtain ⟨rfl, ex⟩ := pv
  have kb := ka.up ex
  refine seq_cut (fun α h' => (∃ o2, α = [some (.ref k), some (.int ((2 ^ H : Nat) : Int)), o2]) ∧ Ext h h') (fun J hJ => ?_) fun α h' pv => ?_
  · try dsimp only [nb, aRet, aRetN, aSeq, aIfS, aNext, aBreak, aCont, aDrop, aAsg, aPar, aAug, aSetL, aSetF, aFld, aVar, aC, aNil, aCons, aTup, aLst, a1, a2, aN, aAndV, aOrV, aNotV, aIf, aAnd, aOr, aNot, aTest, aChn, aCall, aMeth, aMake, aBmL, aRaise, aTryOnly, aTryAs, aFor, aiSeq, aiRng1, aiRng2, aiEnum, agN, agNil, agCons, agTup, aSlL, aRev, aNoPart, aPart, aNewK, aNewT, aLc, aWhile, asB, asT, iA, iA0, subA, modA, modP, divP, divA, powA, ltA, leA, gtA, geA, addA, mulA, negA, lenA, absA, intA, allA, listA, tupleA, one, two, sp0, sp1, sp2, sp3, sp4, sp5, sp6, appendA, reverseA, clearA, wipeA, putFA, List.getElem?_cons_zero, List.getElem?_cons_succ, List.set_cons_zero, List.set_cons_succ, List.cons_append, List.nil_append, List.append_nil, R_Keeper_height]
    refine ⟨_, kb.k, rfl, k, R, P, _, _, _, rfl, kb, hl, fun j hj => ?_⟩
    have := hj.uniq hH
    subst this
    refine ⟨by omega, ?_⟩
    rw [Int.toNat_natCast]
    refine loop_rng (fun m α h' => (∃ o2, α = [some (.ref k), some (.int ((2 ^ m : Nat) : Int)), o2]) ∧ Ext h h') ⟨⟨_, rfl⟩, ex⟩ (fun m hm α h' pv => ?_) fun α h' pv => hJ _ _ pv
    obtain ⟨⟨o2, rfl⟩, ex⟩ := pv
    try dsimp only [nb, aRet, aRetN, aSeq, aIfS, aNext, aBreak, aCont, aDrop, aAsg, aPar, aAug, aSetL, aSetF, aFld, aVar, aC, aNil, aCons, aTup, aLst, a1, a2, aN, aAndV, aOrV, aNotV, aIf, aAnd, aOr, aNot, aTest, aChn, aCall, aMeth, aMake, aBmL, aRaise, aTryOnly, aTryAs, aFor, aiSeq, aiRng1, aiRng2, aiEnum, agN, agNil, agCons, agTup, aSlL, aRev, aNoPart, aPart, aNewK, aNewT, aLc, aWhile, asB, asT, iA, iA0, subA, modA, modP, divP, divA, powA, ltA, leA, gtA, geA, addA, mulA, negA, lenA, absA, intA, allA, listA, tupleA, one, two, sp0, sp1, sp2, sp3, sp4, sp5, sp6, appendA, reverseA, clearA, wipeA, putFA, List.getElem?_cons_zero, List.getElem?_cons_succ, List.set_cons_zero, List.set_cons_succ, List.cons_append, List.nil_append, List.append_nil]
    refine ⟨mul_r (by decide), ⟨_, by rw [pow2_cast]⟩, ex⟩
  obtain ⟨⟨o2, rfl⟩, ex⟩ := pv
  have kb := ka.up ex
  try dsimp only [nb, aRet, aRetN, aSeq, aIfS, aNext, aBreak, aCont, aDrop, aAsg, aPar, aAug, aSetL, aSetF, aFld, aVar, aC, aNil, aCons, aTup, aLst, a1, a2, aN, aAndV, aOrV, aNotV, aIf, aAnd, aOr, aNot, aTest, aChn, aCall, aMeth, aMake, aBmL, aRaise, aTryOnly, aTryAs, aFor, aiSeq, aiRng1, aiRng2, aiEnum, agN, agNil, agCons, agTup, aSlL, aRev, aNoPart, aPart, aNewK, aNewT, aLc, aWhile, asB, asT, iA, iA0, subA, modA, modP, divP, divA, powA, ltA, leA, gtA, geA, addA, mulA, negA, lenA, absA, intA, allA, listA, tupleA, one, two, sp0, sp1, sp2, sp3, sp4, sp5, sp6, appendA, reverseA, clearA, wipeA, putFA, List.getElem?_cons_zero, List.getElem?_cons_succ, List.set_cons_zero, List.set_cons_succ, List.cons_append, List.nil_append, List.append_nil, R_Keeper_part]
  have hlen : 0 < rs.length := List.length_pos_iff.mpr hr
  refine ⟨_, kb.k, rfl, k, R, P, 0, H, H, num, rs, kvs, rfl, rfl, rfl, Nat.le_trans hH6 (by decide), kb, hl, hb, hlen, Nat.dvd_zero _, Nat.le_refl _, hc, co, nt, kl, nl, fun kvs' h2 po => ?_⟩
  rw [sg_all hH.1]
  exact q2 hr kvs' h2 ⟨ex.fx.trans po.fx, po.ka, po.co, po.nt, po.kl, po.fr, po.ms, po.cl⟩
end GL
namespace GL
open PySem PySem.Spec L2 G
def iA5 (f : IRul) : List A := [.int f.g, .int f.p, .int f.a, .int f.q, .int f.b]
def FiveAt (h : AH) (p : Addr) (f : IRul) : Prop := h p = some (.lst (iA5 f))
def ruleF (f : IRul) : Rul := mkR 16 f
def RowAt (h : AH) (L : Addr) (ps : List Addr) (fs : List IRul) : Prop := h L = some (.lst (ps.map A.ref)) ∧ Paired (FiveAt h) ps fs
def R_law_cell_at (_ : Frg) : Sp2 := fun x y h Q _ => ∃ (ns : List Int) (i : Int), x = .fls (ns.map A.int) ∧ y = .int i ∧ 0 ≤ i ∧ ∀ c : Int, Q (.int c) h
def R_law_lowest (_ : Frg) : Sp2 := fun x y h Q _ => ∃ t b : Int, x = .int t ∧ y = .int b ∧ 0 < b ∧ b.natAbs.log2 < 9000 ∧ Q (fr (Rat.divInt t b)) h
def R_law_five (_ : Frg) : Sp1 := fun x h Q _ => ∃ w : Addr, x = .ref w ∧ WellAt h w ∧ ∀ p f h', h p = none → Wl w h h' → FiveAt (hid (fun a => a = w) h') p f → INB 1 f → Q (.ref p) h'
def R_law_rule (_ : Frg) : Sp2 := fun x y h Q _ => ∃ (p : Addr) (f : IRul) (b : Int), x = .ref p ∧ FiveAt h p f ∧ y = .int b ∧ 0 < b ∧ b.natAbs.log2 < 9000 ∧ ∀ h', Ext h h' → Q (rulA (mkR b f)) h'
def R_law_product (_ : Frg) : Sp1 := fun x h Q _ => ∃ (L : Addr) (ps : List Addr) (fs : List IRul), x = .ref L ∧ RowAt h L ps fs ∧ fs.length ≤ 64 ∧ (∀ f ∈ fs, INB 1 f) ∧ ∀ h', Ext h h' → Q (rulA (prodR (fs.map ruleF))) h'
def R_law_height (_ : Frg) : Sp1 := fun x h Q _ => ∃ n : Nat, x = .int n ∧ n ≤ 64 ∧ ∀ j : Nat, IsH n j → Q (.int j) h
abbrev sp_law_cell_at (K : Frg) : ASp := sp2 (R_law_cell_at K)
def t_law_cell_at (K : Frg) : ATS := (aSeq (aIfS (aTest (a2 ltA (aVar 1) (aN lenA (aCons (aVar 0) aNil))))
  (aRet (a2 ixA (aVar 0) (aVar 1)))
  aNext)
  (aRet (aC (.int 0))))
abbrev sp_law_lowest (K : Frg) : ASp := sp2 (R_law_lowest K)
def t_law_lowest (K : Frg) : ATS := (aSeq (aPar 2 3 (aCons (aN absA (aCons (aVar 0) aNil)) (aCons (aVar 1) aNil)))
  (aSeq (aWhile (aTest (a2 (eqA true) (aVar 3) (aC (.int 0))))
  (aPar 2 3 (aCons (aVar 3) (aCons (a2 modA (aVar 2) (aVar 3)) aNil))))
  (aRet (aTup (aCons (a2 divA (aVar 0) (aVar 2)) (aCons (a2 divA (aVar 1) (aVar 2)) aNil))))))
abbrev sp_law_five (K : Frg) : ASp := sp1 (R_law_five K)
def t_law_five (K : Frg) : ATS := (aSeq (aAsg (aCall (sp_law_draw K) [] (aCons (aVar 0) (aCons (aC (.int 17)) aNil))) (agN 1))
  (aSeq (aAsg (aCall (sp_law_draw K) [] (aCons (aVar 0) (aCons (a2 addA (aVar 1) (aC (.int 1))) aNil))) (agN 2))
  (aSeq (aAsg (aLst (aCons (aLst (aCons (a2 subA (aC (.int 16)) (aVar 1)) (aCons (aC (.int 0)) (aCons (aVar 2) (aCons (a2 subA (aC (.int 16)) (aVar 1)) (aCons (aVar 1) aNil)))))) (aCons (aLst (aCons (aC (.int 16)) (aCons (a2 subA (aC (.int 0)) (aVar 2)) (aCons (aVar 2) (aCons (a2 subA (aC (.int 16)) (aVar 1)) (aCons (aVar 1) aNil)))))) (aCons (aLst (aCons (a2 subA (aC (.int 16)) (aVar 2)) (aCons (aC (.int 0)) (aCons (aVar 2) (aCons (a2 subA (aC (.int 16)) (aVar 1)) (aCons (aVar 1) aNil)))))) aNil)))) (agN 3))
  (aSeq (aAsg (a2 addA (aVar 3) (aLst (aCons (aLst (aCons (a2 addA (a2 subA (aC (.int 16)) (aVar 1)) (aVar 2)) (aCons (a2 subA (aC (.int 0)) (aVar 2)) (aCons (aVar 2) (aCons (a2 subA (aC (.int 16)) (aVar 1)) (aCons (aVar 1) aNil)))))) (aCons (aLst (aCons (a2 subA (aC (.int 16)) (aVar 1)) (aCons (aVar 2) (aCons (aC (.int 0)) (aCons (aC (.int 16)) (aCons (aC (.int 0)) aNil)))))) (aCons (aLst (aCons (aVar 2) (aCons (a2 subA (aVar 1) (aVar 2)) (aCons (aC (.int 0)) (aCons (aC (.int 16)) (aCons (aC (.int 0)) aNil)))))) aNil))))) (agN 3))
  (aRet (a2 ixA (aVar 3) (aCall (sp_law_draw K) [] (aCons (aVar 0) (aCons (aC (.int 6)) aNil)))))))))
abbrev sp_law_rule (K : Frg) : ASp := sp2 (R_law_rule K)
def t_law_rule (K : Frg) : ATS := (aRet (aN tupleA (aCons (aLc (aiSeq (aVar 0)) (agN 2) aYes (aCall (sp_law_lowest K) [] (aCons (aVar 2) (aCons (aVar 1) aNil))) [2]) aNil)))
abbrev sp_law_product (K : Frg) : ASp := sp1 (R_law_product K)
def t_law_product (K : Frg) : ATS := (aSeq (aAsg (aTup (aCons (aC (.int 1)) (aCons (aC (.int 0)) (aCons (aC (.int 0)) (aCons (aC (.int 1)) (aCons (aC (.int 0)) (aCons (aC (.int 1)) aNil))))))) (agTup 6 (agCons (agN 1) (agCons (agN 2) (agCons (agN 3) (agCons (agN 4) (agCons (agN 5) (agCons (agN 6) agNil))))))))
  (aSeq (aFor (aiSeq (aVar 0)) (agN 7)
  (aSeq (aPar 3 5 (aCons (a2 addA (a2 addA (a2 mulA (a2 ixA (aVar 7) (aC (.int 0))) (aVar 3)) (a2 mulA (a2 ixA (aVar 7) (aC (.int 1))) (aVar 5))) (a2 mulA (a2 ixA (aVar 7) (aC (.int 2))) (aVar 6))) (aCons (a2 addA (a2 mulA (a2 ixA (aVar 7) (aC (.int 3))) (aVar 5)) (a2 mulA (a2 ixA (aVar 7) (aC (.int 4))) (aVar 6))) aNil)))
  (aAsg (aTup (aCons (a2 mulA (a2 ixA (aVar 7) (aC (.int 0))) (aVar 1)) (aCons (a2 addA (a2 mulA (a2 ixA (aVar 7) (aC (.int 0))) (aVar 2)) (a2 mulA (a2 ixA (aVar 7) (aC (.int 1))) (aVar 4))) (aCons (a2 mulA (a2 ixA (aVar 7) (aC (.int 3))) (aVar 4)) (aCons (a2 mulA (aC (.int 16)) (aVar 6)) aNil))))) (agTup 4 (agCons (agN 1) (agCons (agN 2) (agCons (agN 4) (agCons (agN 6) agNil))))))))
  (aRet (aCall (sp_law_rule K) [] (aCons (aLst (aCons (aVar 1) (aCons (aVar 2) (aCons (aVar 3) (aCons (aVar 4) (aCons (aVar 5) aNil)))))) (aCons (aVar 6) aNil))))))
abbrev sp_law_height (K : Frg) : ASp := sp1 (R_law_height K)
def t_law_height (K : Frg) : ATS := (aSeq (aAsg (aC (.int 0)) (agN 1))
  (aSeq (aAsg (aC (.int 1)) (agN 2))
  (aSeq (aWhile (aTest (a2 ltA (aVar 2) (aVar 0)))
  (aSeq (aAsg (a2 mulA (aVar 2) (aC (.int 2))) (agN 2))
  (aAsg (a2 addA (aVar 1) (aC (.int 1))) (agN 1))))
  (aRet (aVar 1)))))

theorem rd_law_cell_at {K : Frg} (T : TK K) {x0 x1 : A} {h : AH} {Q : AVK} {E : AXK} (hR : R_law_cell_at K x0 x1 h Q E) : t_law_cell_at K { nx := fun _ h' => Q .non h', rt := Q, ex := fun c _ h' => E c h' } [some x0, some x1] h := by
  obtain ⟨ns, i, rfl, rfl, h0, q⟩ := hR
  unfold t_law_cell_at
  try dsimp only [nb, aRet, aRetN, aSeq, aIfS, aNext, aBreak, aCont, aDrop, aAsg, aPar, aAug, aSetL, aSetF, aFld, aVar, aC, aNil, aCons, aTup, aLst, a1, a2, aN, aAndV, aOrV, aNotV, aIf, aAnd, aOr, aNot, aTest, aChn, aCall, aMeth, aMake, aBmL, aRaise, aTryOnly, aTryAs, aFor, aiSeq, aiRng1, aiRng2, aiEnum, agN, agNil, agCons, agTup, aSlL, aRev, aNoPart, aPart, aNewK, aNewT, aLc, aWhile, asB, asT, iA, iA0, subA, modA, modP, divP, divA, powA, ltA, leA, gtA, geA, addA, mulA, negA, lenA, absA, intA, allA, listA, tupleA, one, two, sp0, sp1, sp2, sp3, sp4, sp5, sp6, appendA, reverseA, clearA, wipeA, putFA, List.getElem?_cons_zero, List.getElem?_cons_succ, List.set_cons_zero, List.set_cons_succ, List.cons_append, List.nil_append, List.append_nil, seqA]
  rw [List.length_map]
  refine ifd (fun h1 => ?_) fun h1 => q 0
  have e : atI (ns.map A.int) i = some (.int (ns[i.toNat]'(by omega))) := by
    rw [atI_of h0 (by rw [List.length_map]; exact h1), List.getElem_map]
  show (match atI (ns.map A.int) i with
    | some v => Q v h
    | none => False)
  rw [e]
  exact q _
theorem rd_law_lowest {K : Frg} (T : TK K) {x0 x1 : A} {h : AH} {Q : AVK} {E : AXK} (hR : R_law_lowest K x0 x1 h Q E) : t_law_lowest K { nx := fun _ h' => Q .non h', rt := Q, ex := fun c _ h' => E c h' } [some x0, some x1, none, none] h := by
  obtain ⟨t, b, rfl, rfl, hb, hl, q⟩ := hR
  unfold t_law_lowest
  refine seq_cut (fun α h' => α = [some (.int t), some (.int b), some (.int t.natAbs), some (.int b)] ∧ h = h') (fun J hJ => ?_) fun α h' pv => ?_
  · try dsimp only [nb, aRet, aRetN, aSeq, aIfS, aNext, aBreak, aCont, aDrop, aAsg, aPar, aAug, aSetL, aSetF, aFld, aVar, aC, aNil, aCons, aTup, aLst, a1, a2, aN, aAndV, aOrV, aNotV, aIf, aAnd, aOr, aNot, aTest, aChn, aCall, aMeth, aMake, aBmL, aRaise, aTryOnly, aTryAs, aFor, aiSeq, aiRng1, aiRng2, aiEnum, agN, agNil, agCons, agTup, aSlL, aRev, aNoPart, aPart, aNewK, aNewT, aLc, aWhile, asB, asT, iA, iA0, subA, modA, modP, divP, divA, powA, ltA, leA, gtA, geA, addA, mulA, negA, lenA, absA, intA, allA, listA, tupleA, one, two, sp0, sp1, sp2, sp3, sp4, sp5, sp6, appendA, reverseA, clearA, wipeA, putFA, List.getElem?_cons_zero, List.getElem?_cons_succ, List.set_cons_zero, List.set_cons_succ, List.cons_append, List.nil_append, List.append_nil]
    have e : (if t < 0 then -t else t) = (t.natAbs : Int) := by split <;> omega
    rw [e]
    exact hJ _ _ ⟨rfl, rfl⟩
  obtain ⟨rfl, rfl⟩ := pv
  refine seq_cut (fun α h' => α = [some (.int t), some (.int b), some (.int (Int.gcd t b)), some (.int 0)] ∧ h = h') (fun J hJ => ?_) fun α h' pv => ?_
  · refine ⟨fun m α h' => ∃ c d : Int, α = [some (.int t), some (.int b), some (.int c), some (.int d)] ∧ Int.gcd c d = Int.gcd t b ∧ 0 ≤ c ∧ 0 ≤ d ∧ d.natAbs = m ∧ h = h', ⟨_, t.natAbs, b, rfl, by simp [Int.gcd], by omega, by omega, rfl, rfl⟩, fun m α h' pv => ?_⟩
    obtain ⟨c, d, rfl, e, hc, hd, rfl, rfl⟩ := pv
    try dsimp only [nb, aRet, aRetN, aSeq, aIfS, aNext, aBreak, aCont, aDrop, aAsg, aPar, aAug, aSetL, aSetF, aFld, aVar, aC, aNil, aCons, aTup, aLst, a1, a2, aN, aAndV, aOrV, aNotV, aIf, aAnd, aOr, aNot, aTest, aChn, aCall, aMeth, aMake, aBmL, aRaise, aTryOnly, aTryAs, aFor, aiSeq, aiRng1, aiRng2, aiEnum, agN, agNil, agCons, agTup, aSlL, aRev, aNoPart, aPart, aNewK, aNewT, aLc, aWhile, asB, asT, iA, iA0, subA, modA, modP, divP, divA, powA, ltA, leA, gtA, geA, addA, mulA, negA, lenA, absA, intA, allA, listA, tupleA, one, two, sp0, sp1, sp2, sp3, sp4, sp5, sp6, appendA, reverseA, clearA, wipeA, putFA, List.getElem?_cons_zero, List.getElem?_cons_succ, List.set_cons_zero, List.set_cons_succ, List.cons_append, List.nil_append, List.append_nil, eqA]
    refine ifnd (fun hn => ⟨hn, _, fmod_small c hn, d, _, rfl, by rw [gcd_fmod]; exact e, hd, (fmod_pos (by omega)).1, rfl, rfl⟩) fun hn => ?_
    subst hn
    rw [Int.gcd_zero_right] at e
    have : c = (Int.gcd t b : Int) := by omega
    rw [this]
    exact hJ _ _ ⟨rfl, rfl⟩
  obtain ⟨rfl, rfl⟩ := pv
  have hg := gcd_pos (t := t) (by omega : b ≠ 0)
  have hgl : (Int.gcd t b).log2 < 9000 := by
    refine Nat.lt_of_le_of_lt ?_ hl
    have : b.natAbs ≠ 0 := by omega
    rw [Nat.le_log2 this]
    exact Nat.le_trans (Nat.log2_self_le (by omega)) (gcd_le (by omega))
  have e := made_pos (t := t) hb
  try dsimp only [nb, aRet, aRetN, aSeq, aIfS, aNext, aBreak, aCont, aDrop, aAsg, aPar, aAug, aSetL, aSetF, aFld, aVar, aC, aNil, aCons, aTup, aLst, a1, a2, aN, aAndV, aOrV, aNotV, aIf, aAnd, aOr, aNot, aTest, aChn, aCall, aMeth, aMake, aBmL, aRaise, aTryOnly, aTryAs, aFor, aiSeq, aiRng1, aiRng2, aiEnum, agN, agNil, agCons, agTup, aSlL, aRev, aNoPart, aPart, aNewK, aNewT, aLc, aWhile, asB, asT, iA, iA0, subA, modA, modP, divP, divA, powA, ltA, leA, gtA, geA, addA, mulA, negA, lenA, absA, intA, allA, listA, tupleA, one, two, sp0, sp1, sp2, sp3, sp4, sp5, sp6, appendA, reverseA, clearA, wipeA, putFA, List.getElem?_cons_zero, List.getElem?_cons_succ, List.set_cons_zero, List.set_cons_succ, List.cons_append, List.nil_append, List.append_nil]
  refine .inl ⟨⟨hg, by simpa using hgl⟩, .inl ⟨⟨hg, by simpa using hgl⟩, by simp; decide, ?_⟩⟩
  rw [e.1, e.2]
  exact q
theorem rd_law_height {K : Frg} (T : TK K) {x0 : A} {h : AH} {Q : AVK} {E : AXK} (hR : R_law_height K x0 h Q E) : t_law_height K { nx := fun _ h' => Q .non h', rt := Q, ex := fun c _ h' => E c h' } [some x0, none, none] h := by
  obtain ⟨n, rfl, hl, q⟩ := hR
  unfold t_law_height
  try dsimp only [nb, aRet, aRetN, aSeq, aIfS, aNext, aBreak, aCont, aDrop, aAsg, aPar, aAug, aSetL, aSetF, aFld, aVar, aC, aNil, aCons, aTup, aLst, a1, a2, aN, aAndV, aOrV, aNotV, aIf, aAnd, aOr, aNot, aTest, aChn, aCall, aMeth, aMake, aBmL, aRaise, aTryOnly, aTryAs, aFor, aiSeq, aiRng1, aiRng2, aiEnum, agN, agNil, agCons, agTup, aSlL, aRev, aNoPart, aPart, aNewK, aNewT, aLc, aWhile, asB, asT, iA, iA0, subA, modA, modP, divP, divA, powA, ltA, leA, gtA, geA, addA, mulA, negA, lenA, absA, intA, allA, listA, tupleA, one, two, sp0, sp1, sp2, sp3, sp4, sp5, sp6, appendA, reverseA, clearA, wipeA, putFA, List.getElem?_cons_zero, List.getElem?_cons_succ, List.set_cons_zero, List.set_cons_succ, List.cons_append, List.nil_append, List.append_nil]
  refine ⟨fun m α h' => ∃ j : Nat, α = [some (.int (n : Int)), some (.int (j : Int)), some (.int ((2 ^ j : Nat) : Int))] ∧ h = h' ∧ (∀ i, i < j → 2 ^ i < n) ∧ m = 100 - j ∧ j ≤ 7, ⟨100, 0, rfl, rfl, (fun i h => absurd h (Nat.not_lt_zero i)), rfl, by decide⟩, fun m α h' pv => ?_⟩
  obtain ⟨j, rfl, rfl, hlo, rfl, hj⟩ := pv
  try dsimp only [nb, aRet, aRetN, aSeq, aIfS, aNext, aBreak, aCont, aDrop, aAsg, aPar, aAug, aSetL, aSetF, aFld, aVar, aC, aNil, aCons, aTup, aLst, a1, a2, aN, aAndV, aOrV, aNotV, aIf, aAnd, aOr, aNot, aTest, aChn, aCall, aMeth, aMake, aBmL, aRaise, aTryOnly, aTryAs, aFor, aiSeq, aiRng1, aiRng2, aiEnum, agN, agNil, agCons, agTup, aSlL, aRev, aNoPart, aPart, aNewK, aNewT, aLc, aWhile, asB, asT, iA, iA0, subA, modA, modP, divP, divA, powA, ltA, leA, gtA, geA, addA, mulA, negA, lenA, absA, intA, allA, listA, tupleA, one, two, sp0, sp1, sp2, sp3, sp4, sp5, sp6, appendA, reverseA, clearA, wipeA, putFA, List.getElem?_cons_zero, List.getElem?_cons_succ, List.set_cons_zero, List.set_cons_succ, List.cons_append, List.nil_append, List.append_nil]
  refine ifd (fun hlt => ?_) fun hge => ?_
  · have hlt' : 2 ^ j < n := by omega
    have hj6 : j < 6 := by
      by_cases c : j < 6
      · exact c
      · have : 2 ^ 6 ≤ 2 ^ j := Nat.pow_le_pow_right (by decide) (by omega)
        omega
    refine ⟨mul_r (by decide), _, ?_, j + 1, ?_, rfl, fun i hi => ?_, rfl, by omega⟩
    · omega
    · rw [pow2_cast]; rfl
    · by_cases c : i < j
      · exact hlo i c
      · have : i = j := by omega
        subst this; exact hlt'
  · exact q j ⟨by omega, hlo⟩
theorem rd_law_rule {K : Frg} (T : TK K) {x0 x1 : A} {h : AH} {Q : AVK} {E : AXK} (hR : R_law_rule K x0 x1 h Q E) : t_law_rule K { nx := fun _ h' => Q .non h', rt := Q, ex := fun c _ h' => E c h' } [some x0, some x1, none] h := by
  obtain ⟨p, f, b, rfl, hf, rfl, hb, hl, q⟩ := hR
  unfold t_law_rule
  try dsimp only [nb, aRet, aRetN, aSeq, aIfS, aNext, aBreak, aCont, aDrop, aAsg, aPar, aAug, aSetL, aSetF, aFld, aVar, aC, aNil, aCons, aTup, aLst, a1, a2, aN, aAndV, aOrV, aNotV, aIf, aAnd, aOr, aNot, aTest, aChn, aCall, aMeth, aMake, aBmL, aRaise, aTryOnly, aTryAs, aFor, aiSeq, aiRng1, aiRng2, aiEnum, agN, agNil, agCons, agTup, aSlL, aRev, aNoPart, aPart, aNewK, aNewT, aLc, aWhile, asB, asT, iA, iA0, subA, modA, modP, divP, divA, powA, ltA, leA, gtA, geA, addA, mulA, negA, lenA, absA, intA, allA, listA, tupleA, one, two, sp0, sp1, sp2, sp3, sp4, sp5, sp6, appendA, reverseA, clearA, wipeA, putFA, List.getElem?_cons_zero, List.getElem?_cons_succ, List.set_cons_zero, List.set_cons_succ, List.cons_append, List.nil_append, List.append_nil]
  have he : itA h (.ref p) = some (iA5 f) := itA_ref.mpr hf
  refine lc_it (fun D i h' => Ext h h' ∧ h' D = some (.lst ([fr (Rat.divInt f.g b), fr (Rat.divInt f.p b), fr (Rat.divInt f.a b), fr (Rat.divInt f.q b), fr (Rat.divInt f.b b)].take i))) he (fun D hD => ⟨Ext.new hD, updA_same⟩) (fun D hD p' e i h' _ pv => by cases e; exact pv.1 _ _ hf) (fun D hD i hi h' pv => ?_) fun D hD h' pv => ?_
  · obtain ⟨ex, eD⟩ := pv
    have hi5 : i < 5 := hi
    have one : ∀ (t : Int) (acc : List A), h' D = some (.lst acc) → acc.length < 1000 → (Ext h (updA h' D (.lst (acc ++ [fr (Rat.divInt t b)]))) ∧ updA h' D (.lst (acc ++ [fr (Rat.divInt t b)])) D = some (.lst ([fr (Rat.divInt f.g b), fr (Rat.divInt f.p b), fr (Rat.divInt f.a b), fr (Rat.divInt f.q b), fr (Rat.divInt f.b b)].take (i + 1)))) →
        agN 2 (.int t) (wipeA [some (.ref p), some (.int b), none] [2]) h' fun α2 h2 => aCall (sp_law_lowest K) [] (aCons (aVar 2) (aCons (aVar 1) aNil)) α2 h2 (fun y h4 => ∃ acc, h4 D = some (.lst acc) ∧ acc.length < sizeLine ∧ Ext h (updA h4 D (.lst (acc ++ [y]))) ∧ updA h4 D (.lst (acc ++ [y])) D = some (.lst ([fr (Rat.divInt f.g b), fr (Rat.divInt f.p b), fr (Rat.divInt f.a b), fr (Rat.divInt f.q b), fr (Rat.divInt f.b b)].take (i + 1)))) AE0 := fun t acc ea la post => by
      try dsimp only [nb, aRet, aRetN, aSeq, aIfS, aNext, aBreak, aCont, aDrop, aAsg, aPar, aAug, aSetL, aSetF, aFld, aVar, aC, aNil, aCons, aTup, aLst, a1, a2, aN, aAndV, aOrV, aNotV, aIf, aAnd, aOr, aNot, aTest, aChn, aCall, aMeth, aMake, aBmL, aRaise, aTryOnly, aTryAs, aFor, aiSeq, aiRng1, aiRng2, aiEnum, agN, agNil, agCons, agTup, aSlL, aRev, aNoPart, aPart, aNewK, aNewT, aLc, aWhile, asB, asT, iA, iA0, subA, modA, modP, divP, divA, powA, ltA, leA, gtA, geA, addA, mulA, negA, lenA, absA, intA, allA, listA, tupleA, one, two, sp0, sp1, sp2, sp3, sp4, sp5, sp6, appendA, reverseA, clearA, wipeA, putFA, List.getElem?_cons_zero, List.getElem?_cons_succ, List.set_cons_zero, List.set_cons_succ, List.cons_append, List.nil_append, List.append_nil, R_law_lowest]
      exact ⟨t, b, rfl, rfl, hb, hl, acc, ea, Nat.lt_trans la (by decide), post⟩
    have : i = 0 ∨ i = 1 ∨ i = 2 ∨ i = 3 ∨ i = 4 := by omega
    rcases this with rfl | rfl | rfl | rfl | rfl
    · exact one f.g _ eD (by simp) ⟨Ext.wr hD ex, updA_same⟩
    · exact one f.p _ eD (by simp) ⟨Ext.wr hD ex, updA_same⟩
    · exact one f.a _ eD (by simp) ⟨Ext.wr hD ex, updA_same⟩
    · exact one f.q _ eD (by simp) ⟨Ext.wr hD ex, updA_same⟩
    · exact one f.b _ eD (by simp) ⟨Ext.wr hD ex, updA_same⟩
  · obtain ⟨ex, eD⟩ := pv
    exact ⟨_, eD, q h' ex⟩
theorem rd_law_five {K : Frg} (T : TK K) {x0 : A} {h : AH} {Q : AVK} {E : AXK} (hR : R_law_five K x0 h Q E) : t_law_five K { nx := fun _ h' => Q .non h', rt := Q, ex := fun c _ h' => E c h' } [some x0, none, none, none] h := by
  obtain ⟨w, rfl, hw, q⟩ := hR
  unfold t_law_five
  refine seq_cut (fun α h' => ∃ u : Int, α = [some (.ref w), some (.int u), none, none] ∧ Wl w h h' ∧ 0 ≤ u ∧ u ≤ 16) (fun J hJ => ?_) fun α h' pv => ?_
  · try dsimp only [nb, aRet, aRetN, aSeq, aIfS, aNext, aBreak, aCont, aDrop, aAsg, aPar, aAug, aSetL, aSetF, aFld, aVar, aC, aNil, aCons, aTup, aLst, a1, a2, aN, aAndV, aOrV, aNotV, aIf, aAnd, aOr, aNot, aTest, aChn, aCall, aMeth, aMake, aBmL, aRaise, aTryOnly, aTryAs, aFor, aiSeq, aiRng1, aiRng2, aiEnum, agN, agNil, agCons, agTup, aSlL, aRev, aNoPart, aPart, aNewK, aNewT, aLc, aWhile, asB, asT, iA, iA0, subA, modA, modP, divP, divA, powA, ltA, leA, gtA, geA, addA, mulA, negA, lenA, absA, intA, allA, listA, tupleA, one, two, sp0, sp1, sp2, sp3, sp4, sp5, sp6, appendA, reverseA, clearA, wipeA, putFA, List.getElem?_cons_zero, List.getElem?_cons_succ, List.set_cons_zero, List.set_cons_succ, List.cons_append, List.nil_append, List.append_nil, R_law_draw]
    exact ⟨w, 17, rfl, rfl, by decide, by decide, hw, fun r h2 r0 r1 W => hJ _ _ ⟨r, rfl, W, r0, by omega⟩⟩
  obtain ⟨u, rfl, W, u0, u1⟩ := pv
  refine seq_cut (fun α h' => ∃ s : Int, α = [some (.ref w), some (.int u), some (.int s), none] ∧ Wl w h h' ∧ 0 ≤ s ∧ s ≤ u) (fun J hJ => ?_) fun α h' pv => ?_
  · try dsimp only [nb, aRet, aRetN, aSeq, aIfS, aNext, aBreak, aCont, aDrop, aAsg, aPar, aAug, aSetL, aSetF, aFld, aVar, aC, aNil, aCons, aTup, aLst, a1, a2, aN, aAndV, aOrV, aNotV, aIf, aAnd, aOr, aNot, aTest, aChn, aCall, aMeth, aMake, aBmL, aRaise, aTryOnly, aTryAs, aFor, aiSeq, aiRng1, aiRng2, aiEnum, agN, agNil, agCons, agTup, aSlL, aRev, aNoPart, aPart, aNewK, aNewT, aLc, aWhile, asB, asT, iA, iA0, subA, modA, modP, divP, divA, powA, ltA, leA, gtA, geA, addA, mulA, negA, lenA, absA, intA, allA, listA, tupleA, one, two, sp0, sp1, sp2, sp3, sp4, sp5, sp6, appendA, reverseA, clearA, wipeA, putFA, List.getElem?_cons_zero, List.getElem?_cons_succ, List.set_cons_zero, List.set_cons_succ, List.cons_append, List.nil_append, List.append_nil, R_law_draw]
    refine ⟨w, u + 1, rfl, rfl, by omega, log2_small (k := 64) (by omega) (by decide), W.1, fun r h2 r0 r1 W2 => hJ _ _ ⟨r, rfl, W.trans W2, r0, by omega⟩⟩
  obtain ⟨s, rfl, W, s0, s1⟩ := pv
  have put : ∀ (h1 h2 : AH) (p : Addr) (f : IRul), Wl w h h1 → h1 p = none → Ext h1 h2 → h2 p = some (.lst (iA5 f)) → INB 1 f → h p = none ∧ ∃ f, FiveAt (hid (fun a => a = w) h2) p f ∧ INB 1 f := fun h1 h2 p f W1 n1 e a i => ⟨W1.isN n1, f, hid_of (well_ne W1.1 n1) a, i⟩
  have bnd : ∀ x : Int, x.natAbs ≤ 16 → NB 1 x := fun x h => by unfold NB; omega
  have inb : ∀ a b c d e : Int, a.natAbs ≤ 16 → b.natAbs ≤ 16 → c.natAbs ≤ 16 → d.natAbs ≤ 16 → e.natAbs ≤ 16 → INB 1 ⟨a, b, c, d, e⟩ := fun a b c d e h1 h2 h3 h4 h5 => ⟨bnd _ h1, bnd _ h2, bnd _ h3, bnd _ h4, bnd _ h5⟩
  refine seq_cut (fun α h' => ∃ p q0 q1 q2 : Addr, α = [some (.ref w), some (.int u), some (.int s), some (.ref p)] ∧ Wl w h h' ∧ h' p = some (.lst [.ref q0, .ref q1, .ref q2]) ∧ ∀ q ∈ [q0, q1, q2], h q = none ∧ ∃ f, FiveAt (hid (fun a => a = w) h') q f ∧ INB 1 f) (fun J hJ => ?_) fun α h' pv => ?_
  · try dsimp only [nb, aRet, aRetN, aSeq, aIfS, aNext, aBreak, aCont, aDrop, aAsg, aPar, aAug, aSetL, aSetF, aFld, aVar, aC, aNil, aCons, aTup, aLst, a1, a2, aN, aAndV, aOrV, aNotV, aIf, aAnd, aOr, aNot, aTest, aChn, aCall, aMeth, aMake, aBmL, aRaise, aTryOnly, aTryAs, aFor, aiSeq, aiRng1, aiRng2, aiEnum, agN, agNil, agCons, agTup, aSlL, aRev, aNoPart, aPart, aNewK, aNewT, aLc, aWhile, asB, asT, iA, iA0, subA, modA, modP, divP, divA, powA, ltA, leA, gtA, geA, addA, mulA, negA, lenA, absA, intA, allA, listA, tupleA, one, two, sp0, sp1, sp2, sp3, sp4, sp5, sp6, appendA, reverseA, clearA, wipeA, putFA, List.getElem?_cons_zero, List.getElem?_cons_succ, List.set_cons_zero, List.set_cons_succ, List.cons_append, List.nil_append, List.append_nil]
    refine ⟨by simp; decide, fun q0 n0 => ⟨by simp; decide, fun q1 n1 => ⟨by simp; decide, fun q2 n2 => ⟨by simp; decide, fun p n3 => ?_⟩⟩⟩⟩
    have e0 := Ext.new (o := .lst [.int (16 - u), .int 0, .int s, .int (16 - u), .int u]) n0
    have e1 := Ext.new (o := .lst [.int 16, .int (0 - s), .int s, .int (16 - u), .int u]) n1
    have e2 := Ext.new (o := .lst [.int (16 - s), .int 0, .int s, .int (16 - u), .int u]) n2
    have e3 := Ext.new (o := .lst [.ref q0, .ref q1, .ref q2]) n3
    have W0 := W.trans (Wl.ext W.1 e0)
    have W1 := W0.trans (Wl.ext W0.1 e1)
    have W2 := W1.trans (Wl.ext W1.1 e2)
    refine hJ _ _ ⟨p, q0, q1, q2, rfl, W2.trans (Wl.ext W2.1 e3), updA_same, fun q hq => ?_⟩
    simp only [List.mem_cons, List.not_mem_nil, or_false] at hq
    rcases hq with rfl | rfl | rfl
    · exact put _ _ _ ⟨16 - u, 0, s, 16 - u, u⟩ W n0 (e0.trans ((e1.trans e2).trans e3)) (((e1.trans e2).trans e3) _ _ updA_same) (inb _ _ _ _ _ (by omega) (by omega) (by omega) (by omega) (by omega))
    · exact put _ _ _ ⟨16, 0 - s, s, 16 - u, u⟩ W0 n1 ((e1.trans e2).trans e3) ((e2.trans e3) _ _ updA_same) (inb _ _ _ _ _ (by omega) (by omega) (by omega) (by omega) (by omega))
    · exact put _ _ _ ⟨16 - s, 0, s, 16 - u, u⟩ W1 n2 (e2.trans e3) (e3 _ _ updA_same) (inb _ _ _ _ _ (by omega) (by omega) (by omega) (by omega) (by omega))
  obtain ⟨p, q0, q1, q2, rfl, W, ep, hq⟩ := pv
  refine seq_cut (fun α h' => ∃ p q0 q1 q2 q3 q4 q5 : Addr, α = [some (.ref w), some (.int u), some (.int s), some (.ref p)] ∧ Wl w h h' ∧ h p = none ∧ h' p = some (.lst [.ref q0, .ref q1, .ref q2, .ref q3, .ref q4, .ref q5]) ∧ ∀ q ∈ [q0, q1, q2, q3, q4, q5], h q = none ∧ ∃ f, FiveAt (hid (fun a => a = w) h') q f ∧ INB 1 f) (fun J hJ => ?_) fun α h' pv => ?_
  · try dsimp only [nb, aRet, aRetN, aSeq, aIfS, aNext, aBreak, aCont, aDrop, aAsg, aPar, aAug, aSetL, aSetF, aFld, aVar, aC, aNil, aCons, aTup, aLst, a1, a2, aN, aAndV, aOrV, aNotV, aIf, aAnd, aOr, aNot, aTest, aChn, aCall, aMeth, aMake, aBmL, aRaise, aTryOnly, aTryAs, aFor, aiSeq, aiRng1, aiRng2, aiEnum, agN, agNil, agCons, agTup, aSlL, aRev, aNoPart, aPart, aNewK, aNewT, aLc, aWhile, asB, asT, iA, iA0, subA, modA, modP, divP, divA, powA, ltA, leA, gtA, geA, addA, mulA, negA, lenA, absA, intA, allA, listA, tupleA, one, two, sp0, sp1, sp2, sp3, sp4, sp5, sp6, appendA, reverseA, clearA, wipeA, putFA, List.getElem?_cons_zero, List.getElem?_cons_succ, List.set_cons_zero, List.set_cons_succ, List.cons_append, List.nil_append, List.append_nil]
    refine ⟨by simp; decide, fun q3 n0 => ⟨by simp; decide, fun q4 n1 => ⟨by simp; decide, fun q5 n2 => ⟨by simp; decide, fun p2 n3 => ?_⟩⟩⟩⟩
    have e0 := Ext.new (o := .lst [.int (16 - u + s), .int (0 - s), .int s, .int (16 - u), .int u]) n0
    have e1 := Ext.new (o := .lst [.int (16 - u), .int s, .int 0, .int 16, .int 0]) n1
    have e2 := Ext.new (o := .lst [.int s, .int (u - s), .int 0, .int 16, .int 0]) n2
    have e3 := Ext.new (o := .lst [.ref q3, .ref q4, .ref q5]) n3
    refine ⟨_, _, ((e0.trans e1).trans (e2.trans e3)) _ _ ep, updA_same, by simp; decide, fun p3 n4 => ?_⟩
    have e4 := Ext.new (o := .lst ([A.ref q0, .ref q1, .ref q2] ++ [.ref q3, .ref q4, .ref q5])) n4
    have W0 := W.trans (Wl.ext W.1 e0)
    have W1 := W0.trans (Wl.ext W0.1 e1)
    have W2 := W1.trans (Wl.ext W1.1 e2)
    have W3 := W2.trans (Wl.ext W2.1 e3)
    refine hJ _ _ ⟨p3, q0, q1, q2, q3, q4, q5, rfl, W3.trans (Wl.ext W3.1 e4), W3.isN n4, updA_same, fun q hq' => ?_⟩
    have up := ((e0.trans e1).trans ((e2.trans e3).trans e4)).hd (M := fun a => a = w)
    have old : ∀ q, q ∈ [q0, q1, q2] → h q = none ∧ ∃ f, FiveAt (hid (fun a => a = w) (updA (updA (updA (updA (updA h' q3 (.lst [.int (16 - u + s), .int (0 - s), .int s, .int (16 - u), .int u])) q4 (.lst [.int (16 - u), .int s, .int 0, .int 16, .int 0])) q5 (.lst [.int s, .int (u - s), .int 0, .int 16, .int 0])) p2 (.lst [.ref q3, .ref q4, .ref q5])) p3 (.lst ([A.ref q0, .ref q1, .ref q2] ++ [.ref q3, .ref q4, .ref q5])))) q f ∧ INB 1 f := fun q hm => by
      obtain ⟨a, f, b, c⟩ := hq q hm
      exact ⟨a, f, up _ _ b, c⟩
    simp only [List.mem_cons, List.not_mem_nil, or_false] at hq'
    rcases hq' with rfl | rfl | rfl | rfl | rfl | rfl
    · exact old _ (by simp)
    · exact old _ (by simp)
    · exact old _ (by simp)
    · exact put _ _ _ ⟨16 - u + s, 0 - s, s, 16 - u, u⟩ W n0 (e0.trans ((e1.trans e2).trans (e3.trans e4))) (((e1.trans e2).trans (e3.trans e4)) _ _ updA_same) (inb _ _ _ _ _ (by omega) (by omega) (by omega) (by omega) (by omega))
    · exact put _ _ _ ⟨16 - u, s, 0, 16, 0⟩ W0 n1 ((e1.trans e2).trans (e3.trans e4)) ((e2.trans (e3.trans e4)) _ _ updA_same) (inb _ _ _ _ _ (by omega) (by omega) (by omega) (by omega) (by omega))
    · exact put _ _ _ ⟨s, u - s, 0, 16, 0⟩ W1 n2 (e2.trans (e3.trans e4)) ((e3.trans e4) _ _ updA_same) (inb _ _ _ _ _ (by omega) (by omega) (by omega) (by omega) (by omega))
  obtain ⟨p, q0, q1, q2, q3, q4, q5, rfl, W, hp0, ep, hq⟩ := pv
  try dsimp only [nb, aRet, aRetN, aSeq, aIfS, aNext, aBreak, aCont, aDrop, aAsg, aPar, aAug, aSetL, aSetF, aFld, aVar, aC, aNil, aCons, aTup, aLst, a1, a2, aN, aAndV, aOrV, aNotV, aIf, aAnd, aOr, aNot, aTest, aChn, aCall, aMeth, aMake, aBmL, aRaise, aTryOnly, aTryAs, aFor, aiSeq, aiRng1, aiRng2, aiEnum, agN, agNil, agCons, agTup, aSlL, aRev, aNoPart, aPart, aNewK, aNewT, aLc, aWhile, asB, asT, iA, iA0, subA, modA, modP, divP, divA, powA, ltA, leA, gtA, geA, addA, mulA, negA, lenA, absA, intA, allA, listA, tupleA, one, two, sp0, sp1, sp2, sp3, sp4, sp5, sp6, appendA, reverseA, clearA, wipeA, putFA, List.getElem?_cons_zero, List.getElem?_cons_succ, List.set_cons_zero, List.set_cons_succ, List.cons_append, List.nil_append, List.append_nil, R_law_draw]
  refine ⟨w, 6, rfl, rfl, by decide, by decide, W.1, fun r h2 r0 r1 W2 => ?_⟩
  have npw : p ≠ w := well_ne hw hp0
  have ep2 := W2.2 _ _ npw ep
  have fin : ∀ q', q' ∈ [q0, q1, q2, q3, q4, q5] → Q (.ref q') h2 := fun q' hm => by
    obtain ⟨a, f, b, c⟩ := hq q' hm
    exact q q' f h2 a (W.trans W2) (W2.2.hd _ _ b) c
  have : r = 0 ∨ r = 1 ∨ r = 2 ∨ r = 3 ∨ r = 4 ∨ r = 5 := by omega
  rcases this with rfl | rfl | rfl | rfl | rfl | rfl <;> exact ix_ref ep2 rfl (fin _ (by simp))
end GL
namespace GL
open PySem PySem.Spec L2 G
theorem nb1 {x : Int} (h : NB 1 x) : x.natAbs < 2 ^ 64 := by
  unfold NB at h
  exact Nat.lt_of_le_of_lt (by omega : x.natAbs ≤ 16) (by decide)
theorem mkR_id : mkR 1 ⟨1, 0, 0, 1, 0⟩ = idR := rfl
theorem pow16_pos (n : Nat) : (0 : Int) < 16 ^ n := Int.pow_pos (by decide)
theorem pow16_log {n : Nat} (h : n ≤ 64) : ((16 ^ n : Int)).natAbs.log2 < 9000 := log2_small (d16_lt n) (by omega)
theorem rd_law_product {K : Frg} (T : TK K) {x0 : A} {h : AH} {Q : AVK} {E : AXK} (hR : R_law_product K x0 h Q E) : t_law_product K { nx := fun _ h' => Q .non h', rt := Q, ex := fun c _ h' => E c h' } [some x0, none, none, none, none, none, none, none] h := by
  obtain ⟨L, ps, fs, rfl, ⟨eL, pf⟩, hl, hb, q⟩ := hR
  unfold t_law_product
  refine seq_cut (fun α h' => α = [some (.ref L), some (.int 1), some (.int 0), some (.int 0), some (.int 1), some (.int 0), some (.int 1), none] ∧ h = h') (fun J hJ => ?_) fun α h' pv => ?_
  · try dsimp only [nb, aRet, aRetN, aSeq, aIfS, aNext, aBreak, aCont, aDrop, aAsg, aPar, aAug, aSetL, aSetF, aFld, aVar, aC, aNil, aCons, aTup, aLst, a1, a2, aN, aAndV, aOrV, aNotV, aIf, aAnd, aOr, aNot, aTest, aChn, aCall, aMeth, aMake, aBmL, aRaise, aTryOnly, aTryAs, aFor, aiSeq, aiRng1, aiRng2, aiEnum, agN, agNil, agCons, agTup, aSlL, aRev, aNoPart, aPart, aNewK, aNewT, aLc, aWhile, asB, asT, iA, iA0, subA, modA, modP, divP, divA, powA, ltA, leA, gtA, geA, addA, mulA, negA, lenA, absA, intA, allA, listA, tupleA, one, two, sp0, sp1, sp2, sp3, sp4, sp5, sp6, appendA, reverseA, clearA, wipeA, putFA, List.getElem?_cons_zero, List.getElem?_cons_succ, List.set_cons_zero, List.set_cons_succ, List.cons_append, List.nil_append, List.append_nil]
    exact ⟨by simp; decide, rfl, rfl, hJ _ _ ⟨rfl, rfl⟩⟩
  obtain ⟨rfl, rfl⟩ := pv
  have hlp : ps.length = fs.length := pf.length
  refine seq_cut (fun α h' => ∃ (I : IRul) (o7 : Option A), α = [some (.ref L), some (.int I.g), some (.int I.p), some (.int I.a), some (.int I.q), some (.int I.b), some (.int (16 ^ fs.length)), o7] ∧ h = h' ∧ mkR (16 ^ fs.length) I = prodR (fs.map ruleF)) (fun J hJ => ?_) fun α h' pv => ?_
  · try dsimp only [nb, aRet, aRetN, aSeq, aIfS, aNext, aBreak, aCont, aDrop, aAsg, aPar, aAug, aSetL, aSetF, aFld, aVar, aC, aNil, aCons, aTup, aLst, a1, a2, aN, aAndV, aOrV, aNotV, aIf, aAnd, aOr, aNot, aTest, aChn, aCall, aMeth, aMake, aBmL, aRaise, aTryOnly, aTryAs, aFor, aiSeq, aiRng1, aiRng2, aiEnum, agN, agNil, agCons, agTup, aSlL, aRev, aNoPart, aPart, aNewK, aNewT, aLc, aWhile, asB, asT, iA, iA0, subA, modA, modP, divP, divA, powA, ltA, leA, gtA, geA, addA, mulA, negA, lenA, absA, intA, allA, listA, tupleA, one, two, sp0, sp1, sp2, sp3, sp4, sp5, sp6, appendA, reverseA, clearA, wipeA, putFA, List.getElem?_cons_zero, List.getElem?_cons_succ, List.set_cons_zero, List.set_cons_succ, List.cons_append, List.nil_append, List.append_nil]
    refine for_it (fun i α h' => ∃ (I : IRul) (o7 : Option A), α = [some (.ref L), some (.int I.g), some (.int I.p), some (.int I.a), some (.int I.q), some (.int I.b), some (.int (16 ^ i)), o7] ∧ h = h' ∧ mkR (16 ^ i) I = prodR ((fs.take i).map ruleF)) (itA_ref.mpr eL) ⟨⟨1, 0, 0, 1, 0⟩, none, rfl, rfl, mkR_id⟩ (fun p e i α h' _ pv => by cases e; obtain ⟨_, _, _, rfl, _⟩ := pv; exact eL) (fun i hi α h' pv => ?_) fun α h' pv => ?_
    · obtain ⟨I, o7, rfl, rfl, eI⟩ := pv
      rw [List.length_map] at hi
      have hif : i < fs.length := by rw [← hlp]; exact hi
      have hf := Paired.get pf i hi hif
      obtain ⟨b1, b2, b3, b4, b5⟩ := hb _ (List.getElem_mem hif)
      rw [List.getElem_map]
      refine seq_cut (fun α h' => α = [some (.ref L), some (.int I.g), some (.int I.p), some (.int ((compI (16 ^ i) I fs[i]).a)), some (.int I.q), some (.int ((compI (16 ^ i) I fs[i]).b)), some (.int (16 ^ i)), some (.ref ps[i])] ∧ h = h') (fun J2 hJ2 => ?_) fun α h' pv => ?_
      · try dsimp only [nb, aRet, aRetN, aSeq, aIfS, aNext, aBreak, aCont, aDrop, aAsg, aPar, aAug, aSetL, aSetF, aFld, aVar, aC, aNil, aCons, aTup, aLst, a1, a2, aN, aAndV, aOrV, aNotV, aIf, aAnd, aOr, aNot, aTest, aChn, aCall, aMeth, aMake, aBmL, aRaise, aTryOnly, aTryAs, aFor, aiSeq, aiRng1, aiRng2, aiEnum, agN, agNil, agCons, agTup, aSlL, aRev, aNoPart, aPart, aNewK, aNewT, aLc, aWhile, asB, asT, iA, iA0, subA, modA, modP, divP, divA, powA, ltA, leA, gtA, geA, addA, mulA, negA, lenA, absA, intA, allA, listA, tupleA, one, two, sp0, sp1, sp2, sp3, sp4, sp5, sp6, appendA, reverseA, clearA, wipeA, putFA, List.getElem?_cons_zero, List.getElem?_cons_succ, List.set_cons_zero, List.set_cons_succ, List.cons_append, List.nil_append, List.append_nil]
        exact ix_ref hf rfl ⟨mul_l (nb1 b1), ix_ref hf rfl ⟨mul_l (nb1 b2), ix_ref hf rfl ⟨mul_l (nb1 b3), ix_ref hf rfl ⟨mul_l (nb1 b4), ix_ref hf rfl ⟨mul_l (nb1 b5), hJ2 _ _ ⟨rfl, rfl⟩⟩⟩⟩⟩⟩
      obtain ⟨rfl, rfl⟩ := pv
      try dsimp only [nb, aRet, aRetN, aSeq, aIfS, aNext, aBreak, aCont, aDrop, aAsg, aPar, aAug, aSetL, aSetF, aFld, aVar, aC, aNil, aCons, aTup, aLst, a1, a2, aN, aAndV, aOrV, aNotV, aIf, aAnd, aOr, aNot, aTest, aChn, aCall, aMeth, aMake, aBmL, aRaise, aTryOnly, aTryAs, aFor, aiSeq, aiRng1, aiRng2, aiEnum, agN, agNil, agCons, agTup, aSlL, aRev, aNoPart, aPart, aNewK, aNewT, aLc, aWhile, asB, asT, iA, iA0, subA, modA, modP, divP, divA, powA, ltA, leA, gtA, geA, addA, mulA, negA, lenA, absA, intA, allA, listA, tupleA, one, two, sp0, sp1, sp2, sp3, sp4, sp5, sp6, appendA, reverseA, clearA, wipeA, putFA, List.getElem?_cons_zero, List.getElem?_cons_succ, List.set_cons_zero, List.set_cons_succ, List.cons_append, List.nil_append, List.append_nil]
      refine ix_ref hf rfl ⟨mul_l (nb1 b1), ix_ref hf rfl ⟨mul_l (nb1 b1), ix_ref hf rfl ⟨mul_l (nb1 b2), ix_ref hf rfl ⟨mul_l (nb1 b4), mul_l (by decide), by simp; decide, rfl, rfl, compI (16 ^ i) I fs[i], some (.ref ps[i]), ?_, rfl, ?_⟩⟩⟩⟩
      · have : (16 : Int) * 16 ^ i = 16 ^ (i + 1) := by rw [Int.pow_succ, Int.mul_comm]
        rw [this]; rfl
      · rw [takeS hif, List.map_append, prodR_append, ← eI]
        show _ = comp (mkR (16 ^ i) I) (prodR [ruleF fs[i]])
        rw [prodR_one]
        unfold ruleF
        rw [comp_mkR (pow16 i) (by decide), Int.pow_succ]
    · obtain ⟨I, o7, rfl, rfl, eI⟩ := pv
      rw [List.length_map, hlp, List.take_length] at *
      exact hJ _ _ ⟨I, o7, rfl, rfl, eI⟩
  obtain ⟨I, o7, rfl, rfl, eI⟩ := pv
  try dsimp only [nb, aRet, aRetN, aSeq, aIfS, aNext, aBreak, aCont, aDrop, aAsg, aPar, aAug, aSetL, aSetF, aFld, aVar, aC, aNil, aCons, aTup, aLst, a1, a2, aN, aAndV, aOrV, aNotV, aIf, aAnd, aOr, aNot, aTest, aChn, aCall, aMeth, aMake, aBmL, aRaise, aTryOnly, aTryAs, aFor, aiSeq, aiRng1, aiRng2, aiEnum, agN, agNil, agCons, agTup, aSlL, aRev, aNoPart, aPart, aNewK, aNewT, aLc, aWhile, asB, asT, iA, iA0, subA, modA, modP, divP, divA, powA, ltA, leA, gtA, geA, addA, mulA, negA, lenA, absA, intA, allA, listA, tupleA, one, two, sp0, sp1, sp2, sp3, sp4, sp5, sp6, appendA, reverseA, clearA, wipeA, putFA, List.getElem?_cons_zero, List.getElem?_cons_succ, List.set_cons_zero, List.set_cons_succ, List.cons_append, List.nil_append, List.append_nil, R_law_rule]
  refine ⟨by simp; decide, fun p hp => ⟨p, I, 16 ^ fs.length, rfl, updA_same, rfl, pow16_pos _, pow16_log hl, fun h' e => ?_⟩⟩
  rw [eI]
  exact q h' ((Ext.new hp).trans e)
theorem paired_refl {α : Type} {F : α → α → Prop} : ∀ {l : List α}, (∀ x ∈ l, F x x) → Paired F l l
  | [], _ => .nil
  | a :: l, h => .cons (h a List.mem_cons_self) (paired_refl fun x hx => h x (List.mem_cons_of_mem _ hx))
/-! ### the states -/
def StateAt (h : AH) (s L : Addr) (made : Int) (asked : Bool) (puts : Int) : Prop := ∃ kvs : List (Key × A), h s = some (.dK kvs) ∧ NoTwice kvs ∧ kvs.length ≤ 10 ∧ vl kvs (.inr "row") = some (.ref L) ∧ vl kvs (.inr "made") = some (.int made) ∧ vl kvs (.inr "asked") = some (.bl asked) ∧ vl kvs (.inr "puts") = some (.int puts)
structure PairAt (K : Frg) (h : AH) (k R P s L : Addr) (fs : List IRul) (kvs : List (List Key × A)) (made : Nat) (asked : Bool) (puts : Int) : Prop where
  ka : KeepAt K h k R P (fs.map ruleF) kvs made
  st : StateAt h s L made asked puts
  row : ∃ ps, RowAt h L ps fs
  len : fs.length ≤ 40
  nb : ∀ f ∈ fs, INB 1 f
  RL : R ≠ L
  nt : NoTwice kvs
  kl : kvs.length ≤ made
  ml : made ≤ 90000
  new : asked = false → kvs = [] ∧ puts = -1
  pm : -1 ≤ puts
  tree : ∀ H, IsH fs.length H → closed fs.length (hasK kvs) H 0 ∧ CacheOk (fs.map ruleF) kvs H ∧ (0 ≤ puts → (miss fs.length (hasK kvs) H 0 : Int) ≤ puts * H)
theorem StateAt.get {h : AH} {s L : Addr} {made puts : Int} {asked : Bool} (a : StateAt h s L made asked puts) : dgA h (.ref s) (.str "row") = some (some (.ref L)) ∧ dgA h (.ref s) (.str "made") = some (some (.int made)) ∧ dgA h (.ref s) (.str "asked") = some (some (.bl asked)) ∧ dgA h (.ref s) (.str "puts") = some (some (.int puts)) := by
  obtain ⟨kvs, e, nt, l, h1, h2, h3, h4⟩ := a
  have one : ∀ x : Str, dgA h (.ref s) (.str x) = some (vl kvs (.inr x)) := fun x => by
    simp only [dgA]
    rw [e]
    rfl
  exact ⟨by rw [one, h1], by rw [one, h2], by rw [one, h3], by rw [one, h4]⟩
theorem StateAt.up {h h' : AH} {s L : Addr} {made puts : Int} {asked : Bool} (x : Ext h h') (a : StateAt h s L made asked puts) : StateAt h' s L made asked puts := let ⟨kvs, e, r⟩ := a; ⟨kvs, x _ _ e, r⟩
theorem RowAt.up {h h' : AH} {L : Addr} {ps : List Addr} {fs : List IRul} (x : Ext h h') (a : RowAt h L ps fs) : RowAt h' L ps fs := ⟨x _ _ a.1, Paired.mapP a.2 fun _ _ z => x _ _ z⟩
theorem PairAt.up {K : Frg} {h h' : AH} {k R P s L : Addr} {fs : List IRul} {kvs : List (List Key × A)} {made : Nat} {asked : Bool} {puts : Int} (x : Ext h h') (a : PairAt K h k R P s L fs kvs made asked puts) : PairAt K h' k R P s L fs kvs made asked puts :=
  { a with ka := a.ka.up x, st := a.st.up x, row := let ⟨ps, r⟩ := a.row; ⟨ps, r.up x⟩ }
def R_law_still (K : Frg) : Sp2 := fun x y h Q _ => ∃ k R P s L fs kvs made asked puts, x = .ref k ∧ y = .ref s ∧ PairAt K h k R P s L fs kvs made asked puts ∧ ∀ h', Ext h h' → Q (.bl true) h'
def R_law_whole (K : Frg) : Sp2 := fun x y h Q _ => ∃ k R P s L fs kvs made asked puts, x = .ref k ∧ y = .ref s ∧ PairAt K h k R P s L fs kvs made asked puts ∧ made + 64 ≤ 90000 ∧
  ∀ kvs' made' h', PairAt K h' k R P s L fs kvs' made' true 0 → made' ≤ made + 64 → Fx (fun p => p = k ∨ p = P ∨ p = s) h h' → Q (.bl true) h'
abbrev sp_law_still (K : Frg) : ASp := sp2 (R_law_still K)
def t_law_still (K : Frg) : ATS := (aSeq (aAsg (aDGet (aVar 1) (aC (.str "row"))) (agN 2))
  (aSeq (aAsg (aLst (aCons (aMeth (c_Keeper K) "many" (sp_Keeper_many K) [] (aVar 0) aNil) (aCons (aMeth (c_Keeper K) "height" (sp_Keeper_height K) [] (aVar 0) aNil) (aCons (aMeth (c_Keeper K) "made" (sp_Keeper_made K) [] (aVar 0) aNil) aNil)))) (agN 3))
  (aSeq (aIfS (aTest (a2 (eqA true) (aLc (aiSeq (aVar 3)) (agN 5) (aOr (aNot (aTest (aN (isiA K) (aCons (aVar 5) (aCons (aC (.ty "int")) aNil))))) (aTest (aN (isiA K) (aCons (aVar 5) (aCons (aC (.ty "bool")) aNil))))) (aVar 5) [5]) (aLst aNil)))
  (aRet (aC (.bl false)))
  aNext)
  (aSeq (aIfS (aTest (a2 (eqA true) (aVar 3) (aLst (aCons (aN lenA (aCons (aVar 2) aNil)) (aCons (aCall (sp_law_height K) [] (aCons (aN lenA (aCons (aVar 2) aNil)) aNil)) (aCons (aDGet (aVar 1) (aC (.str "made"))) aNil))))))
  (aRet (aC (.bl false)))
  aNext)
  (aSeq (aAsg (aLc (aiRng1 (aCons (aN lenA (aCons (aVar 2) aNil)) aNil)) (agN 6) aYes (aMeth (c_Keeper K) "rule_at" (sp_Keeper_rule_at K) [] (aVar 0) (aCons (aVar 6) aNil)) [6]) (agN 4))
  (aRet (aAndV (a2 (eqA false) (aVar 4) (aLc (aiSeq (aVar 2)) (agN 7) aYes (aCall (sp_law_rule K) [] (aCons (aVar 7) (aCons (aC (.int 16)) aNil))) [7])) (a2 (eqA false) (aMeth (c_Keeper K) "made" (sp_Keeper_made K) [] (aVar 0) aNil) (aDGet (aVar 1) (aC (.str "made")))))))))))
abbrev sp_law_whole (K : Frg) : ASp := sp2 (R_law_whole K)
def t_law_whole (K : Frg) : ATS := (aSeq (aAsg (aDGet (aVar 1) (aC (.str "row"))) (agN 2))
  (aSeq (aAsg (aMeth (c_Keeper K) "whole" (sp_Keeper_whole K) [] (aVar 0) aNil) (agN 3))
  (aSeq (aAsg (a2 subA (aMeth (c_Keeper K) "made" (sp_Keeper_made K) [] (aVar 0) aNil) (aDGet (aVar 1) (aC (.str "made")))) (agN 4))
  (aSeq (aAsg (aN maxA (aCons (aC (.int 0)) (aCons (a2 subA (aN lenA (aCons (aVar 2) aNil)) (aC (.int 1))) aNil))) (agN 5))
  (aSeq (aIfS (aTest (a2 geA (aDGet (aVar 1) (aC (.str "puts"))) (aC (.int 0))))
  (aAsg (aN minA (aCons (aVar 5) (aCons (a2 mulA (aDGet (aVar 1) (aC (.str "puts"))) (aCall (sp_law_height K) [] (aCons (aN lenA (aCons (aVar 2) aNil)) aNil))) aNil))) (agN 5))
  aNext)
  (aSeq (aIfS (aOr (aNot (aTest (aChn leA leA (aC (.int 0)) (aVar 4) (aVar 5)))) (aAnd (aNot (aTest (aDGet (aVar 1) (aC (.str "asked"))))) (aTest (a2 (eqA true) (aVar 4) (aVar 5)))))
  (aRet (aC (.bl false)))
  aNext)
  (aSeq (aDPut (aVar 1) (aC (.str "made")) (a2 addA (aDGet (aVar 1) (aC (.str "made"))) (aVar 4)))
  (aSeq (aDPut (aVar 1) (aC (.str "asked")) (aC (.bl true)))
  (aSeq (aDPut (aVar 1) (aC (.str "puts")) (aC (.int 0)))
  (aRet (aAndV (aN (isiA K) (aCons (aVar 3) (aCons (aC (.ty "tuple")) aNil))) (a2 (eqA false) (aVar 3) (aCall (sp_law_product K) [] (aCons (aVar 2) aNil))))))))))))))

theorem rd_law_still {K : Frg} (T : TK K) {x0 x1 : A} {h : AH} {Q : AVK} {E : AXK} (hR : R_law_still K x0 x1 h Q E) : t_law_still K { nx := fun _ h' => Q .non h', rt := Q, ex := fun c _ h' => E c h' } [some x0, some x1, none, none, none, none, none, none] h := by
  obtain ⟨k, R, P, s, L, fs, kvs, made, asked, puts, rfl, rfl, pa, q⟩ := hR
  obtain ⟨ps, eL, pf⟩ := pa.row
  have hlp : ps.length = fs.length := pf.length
  obtain ⟨g1, g2, _, _⟩ := pa.st.get
  obtain ⟨H, hH⟩ := IsH.ex fs.length
  have hlen := pa.len
  unfold t_law_still
  refine seq_cut (fun α h' => α = [some (.ref k), some (.ref s), some (.ref L), none, none, none, none, none] ∧ h = h') (fun J hJ => ?_) fun α h' pv => ?_
  · try dsimp only [nb, aRet, aRetN, aSeq, aIfS, aNext, aBreak, aCont, aDrop, aAsg, aPar, aAug, aSetL, aSetF, aFld, aVar, aC, aNil, aCons, aTup, aLst, a1, a2, aN, aAndV, aOrV, aNotV, aIf, aAnd, aOr, aNot, aTest, aChn, aCall, aMeth, aMake, aBmL, aRaise, aTryOnly, aTryAs, aFor, aiSeq, aiRng1, aiRng2, aiEnum, agN, agNil, agCons, agTup, aSlL, aRev, aNoPart, aPart, aNewK, aNewT, aLc, aWhile, asB, asT, iA, iA0, subA, modA, modP, divP, divA, powA, ltA, leA, gtA, geA, addA, mulA, negA, lenA, absA, intA, allA, listA, tupleA, one, two, sp0, sp1, sp2, sp3, sp4, sp5, sp6, appendA, reverseA, clearA, wipeA, putFA, List.getElem?_cons_zero, List.getElem?_cons_succ, List.set_cons_zero, List.set_cons_succ, List.cons_append, List.nil_append, List.append_nil, aDGet]
    exact ⟨_, g1, hJ _ _ ⟨rfl, rfl⟩⟩
  obtain ⟨rfl, rfl⟩ := pv
  refine seq_cut (fun α h' => ∃ D, α = [some (.ref k), some (.ref s), some (.ref L), some (.ref D), none, none, none, none] ∧ Ext h h' ∧ h' D = some (.lst [.int (fs.length : Int), .int (H : Int), .int (made : Int)])) (fun J hJ => ?_) fun α h' pv => ?_
  · try dsimp only [nb, aRet, aRetN, aSeq, aIfS, aNext, aBreak, aCont, aDrop, aAsg, aPar, aAug, aSetL, aSetF, aFld, aVar, aC, aNil, aCons, aTup, aLst, a1, a2, aN, aAndV, aOrV, aNotV, aIf, aAnd, aOr, aNot, aTest, aChn, aCall, aMeth, aMake, aBmL, aRaise, aTryOnly, aTryAs, aFor, aiSeq, aiRng1, aiRng2, aiEnum, agN, agNil, agCons, agTup, aSlL, aRev, aNoPart, aPart, aNewK, aNewT, aLc, aWhile, asB, asT, iA, iA0, subA, modA, modP, divP, divA, powA, ltA, leA, gtA, geA, addA, mulA, negA, lenA, absA, intA, allA, listA, tupleA, one, two, sp0, sp1, sp2, sp3, sp4, sp5, sp6, appendA, reverseA, clearA, wipeA, putFA, List.getElem?_cons_zero, List.getElem?_cons_succ, List.set_cons_zero, List.set_cons_succ, List.cons_append, List.nil_append, List.append_nil, R_Keeper_many, R_Keeper_height, R_Keeper_made]
    refine ⟨_, pa.ka.k, rfl, _, _, _, _, _, _, rfl, pa.ka, _, pa.ka.k, rfl, _, _, _, _, _, _, rfl, pa.ka, by rw [List.length_map]; omega, fun j hj => ⟨_, pa.ka.k, rfl, _, _, _, _, _, _, rfl, pa.ka, by simp; decide, fun D hD => ?_⟩⟩
    rw [List.length_map] at *
    have := hj.uniq hH
    subst this
    exact hJ _ _ ⟨D, rfl, Ext.new hD, updA_same⟩
  obtain ⟨D, rfl, x1, eD⟩ := pv
  refine seq_cut (fun α h' => ∃ o5, α = [some (.ref k), some (.ref s), some (.ref L), some (.ref D), none, o5, none, none] ∧ Ext h h' ∧ h' D = some (.lst [.int (fs.length : Int), .int (H : Int), .int (made : Int)])) (fun J hJ => ?_) fun α h' pv => ?_
  · dsimp only [aIfS]
    try dsimp only [nb, aRet, aRetN, aNext, aBreak, aCont, aDrop, aAsg, aPar, aAug, aSetL, aSetF, aFld, aVar, aC, aNil, aCons, aTup, aLst, a1, a2, aN, aAndV, aOrV, aNotV, aIf, aAnd, aOr, aNot, aTest, aChn, aCall, aMeth, aMake, aBmL, aRaise, aTryOnly, aTryAs, aiSeq, aiRng1, aiRng2, aiEnum, agN, agNil, agCons, agTup, aSlL, aRev, aNoPart, aPart, aNewK, aNewT, aLc, asB, asT, iA, iA0, subA, modA, modP, divP, divA, powA, ltA, leA, gtA, geA, addA, mulA, negA, lenA, absA, intA, allA, listA, tupleA, one, two, sp0, sp1, sp2, sp3, sp4, sp5, sp6, appendA, reverseA, clearA, wipeA, putFA, List.getElem?_cons_zero, List.getElem?_cons_succ, List.set_cons_zero, List.set_cons_succ, List.cons_append, List.nil_append, List.append_nil]
    refine lc_none (itA_ref.mpr eD) (fun i hi h2 C ex hC => ?_) fun D2 h2 hD2 ex eD2 => ⟨by decide, fun p hp => eqA_lists (n := 1) ((Ext.new hp) _ _ eD2) updA_same .nil (by decide) (ifF (hJ _ _ ⟨none, rfl, (x1.trans ex).trans (Ext.new hp), ((Ext.new hp) _ _ (ex _ _ eD))⟩))⟩
    have one : ∀ z : Int, agN 5 (.int z) (wipeA [some (A.ref k), some (.ref s), some (.ref L), some (.ref D), none, none, none, none] [5]) h2 fun α2 h3 => aOr (aNot (aTest (aN (isiA K) (aCons (aVar 5) (aCons (aC (.ty "int")) aNil))))) (aTest (aN (isiA K) (aCons (aVar 5) (aCons (aC (.ty "bool")) aNil)))) α2 h3 (C α2) AE0 := fun z => by
      try dsimp only [nb, aRet, aRetN, aSeq, aIfS, aNext, aBreak, aCont, aDrop, aAsg, aPar, aAug, aSetL, aSetF, aFld, aVar, aC, aNil, aCons, aTup, aLst, a1, a2, aN, aAndV, aOrV, aNotV, aIf, aAnd, aOr, aNot, aTest, aChn, aCall, aMeth, aMake, aBmL, aRaise, aTryOnly, aTryAs, aFor, aiSeq, aiRng1, aiRng2, aiEnum, agN, agNil, agCons, agTup, aSlL, aRev, aNoPart, aPart, aNewK, aNewT, aLc, aWhile, asB, asT, iA, iA0, subA, modA, modP, divP, divA, powA, ltA, leA, gtA, geA, addA, mulA, negA, lenA, absA, intA, allA, listA, tupleA, one, two, sp0, sp1, sp2, sp3, sp4, sp5, sp6, appendA, reverseA, clearA, wipeA, putFA, List.getElem?_cons_zero, List.getElem?_cons_succ, List.set_cons_zero, List.set_cons_succ, List.cons_append, List.nil_append, List.append_nil]
      exact isi_kind rfl (ifF (isi_kind rfl (hC _)))
    have hi3 : i < 3 := hi
    have : i = 0 ∨ i = 1 ∨ i = 2 := by omega
    rcases this with rfl | rfl | rfl <;> exact one _
  obtain ⟨o5, rfl, x1, eD⟩ := pv
  refine seq_cut (fun α h' => α = [some (.ref k), some (.ref s), some (.ref L), some (.ref D), none, o5, none, none] ∧ Ext h h') (fun J hJ => ?_) fun α h' pv => ?_
  · dsimp only [aIfS]
    try dsimp only [nb, aRet, aRetN, aNext, aBreak, aCont, aDrop, aAsg, aPar, aAug, aSetL, aSetF, aFld, aVar, aC, aNil, aCons, aTup, aLst, a1, a2, aN, aAndV, aOrV, aNotV, aIf, aAnd, aOr, aNot, aTest, aChn, aCall, aMeth, aMake, aBmL, aRaise, aTryOnly, aTryAs, aiSeq, aiRng1, aiRng2, aiEnum, agN, agNil, agCons, agTup, aSlL, aRev, aNoPart, aPart, aNewK, aNewT, aLc, asB, asT, iA, iA0, subA, modA, modP, divP, divA, powA, ltA, leA, gtA, geA, addA, mulA, negA, lenA, absA, intA, allA, listA, tupleA, one, two, sp0, sp1, sp2, sp3, sp4, sp5, sp6, appendA, reverseA, clearA, wipeA, putFA, List.getElem?_cons_zero, List.getElem?_cons_succ, List.set_cons_zero, List.set_cons_succ, List.cons_append, List.nil_append, List.append_nil, R_law_height, aDGet]
    refine seqA_it (itA_ref.mpr (x1 _ _ eL)) (seqA_it (itA_ref.mpr (x1 _ _ eL)) ?_)
    rw [List.length_map, hlp]
    refine ⟨_, rfl, by omega, fun j hj => ⟨_, (pa.st.up x1).get.2.1, by simp; decide, fun p hp => ?_⟩⟩
    have := hj.uniq hH
    subst this
    exact eqA_lists (n := 1) ((Ext.new hp) _ _ eD) updA_same (.cons (.inl ⟨rfl, rfl⟩) (.cons (.inl ⟨rfl, rfl⟩) (.cons (.inl ⟨rfl, rfl⟩) .nil))) (by decide) (ifF (hJ _ _ ⟨rfl, x1.trans (Ext.new hp)⟩))
  obtain ⟨rfl, x1⟩ := pv
  have hz : ∀ (rs : List Rul), (List.range rs.length).map (fun i => rulA (rs.getD i idR)) = rs.map rulA := fun rs => range_map_get rulA idR rs
  refine seq_cut (fun α h' => ∃ M, α = [some (.ref k), some (.ref s), some (.ref L), some (.ref D), some (.ref M), o5, none, none] ∧ Ext h h' ∧ h' M = some (.lst ((fs.map ruleF).map rulA))) (fun J hJ => ?_) fun α h' pv => ?_
  · try dsimp only [nb, aRet, aRetN, aSeq, aIfS, aNext, aBreak, aCont, aDrop, aAsg, aPar, aAug, aSetL, aSetF, aFld, aVar, aC, aNil, aCons, aTup, aLst, a1, a2, aN, aAndV, aOrV, aNotV, aIf, aAnd, aOr, aNot, aTest, aChn, aCall, aMeth, aMake, aBmL, aRaise, aTryOnly, aTryAs, aFor, aiSeq, aiRng1, aiRng2, aiEnum, agN, agNil, agCons, agTup, aSlL, aRev, aNoPart, aPart, aNewK, aNewT, aLc, aWhile, asB, asT, iA, iA0, subA, modA, modP, divP, divA, powA, ltA, leA, gtA, geA, addA, mulA, negA, lenA, absA, intA, allA, listA, tupleA, one, two, sp0, sp1, sp2, sp3, sp4, sp5, sp6, appendA, reverseA, clearA, wipeA, putFA, List.getElem?_cons_zero, List.getElem?_cons_succ, List.set_cons_zero, List.set_cons_succ, List.cons_append, List.nil_append, List.append_nil]
    refine seqA_it (itA_ref.mpr (x1 _ _ eL)) ?_
    rw [List.length_map, hlp]
    refine ⟨by omega, fun M hM => ?_⟩
    rw [Int.toNat_natCast]
    refine lc_rmap (fun i => rulA ((fs.map ruleF).getD i idR)) (by omega) hM (fun i hi h2 C ex hC => ?_) fun h2 ex eM => hJ _ _ ⟨M, rfl, x1.trans ex, ?_⟩
    · have kb := pa.ka.up (x1.trans ex)
      try dsimp only [nb, aRet, aRetN, aSeq, aIfS, aNext, aBreak, aCont, aDrop, aAsg, aPar, aAug, aSetL, aSetF, aFld, aVar, aC, aNil, aCons, aTup, aLst, a1, a2, aN, aAndV, aOrV, aNotV, aIf, aAnd, aOr, aNot, aTest, aChn, aCall, aMeth, aMake, aBmL, aRaise, aTryOnly, aTryAs, aFor, aiSeq, aiRng1, aiRng2, aiEnum, agN, agNil, agCons, agTup, aSlL, aRev, aNoPart, aPart, aNewK, aNewT, aLc, aWhile, asB, asT, iA, iA0, subA, modA, modP, divP, divA, powA, ltA, leA, gtA, geA, addA, mulA, negA, lenA, absA, intA, allA, listA, tupleA, one, two, sp0, sp1, sp2, sp3, sp4, sp5, sp6, appendA, reverseA, clearA, wipeA, putFA, List.getElem?_cons_zero, List.getElem?_cons_succ, List.set_cons_zero, List.set_cons_succ, List.cons_append, List.nil_append, List.append_nil, R_Keeper_rule_at]
      refine ⟨_, kb.k, rfl, _, _, _, _, _, _, _, rfl, rfl, kb, fun z => ?_, fun j hj e => ?_⟩
      · rw [List.length_map] at z; omega
      · have : j = i := by omega
        subst this
        have := hC h2 (Ext.refl h2)
        rw [getD_at _ hj] at this
        exact this
    · rw [eM]
      have := hz (fs.map ruleF)
      rw [List.length_map] at this
      rw [this]
  obtain ⟨M, rfl, x1, eM⟩ := pv
  try dsimp only [nb, aRet, aRetN, aSeq, aIfS, aNext, aBreak, aCont, aDrop, aAsg, aPar, aAug, aSetL, aSetF, aFld, aVar, aC, aNil, aCons, aTup, aLst, a1, a2, aN, aAndV, aOrV, aNotV, aIf, aAnd, aOr, aNot, aTest, aChn, aCall, aMeth, aMake, aBmL, aRaise, aTryOnly, aTryAs, aFor, aiSeq, aiRng1, aiRng2, aiEnum, agN, agNil, agCons, agTup, aSlL, aRev, aNoPart, aPart, aNewK, aNewT, aLc, aWhile, asB, asT, iA, iA0, subA, modA, modP, divP, divA, powA, ltA, leA, gtA, geA, addA, mulA, negA, lenA, absA, intA, allA, listA, tupleA, one, two, sp0, sp1, sp2, sp3, sp4, sp5, sp6, appendA, reverseA, clearA, wipeA, putFA, List.getElem?_cons_zero, List.getElem?_cons_succ, List.set_cons_zero, List.set_cons_succ, List.cons_append, List.nil_append, List.append_nil]
  refine lc_map (fun i => rulA ((fs.map ruleF).getD i idR)) (itA_ref.mpr (x1 _ _ eL)) (by rw [List.length_map]; omega) (fun i hi h2 C ex hC => ?_) fun D2 h2 hD2 ex eD2 => ?_
  · rw [List.length_map] at hi
    have hif : i < fs.length := by rw [← hlp]; exact hi
    rw [List.getElem_map]
    try dsimp only [nb, aRet, aRetN, aSeq, aIfS, aNext, aBreak, aCont, aDrop, aAsg, aPar, aAug, aSetL, aSetF, aFld, aVar, aC, aNil, aCons, aTup, aLst, a1, a2, aN, aAndV, aOrV, aNotV, aIf, aAnd, aOr, aNot, aTest, aChn, aCall, aMeth, aMake, aBmL, aRaise, aTryOnly, aTryAs, aFor, aiSeq, aiRng1, aiRng2, aiEnum, agN, agNil, agCons, agTup, aSlL, aRev, aNoPart, aPart, aNewK, aNewT, aLc, aWhile, asB, asT, iA, iA0, subA, modA, modP, divP, divA, powA, ltA, leA, gtA, geA, addA, mulA, negA, lenA, absA, intA, allA, listA, tupleA, one, two, sp0, sp1, sp2, sp3, sp4, sp5, sp6, appendA, reverseA, clearA, wipeA, putFA, List.getElem?_cons_zero, List.getElem?_cons_succ, List.set_cons_zero, List.set_cons_succ, List.cons_append, List.nil_append, List.append_nil, R_law_rule]
    refine ⟨_, fs[i], 16, rfl, (x1.trans ex) _ _ (Paired.get pf i hi hif), rfl, by decide, by decide, fun h3 e3 => ?_⟩
    have := hC h3 e3
    rw [getD_at _ (by rw [List.length_map]; exact hif), List.getElem_map] at this
    exact this
  · have hzz := hz (fs.map ruleF)
    rw [List.length_map] at hzz
    rw [List.length_map, hlp, hzz] at eD2
    have kb := pa.ka.up (x1.trans ex)
    refine eqA_lists (n := 3) (ex _ _ eM) eD2 (paired_refl fun x hx => ?_) (by decide) (ifT ?_)
    · obtain ⟨r, _, rfl⟩ := List.mem_map.mp hx
      exact .inr (.inr (rul_same (n := 0) r))
    · try dsimp only [nb, aRet, aRetN, aSeq, aIfS, aNext, aBreak, aCont, aDrop, aAsg, aPar, aAug, aSetL, aSetF, aFld, aVar, aC, aNil, aCons, aTup, aLst, a1, a2, aN, aAndV, aOrV, aNotV, aIf, aAnd, aOr, aNot, aTest, aChn, aCall, aMeth, aMake, aBmL, aRaise, aTryOnly, aTryAs, aFor, aiSeq, aiRng1, aiRng2, aiEnum, agN, agNil, agCons, agTup, aSlL, aRev, aNoPart, aPart, aNewK, aNewT, aLc, aWhile, asB, asT, iA, iA0, subA, modA, modP, divP, divA, powA, ltA, leA, gtA, geA, addA, mulA, negA, lenA, absA, intA, allA, listA, tupleA, one, two, sp0, sp1, sp2, sp3, sp4, sp5, sp6, appendA, reverseA, clearA, wipeA, putFA, List.getElem?_cons_zero, List.getElem?_cons_succ, List.set_cons_zero, List.set_cons_succ, List.cons_append, List.nil_append, List.append_nil, R_Keeper_made, aDGet, eqA]
      refine ⟨_, kb.k, rfl, _, _, _, _, _, _, rfl, kb, _, (pa.st.up (x1.trans ex)).get.2.1, ?_⟩
      have : decide ((made : Int) = made) = true := decide_eq_true rfl
      show Q (.bl (decide ((made : Int) = made))) h2
      rw [this]
      exact q h2 (x1.trans ex)
end GL
namespace GL
open PySem PySem.Spec L2 G
theorem rb_rule {f : IRul} (h : INB 1 f) : RB 1 (ruleF f) := ⟨f, rfl, h⟩
theorem isH0 {H : Nat} (h : IsH 0 H) : H = 0 := by
  cases H with
  | zero => rfl
  | succ H => have := h.2 0 (Nat.zero_lt_succ _); omega
theorem hasK_nil : hasK [] = fun _ _ => false := rfl
theorem RowAt.fx {M : Addr → Prop} {h h' : AH} {L : Addr} {ps : List Addr} {fs : List IRul} (f : Fx M h h') (n : ∀ p, M p → ∀ xs, h p ≠ some (.lst xs)) (a : RowAt h L ps fs) : RowAt h' L ps fs :=
  ⟨f _ _ (fun m => n _ m _ a.1) a.1, Paired.mapP a.2 fun p i z => f _ _ (fun m => n _ m _ z) z⟩
theorem StateAt.fx {M : Addr → Prop} {h h' : AH} {s L : Addr} {made puts : Int} {asked : Bool} (f : Fx M h h') (n : ∀ p, M p → ∀ xs, h p ≠ some (.dK xs)) (a : StateAt h s L made asked puts) : StateAt h' s L made asked puts :=
  let ⟨kvs, e, r⟩ := a; ⟨kvs, f _ _ (fun m => n _ m _ e) e, r⟩
theorem KeepAt.notL {K : Frg} {h : AH} {k R P : Addr} {rs : List Rul} {kvs : List (List Key × A)} {n : Nat} (a : KeepAt K h k R P rs kvs n) : ∀ p, (p = k ∨ p = P) → ∀ xs, h p ≠ some (.lst xs) := fun p hp xs e => by
  rcases hp with rfl | rfl
  · rw [a.k] at e; cases e
  · rw [a.p] at e; cases e
theorem KeepAt.notD {K : Frg} {h : AH} {k R P : Addr} {rs : List Rul} {kvs : List (List Key × A)} {n : Nat} (a : KeepAt K h k R P rs kvs n) : ∀ p, (p = k ∨ p = R ∨ p = P) → ∀ xs, h p ≠ some (.dK xs) := fun p hp xs e => by
  rcases hp with rfl | rfl | rfl
  · rw [a.k] at e; cases e
  · rw [a.r] at e; cases e
  · rw [a.p] at e; cases e
theorem pt_len_mem {κ : Type} [DecidableEq κ] {k : κ} {v w : A} : ∀ {kvs : List (κ × A)}, vl kvs k = some w → (pt kvs k v).length = kvs.length
  | [], e => nomatch e
  | p :: r, e => by
    unfold vl at e
    unfold pt
    by_cases h : p.1 = k
    · rw [if_pos h]; rfl
    · rw [if_neg h] at e ⊢
      rw [List.length_cons, List.length_cons, pt_len_mem e]
section
variable {h : AH} {s L : Addr} {made puts : Int} {asked : Bool} {R : Addr → AO → Prop}
theorem StateAt.put1 {kvs : List (Key × A)} {x : Str} {v w : A} (e : h s = some (.dK kvs)) (nt : NoTwice kvs) (l : kvs.length ≤ 10) (ev : vl kvs (.inr x) = some w)
    (k : NoTwice (pt kvs (.inr x) v) → (pt kvs (.inr x) v).length ≤ 10 → (∀ y : Str, vl (pt kvs (.inr x) v) (.inr y) = if (Sum.inr y : Key) = .inr x then some v else vl kvs (.inr y)) → R s (.dK (pt kvs (.inr x) v))) : dpA h (.ref s) (.str x) v R := by
  simp only [dpA]
  rw [e]
  refine ⟨.inr x, rfl, nt, Nat.lt_of_le_of_lt l (by decide), k nt.pt (by rw [pt_len_mem ev]; exact l) fun y => vl_pt _ _ _ _⟩
theorem StateAt.put_made (a : StateAt h s L made asked puts) {m : Int} (k : ∀ o, (∀ h' : AH, h' s = some o → StateAt h' s L m asked puts) → R s o) : dpA h (.ref s) (.str "made") (.int m) R := by
  obtain ⟨kvs, e, nt, l, h1, h2, h3, h4⟩ := a
  refine StateAt.put1 e nt l h2 fun nt' l' g => k _ fun h' e' => ⟨_, e', nt', l', ?_, ?_, ?_, ?_⟩
  · rw [g, if_neg (by decide)]; exact h1
  · rw [g, if_pos rfl]
  · rw [g, if_neg (by decide)]; exact h3
  · rw [g, if_neg (by decide)]; exact h4
theorem StateAt.put_asked (a : StateAt h s L made asked puts) {m : Bool} (k : ∀ o, (∀ h' : AH, h' s = some o → StateAt h' s L made m puts) → R s o) : dpA h (.ref s) (.str "asked") (.bl m) R := by
  obtain ⟨kvs, e, nt, l, h1, h2, h3, h4⟩ := a
  refine StateAt.put1 e nt l h3 fun nt' l' g => k _ fun h' e' => ⟨_, e', nt', l', ?_, ?_, ?_, ?_⟩
  · rw [g, if_neg (by decide)]; exact h1
  · rw [g, if_neg (by decide)]; exact h2
  · rw [g, if_pos rfl]
  · rw [g, if_neg (by decide)]; exact h4
theorem StateAt.put_puts (a : StateAt h s L made asked puts) {m : Int} (k : ∀ o, (∀ h' : AH, h' s = some o → StateAt h' s L made asked m) → R s o) : dpA h (.ref s) (.str "puts") (.int m) R := by
  obtain ⟨kvs, e, nt, l, h1, h2, h3, h4⟩ := a
  refine StateAt.put1 e nt l h4 fun nt' l' g => k _ fun h' e' => ⟨_, e', nt', l', ?_, ?_, ?_, ?_⟩
  · rw [g, if_neg (by decide)]; exact h1
  · rw [g, if_neg (by decide)]; exact h2
  · rw [g, if_neg (by decide)]; exact h3
  · rw [g, if_pos rfl]
theorem StateAt.is (a : StateAt h s L made asked puts) : ∃ kvs, h s = some (.dK kvs) := let ⟨kvs, e, _⟩ := a; ⟨kvs, e⟩
end
theorem rd_law_whole {K : Frg} (T : TK K) {x0 x1 : A} {h : AH} {Q : AVK} {E : AXK} (hR : R_law_whole K x0 x1 h Q E) : t_law_whole K { nx := fun _ h' => Q .non h', rt := Q, ex := fun c _ h' => E c h' } [some x0, some x1, none, none, none, none] h := by
  obtain ⟨k, R, P, s, L, fs, kvs, made, asked, puts, rfl, rfl, pa, hm, q⟩ := hR
  obtain ⟨ps, row⟩ := pa.row
  have eL := row.1
  have hlp : ps.length = fs.length := row.2.length
  obtain ⟨H, hH⟩ := IsH.ex fs.length
  have hlen := pa.len
  have hH6 := hH.le (by omega)
  obtain ⟨tr1, tr2, tr3⟩ := pa.tree H hH
  generalize hc : miss fs.length (hasK kvs) H 0 = c at tr3
  have cle : c + 1 ≤ fs.length ∨ (fs.length = 0 ∧ c = 0) := by
    by_cases z : fs.length = 0
    · right
      refine ⟨z, ?_⟩
      rw [z] at hH hc
      have := isH0 hH
      subst this
      rw [← hc]; rfl
    · left
      have := miss_le (n := fs.length) (has := hasK kvs) H 0 (by omega)
      omega
  have cnew : asked = false → (c : Int) = if (fs.length : Int) - 1 > 0 then (fs.length : Int) - 1 else 0 := fun z => by
    obtain ⟨k1, _⟩ := pa.new z
    rcases cle with cl | ⟨cl, cz⟩
    · have := miss_all (n := fs.length) H 0 (by omega)
      rw [k1, hasK_nil] at hc
      have := hH.1
      split <;> omega
    · subst cz; split <;> omega
  have notL := pa.ka.notL
  unfold t_law_whole
  refine seq_cut (fun α h' => α = [some (.ref k), some (.ref s), some (.ref L), none, none, none] ∧ h = h') (fun J hJ => ?_) fun α h' pv => ?_
  · try dsimp only [nb, aRet, aRetN, aSeq, aIfS, aNext, aBreak, aCont, aDrop, aAsg, aPar, aAug, aSetL, aSetF, aFld, aVar, aC, aNil, aCons, aTup, aLst, a1, a2, aN, aAndV, aOrV, aNotV, aIf, aAnd, aOr, aNot, aTest, aChn, aCall, aMeth, aMake, aBmL, aRaise, aTryOnly, aTryAs, aFor, aiSeq, aiRng1, aiRng2, aiEnum, agN, agNil, agCons, agTup, aSlL, aRev, aNoPart, aPart, aNewK, aNewT, aLc, aWhile, asB, asT, iA, iA0, subA, modA, modP, divP, divA, powA, ltA, leA, gtA, geA, addA, mulA, negA, lenA, absA, intA, allA, listA, tupleA, one, two, sp0, sp1, sp2, sp3, sp4, sp5, sp6, appendA, reverseA, clearA, wipeA, putFA, List.getElem?_cons_zero, List.getElem?_cons_succ, List.set_cons_zero, List.set_cons_succ, List.cons_append, List.nil_append, List.append_nil, aDGet]
    exact ⟨_, pa.st.get.1, hJ _ _ ⟨rfl, rfl⟩⟩
  obtain ⟨rfl, rfl⟩ := pv
  refine seq_cut (fun α h' => α = [some (.ref k), some (.ref s), some (.ref L), some (rulA (prodR (fs.map ruleF))), none, none] ∧ ∃ kvs', KeepAt K h' k R P (fs.map ruleF) kvs' (made + c) ∧ Fx (fun p => p = k ∨ p = P) h h' ∧ NoTwice kvs' ∧ kvs'.length ≤ made + c ∧ CacheOk (fs.map ruleF) kvs' H ∧ closed fs.length (hasK kvs') H 0 ∧ miss fs.length (hasK kvs') H 0 = 0) (fun J hJ => ?_) fun α h' pv => ?_
  · try dsimp only [nb, aRet, aRetN, aSeq, aIfS, aNext, aBreak, aCont, aDrop, aAsg, aPar, aAug, aSetL, aSetF, aFld, aVar, aC, aNil, aCons, aTup, aLst, a1, a2, aN, aAndV, aOrV, aNotV, aIf, aAnd, aOr, aNot, aTest, aChn, aCall, aMeth, aMake, aBmL, aRaise, aTryOnly, aTryAs, aFor, aiSeq, aiRng1, aiRng2, aiEnum, agN, agNil, agCons, agTup, aSlL, aRev, aNoPart, aPart, aNewK, aNewT, aLc, aWhile, asB, asT, iA, iA0, subA, modA, modP, divP, divA, powA, ltA, leA, gtA, geA, addA, mulA, negA, lenA, absA, intA, allA, listA, tupleA, one, two, sp0, sp1, sp2, sp3, sp4, sp5, sp6, appendA, reverseA, clearA, wipeA, putFA, List.getElem?_cons_zero, List.getElem?_cons_succ, List.set_cons_zero, List.set_cons_succ, List.cons_append, List.nil_append, List.append_nil, R_Keeper_whole]
    have ml := pa.ml
    refine ⟨_, pa.ka.k, rfl, k, R, P, H, made, _, kvs, rfl, pa.ka, by rw [List.length_map]; omega, fun r hr => ?_, by rw [List.length_map]; exact hH, by rw [List.length_map]; exact tr1, tr2, pa.nt, pa.kl, by rw [List.length_map, hc]; omega, fun hn h' ex => ?_, fun hn kvs' h' po => ?_⟩
    · obtain ⟨f, hf, rfl⟩ := List.mem_map.mp hr
      exact rb_rule (pa.nb f hf)
    · have f0 : fs = [] := List.map_eq_nil_iff.mp hn
      have c0 : c = 0 := by rw [f0] at cle; simp at cle; exact cle
      have e : rulA idR = rulA (prodR (fs.map ruleF)) := by rw [f0]; rfl
      rw [e]
      refine hJ _ _ ⟨rfl, kvs, by rw [c0]; exact pa.ka.up ex, ex.fx, pa.nt, by have := pa.kl; omega, tr2, tr1, by rw [hc, c0]⟩
    · have ka := po.ka
      have cl := po.cl
      have ms := po.ms
      have kl := po.kl
      rw [List.length_map] at ka cl ms kl
      rw [hc] at ka kl
      refine hJ _ _ ⟨rfl, kvs', ka, po.fx, po.nt, by have := pa.kl; omega, po.co, cl, ms⟩
  obtain ⟨rfl, kvs', ka', fx, nt', kl', co', cl', ms'⟩ := pv
  have st' := pa.st.fx fx fun p hp => pa.ka.notD p (hp.elim .inl fun z => .inr (.inr z))
  have row' := row.fx fx notL
  refine seq_cut (fun α h2 => α = [some (.ref k), some (.ref s), some (.ref L), some (rulA (prodR (fs.map ruleF))), some (.int (c : Int)), none] ∧ h' = h2) (fun J hJ => ?_) fun α h2 pv => ?_
  · try dsimp only [nb, aRet, aRetN, aSeq, aIfS, aNext, aBreak, aCont, aDrop, aAsg, aPar, aAug, aSetL, aSetF, aFld, aVar, aC, aNil, aCons, aTup, aLst, a1, a2, aN, aAndV, aOrV, aNotV, aIf, aAnd, aOr, aNot, aTest, aChn, aCall, aMeth, aMake, aBmL, aRaise, aTryOnly, aTryAs, aFor, aiSeq, aiRng1, aiRng2, aiEnum, agN, agNil, agCons, agTup, aSlL, aRev, aNoPart, aPart, aNewK, aNewT, aLc, aWhile, asB, asT, iA, iA0, subA, modA, modP, divP, divA, powA, ltA, leA, gtA, geA, addA, mulA, negA, lenA, absA, intA, allA, listA, tupleA, one, two, sp0, sp1, sp2, sp3, sp4, sp5, sp6, appendA, reverseA, clearA, wipeA, putFA, List.getElem?_cons_zero, List.getElem?_cons_succ, List.set_cons_zero, List.set_cons_succ, List.cons_append, List.nil_append, List.append_nil, R_Keeper_made, aDGet]
    refine ⟨_, ka'.k, rfl, _, _, _, _, _, _, rfl, ka', _, st'.get.2.1, ?_⟩
    try dsimp only [nb, aRet, aRetN, aSeq, aIfS, aNext, aBreak, aCont, aDrop, aAsg, aPar, aAug, aSetL, aSetF, aFld, aVar, aC, aNil, aCons, aTup, aLst, a1, a2, aN, aAndV, aOrV, aNotV, aIf, aAnd, aOr, aNot, aTest, aChn, aCall, aMeth, aMake, aBmL, aRaise, aTryOnly, aTryAs, aFor, aiSeq, aiRng1, aiRng2, aiEnum, agN, agNil, agCons, agTup, aSlL, aRev, aNoPart, aPart, aNewK, aNewT, aLc, aWhile, asB, asT, iA, iA0, subA, modA, modP, divP, divA, powA, ltA, leA, gtA, geA, addA, mulA, negA, lenA, absA, intA, allA, listA, tupleA, one, two, sp0, sp1, sp2, sp3, sp4, sp5, sp6, appendA, reverseA, clearA, wipeA, putFA, List.getElem?_cons_zero, List.getElem?_cons_succ, List.set_cons_zero, List.set_cons_succ, List.cons_append, List.nil_append, List.append_nil]
    have : ((made + c : Nat) : Int) - (made : Int) = (c : Int) := by omega
    rw [this]
    exact hJ _ _ ⟨rfl, rfl⟩
  obtain ⟨rfl, rfl⟩ := pv
  refine seq_cut (fun α h2 => α = [some (.ref k), some (.ref s), some (.ref L), some (rulA (prodR (fs.map ruleF))), some (.int (c : Int)), some (.int (if (fs.length : Int) - 1 > 0 then (fs.length : Int) - 1 else 0))] ∧ h' = h2) (fun J hJ => ?_) fun α h2 pv => ?_
  · try dsimp only [nb, aRet, aRetN, aSeq, aIfS, aNext, aBreak, aCont, aDrop, aAsg, aPar, aAug, aSetL, aSetF, aFld, aVar, aC, aNil, aCons, aTup, aLst, a1, a2, aN, aAndV, aOrV, aNotV, aIf, aAnd, aOr, aNot, aTest, aChn, aCall, aMeth, aMake, aBmL, aRaise, aTryOnly, aTryAs, aFor, aiSeq, aiRng1, aiRng2, aiEnum, agN, agNil, agCons, agTup, aSlL, aRev, aNoPart, aPart, aNewK, aNewT, aLc, aWhile, asB, asT, iA, iA0, subA, modA, modP, divP, divA, powA, ltA, leA, gtA, geA, addA, mulA, negA, lenA, absA, intA, allA, listA, tupleA, one, two, sp0, sp1, sp2, sp3, sp4, sp5, sp6, appendA, reverseA, clearA, wipeA, putFA, List.getElem?_cons_zero, List.getElem?_cons_succ, List.set_cons_zero, List.set_cons_succ, List.cons_append, List.nil_append, List.append_nil, maxA]
    refine seqA_it (itA_ref.mpr row'.1) ?_
    rw [List.length_map, hlp]
    exact hJ _ _ ⟨rfl, rfl⟩
  obtain ⟨rfl, rfl⟩ := pv
  refine seq_cut (fun α h2 => ∃ most : Int, α = [some (.ref k), some (.ref s), some (.ref L), some (rulA (prodR (fs.map ruleF))), some (.int (c : Int)), some (.int most)] ∧ h' = h2 ∧ (c : Int) ≤ most ∧ (asked = false → (c : Int) = most)) (fun J hJ => ?_) fun α h2 pv => ?_
  · dsimp only [aIfS]
    try dsimp only [nb, aRet, aRetN, aNext, aBreak, aCont, aDrop, aAsg, aPar, aAug, aSetL, aSetF, aFld, aVar, aC, aNil, aCons, aTup, aLst, a1, a2, aN, aAndV, aOrV, aNotV, aIf, aAnd, aOr, aNot, aTest, aChn, aCall, aMeth, aMake, aBmL, aRaise, aTryOnly, aTryAs, aiSeq, aiRng1, aiRng2, aiEnum, agN, agNil, agCons, agTup, aSlL, aRev, aNoPart, aPart, aNewK, aNewT, aLc, asB, asT, iA, iA0, subA, modA, modP, divP, divA, powA, ltA, leA, gtA, geA, addA, mulA, negA, lenA, absA, intA, allA, listA, tupleA, one, two, sp0, sp1, sp2, sp3, sp4, sp5, sp6, appendA, reverseA, clearA, wipeA, putFA, List.getElem?_cons_zero, List.getElem?_cons_succ, List.set_cons_zero, List.set_cons_succ, List.cons_append, List.nil_append, List.append_nil, aDGet, R_law_height, minA]
    refine ⟨_, st'.get.2.2.2, ifd (fun hp => ?_) fun hp => hJ _ _ ⟨_, rfl, rfl, ?_, cnew⟩⟩
    · refine ⟨_, st'.get.2.2.2, seqA_it (itA_ref.mpr row'.1) ?_⟩
      rw [List.length_map, hlp]
      refine ⟨_, rfl, by omega, fun j hj => ?_⟩
      have := hj.uniq hH
      subst this
      refine ⟨mul_r (by omega), hJ _ _ ⟨_, rfl, rfl, ?_, fun z => ?_⟩⟩
      · have := tr3 hp
        split <;> split <;> omega
      · have := (pa.new z).2; omega
    · split <;> omega
  obtain ⟨most, rfl, rfl, cm, cn⟩ := pv
  refine seq_cut (fun α h2 => α = [some (.ref k), some (.ref s), some (.ref L), some (rulA (prodR (fs.map ruleF))), some (.int (c : Int)), some (.int most)] ∧ h' = h2) (fun J hJ => ?_) fun α h2 pv => ?_
  · dsimp only [aIfS]
    try dsimp only [nb, aRet, aRetN, aNext, aBreak, aCont, aDrop, aAsg, aPar, aAug, aSetL, aSetF, aFld, aVar, aC, aNil, aCons, aTup, aLst, a1, a2, aN, aAndV, aOrV, aNotV, aIf, aAnd, aOr, aNot, aTest, aChn, aCall, aMeth, aMake, aBmL, aRaise, aTryOnly, aTryAs, aiSeq, aiRng1, aiRng2, aiEnum, agN, agNil, agCons, agTup, aSlL, aRev, aNoPart, aPart, aNewK, aNewT, aLc, asB, asT, iA, iA0, subA, modA, modP, divP, divA, powA, ltA, leA, gtA, geA, addA, mulA, negA, lenA, absA, intA, allA, listA, tupleA, one, two, sp0, sp1, sp2, sp3, sp4, sp5, sp6, appendA, reverseA, clearA, wipeA, putFA, List.getElem?_cons_zero, List.getElem?_cons_succ, List.set_cons_zero, List.set_cons_succ, List.cons_append, List.nil_append, List.append_nil, aDGet, eqA]
    refine ifd (fun _ => ifnd (fun z => absurd cm z) fun _ => ⟨_, st'.get.2.2.1, ?_⟩) fun z => absurd (by omega) z
    try dsimp only [nb, aRet, aRetN, aSeq, aIfS, aNext, aBreak, aCont, aDrop, aAsg, aPar, aAug, aSetL, aSetF, aFld, aVar, aC, aNil, aCons, aTup, aLst, a1, a2, aN, aAndV, aOrV, aNotV, aIf, aAnd, aOr, aNot, aTest, aChn, aCall, aMeth, aMake, aBmL, aRaise, aTryOnly, aTryAs, aFor, aiSeq, aiRng1, aiRng2, aiEnum, agN, agNil, agCons, agTup, aSlL, aRev, aNoPart, aPart, aNewK, aNewT, aLc, aWhile, asB, asT, iA, iA0, subA, modA, modP, divP, divA, powA, ltA, leA, gtA, geA, addA, mulA, negA, lenA, absA, intA, allA, listA, tupleA, one, two, sp0, sp1, sp2, sp3, sp4, sp5, sp6, appendA, reverseA, clearA, wipeA, putFA, List.getElem?_cons_zero, List.getElem?_cons_succ, List.set_cons_zero, List.set_cons_succ, List.cons_append, List.nil_append, List.append_nil]
    cases asked with
    | false => exact ifT (ifnd (fun z => absurd (cn rfl) z) fun _ => hJ _ _ ⟨rfl, rfl⟩)
    | true => exact ifF (ifF (hJ _ _ ⟨rfl, rfl⟩))
  obtain ⟨rfl, rfl⟩ := pv
  obtain ⟨skvs, es0⟩ := pa.st.is
  have nsk : s ≠ k := fun z => by subst z; rw [pa.ka.k] at es0; cases es0
  have nsP : s ≠ P := fun z => by subst z; rw [pa.ka.p] at es0; cases es0
  have nsR : s ≠ R := fun z => by subst z; rw [pa.ka.r] at es0; cases es0
  -- the state written
  have keepU : ∀ (h2 : AH) (o : AO), KeepAt K h2 k R P (fs.map ruleF) kvs' (made + c) → KeepAt K (updA h2 s o) k R P (fs.map ruleF) kvs' (made + c) := fun h2 o a => ⟨by rw [updA_ne nsk.symm]; exact a.k, by rw [updA_ne nsR.symm]; exact a.r, by rw [updA_ne nsP.symm]; exact a.p⟩
  have rowU : ∀ (h2 : AH) (o : AO), (∃ x, h2 s = some (.dK x)) → RowAt h2 L ps fs → RowAt (updA h2 s o) L ps fs := fun h2 o ⟨x, e⟩ a => a.fx (M := fun p => p = s) (Fx.wr rfl) fun p hp xs z => by subst hp; rw [e] at z; cases z
  try dsimp only [nb, aRet, aRetN, aSeq, aIfS, aNext, aBreak, aCont, aDrop, aAsg, aPar, aAug, aSetL, aSetF, aFld, aVar, aC, aNil, aCons, aTup, aLst, a1, a2, aN, aAndV, aOrV, aNotV, aIf, aAnd, aOr, aNot, aTest, aChn, aCall, aMeth, aMake, aBmL, aRaise, aTryOnly, aTryAs, aFor, aiSeq, aiRng1, aiRng2, aiEnum, agN, agNil, agCons, agTup, aSlL, aRev, aNoPart, aPart, aNewK, aNewT, aLc, aWhile, asB, asT, iA, iA0, subA, modA, modP, divP, divA, powA, ltA, leA, gtA, geA, addA, mulA, negA, lenA, absA, intA, allA, listA, tupleA, one, two, sp0, sp1, sp2, sp3, sp4, sp5, sp6, appendA, reverseA, clearA, wipeA, putFA, List.getElem?_cons_zero, List.getElem?_cons_succ, List.set_cons_zero, List.set_cons_succ, List.cons_append, List.nil_append, List.append_nil, aDPut, aDGet]
  refine ⟨_, st'.get.2.1, ?_⟩
  refine st'.put_made fun o1 k1 => ?_
  have st1 := k1 (updA h' s o1) updA_same
  refine st1.put_asked fun o2 k2 => ?_
  have st2 := k2 (updA (updA h' s o1) s o2) updA_same
  refine st2.put_puts fun o3 k3 => ?_
  have st3 := k3 (updA (updA (updA h' s o1) s o2) s o3) updA_same
  have ka3 := keepU _ o3 (keepU _ o2 (keepU _ o1 ka'))
  have row3 := rowU _ o3 st2.is (rowU _ o2 st1.is (rowU _ o1 st'.is row'))
  refine isi_kind rfl (ifT ?_)
  refine ⟨L, ps, fs, rfl, row3, by omega, pa.nb, fun h4 x34 => eqA_rul ?_⟩
  have ml := pa.ml
  refine q kvs' (made + c) h4 (PairAt.up x34 ?_) (by omega) ?_
  · have em : ((made : Int) + (c : Int)) = ((made + c : Nat) : Int) := by omega
    rw [em] at st3
    refine { ka := ka3, st := st3, row := ⟨ps, row3⟩, len := pa.len, nb := pa.nb, RL := pa.RL, nt := nt', kl := kl', ml := by omega, new := (fun z => nomatch z), pm := by decide, tree := fun H2 hH2 => ?_ }
    have := hH2.uniq hH
    subst this
    exact ⟨cl', co', fun _ => by rw [ms']; omega⟩
  · refine Fx.trans ((fx.sub fun p z => z.elim .inl fun z => .inr (.inl z)).trans ?_) x34.fx
    exact Fx.wr' (.inl (.inr (.inr rfl))) (Fx.wr' (.inl (.inr (.inr rfl))) (Fx.wr (.inr (.inr rfl))))
end GL
namespace GL
open PySem PySem.Spec L2 G
def R_law_refused (K : Frg) : Sp3 := fun x y z h Q _ => ∃ k R P s L fs kvs made asked puts w, x = .ref k ∧ y = .ref s ∧ z = .ref w ∧ PairAt K h k R P s L fs kvs made asked puts ∧ WellAt h w ∧ ∀ h', Wl w h h' → Q (.bl true) h'
/-- one deed: the pair goes on -/
structure StepTo (K : Frg) (h h' : AH) (k R P s L w : Addr) (made : Nat) : Prop where
  ex : ∃ P' fs' kvs' made' asked' puts', PairAt K h' k R P' s L fs' kvs' made' asked' puts' ∧ made' ≤ made + 64 ∧ (P' = P ∨ h P' = none)
  fx : Fx (fun p => p = k ∨ p = R ∨ p = P ∨ p = s ∨ p = L ∨ p = w) h h'
def R_law_changed (K : Frg) : Sp4 := fun x y z u h Q _ => ∃ k R P s L fs kvs made asked puts w fork, x = .ref k ∧ y = .ref s ∧ z = .ref w ∧ u = .int fork ∧ PairAt K h k R P s L fs kvs made asked puts ∧ WellAt h w ∧ ∀ h', StepTo K h h' k R P s L w made → Q (.bl true) h'
def R_law_deed (K : Frg) : Sp3 := fun x y z h Q _ => ∃ k R P s L fs kvs made asked puts w, x = .ref k ∧ y = .ref s ∧ z = .ref w ∧ PairAt K h k R P s L fs kvs made asked puts ∧ made + 64 ≤ 90000 ∧ WellAt h w ∧ ∀ h', StepTo K h h' k R P s L w made → Q (.bl true) h'
def R_law (_ : Frg) : Sp1 := fun x h Q _ => ∃ ns : List Int, x = .fls (ns.map A.int) ∧ ∀ h', Q (.bl true) h'
abbrev sp_law_refused (K : Frg) : ASp := sp3 (R_law_refused K)
def t_law_refused (K : Frg) : ATS := (aSeq (aAsg (aCall (sp_law_draw K) [] (aCons (aVar 2) (aCons (aC (.int 4)) aNil))) (agN 3))
  (aSeq (aAsg (a2 addA (aN lenA (aCons (aDGet (aVar 1) (aC (.str "row"))) aNil)) (aN intA (aCons (a2 (eqA false) (aVar 3) (aC (.int 1))) aNil))) (agN 4))
  (aSeq (aAsg (a2 ixA (aLst (aCons (aVar 4) (aCons (a1 negA (aC (.int 1))) (aCons (a2 addA (a2 addA (aVar 4) (aC (.int 1))) (aCall (sp_law_draw K) [] (aCons (aVar 2) (aCons (aC (.int 9)) aNil)))) (aCons (a2 subA (a1 negA (aC (.int 1))) (aCall (sp_law_draw K) [] (aCons (aVar 2) (aCons (aC (.int 50)) aNil)))) aNil))))) (aCall (sp_law_draw K) [] (aCons (aVar 2) (aCons (aC (.int 4)) aNil)))) (agN 5))
  (aSeq (aAsg (aCall (sp_law_rule K) [] (aCons (aCall (sp_law_five K) [] (aCons (aVar 2) aNil)) (aCons (aC (.int 16)) aNil))) (agN 6))
  (aSeq (aAsg (aC (.str "done")) (agN 7))
  (aSeq (aTryAs K (.ref (c_HallError K)) 8
  (aIfS (aTest (a2 (eqA false) (aVar 3) (aC (.int 0))))
  (aDrop (aMeth (c_Keeper K) "put_at" (sp_Keeper_put_at K) [] (aVar 0) (aCons (aVar 5) (aCons (aVar 6) aNil))))
  (aIfS (aTest (a2 (eqA false) (aVar 3) (aC (.int 1))))
  (aDrop (aMeth (c_Keeper K) "put_in" (sp_Keeper_put_in K) [] (aVar 0) (aCons (aVar 5) (aCons (aVar 6) aNil))))
  (aIfS (aTest (a2 (eqA false) (aVar 3) (aC (.int 2))))
  (aDrop (aMeth (c_Keeper K) "take_out" (sp_Keeper_take_out K) [] (aVar 0) (aCons (aVar 5) aNil)))
  (aDrop (aMeth (c_Keeper K) "rule_at" (sp_Keeper_rule_at K) [] (aVar 0) (aCons (aVar 5) aNil)))))) (fun a C =>
  (aAsg (a2 ixA (aLst (aCons (aC (.str "other")) (aCons (aC (.str "layer")) aNil))) (aN intA (aCons (aAndV (aN (isEA K C a) (aCons (aVar 8) (aCons (aC (.ref (c_NoLayer K))) aNil))) (aN (isEA K C a) (aCons (aVar 8) (aCons (aC (.ty "ValueError")) aNil)))) aNil))) (agN 7))))
  (aRet (a2 (eqA false) (aVar 7) (aC (.str "layer"))))))))))
abbrev sp_law_changed (K : Frg) : ASp := sp4 (R_law_changed K)
def t_law_changed (K : Frg) : ATS := (aSeq (aAsg (aDGet (aVar 1) (aC (.str "row"))) (agN 4))
  (aSeq (aAsg (aCall (sp_law_five K) [] (aCons (aVar 2) aNil)) (agN 5))
  (aSeq (aIfS (aAnd (aTest (a2 (eqA true) (aVar 4) (aLst aNil))) (aTest (a2 (eqA false) (aCall (sp_law_draw K) [] (aCons (aVar 2) (aCons (aC (.int 3)) aNil))) (aC (.int 0)))))
  (aAsg (a2 ixA (aVar 4) (aCall (sp_law_draw K) [] (aCons (aVar 2) (aCons (aN lenA (aCons (aVar 4) aNil)) aNil)))) (agN 5))
  aNext)
  (aSeq (aAsg (aCall (sp_law_draw K) [] (aCons (aVar 2) (aCons (a2 addA (aN lenA (aCons (aVar 4) aNil)) (aC (.int 1))) aNil))) (agN 6))
  (aSeq (aIfS (aOr (aAnd (aTest (a2 (eqA false) (aVar 3) (aC (.int 3)))) (aTest (a2 ltA (aN lenA (aCons (aVar 4) aNil)) (aC (.int 36))))) (aTest (a2 (eqA false) (aVar 4) (aLst aNil))))
  (aSeq (aDrop (aBmL insertA (aVar 4) (aCons (aVar 6) (aCons (aVar 5) aNil))))
  (aSeq (aDPut (aVar 1) (aC (.str "puts")) (a1 negA (aC (.int 1))))
  (aRet (a2 (isNonA false) (aMeth (c_Keeper K) "put_in" (sp_Keeper_put_in K) [] (aVar 0) (aCons (aVar 6) (aCons (aCall (sp_law_rule K) [] (aCons (aVar 5) (aCons (aC (.int 16)) aNil))) aNil))) (aC .non)))))
  aNext)
  (aSeq (aAsg (a2 modA (aVar 6) (aN lenA (aCons (aVar 4) aNil))) (agN 6))
  (aSeq (aIfS (aTest (a2 (eqA false) (aVar 3) (aC (.int 4))))
  (aSeq (aDrop (aBmL popAtA (aVar 4) (aCons (aVar 6) aNil)))
  (aSeq (aDPut (aVar 1) (aC (.str "puts")) (a1 negA (aC (.int 1))))
  (aRet (a2 (isNonA false) (aMeth (c_Keeper K) "take_out" (sp_Keeper_take_out K) [] (aVar 0) (aCons (aVar 6) aNil)) (aC .non)))))
  aNext)
  (aSeq (aIfS (aTest (a2 (eqA false) (aVar 3) (aC (.int 2))))
  (aAsg (a2 ixA (aVar 4) (aVar 6)) (agN 5))
  aNext)
  (aSeq (aSetL (aVar 4) (aVar 6) (aVar 5))
  (aSeq (aDPut (aVar 1) (aC (.str "puts")) (a2 addA (aDGet (aVar 1) (aC (.str "puts"))) (aN intA (aCons (a2 geA (aDGet (aVar 1) (aC (.str "puts"))) (aC (.int 0))) aNil))))
  (aRet (a2 (isNonA false) (aMeth (c_Keeper K) "put_at" (sp_Keeper_put_at K) [] (aVar 0) (aCons (aVar 6) (aCons (aCall (sp_law_rule K) [] (aCons (aVar 5) (aCons (aC (.int 16)) aNil))) aNil))) (aC .non)))))))))))))
abbrev sp_law_deed (K : Frg) : ASp := sp3 (R_law_deed K)
def t_law_deed (K : Frg) : ATS := (aSeq (aAsg (aCall (sp_law_draw K) [] (aCons (aVar 2) (aCons (aC (.int 11)) aNil))) (agN 3))
  (aSeq (aIfS (aTest (a2 ltA (aVar 3) (aC (.int 6))))
  (aRet (aCall (sp_law_changed K) [] (aCons (aVar 0) (aCons (aVar 1) (aCons (aVar 2) (aCons (a2 modP (aVar 3) (aC (.int 5))) aNil))))))
  aNext)
  (aSeq (aIfS (aTest (a2 ltA (aVar 3) (aC (.int 8))))
  (aRet (aCall (sp_law_refused K) [] (aCons (aVar 0) (aCons (aVar 1) (aCons (aVar 2) aNil)))))
  aNext)
  (aRet (aCall (sp_law_whole K) [] (aCons (aVar 0) (aCons (aVar 1) aNil)))))))
abbrev sp_law (K : Frg) : ASp := sp1 (R_law K)
def t_law (K : Frg) : ATS := (aSeq (aAsg (aCall (sp_law_well K) [] (aCons (aCall (sp_law_cell_at K) [] (aCons (aVar 0) (aCons (aC (.int 0)) aNil))) aNil)) (agN 1))
  (aSeq (aAsg (a2 ixA (aLst (aCons (aCall (sp_law_draw K) [] (aCons (aVar 1) (aCons (aC (.int 10)) aNil))) (aCons (a2 addA (aC (.int 15)) (aCall (sp_law_draw K) [] (aCons (aVar 1) (aCons (aC (.int 3)) aNil)))) (aCons (a2 addA (aC (.int 31)) (aCall (sp_law_draw K) [] (aCons (aVar 1) (aCons (aC (.int 4)) aNil)))) (aCons (aC (.int 4)) aNil))))) (aCall (sp_law_draw K) [] (aCons (aVar 1) (aCons (aC (.int 4)) aNil)))) (agN 2))
  (aSeq (aAsg (aLc (aiRng1 (aCons (aVar 2) aNil)) (agN 10) aYes (aCall (sp_law_five K) [] (aCons (aVar 1) aNil)) [10]) (agN 3))
  (aSeq (aAsg (aLc (aiSeq (aVar 3)) (agN 11) aYes (aCall (sp_law_rule K) [] (aCons (aVar 11) (aCons (aC (.int 16)) aNil))) [11]) (agN 4))
  (aSeq (aAsg (aLst (aCons (aMake (c_Keeper K) (sp_Keeper_init K) [] (aCons (aVar 4) aNil)) (aCons (aMake (c_Keeper K) (sp_Keeper_init K) [] (aCons (aVar 4) aNil)) aNil))) (agN 5))
  (aSeq (aIfS (aTest (a2 (eqA true) (aVar 4) (aLc (aiSeq (aVar 3)) (agN 11) aYes (aCall (sp_law_rule K) [] (aCons (aVar 11) (aCons (aC (.int 16)) aNil))) [11])))
  (aRet (aC (.bl false)))
  aNext)
  (aSeq (aDrop (aBmL clearA (aVar 4) aNil))
  (aSeq (aAsg (aLc (aiRng1 (aCons (aC (.int 2)) aNil)) (agN 10) aYes (aDisp [((aC (.str "row")), (aN listA (aCons (aVar 3) aNil))), ((aC (.str "made")), (aC (.int 0))), ((aC (.str "asked")), (aC (.bl false))), ((aC (.str "puts")), (a1 negA (aC (.int 1))))]) [10]) (agN 6))
  (aSeq (aFor (aiSeq (aSlL (aVar 0) (aPart (aC (.int 1))) (aPart (aC (.int 25))))) (agN 7)
  (aSeq (aAsg (aCall (sp_law_well K) [] (aCons (aVar 7) aNil)) (agN 8))
  (aSeq (aAsg (a2 divP (aCall (sp_law_draw K) [] (aCons (aVar 8) (aCons (aC (.int 3)) aNil))) (aC (.int 2))) (agN 9))
  (aSeq (aIfS (aNot (aTest (aCall (sp_law_deed K) [] (aCons (a2 ixA (aVar 5) (aVar 9)) (aCons (a2 ixA (aVar 6) (aVar 9)) (aCons (aVar 8) aNil))))))
  (aRet (aC (.bl false)))
  aNext)
  (aFor (aiRng1 (aCons (aC (.int 2)) aNil)) (agN 10)
  (aIfS (aNot (aTest (aCall (sp_law_still K) [] (aCons (a2 ixA (aVar 5) (aVar 10)) (aCons (a2 ixA (aVar 6) (aVar 10)) aNil)))))
  (aRet (aC (.bl false)))
  aNext))))))
  (aSeq (aFor (aiSeq (aLst (aCons (aC (.int 0)) (aCons (aC (.int 1)) (aCons (aC (.int 0)) aNil))))) (agN 10)
  (aIfS (aOr (aNot (aTest (aCall (sp_law_whole K) [] (aCons (a2 ixA (aVar 5) (aVar 10)) (aCons (a2 ixA (aVar 6) (aVar 10)) aNil))))) (aNot (aTest (aCall (sp_law_still K) [] (aCons (a2 ixA (aVar 5) (aVar 10)) (aCons (a2 ixA (aVar 6) (aVar 10)) aNil))))))
  (aRet (aC (.bl false)))
  aNext))
  (aRet (aC (.bl true)))))))))))))

theorem well_notL {h : AH} {w p : Addr} {xs : List A} (hw : WellAt h w) (e : h p = some (.lst xs)) (n : ∀ a b c : Int, xs ≠ [.int a, .int b, .int c]) : p ≠ w := fun z => by
  subst z
  obtain ⟨a, b, c, z⟩ := hw
  rw [e] at z
  cases z
  exact n _ _ _ rfl
theorem pair_well {K : Frg} {h : AH} {k R P s L w : Addr} {fs : List IRul} {kvs : List (List Key × A)} {made : Nat} {asked : Bool} {puts : Int} (a : PairAt K h k R P s L fs kvs made asked puts) (hw : WellAt h w) : k ≠ w ∧ R ≠ w ∧ P ≠ w ∧ s ≠ w ∧ L ≠ w := by
  obtain ⟨x, y, z, e⟩ := hw
  obtain ⟨ps, row⟩ := a.row
  obtain ⟨sk, es⟩ := a.st.is
  refine ⟨fun m => ?_, fun m => ?_, fun m => ?_, fun m => ?_, fun m => ?_⟩
  · subst m; rw [a.ka.k] at e; cases e
  · subst m
    have er := a.ka.r
    rw [e] at er
    injection er with er
    injection er with er
    cases fs with
    | nil => cases er
    | cons f fs =>
      rw [List.map_cons, List.map_cons] at er
      injection er with e1 _
      cases e1
  · subst m; rw [a.ka.p] at e; cases e
  · subst m; rw [es] at e; cases e
  · subst m
    have er := row.1
    rw [e] at er
    injection er with er
    injection er with er
    cases ps with
    | nil => cases er
    | cons p ps =>
      rw [List.map_cons] at er
      injection er with e1 _
      cases e1
theorem five_well {h : AH} {w p : Addr} {f : IRul} (hw : WellAt h w) (e : FiveAt h p f) : p ≠ w := well_notL hw e fun a b c z => by
  unfold iA5 at z
  injection z with _ z
  injection z with _ z
  injection z with _ z
  cases z
theorem PairAt.wl {K : Frg} {h h' : AH} {k R P s L w : Addr} {fs : List IRul} {kvs : List (List Key × A)} {made : Nat} {asked : Bool} {puts : Int} (a : PairAt K h k R P s L fs kvs made asked puts) (hw : WellAt h w) (W : Wl w h h') : PairAt K h' k R P s L fs kvs made asked puts := by
  obtain ⟨n1, n2, n3, n4, n5⟩ := pair_well a hw
  obtain ⟨ps, row⟩ := a.row
  obtain ⟨sk, es, sr⟩ := a.st
  exact { a with ka := ⟨W.2 _ _ n1 a.ka.k, W.2 _ _ n2 a.ka.r, W.2 _ _ n3 a.ka.p⟩, st := ⟨sk, W.2 _ _ n4 es, sr⟩, row := ⟨ps, W.2 _ _ n5 row.1, Paired.mapP row.2 fun p f z => W.2 _ _ (five_well hw z) z⟩ }
theorem rd_law_refused {K : Frg} (T : TK K) {x0 x1 x2 : A} {h : AH} {Q : AVK} {E : AXK} (hR : R_law_refused K x0 x1 x2 h Q E) : t_law_refused K { nx := fun _ h' => Q .non h', rt := Q, ex := fun c _ h' => E c h' } [some x0, some x1, some x2, none, none, none, none, none, none] h := by
  obtain ⟨k, R, P, s, L, fs, kvs, made, asked, puts, w, rfl, rfl, rfl, pa, hw, q⟩ := hR
  have hlen := pa.len
  unfold t_law_refused
  refine seq_cut (fun α h' => ∃ fork : Int, α = [some (.ref k), some (.ref s), some (.ref w), some (.int fork), none, none, none, none, none] ∧ Wl w h h') (fun J hJ => ?_) fun α h1 pv => ?_
  · try dsimp only [nb, aRet, aRetN, aSeq, aIfS, aNext, aBreak, aCont, aDrop, aAsg, aPar, aAug, aSetL, aSetF, aFld, aVar, aC, aNil, aCons, aTup, aLst, a1, a2, aN, aAndV, aOrV, aNotV, aIf, aAnd, aOr, aNot, aTest, aChn, aCall, aMeth, aMake, aBmL, aRaise, aTryOnly, aTryAs, aFor, aiSeq, aiRng1, aiRng2, aiEnum, agN, agNil, agCons, agTup, aSlL, aRev, aNoPart, aPart, aNewK, aNewT, aLc, aWhile, asB, asT, iA, iA0, subA, modA, modP, divP, divA, powA, ltA, leA, gtA, geA, addA, mulA, negA, lenA, absA, intA, allA, listA, tupleA, one, two, sp0, sp1, sp2, sp3, sp4, sp5, sp6, appendA, reverseA, clearA, wipeA, putFA, List.getElem?_cons_zero, List.getElem?_cons_succ, List.set_cons_zero, List.set_cons_succ, List.cons_append, List.nil_append, List.append_nil, R_law_draw]
    exact ⟨w, 4, rfl, rfl, by decide, by decide, hw, fun r h2 r0 r1 W => hJ _ _ ⟨r, rfl, W⟩⟩
  obtain ⟨fork, rfl, W⟩ := pv
  have pa1 := pa.wl hw W
  obtain ⟨ps, row⟩ := pa1.row
  have hlp : ps.length = fs.length := row.2.length
  refine seq_cut (fun α h' => α = [some (.ref k), some (.ref s), some (.ref w), some (.int fork), some (.int (fs.length + (if fork = 1 then 1 else 0) : Int)), none, none, none, none] ∧ h1 = h') (fun J hJ => ?_) fun α h' pv => ?_
  · try dsimp only [nb, aRet, aRetN, aSeq, aIfS, aNext, aBreak, aCont, aDrop, aAsg, aPar, aAug, aSetL, aSetF, aFld, aVar, aC, aNil, aCons, aTup, aLst, a1, a2, aN, aAndV, aOrV, aNotV, aIf, aAnd, aOr, aNot, aTest, aChn, aCall, aMeth, aMake, aBmL, aRaise, aTryOnly, aTryAs, aFor, aiSeq, aiRng1, aiRng2, aiEnum, agN, agNil, agCons, agTup, aSlL, aRev, aNoPart, aPart, aNewK, aNewT, aLc, aWhile, asB, asT, iA, iA0, subA, modA, modP, divP, divA, powA, ltA, leA, gtA, geA, addA, mulA, negA, lenA, absA, intA, allA, listA, tupleA, one, two, sp0, sp1, sp2, sp3, sp4, sp5, sp6, appendA, reverseA, clearA, wipeA, putFA, List.getElem?_cons_zero, List.getElem?_cons_succ, List.set_cons_zero, List.set_cons_succ, List.cons_append, List.nil_append, List.append_nil, aDGet, eqA]
    refine ⟨_, pa1.st.get.1, seqA_it (itA_ref.mpr row.1) ?_⟩
    rw [List.length_map, hlp]
    by_cases hf : fork = 1
    · rw [decide_eq_true hf]; rw [if_pos hf] at hJ; exact hJ _ _ ⟨rfl, rfl⟩
    · rw [decide_eq_false hf]; rw [if_neg hf] at hJ; exact hJ _ _ ⟨rfl, rfl⟩
  obtain ⟨rfl, rfl⟩ := pv
  generalize hmany : (fs.length + (if fork = 1 then 1 else 0) : Int) = many
  have hmn : (fs.length : Int) ≤ many ∧ many ≤ 41 ∧ (fork = 1 → many = fs.length + 1) := by
    refine ⟨?_, ?_, fun z => ?_⟩ <;> rw [← hmany]
    · split <;> omega
    · split <;> omega
    · rw [if_pos z]
  refine seq_cut (fun α h' => ∃ at_ : Int, α = [some (.ref k), some (.ref s), some (.ref w), some (.int fork), some (.int many), some (.int at_), none, none, none] ∧ Wl w h h' ∧ (at_ < 0 ∨ many ≤ at_)) (fun J hJ => ?_) fun α h2 pv => ?_
  · try dsimp only [nb, aRet, aRetN, aSeq, aIfS, aNext, aBreak, aCont, aDrop, aAsg, aPar, aAug, aSetL, aSetF, aFld, aVar, aC, aNil, aCons, aTup, aLst, a1, a2, aN, aAndV, aOrV, aNotV, aIf, aAnd, aOr, aNot, aTest, aChn, aCall, aMeth, aMake, aBmL, aRaise, aTryOnly, aTryAs, aFor, aiSeq, aiRng1, aiRng2, aiEnum, agN, agNil, agCons, agTup, aSlL, aRev, aNoPart, aPart, aNewK, aNewT, aLc, aWhile, asB, asT, iA, iA0, subA, modA, modP, divP, divA, powA, ltA, leA, gtA, geA, addA, mulA, negA, lenA, absA, intA, allA, listA, tupleA, one, two, sp0, sp1, sp2, sp3, sp4, sp5, sp6, appendA, reverseA, clearA, wipeA, putFA, List.getElem?_cons_zero, List.getElem?_cons_succ, List.set_cons_zero, List.set_cons_succ, List.cons_append, List.nil_append, List.append_nil, R_law_draw]
    refine ⟨w, 9, rfl, rfl, by decide, by decide, W.1, fun r1 h2 r10 r11 W1 => ⟨w, 50, rfl, rfl, by decide, by decide, W1.1, fun r2 h3 r20 r21 W2 => ⟨by simp; decide, fun p hp => ?_⟩⟩⟩
    have W3 := Wl.ext W2.1 (Ext.new (o := .lst [.int many, .int (-1), .int (many + 1 + r1), .int (-1 - r2)]) hp)
    refine ⟨w, 4, rfl, rfl, by decide, by decide, W3.1, fun r3 h4 r30 r31 W4 => ?_⟩
    have e := W4.2 p _ (well_ne W2.1 hp) updA_same
    have WW := (((W.trans W1).trans W2).trans W3).trans W4
    have : r3 = 0 ∨ r3 = 1 ∨ r3 = 2 ∨ r3 = 3 := by omega
    rcases this with rfl | rfl | rfl | rfl <;> exact ix_ref e rfl (hJ _ _ ⟨_, rfl, WW, by omega⟩)
  obtain ⟨at_, rfl, W2, hat⟩ := pv
  refine seq_cut (fun α h' => ∃ r : Rul, α = [some (.ref k), some (.ref s), some (.ref w), some (.int fork), some (.int many), some (.int at_), some (rulA r), none, none] ∧ Wl w h h') (fun J hJ => ?_) fun α h3 pv => ?_
  · try dsimp only [nb, aRet, aRetN, aSeq, aIfS, aNext, aBreak, aCont, aDrop, aAsg, aPar, aAug, aSetL, aSetF, aFld, aVar, aC, aNil, aCons, aTup, aLst, a1, a2, aN, aAndV, aOrV, aNotV, aIf, aAnd, aOr, aNot, aTest, aChn, aCall, aMeth, aMake, aBmL, aRaise, aTryOnly, aTryAs, aFor, aiSeq, aiRng1, aiRng2, aiEnum, agN, agNil, agCons, agTup, aSlL, aRev, aNoPart, aPart, aNewK, aNewT, aLc, aWhile, asB, asT, iA, iA0, subA, modA, modP, divP, divA, powA, ltA, leA, gtA, geA, addA, mulA, negA, lenA, absA, intA, allA, listA, tupleA, one, two, sp0, sp1, sp2, sp3, sp4, sp5, sp6, appendA, reverseA, clearA, wipeA, putFA, List.getElem?_cons_zero, List.getElem?_cons_succ, List.set_cons_zero, List.set_cons_succ, List.cons_append, List.nil_append, List.append_nil, R_law_five, R_law_rule]
    refine ⟨w, rfl, W2.1, fun p f h3 _ W3 hf _ => ⟨p, f, 16, rfl, hid_ext _ _ hf, rfl, by decide, by decide, fun h4 e4 => hJ _ _ ⟨_, rfl, (W2.trans W3).trans (Wl.ext W3.1 e4)⟩⟩⟩
  obtain ⟨r, rfl, W3⟩ := pv
  have pa3 := pa.wl hw W3
  have ka3 := pa3.ka
  refine seq_cut (fun α h' => α = [some (.ref k), some (.ref s), some (.ref w), some (.int fork), some (.int many), some (.int at_), some (rulA r), some (.str "done"), none] ∧ h3 = h') (fun J hJ => ?_) fun α h' pv => ?_
  · try dsimp only [nb, aRet, aRetN, aSeq, aIfS, aNext, aBreak, aCont, aDrop, aAsg, aPar, aAug, aSetL, aSetF, aFld, aVar, aC, aNil, aCons, aTup, aLst, a1, a2, aN, aAndV, aOrV, aNotV, aIf, aAnd, aOr, aNot, aTest, aChn, aCall, aMeth, aMake, aBmL, aRaise, aTryOnly, aTryAs, aFor, aiSeq, aiRng1, aiRng2, aiEnum, agN, agNil, agCons, agTup, aSlL, aRev, aNoPart, aPart, aNewK, aNewT, aLc, aWhile, asB, asT, iA, iA0, subA, modA, modP, divP, divA, powA, ltA, leA, gtA, geA, addA, mulA, negA, lenA, absA, intA, allA, listA, tupleA, one, two, sp0, sp1, sp2, sp3, sp4, sp5, sp6, appendA, reverseA, clearA, wipeA, putFA, List.getElem?_cons_zero, List.getElem?_cons_succ, List.set_cons_zero, List.set_cons_succ, List.cons_append, List.nil_append, List.append_nil]
    exact hJ _ _ ⟨rfl, rfl⟩
  obtain ⟨rfl, rfl⟩ := pv
  refine seq_cut (fun α h' => ∃ o8, α = [some (.ref k), some (.ref s), some (.ref w), some (.int fork), some (.int many), some (.int at_), some (rulA r), some (.str "layer"), o8] ∧ Wl w h h') (fun J hJ => ?_) fun α h' pv => ?_
  · have caught : ∃ b, PySem.W.exmOne K (.ref (c_NoLayer K)) (.ref (c_HallError K)) = some b ∧
        (b = true → ∃ C, Value.ref (c_NoLayer K) = .ref C ∧ ExcC K C ∧ ∀ a, h3 a = none →
          aAsg (a2 ixA (aLst (aCons (aC (.str "other")) (aCons (aC (.str "layer")) aNil))) (aN intA (aCons (aAndV (aN (isEA K C a) (aCons (aVar 8) (aCons (aC (.ref (c_NoLayer K))) aNil))) (aN (isEA K C a) (aCons (aVar 8) (aCons (aC (.ty "ValueError")) aNil)))) aNil))) (agN 7)
            { nx := fun α2 h2 => J (α2.set 8 none) h2, rt := Q, bk := fun α2 h2 => False, ct := fun α2 h2 => False } ([some (A.ref k), some (.ref s), some (.ref w), some (.int fork), some (.int many), some (.int at_), some (rulA r), some (.str "done"), none].set 8 (some (.ref a))) h3) ∧ (b = false → E (.ref (c_NoLayer K)) h3) := by
      refine ⟨true, T.em_NoLayer_HallError, fun _ => ⟨_, rfl, T.e_NoLayer, fun a ha => ?_⟩, fun z => nomatch z⟩
      try dsimp only [nb, aRet, aRetN, aSeq, aIfS, aNext, aBreak, aCont, aDrop, aAsg, aPar, aAug, aSetL, aSetF, aFld, aVar, aC, aNil, aCons, aTup, aLst, a1, a2, aN, aAndV, aOrV, aNotV, aIf, aAnd, aOr, aNot, aTest, aChn, aCall, aMeth, aMake, aBmL, aRaise, aTryOnly, aTryAs, aFor, aiSeq, aiRng1, aiRng2, aiEnum, agN, agNil, agCons, agTup, aSlL, aRev, aNoPart, aPart, aNewK, aNewT, aLc, aWhile, asB, asT, iA, iA0, subA, modA, modP, divP, divA, powA, ltA, leA, gtA, geA, addA, mulA, negA, lenA, absA, intA, allA, listA, tupleA, one, two, sp0, sp1, sp2, sp3, sp4, sp5, sp6, appendA, reverseA, clearA, wipeA, putFA, List.getElem?_cons_zero, List.getElem?_cons_succ, List.set_cons_zero, List.set_cons_succ, List.cons_append, List.nil_append, List.append_nil]
      refine ⟨by simp; decide, fun p hp => ⟨rfl, rfl, true, kit_refl _, ifT ⟨rfl, rfl, true, T.ki_NoLayer_ValueError, ?_⟩⟩⟩
      try dsimp only [nb, aRet, aRetN, aSeq, aIfS, aNext, aBreak, aCont, aDrop, aAsg, aPar, aAug, aSetL, aSetF, aFld, aVar, aC, aNil, aCons, aTup, aLst, a1, a2, aN, aAndV, aOrV, aNotV, aIf, aAnd, aOr, aNot, aTest, aChn, aCall, aMeth, aMake, aBmL, aRaise, aTryOnly, aTryAs, aFor, aiSeq, aiRng1, aiRng2, aiEnum, agN, agNil, agCons, agTup, aSlL, aRev, aNoPart, aPart, aNewK, aNewT, aLc, aWhile, asB, asT, iA, iA0, subA, modA, modP, divP, divA, powA, ltA, leA, gtA, geA, addA, mulA, negA, lenA, absA, intA, allA, listA, tupleA, one, two, sp0, sp1, sp2, sp3, sp4, sp5, sp6, appendA, reverseA, clearA, wipeA, putFA, List.getElem?_cons_zero, List.getElem?_cons_succ, List.set_cons_zero, List.set_cons_succ, List.cons_append, List.nil_append, List.append_nil]
      exact ix_ref updA_same rfl (hJ _ _ ⟨_, rfl, W3.trans (Wl.ext W3.1 (Ext.new hp))⟩)
    unfold aTryAs
    dsimp only [aIfS]
    try dsimp only [nb, aRet, aRetN, aNext, aBreak, aCont, aDrop, aAsg, aPar, aAug, aSetL, aSetF, aFld, aVar, aC, aNil, aCons, aTup, aLst, a1, a2, aN, aAndV, aOrV, aNotV, aIf, aAnd, aOr, aNot, aTest, aChn, aCall, aMeth, aMake, aBmL, aRaise, aTryOnly, aTryAs, aiSeq, aiRng1, aiRng2, aiEnum, agN, agNil, agCons, agTup, aSlL, aRev, aNoPart, aPart, aNewK, aNewT, aLc, asB, asT, iA, iA0, subA, modA, modP, divP, divA, powA, ltA, leA, gtA, geA, addA, mulA, negA, lenA, absA, intA, allA, listA, tupleA, one, two, sp0, sp1, sp2, sp3, sp4, sp5, sp6, appendA, reverseA, clearA, wipeA, putFA, List.getElem?_cons_zero, List.getElem?_cons_succ, List.set_cons_zero, List.set_cons_succ, List.cons_append, List.nil_append, List.append_nil, eqA, R_Keeper_put_at, R_Keeper_put_in, R_Keeper_take_out, R_Keeper_rule_at]
    have hll : (fs.map ruleF).length = fs.length := List.length_map ruleF
    refine ifd (fun hf => ?_) fun hf => ifd (fun hf1 => ?_) fun hf1 => ifd (fun hf2 => ?_) fun hf2 => ?_
    · refine ⟨_, ka3.k, rfl, k, R, P, _, _, _, at_, r, rfl, rfl, rfl, ka3, by rw [hll]; omega, fun _ => caught, fun j H hj e => ?_⟩
      rw [hll] at hj; omega
    · refine ⟨_, ka3.k, rfl, k, R, P, _, _, _, at_, r, rfl, rfl, rfl, ka3, by rw [hll]; omega, fun _ => caught, fun j hj e => ?_⟩
      have := hmn.2.2 hf1
      rw [hll] at hj; omega
    · refine ⟨_, ka3.k, rfl, k, R, P, _, _, _, at_, rfl, rfl, ka3, by rw [hll]; omega, fun _ => caught, fun j hj e => ?_⟩
      rw [hll] at hj; omega
    · refine ⟨_, ka3.k, rfl, k, R, P, _, _, _, at_, rfl, rfl, ka3, fun _ => caught, fun j hj e => ?_⟩
      rw [hll] at hj; omega
  obtain ⟨o8, rfl, W4⟩ := pv
  try dsimp only [nb, aRet, aRetN, aSeq, aIfS, aNext, aBreak, aCont, aDrop, aAsg, aPar, aAug, aSetL, aSetF, aFld, aVar, aC, aNil, aCons, aTup, aLst, a1, a2, aN, aAndV, aOrV, aNotV, aIf, aAnd, aOr, aNot, aTest, aChn, aCall, aMeth, aMake, aBmL, aRaise, aTryOnly, aTryAs, aFor, aiSeq, aiRng1, aiRng2, aiEnum, agN, agNil, agCons, agTup, aSlL, aRev, aNoPart, aPart, aNewK, aNewT, aLc, aWhile, asB, asT, iA, iA0, subA, modA, modP, divP, divA, powA, ltA, leA, gtA, geA, addA, mulA, negA, lenA, absA, intA, allA, listA, tupleA, one, two, sp0, sp1, sp2, sp3, sp4, sp5, sp6, appendA, reverseA, clearA, wipeA, putFA, List.getElem?_cons_zero, List.getElem?_cons_succ, List.set_cons_zero, List.set_cons_succ, List.cons_append, List.nil_append, List.append_nil, eqA]
  have : decide (Str.ofString "layer" = Str.ofString "layer") = true := decide_eq_true rfl
  rw [this]
  exact q h' W4
end GL
namespace GL
open PySem PySem.Spec L2 G
theorem eqA_int {neg : Bool} {i j : Int} {h : AH} {Q : AVK} (q : Q (.bl (nb neg (decide (i = j)))) h) : eqA neg (.int i) (.int j) h Q := q
theorem tree_nil (n H : Nat) (rs : List Rul) : closed n (hasK []) H 0 ∧ CacheOk rs [] H := ⟨by rw [hasK_nil]; exact closed_none H 0, fun ks v e => nomatch (show (none : Option A) = some v from e)⟩
theorem offs_tree {fs : List IRul} {kvs : List (List Key × A)} {H j : Nat} {r : Rul} (hj : j < fs.length) (hH : IsH fs.length H) (c1 : closed fs.length (hasK kvs) H 0) (c2 : CacheOk (fs.map ruleF) kvs H) :
    closed fs.length (hasK (offs j H kvs)) H 0 ∧ CacheOk ((fs.map ruleF).set j r) (offs j H kvs) H ∧ miss fs.length (hasK (offs j H kvs)) H 0 ≤ miss fs.length (hasK kvs) H 0 + H := by
  have hjH : j < 0 + 2 ^ H := by have := hH.1; omega
  have p := path_in (k := j) (n := fs.length) (has := hasK kvs) H 0 (Nat.dvd_zero _) (Nat.zero_le _) hjH c1
  have cg := miss_congr (n := fs.length) (has := hasK (offs j H kvs)) (has' := pathOff j (hasK kvs)) H 0 fun l i _ _ h3 h4 => by rw [offs_path H kvs l i h3, if_pos h4]
  refine ⟨cg.2.mpr p.2, fun ks v e => ?_, by rw [cg.1]; exact p.1⟩
  obtain ⟨low, i, ek, hd, h1, h2, ev⟩ := c2 ks v (offs_sub H kvs ks v e)
  refine ⟨low, i, ek, hd, h1, h2, ?_⟩
  have out : j < low ∨ low + 2 ^ i ≤ j := by
    by_cases c : j < low ∨ low + 2 ^ i ≤ j
    · exact c
    · exfalso
      have hl : low = j / 2 ^ i * 2 ^ i := by
        obtain ⟨d, hd⟩ := hd
        have : j / 2 ^ i = d := by
          rw [Nat.div_eq_iff (Nat.pow_pos (by decide)), Nat.mul_comm d]
          omega
        rw [this, hd, Nat.mul_comm]
      have ho := offs_path (i := j) H kvs low i h1
      rw [if_pos h2] at ho
      unfold pathOff at ho
      rw [decide_eq_true hl] at ho
      have : hasK (offs j H kvs) low i = true := by unfold hasK; rw [← ek, e]; rfl
      rw [this] at ho
      simp at ho
  rw [sg_set out]
  exact ev
theorem paired_drop {α β : Type} {F : α → β → Prop} {l : List α} {m : List β} (h : Paired F l m) (n : Nat) : Paired F (l.drop n) (m.drop n) := by
  have hl := h.length
  refine Paired.of_get (by rw [List.length_drop, List.length_drop, hl]) fun i h1 h2 => ?_
  rw [List.getElem_drop, List.getElem_drop]
  exact Paired.get h _ _ _
theorem paired_take {α β : Type} {F : α → β → Prop} {l : List α} {m : List β} (h : Paired F l m) (n : Nat) : Paired F (l.take n) (m.take n) := by
  have hl := h.length
  refine Paired.of_get (by rw [List.length_take, List.length_take, hl]) fun i h1 h2 => ?_
  rw [List.getElem_take, List.getElem_take]
  exact Paired.get h _ _ _
theorem paired_app {α β : Type} {F : α → β → Prop} {l l' : List α} {m m' : List β} (h : Paired F l m) (h' : Paired F l' m') : Paired F (l ++ l') (m ++ m') := by
  induction h with
  | nil => exact h'
  | cons a _ ih => exact .cons a ih
theorem paired_erase {α β : Type} {F : α → β → Prop} : ∀ {l : List α} {m : List β} (j : Nat), Paired F l m → Paired F (l.eraseIdx j) (m.eraseIdx j)
  | _, _, _, .nil => .nil
  | _, _, 0, .cons _ t => t
  | _, _, j + 1, .cons a t => .cons a (paired_erase j t)
theorem paired_set {α β : Type} {F : α → β → Prop} {a : α} {b : β} (f : F a b) : ∀ {l : List α} {m : List β} (j : Nat), Paired F l m → Paired F (l.set j a) (m.set j b)
  | _, _, _, .nil => .nil
  | _, _, 0, .cons _ t => .cons f t
  | _, _, j + 1, .cons x t => .cons x (paired_set f j t)
theorem five_ne {h : AH} {p L : Addr} {ps : List Addr} {f : IRul} (e : FiveAt h p f) (eL : h L = some (.lst (ps.map A.ref))) : p ≠ L := fun z => by
  subst z
  unfold FiveAt iA5 at e
  rw [eL] at e
  injection e with e
  injection e with e
  cases ps with
  | nil => cases e
  | cons p ps => injection e with e _; cases e
theorem five_ne_R {h : AH} {p R : Addr} {rs : List Rul} {f : IRul} (e : FiveAt h p f) (eR : h R = some (.lst (rs.map rulA))) : p ≠ R := fun z => by
  subst z
  unfold FiveAt iA5 at e
  rw [eR] at e
  injection e with e
  injection e with e
  cases rs with
  | nil => cases e
  | cons p ps => injection e with e _; cases e
theorem rd_law_changed {K : Frg} (T : TK K) {x0 x1 x2 x3 : A} {h : AH} {Q : AVK} {E : AXK} (hR : R_law_changed K x0 x1 x2 x3 h Q E) : t_law_changed K { nx := fun _ h' => Q .non h', rt := Q, ex := fun c _ h' => E c h' } [some x0, some x1, some x2, some x3, none, none, none] h := by
  obtain ⟨k, R, P, s, L, fs, kvs, made, asked, puts, w, fork, rfl, rfl, rfl, rfl, pa, hw, q⟩ := hR
  have hlen := pa.len
  obtain ⟨n1, n2, n3, n4, n5⟩ := pair_well pa hw
  obtain ⟨H, hH⟩ := IsH.ex fs.length
  unfold t_law_changed
  refine seq_cut (fun α h' => α = [some (.ref k), some (.ref s), some (.ref w), some (.int fork), some (.ref L), none, none] ∧ h = h') (fun J hJ => ?_) fun α h' pv => ?_
  · try dsimp only [nb, aRet, aRetN, aSeq, aIfS, aNext, aBreak, aCont, aDrop, aAsg, aPar, aAug, aSetL, aSetF, aFld, aVar, aC, aNil, aCons, aTup, aLst, a1, a2, aN, aAndV, aOrV, aNotV, aIf, aAnd, aOr, aNot, aTest, aChn, aCall, aMeth, aMake, aBmL, aRaise, aTryOnly, aTryAs, aFor, aiSeq, aiRng1, aiRng2, aiEnum, agN, agNil, agCons, agTup, aSlL, aRev, aNoPart, aPart, aNewK, aNewT, aLc, aWhile, asB, asT, iA, iA0, subA, modA, modP, divP, divA, powA, ltA, leA, gtA, geA, addA, mulA, negA, lenA, absA, intA, allA, listA, tupleA, one, two, sp0, sp1, sp2, sp3, sp4, sp5, sp6, appendA, reverseA, clearA, wipeA, putFA, List.getElem?_cons_zero, List.getElem?_cons_succ, List.set_cons_zero, List.set_cons_succ, List.cons_append, List.nil_append, List.append_nil, aDGet]
    exact ⟨_, pa.st.get.1, hJ _ _ ⟨rfl, rfl⟩⟩
  obtain ⟨rfl, rfl⟩ := pv
  refine seq_cut (fun α h' => ∃ p f, α = [some (.ref k), some (.ref s), some (.ref w), some (.int fork), some (.ref L), some (.ref p), none] ∧ Wl w h h' ∧ FiveAt h' p f ∧ INB 1 f) (fun J hJ => ?_) fun α h1 pv => ?_
  · try dsimp only [nb, aRet, aRetN, aSeq, aIfS, aNext, aBreak, aCont, aDrop, aAsg, aPar, aAug, aSetL, aSetF, aFld, aVar, aC, aNil, aCons, aTup, aLst, a1, a2, aN, aAndV, aOrV, aNotV, aIf, aAnd, aOr, aNot, aTest, aChn, aCall, aMeth, aMake, aBmL, aRaise, aTryOnly, aTryAs, aFor, aiSeq, aiRng1, aiRng2, aiEnum, agN, agNil, agCons, agTup, aSlL, aRev, aNoPart, aPart, aNewK, aNewT, aLc, aWhile, asB, asT, iA, iA0, subA, modA, modP, divP, divA, powA, ltA, leA, gtA, geA, addA, mulA, negA, lenA, absA, intA, allA, listA, tupleA, one, two, sp0, sp1, sp2, sp3, sp4, sp5, sp6, appendA, reverseA, clearA, wipeA, putFA, List.getElem?_cons_zero, List.getElem?_cons_succ, List.set_cons_zero, List.set_cons_succ, List.cons_append, List.nil_append, List.append_nil, R_law_five]
    exact ⟨w, rfl, hw, fun p f h2 _ W hf hb => hJ _ _ ⟨p, f, rfl, W, hid_ext _ _ hf, hb⟩⟩
  obtain ⟨p, f, rfl, W, hf, hb⟩ := pv
  refine seq_cut (fun α h' => ∃ p f, α = [some (.ref k), some (.ref s), some (.ref w), some (.int fork), some (.ref L), some (.ref p), none] ∧ Wl w h h' ∧ FiveAt h' p f ∧ INB 1 f) (fun J hJ => ?_) fun α h2 pv => ?_
  · have pa1 := pa.wl hw W
    obtain ⟨ps, row⟩ := pa1.row
    have hlp : ps.length = fs.length := row.2.length
    dsimp only [aIfS]
    try dsimp only [nb, aRet, aRetN, aNext, aBreak, aCont, aDrop, aAsg, aPar, aAug, aSetL, aSetF, aFld, aVar, aC, aNil, aCons, aTup, aLst, a1, a2, aN, aAndV, aOrV, aNotV, aIf, aAnd, aOr, aNot, aTest, aChn, aCall, aMeth, aMake, aBmL, aRaise, aTryOnly, aTryAs, aiSeq, aiRng1, aiRng2, aiEnum, agN, agNil, agCons, agTup, aSlL, aRev, aNoPart, aPart, aNewK, aNewT, aLc, asB, asT, iA, iA0, subA, modA, modP, divP, divA, powA, ltA, leA, gtA, geA, addA, mulA, negA, lenA, absA, intA, allA, listA, tupleA, one, two, sp0, sp1, sp2, sp3, sp4, sp5, sp6, appendA, reverseA, clearA, wipeA, putFA, List.getElem?_cons_zero, List.getElem?_cons_succ, List.set_cons_zero, List.set_cons_succ, List.cons_append, List.nil_append, List.append_nil, R_law_draw]
    refine ⟨by simp, fun z hz => ?_⟩
    have e1 := Ext.new (o := .lst []) hz
    have W1 := W.trans (Wl.ext W.1 e1)
    by_cases hfs : fs.length = 0
    · have : ps = [] := List.length_eq_zero_iff.mp (by omega)
      have eL := row.1
      rw [this] at eL
      exact eqA_lists (n := 1) (e1 _ _ eL) updA_same .nil (by decide) (ifF (hJ _ _ ⟨p, f, rfl, W1, e1 _ _ hf, hb⟩))
    · refine eqA_len (e1 _ _ row.1) updA_same (by rw [List.length_map, List.length_nil]; omega) (ifT ?_)
      refine ⟨w, 3, rfl, rfl, by decide, by decide, W1.1, fun r h3 _ _ W2 => ?_⟩
      try dsimp only [nb, aRet, aRetN, aSeq, aIfS, aNext, aBreak, aCont, aDrop, aAsg, aPar, aAug, aSetL, aSetF, aFld, aVar, aC, aNil, aCons, aTup, aLst, a1, a2, aN, aAndV, aOrV, aNotV, aIf, aAnd, aOr, aNot, aTest, aChn, aCall, aMeth, aMake, aBmL, aRaise, aTryOnly, aTryAs, aFor, aiSeq, aiRng1, aiRng2, aiEnum, agN, agNil, agCons, agTup, aSlL, aRev, aNoPart, aPart, aNewK, aNewT, aLc, aWhile, asB, asT, iA, iA0, subA, modA, modP, divP, divA, powA, ltA, leA, gtA, geA, addA, mulA, negA, lenA, absA, intA, allA, listA, tupleA, one, two, sp0, sp1, sp2, sp3, sp4, sp5, sp6, appendA, reverseA, clearA, wipeA, putFA, List.getElem?_cons_zero, List.getElem?_cons_succ, List.set_cons_zero, List.set_cons_succ, List.cons_append, List.nil_append, List.append_nil, eqA]
      have hf3 := W2.2 _ _ (five_well W1.1 (e1 _ _ hf)) (e1 _ _ hf)
      refine ifd (fun _ => ?_) fun _ => hJ _ _ ⟨p, f, rfl, W1.trans W2, hf3, hb⟩
      have pa3 := pa.wl hw (W1.trans W2)
      obtain ⟨ps3, row3⟩ := pa3.row
      have hlp3 : ps3.length = fs.length := row3.2.length
      refine seqA_it (itA_ref.mpr row3.1) ?_
      rw [List.length_map, hlp3]
      refine ⟨w, _, rfl, rfl, by omega, log2_small (k := 64) (by omega) (by decide), W2.1, fun r2 h4 r0 r1 W3 => ?_⟩
      have pa4 := pa.wl hw ((W1.trans W2).trans W3)
      have nLw := (pair_well pa3 W2.1).2.2.2.2
      have eL4 := W3.2 _ _ nLw row3.1
      refine ix_ref eL4 (atI_of r0 (by rw [List.length_map, hlp3]; exact r1)) ?_
      rw [List.getElem_map]
      have hg := Paired.get row3.2 r2.toNat (by omega) (by omega)
      exact hJ _ _ ⟨_, fs[r2.toNat]'(by omega), rfl, (W1.trans W2).trans W3, W3.2 _ _ (five_well W2.1 hg) hg, pa.nb _ (List.getElem_mem _)⟩
  clear W hf hb p f
  obtain ⟨p, f, rfl, W, hf, hb⟩ := pv
  refine seq_cut (fun α h' => ∃ (j : Nat), α = [some (.ref k), some (.ref s), some (.ref w), some (.int fork), some (.ref L), some (.ref p), some (.int (j : Int))] ∧ Wl w h h' ∧ FiveAt h' p f ∧ j ≤ fs.length) (fun J hJ => ?_) fun α h3 pv => ?_
  · have pa1 := pa.wl hw W
    obtain ⟨ps, row⟩ := pa1.row
    have hlp : ps.length = fs.length := row.2.length
    try dsimp only [nb, aRet, aRetN, aSeq, aIfS, aNext, aBreak, aCont, aDrop, aAsg, aPar, aAug, aSetL, aSetF, aFld, aVar, aC, aNil, aCons, aTup, aLst, a1, a2, aN, aAndV, aOrV, aNotV, aIf, aAnd, aOr, aNot, aTest, aChn, aCall, aMeth, aMake, aBmL, aRaise, aTryOnly, aTryAs, aFor, aiSeq, aiRng1, aiRng2, aiEnum, agN, agNil, agCons, agTup, aSlL, aRev, aNoPart, aPart, aNewK, aNewT, aLc, aWhile, asB, asT, iA, iA0, subA, modA, modP, divP, divA, powA, ltA, leA, gtA, geA, addA, mulA, negA, lenA, absA, intA, allA, listA, tupleA, one, two, sp0, sp1, sp2, sp3, sp4, sp5, sp6, appendA, reverseA, clearA, wipeA, putFA, List.getElem?_cons_zero, List.getElem?_cons_succ, List.set_cons_zero, List.set_cons_succ, List.cons_append, List.nil_append, List.append_nil, R_law_draw]
    refine seqA_it (itA_ref.mpr row.1) ?_
    rw [List.length_map, hlp]
    refine ⟨w, _, rfl, rfl, by omega, log2_small (k := 64) (by omega) (by decide), W.1, fun r h4 r0 r1 W2 => hJ _ _ ⟨r.toNat, ?_, W.trans W2, W2.2 _ _ (five_well W.1 hf) hf, by omega⟩⟩
    have : ((r.toNat : Nat) : Int) = r := by omega
    rw [this]
  clear W hf
  obtain ⟨j, rfl, W, hf, hj⟩ := pv
  -- what is written: the row, the state
  have fin : ∀ (h5 : AH), Ext h3 h5 → PairAt K h5 k R P s L fs kvs made asked puts ∧ WellAt h5 w ∧ FiveAt h5 p f ∧ Wl w h h5 := fun h5 x => ⟨(pa.wl hw W).up x, let ⟨a, b, c, e⟩ := W.1; ⟨a, b, c, x _ _ e⟩, x _ _ hf, W.trans (Wl.ext W.1 x)⟩
  have nsL : ∀ h5, PairAt K h5 k R P s L fs kvs made asked puts → s ≠ L ∧ s ≠ k ∧ s ≠ R ∧ s ≠ P ∧ L ≠ k ∧ L ≠ P ∧ R ≠ k ∧ R ≠ P ∧ k ≠ P := fun h5 a => by
    obtain ⟨sk, es⟩ := a.st.is
    obtain ⟨ps, row⟩ := a.row
    have eL := row.1
    refine ⟨fun z => ?_, fun z => ?_, fun z => ?_, fun z => ?_, fun z => ?_, fun z => ?_, fun z => ?_, fun z => ?_, fun z => ?_⟩
    · rw [z, eL] at es; cases es
    · rw [z, a.ka.k] at es; cases es
    · rw [z, a.ka.r] at es; cases es
    · rw [z, a.ka.p] at es; cases es
    · rw [z, a.ka.k] at eL; cases eL
    · rw [z, a.ka.p] at eL; cases eL
    · have := a.ka.r; rw [z, a.ka.k] at this; cases this
    · have := a.ka.r; rw [z, a.ka.p] at this; cases this
    · have := a.ka.p; rw [← z, a.ka.k] at this; cases this
  have ins : ∀ (J : ASt → AH → Prop) (h5 : AH), Ext h3 h5 → fs.length ≤ 36 → (aSeq (aDrop (aBmL insertA (aVar 4) (aCons (aVar 6) (aCons (aVar 5) aNil))))
      (aSeq (aDPut (aVar 1) (aC (.str "puts")) (a1 negA (aC (.int 1))))
      (aRet (a2 (isNonA false) (aMeth (c_Keeper K) "put_in" (sp_Keeper_put_in K) [] (aVar 0) (aCons (aVar 6) (aCons (aCall (sp_law_rule K) [] (aCons (aVar 5) (aCons (aC (.int 16)) aNil))) aNil))) (aC .non)))))
      { nx := J, rt := Q, ex := fun c _ h' => E c h' } [some (.ref k), some (.ref s), some (.ref w), some (.int fork), some (.ref L), some (.ref p), some (.int (j : Int))] h5 := fun J h5 x35 h36 => by
    obtain ⟨pa5, hw5, hf5, W5⟩ := fin h5 x35
    obtain ⟨ps, row⟩ := pa5.row
    have hlp : ps.length = fs.length := row.2.length
    obtain ⟨m1, m2, m3, m4, m5, m6, m7, m8, m9⟩ := nsL h5 pa5
    try dsimp only [nb, aRet, aRetN, aSeq, aIfS, aNext, aBreak, aCont, aDrop, aAsg, aPar, aAug, aSetL, aSetF, aFld, aVar, aC, aNil, aCons, aTup, aLst, a1, a2, aN, aAndV, aOrV, aNotV, aIf, aAnd, aOr, aNot, aTest, aChn, aCall, aMeth, aMake, aBmL, aRaise, aTryOnly, aTryAs, aFor, aiSeq, aiRng1, aiRng2, aiEnum, agN, agNil, agCons, agTup, aSlL, aRev, aNoPart, aPart, aNewK, aNewT, aLc, aWhile, asB, asT, iA, iA0, subA, modA, modP, divP, divA, powA, ltA, leA, gtA, geA, addA, mulA, negA, lenA, absA, intA, allA, listA, tupleA, one, two, sp0, sp1, sp2, sp3, sp4, sp5, sp6, appendA, reverseA, clearA, wipeA, putFA, List.getElem?_cons_zero, List.getElem?_cons_succ, List.set_cons_zero, List.set_cons_succ, List.cons_append, List.nil_append, List.append_nil, insertA, aDPut, R_law_rule, R_Keeper_put_in, isNonA]
    refine ⟨⟨_, row.1⟩, _, row.1, by rw [List.length_map]; exact Nat.lt_of_le_of_lt (by omega : _ ≤ 100) (by decide), ⟨by omega, by omega⟩, ?_⟩
    rw [Int.toNat_natCast]
    generalize hL' : (ps.map A.ref).take j ++ [A.ref p] ++ (ps.map A.ref).drop j = L'
    have st6 : StateAt (updA h5 L (.lst L')) s L made asked puts := pa5.st.fx (M := fun z => z = L) (Fx.wr rfl) fun z hz xs e => by subst hz; rw [row.1] at e; cases e
    refine st6.put_puts fun o k1 => ?_
    have st7 := k1 (updA (updA h5 L (.lst L')) s o) updA_same
    have hp_s : p ≠ s := fun z => by subst z; obtain ⟨sk, es⟩ := pa5.st.is; unfold FiveAt at hf5; rw [es] at hf5; cases hf5
    have hpL := five_ne hf5 row.1
    have ka7 : KeepAt K (updA (updA h5 L (.lst L')) s o) k R P (fs.map ruleF) kvs made := ⟨by rw [updA_ne m2.symm, updA_ne m5.symm]; exact pa5.ka.k, by rw [updA_ne m3.symm, updA_ne pa.RL]; exact pa5.ka.r, by rw [updA_ne m4.symm, updA_ne m6.symm]; exact pa5.ka.p⟩
    refine ⟨_, ka7.k, rfl, p, f, 16, rfl, by unfold FiveAt; rw [updA_ne hp_s, updA_ne hpL]; exact hf5, rfl, by decide, by decide, fun h8 x78 => ?_⟩
    have ka8 := ka7.up x78
    refine ⟨k, R, P, fs.map ruleF, kvs, made, j, ruleF f, rfl, rfl, rfl, ka8, by rw [List.length_map]; omega, fun z => ?_, fun j2 hj2 e h9 P' fx hP' ka9 => ?_⟩
    · rw [List.length_map] at z; omega
    have : j2 = j := by omega
    subst this
    refine q h9 ⟨⟨P', fs.take j2 ++ [f] ++ fs.drop j2, [], made, asked, -1, ?_, by omega, .inr ?_⟩, ?_⟩
    · have st9 : StateAt h9 s L made asked (-1) := (st7.up x78).fx fx fun z hz xs e => ka8.notD z (hz.elim (fun z => .inr (.inl z)) .inl) xs e
      have row9 : RowAt h9 L (ps.take j2 ++ [p] ++ ps.drop j2) (fs.take j2 ++ [f] ++ fs.drop j2) := by
        have five7 : ∀ p' f', FiveAt h5 p' f' → FiveAt h9 p' f' := fun p' f' e => by
          have a1 : p' ≠ s := fun z => by subst z; obtain ⟨sk, es⟩ := pa5.st.is; unfold FiveAt at e; rw [es] at e; cases e
          have a2 := five_ne e row.1
          have a3 := five_ne_R e pa5.ka.r
          have a4 : p' ≠ k := fun z => by subst z; unfold FiveAt at e; rw [pa5.ka.k] at e; cases e
          exact fx _ _ (fun z => z.elim a3 a4) (x78 _ _ (by rw [updA_ne a1, updA_ne a2]; exact e))
        refine ⟨fx _ _ (fun z => z.elim (fun z => pa.RL z.symm) m5) (x78 _ _ (by rw [updA_ne m1.symm, updA_same, ← hL', List.map_append, List.map_append, List.map_take, List.map_drop]; rfl)), ?_⟩
        have pr := Paired.mapP row.2 five7
        exact paired_app (paired_app (paired_take pr _) (.cons (five7 _ _ hf5) .nil)) (paired_drop pr _)
      have lenN : (fs.take j2 ++ [f] ++ fs.drop j2).length = fs.length + 1 := by simp; omega
      refine { ka := ?_, st := st9, row := ⟨_, row9⟩, len := by omega, nb := fun x hx => ?_, RL := pa.RL, nt := NoTwice.nil, kl := Nat.zero_le _, ml := pa.ml, new := fun _ => ⟨rfl, rfl⟩, pm := by decide, tree := fun H2 _ => ⟨(tree_nil _ _ (((fs.take j2 ++ [f] ++ fs.drop j2)).map ruleF)).1, (tree_nil 0 H2 _).2, fun z => absurd z (by decide)⟩ }
      · rw [List.map_append, List.map_append, List.map_take, List.map_drop]
        exact ka9
      · rcases List.mem_append.mp hx with hx | hx
        · rcases List.mem_append.mp hx with hx | hx
          · exact pa.nb x (List.mem_of_mem_take hx)
          · rw [List.mem_singleton.mp hx]; exact hb
        · exact pa.nb x (List.mem_of_mem_drop hx)
    · have := x78.isN hP'
      have e1 : P' ≠ s := fun z => by subst z; rw [updA_same] at this; obtain ⟨sk, es⟩ := st7.is; rw [updA_same] at es; rw [es] at this; cases this
      have e2 : P' ≠ L := fun z => by subst z; rw [updA_ne m1.symm, updA_same] at this; cases this
      rw [updA_ne e1, updA_ne e2] at this
      exact W5.isN this
    · refine Fx.trans (W5.2.sub fun z hz => .inr (.inr (.inr (.inr (.inr hz))))) ?_
      refine Fx.trans (Fx.wr' (.inl (.inr (.inr (.inr (.inl rfl))))) (Fx.wr (.inr (.inr (.inr (.inr (.inl rfl))))))) (x78.fx.trans (fx.sub fun z hz => hz.elim (fun z => .inr (.inl z)) .inl))
  refine seq_cut (fun α h' => α = [some (.ref k), some (.ref s), some (.ref w), some (.int fork), some (.ref L), some (.ref p), some (.int (j : Int))] ∧ Ext h3 h' ∧ 1 ≤ fs.length) (fun J hJ => ?_) fun α h4 pv => ?_
  · obtain ⟨pa5, _⟩ := fin h3 (Ext.refl h3)
    obtain ⟨ps, row⟩ := pa5.row
    have hlp : ps.length = fs.length := row.2.length
    dsimp only [aIfS]
    try dsimp only [nb, aRet, aRetN, aNext, aBreak, aCont, aDrop, aAsg, aPar, aAug, aSetL, aSetF, aFld, aVar, aC, aNil, aCons, aTup, aLst, a1, a2, aN, aAndV, aOrV, aNotV, aIf, aAnd, aOr, aNot, aTest, aChn, aCall, aMeth, aMake, aBmL, aRaise, aTryOnly, aTryAs, aiSeq, aiRng1, aiRng2, aiEnum, agN, agNil, agCons, agTup, aSlL, aRev, aNoPart, aPart, aNewK, aNewT, aLc, asB, asT, iA, iA0, subA, modA, modP, divP, divA, powA, ltA, leA, gtA, geA, addA, mulA, negA, lenA, absA, intA, allA, listA, tupleA, one, two, sp0, sp1, sp2, sp3, sp4, sp5, sp6, appendA, reverseA, clearA, wipeA, putFA, List.getElem?_cons_zero, List.getElem?_cons_succ, List.set_cons_zero, List.set_cons_succ, List.cons_append, List.nil_append, List.append_nil]
    have cmp : ∀ (X : AVK), (fs.length = 0 → ∀ h', Ext h3 h' → X (.bl true) h') → (1 ≤ fs.length → ∀ h', Ext h3 h' → X (.bl false) h') → ([] : List A).length ≤ sizeLine ∧ ∀ p, h3 p = none → eqA false (.ref L) (.ref p) (updA h3 p (.lst [])) X := fun X c1 c2 => by
      refine ⟨by decide, fun z hz => ?_⟩
      have e1 := Ext.new (o := .lst []) hz
      by_cases hfs : fs.length = 0
      · have : ps = [] := List.length_eq_zero_iff.mp (by omega)
        have eL := row.1
        rw [this] at eL
        exact eqA_lists (n := 1) (e1 _ _ eL) updA_same .nil (by decide) (c1 hfs _ e1)
      · exact eqA_len (e1 _ _ row.1) updA_same (by rw [List.length_map, List.length_nil]; omega) (c2 (by omega) _ e1)
    have rest : ([] : List A).length ≤ sizeLine ∧ ∀ p', h3 p' = none → eqA false (.ref L) (.ref p') (updA h3 p' (.lst [])) fun x h1 => match x with
        | .bl b => if b = true then (aSeq (aDrop (aBmL insertA (aVar 4) (aCons (aVar 6) (aCons (aVar 5) aNil))))
      (aSeq (aDPut (aVar 1) (aC (.str "puts")) (a1 negA (aC (.int 1))))
      (aRet (a2 (isNonA false) (aMeth (c_Keeper K) "put_in" (sp_Keeper_put_in K) [] (aVar 0) (aCons (aVar 6) (aCons (aCall (sp_law_rule K) [] (aCons (aVar 5) (aCons (aC (.int 16)) aNil))) aNil))) (aC .non))))) { nx := J, rt := Q, ex := fun c _ h' => E c h' } [some (.ref k), some (.ref s), some (.ref w), some (.int fork), some (.ref L), some (.ref p), some (.int (j : Int))] h1 else J [some (.ref k), some (.ref s), some (.ref w), some (.int fork), some (.ref L), some (.ref p), some (.int (j : Int))] h1
        | _ => False := cmp _ (fun h0 h' x => ifT (ins J h' x (by omega))) fun h1 h' x => ifF (hJ _ _ ⟨rfl, x, h1⟩)
    refine eqA_int ?_
    try dsimp only [nb, aRet, aRetN, aNext, aBreak, aCont, aDrop, aAsg, aPar, aAug, aSetL, aSetF, aFld, aVar, aC, aNil, aCons, aTup, aLst, a1, a2, aN, aAndV, aOrV, aNotV, aIf, aAnd, aOr, aNot, aTest, aChn, aCall, aMeth, aMake, aBmL, aRaise, aTryOnly, aTryAs, aiSeq, aiRng1, aiRng2, aiEnum, agN, agNil, agCons, agTup, aSlL, aRev, aNoPart, aPart, aNewK, aNewT, aLc, asB, asT, iA, iA0, subA, modA, modP, divP, divA, powA, ltA, leA, gtA, geA, addA, mulA, negA, lenA, absA, intA, allA, listA, tupleA, one, two, sp0, sp1, sp2, sp3, sp4, sp5, sp6, appendA, reverseA, clearA, wipeA, putFA, List.getElem?_cons_zero, List.getElem?_cons_succ, List.set_cons_zero, List.set_cons_succ, List.cons_append, List.nil_append, List.append_nil]
    refine ifd (fun hf3 => ?_) fun hf3 => ?_
    · refine seqA_it (itA_ref.mpr row.1) ?_
      rw [List.length_map, hlp]
      refine ifd (fun h36 => ifT (ins J h3 (Ext.refl _) (by omega))) fun h36 => rest
    · exact rest
  obtain ⟨rfl, x34, hn⟩ := pv
  obtain ⟨pa4, hw4, hf4, W4⟩ := fin h4 x34
  obtain ⟨ps, row⟩ := pa4.row
  have hlp : ps.length = fs.length := row.2.length
  obtain ⟨m1, m2, m3, m4, m5, m6, m7, m8, m9⟩ := nsL h4 pa4
  refine seq_cut (fun α h' => ∃ (i : Nat), α = [some (.ref k), some (.ref s), some (.ref w), some (.int fork), some (.ref L), some (.ref p), some (.int (i : Int))] ∧ h4 = h' ∧ i < fs.length) (fun J hJ => ?_) fun α h' pv => ?_
  · try dsimp only [nb, aRet, aRetN, aSeq, aIfS, aNext, aBreak, aCont, aDrop, aAsg, aPar, aAug, aSetL, aSetF, aFld, aVar, aC, aNil, aCons, aTup, aLst, a1, a2, aN, aAndV, aOrV, aNotV, aIf, aAnd, aOr, aNot, aTest, aChn, aCall, aMeth, aMake, aBmL, aRaise, aTryOnly, aTryAs, aFor, aiSeq, aiRng1, aiRng2, aiEnum, agN, agNil, agCons, agTup, aSlL, aRev, aNoPart, aPart, aNewK, aNewT, aLc, aWhile, asB, asT, iA, iA0, subA, modA, modP, divP, divA, powA, ltA, leA, gtA, geA, addA, mulA, negA, lenA, absA, intA, allA, listA, tupleA, one, two, sp0, sp1, sp2, sp3, sp4, sp5, sp6, appendA, reverseA, clearA, wipeA, putFA, List.getElem?_cons_zero, List.getElem?_cons_succ, List.set_cons_zero, List.set_cons_succ, List.cons_append, List.nil_append, List.append_nil]
    refine seqA_it (itA_ref.mpr row.1) ?_
    rw [List.length_map, hlp]
    have fp := fmod_pos (i := (j : Int)) (m := (fs.length : Int)) (by omega)
    refine ⟨by omega, hJ _ _ ⟨((j : Int).fmod fs.length).toNat, ?_, rfl, by omega⟩⟩
    have : ((((j : Int).fmod fs.length).toNat : Nat) : Int) = (j : Int).fmod fs.length := by omega
    rw [this]
  clear ins hj
  obtain ⟨i, rfl, rfl, hi⟩ := pv
  have five_s : ∀ p' f', FiveAt h4 p' f' → p' ≠ s ∧ p' ≠ L ∧ p' ≠ R ∧ p' ≠ k ∧ p' ≠ P := fun p' f' e => by
    refine ⟨fun z => ?_, five_ne e row.1, five_ne_R e pa4.ka.r, fun z => ?_, fun z => ?_⟩
    · subst z; obtain ⟨sk, es⟩ := pa4.st.is; unfold FiveAt at e; rw [es] at e; cases e
    · subst z; unfold FiveAt at e; rw [pa4.ka.k] at e; cases e
    · subst z; unfold FiveAt at e; rw [pa4.ka.p] at e; cases e
  refine seq_cut (fun α h' => α = [some (.ref k), some (.ref s), some (.ref w), some (.int fork), some (.ref L), some (.ref p), some (.int (i : Int))] ∧ h4 = h') (fun J hJ => ?_) fun α h' pv => ?_
  · dsimp only [aIfS]
    try dsimp only [nb, aRet, aRetN, aNext, aBreak, aCont, aDrop, aAsg, aPar, aAug, aSetL, aSetF, aFld, aVar, aC, aNil, aCons, aTup, aLst, a1, a2, aN, aAndV, aOrV, aNotV, aIf, aAnd, aOr, aNot, aTest, aChn, aCall, aMeth, aMake, aBmL, aRaise, aTryOnly, aTryAs, aiSeq, aiRng1, aiRng2, aiEnum, agN, agNil, agCons, agTup, aSlL, aRev, aNoPart, aPart, aNewK, aNewT, aLc, asB, asT, iA, iA0, subA, modA, modP, divP, divA, powA, ltA, leA, gtA, geA, addA, mulA, negA, lenA, absA, intA, allA, listA, tupleA, one, two, sp0, sp1, sp2, sp3, sp4, sp5, sp6, appendA, reverseA, clearA, wipeA, putFA, List.getElem?_cons_zero, List.getElem?_cons_succ, List.set_cons_zero, List.set_cons_succ, List.cons_append, List.nil_append, List.append_nil]
    refine eqA_int ?_
    try dsimp only [nb, aRet, aRetN, aNext, aBreak, aCont, aDrop, aAsg, aPar, aAug, aSetL, aSetF, aFld, aVar, aC, aNil, aCons, aTup, aLst, a1, a2, aN, aAndV, aOrV, aNotV, aIf, aAnd, aOr, aNot, aTest, aChn, aCall, aMeth, aMake, aBmL, aRaise, aTryOnly, aTryAs, aiSeq, aiRng1, aiRng2, aiEnum, agN, agNil, agCons, agTup, aSlL, aRev, aNoPart, aPart, aNewK, aNewT, aLc, asB, asT, iA, iA0, subA, modA, modP, divP, divA, powA, ltA, leA, gtA, geA, addA, mulA, negA, lenA, absA, intA, allA, listA, tupleA, one, two, sp0, sp1, sp2, sp3, sp4, sp5, sp6, appendA, reverseA, clearA, wipeA, putFA, List.getElem?_cons_zero, List.getElem?_cons_succ, List.set_cons_zero, List.set_cons_succ, List.cons_append, List.nil_append, List.append_nil]
    refine ifd (fun hf4 => ?_) fun hf4 => hJ _ _ ⟨rfl, rfl⟩
    try dsimp only [nb, aRet, aRetN, aSeq, aIfS, aNext, aBreak, aCont, aDrop, aAsg, aPar, aAug, aSetL, aSetF, aFld, aVar, aC, aNil, aCons, aTup, aLst, a1, a2, aN, aAndV, aOrV, aNotV, aIf, aAnd, aOr, aNot, aTest, aChn, aCall, aMeth, aMake, aBmL, aRaise, aTryOnly, aTryAs, aFor, aiSeq, aiRng1, aiRng2, aiEnum, agN, agNil, agCons, agTup, aSlL, aRev, aNoPart, aPart, aNewK, aNewT, aLc, aWhile, asB, asT, iA, iA0, subA, modA, modP, divP, divA, powA, ltA, leA, gtA, geA, addA, mulA, negA, lenA, absA, intA, allA, listA, tupleA, one, two, sp0, sp1, sp2, sp3, sp4, sp5, sp6, appendA, reverseA, clearA, wipeA, putFA, List.getElem?_cons_zero, List.getElem?_cons_succ, List.set_cons_zero, List.set_cons_succ, List.cons_append, List.nil_append, List.append_nil, popAtA, aDPut, R_Keeper_take_out, isNonA]
    refine ⟨⟨_, row.1⟩, _, i, .ref ps[i], row.1, ⟨by omega, by omega⟩, ?_, ?_, ?_⟩
    · rw [List.length_map, hlp]
      exact (ixN_seq (ixN_of (n := fs.length) (i := (i : Int)) (by omega) (by omega))).1
    · rw [List.getElem?_map, List.getElem?_eq_getElem (by omega)]; rfl
    generalize hL' : (ps.map A.ref).eraseIdx i = L'
    have st6 : StateAt (updA h4 L (.lst L')) s L made asked puts := pa4.st.fx (M := fun z => z = L) (Fx.wr rfl) fun z hz xs e => by subst hz; rw [row.1] at e; cases e
    refine st6.put_puts fun o k1 => ?_
    have st7 := k1 (updA (updA h4 L (.lst L')) s o) updA_same
    have ka7 : KeepAt K (updA (updA h4 L (.lst L')) s o) k R P (fs.map ruleF) kvs made := ⟨by rw [updA_ne m2.symm, updA_ne m5.symm]; exact pa4.ka.k, by rw [updA_ne m3.symm, updA_ne pa.RL]; exact pa4.ka.r, by rw [updA_ne m4.symm, updA_ne m6.symm]; exact pa4.ka.p⟩
    refine ⟨_, ka7.k, rfl, k, R, P, fs.map ruleF, kvs, made, i, rfl, rfl, ka7, by rw [List.length_map]; omega, fun z => ?_, fun j2 hj2 e h9 P' fx hP' ka9 => ?_⟩
    · rw [List.length_map] at z; omega
    have : j2 = i := by omega
    subst this
    refine q h9 ⟨⟨P', fs.eraseIdx j2, [], made, asked, -1, ?_, by omega, .inr ?_⟩, ?_⟩
    · have st9 : StateAt h9 s L made asked (-1) := st7.fx fx fun z hz xs e => ka7.notD z (hz.elim (fun z => .inr (.inl z)) .inl) xs e
      have row9 : RowAt h9 L (ps.eraseIdx j2) (fs.eraseIdx j2) := by
        refine ⟨fx _ _ (fun z => z.elim (fun z => pa.RL z.symm) m5) (by rw [updA_ne m1.symm, updA_same, ← hL', map_erase]), ?_⟩
        refine paired_erase _ (Paired.mapP row.2 fun p' f' e => ?_)
        obtain ⟨a1, a2, a3, a4, a5⟩ := five_s p' f' e
        exact fx _ _ (fun z => z.elim a3 a4) (by rw [updA_ne a1, updA_ne a2]; exact e)
      have lenN : (fs.eraseIdx j2).length = fs.length - 1 := by rw [List.length_eraseIdx, if_pos hi]
      refine { ka := ?_, st := st9, row := ⟨_, row9⟩, len := by omega, nb := fun x hx => pa.nb x (List.mem_of_mem_eraseIdx hx), RL := pa.RL, nt := NoTwice.nil, kl := Nat.zero_le _, ml := pa.ml, new := fun _ => ⟨rfl, rfl⟩, pm := by decide, tree := fun H2 _ => ⟨(tree_nil _ _ ((fs.eraseIdx j2).map ruleF)).1, (tree_nil 0 H2 _).2, fun z => absurd z (by decide)⟩ }
      rw [map_erase]
      exact ka9
    · have e1 : P' ≠ s := fun z => by subst z; obtain ⟨sk, es⟩ := st7.is; rw [es] at hP'; cases hP'
      have e2 : P' ≠ L := fun z => by subst z; rw [updA_ne m1.symm, updA_same] at hP'; cases hP'
      rw [updA_ne e1, updA_ne e2] at hP'
      exact W4.isN hP'
    · refine Fx.trans (W4.2.sub fun z hz => .inr (.inr (.inr (.inr (.inr hz))))) ?_
      exact Fx.trans (Fx.wr' (.inl (.inr (.inr (.inr (.inl rfl))))) (Fx.wr (.inr (.inr (.inr (.inr (.inl rfl))))))) (fx.sub fun z hz => hz.elim (fun z => .inr (.inl z)) .inl)
  obtain ⟨rfl, rfl⟩ := pv
  refine seq_cut (fun α h' => ∃ p f, α = [some (.ref k), some (.ref s), some (.ref w), some (.int fork), some (.ref L), some (.ref p), some (.int (i : Int))] ∧ h4 = h' ∧ FiveAt h4 p f ∧ INB 1 f) (fun J hJ => ?_) fun α h' pv => ?_
  · dsimp only [aIfS]
    try dsimp only [nb, aRet, aRetN, aNext, aBreak, aCont, aDrop, aAsg, aPar, aAug, aSetL, aSetF, aFld, aVar, aC, aNil, aCons, aTup, aLst, a1, a2, aN, aAndV, aOrV, aNotV, aIf, aAnd, aOr, aNot, aTest, aChn, aCall, aMeth, aMake, aBmL, aRaise, aTryOnly, aTryAs, aiSeq, aiRng1, aiRng2, aiEnum, agN, agNil, agCons, agTup, aSlL, aRev, aNoPart, aPart, aNewK, aNewT, aLc, asB, asT, iA, iA0, subA, modA, modP, divP, divA, powA, ltA, leA, gtA, geA, addA, mulA, negA, lenA, absA, intA, allA, listA, tupleA, one, two, sp0, sp1, sp2, sp3, sp4, sp5, sp6, appendA, reverseA, clearA, wipeA, putFA, List.getElem?_cons_zero, List.getElem?_cons_succ, List.set_cons_zero, List.set_cons_succ, List.cons_append, List.nil_append, List.append_nil]
    refine eqA_int ?_
    try dsimp only [nb, aRet, aRetN, aNext, aBreak, aCont, aDrop, aAsg, aPar, aAug, aSetL, aSetF, aFld, aVar, aC, aNil, aCons, aTup, aLst, a1, a2, aN, aAndV, aOrV, aNotV, aIf, aAnd, aOr, aNot, aTest, aChn, aCall, aMeth, aMake, aBmL, aRaise, aTryOnly, aTryAs, aiSeq, aiRng1, aiRng2, aiEnum, agN, agNil, agCons, agTup, aSlL, aRev, aNoPart, aPart, aNewK, aNewT, aLc, asB, asT, iA, iA0, subA, modA, modP, divP, divA, powA, ltA, leA, gtA, geA, addA, mulA, negA, lenA, absA, intA, allA, listA, tupleA, one, two, sp0, sp1, sp2, sp3, sp4, sp5, sp6, appendA, reverseA, clearA, wipeA, putFA, List.getElem?_cons_zero, List.getElem?_cons_succ, List.set_cons_zero, List.set_cons_succ, List.cons_append, List.nil_append, List.append_nil]
    refine ifd (fun hf4 => ?_) fun hf4' => hJ _ _ ⟨p, f, rfl, rfl, hf4, hb⟩
    refine ix_ref row.1 (atI_of (by omega) (by rw [List.length_map]; omega)) ?_
    rw [List.getElem_map]
    exact hJ _ _ ⟨_, fs[i], rfl, rfl, Paired.get row.2 i (by omega) hi, pa.nb _ (List.getElem_mem hi)⟩
  clear hf4 hf hb
  obtain ⟨p, f, rfl, rfl, hf4, hb⟩ := pv
  obtain ⟨b1, b2, b3, b4, b5⟩ := five_s p f hf4
  try dsimp only [nb, aRet, aRetN, aSeq, aIfS, aNext, aBreak, aCont, aDrop, aAsg, aPar, aAug, aSetL, aSetF, aFld, aVar, aC, aNil, aCons, aTup, aLst, a1, a2, aN, aAndV, aOrV, aNotV, aIf, aAnd, aOr, aNot, aTest, aChn, aCall, aMeth, aMake, aBmL, aRaise, aTryOnly, aTryAs, aFor, aiSeq, aiRng1, aiRng2, aiEnum, agN, agNil, agCons, agTup, aSlL, aRev, aNoPart, aPart, aNewK, aNewT, aLc, aWhile, asB, asT, iA, iA0, subA, modA, modP, divP, divA, powA, ltA, leA, gtA, geA, addA, mulA, negA, lenA, absA, intA, allA, listA, tupleA, one, two, sp0, sp1, sp2, sp3, sp4, sp5, sp6, appendA, reverseA, clearA, wipeA, putFA, List.getElem?_cons_zero, List.getElem?_cons_succ, List.set_cons_zero, List.set_cons_succ, List.cons_append, List.nil_append, List.append_nil, aDPut, aDGet, R_law_rule, R_Keeper_put_at, isNonA]
  refine ⟨_, i, row.1, by rw [List.length_map]; exact ixN_of (by omega) (by omega), ?_⟩
  generalize hL' : (ps.map A.ref).set i (.ref p) = L'
  have st6 : StateAt (updA h4 L (.lst L')) s L made asked puts := pa4.st.fx (M := fun z => z = L) (Fx.wr rfl) fun z hz xs e => by subst hz; rw [row.1] at e; cases e
  refine ⟨_, st6.get.2.2.2, _, st6.get.2.2.2, ?_⟩
  try dsimp only [nb, aRet, aRetN, aSeq, aIfS, aNext, aBreak, aCont, aDrop, aAsg, aPar, aAug, aSetL, aSetF, aFld, aVar, aC, aNil, aCons, aTup, aLst, a1, a2, aN, aAndV, aOrV, aNotV, aIf, aAnd, aOr, aNot, aTest, aChn, aCall, aMeth, aMake, aBmL, aRaise, aTryOnly, aTryAs, aFor, aiSeq, aiRng1, aiRng2, aiEnum, agN, agNil, agCons, agTup, aSlL, aRev, aNoPart, aPart, aNewK, aNewT, aLc, aWhile, asB, asT, iA, iA0, subA, modA, modP, divP, divA, powA, ltA, leA, gtA, geA, addA, mulA, negA, lenA, absA, intA, allA, listA, tupleA, one, two, sp0, sp1, sp2, sp3, sp4, sp5, sp6, appendA, reverseA, clearA, wipeA, putFA, List.getElem?_cons_zero, List.getElem?_cons_succ, List.set_cons_zero, List.set_cons_succ, List.cons_append, List.nil_append, List.append_nil]
  generalize hp' : puts + (if decide (0 ≤ puts) = true then 1 else 0) = puts'
  have hpp : (0 ≤ puts → puts' = puts + 1) ∧ (puts = -1 → puts' = -1) := by
    refine ⟨fun z => ?_, fun z => ?_⟩
    · rw [← hp', if_pos (decide_eq_true z)]
    · rw [← hp', z]; rfl
  have hpm := pa.pm
  refine st6.put_puts fun o k1 => ?_
  have st7 := k1 (updA (updA h4 L (.lst L')) s o) updA_same
  have ka7 : KeepAt K (updA (updA h4 L (.lst L')) s o) k R P (fs.map ruleF) kvs made := ⟨by rw [updA_ne m2.symm, updA_ne m5.symm]; exact pa4.ka.k, by rw [updA_ne m3.symm, updA_ne pa.RL]; exact pa4.ka.r, by rw [updA_ne m4.symm, updA_ne m6.symm]; exact pa4.ka.p⟩
  refine ⟨_, ka7.k, rfl, p, f, 16, rfl, by unfold FiveAt; rw [updA_ne b1, updA_ne b2]; exact hf4, rfl, by decide, by decide, fun h8 x78 => ?_⟩
  have ka8 := ka7.up x78
  refine ⟨k, R, P, fs.map ruleF, kvs, made, i, ruleF f, rfl, rfl, rfl, ka8, by rw [List.length_map]; omega, fun z => ?_, fun j2 H2 hj2 e hH2 h9 fx ka9 => ?_⟩
  · rw [List.length_map] at z; omega
  have : j2 = i := by omega
  subst this
  rw [List.length_map] at hH2
  have := hH2.uniq hH
  subst this
  obtain ⟨t1, t2, t3⟩ := pa.tree H2 hH2
  obtain ⟨u1, u2, u3⟩ := offs_tree (r := ruleF f) hi hH2 t1 t2
  refine q h9 ⟨⟨P, fs.set j2 f, offs j2 H2 kvs, made, asked, puts', ?_, by omega, .inl rfl⟩, ?_⟩
  · have st9 : StateAt h9 s L made asked puts' := (st7.up x78).fx fx fun z hz xs e => ka8.notD z (hz.elim (fun z => .inr (.inl z)) fun z => .inr (.inr z)) xs e
    have five7 : ∀ p' f', FiveAt h4 p' f' → FiveAt h9 p' f' := fun p' f' e => by
      obtain ⟨a1, a2, a3, a4, a5⟩ := five_s p' f' e
      exact fx _ _ (fun z => z.elim a3 a5) (x78 _ _ (by rw [updA_ne a1, updA_ne a2]; exact e))
    have row9 : RowAt h9 L (ps.set j2 p) (fs.set j2 f) := by
      refine ⟨fx _ _ (fun z => z.elim (fun z => pa.RL z.symm) m6) (x78 _ _ (by rw [updA_ne m1.symm, updA_same, ← hL', List.map_set])), ?_⟩
      exact paired_set (five7 _ _ hf4) _ (Paired.mapP row.2 five7)
    refine { ka := ?_, st := st9, row := ⟨_, row9⟩, len := by rw [List.length_set]; exact hlen, nb := fun x hx => ?_, RL := pa.RL, nt := offs_nt _ _ pa.nt, kl := Nat.le_trans (offs_len _ _) pa.kl, ml := pa.ml, new := fun z => ?_, pm := ?_, tree := fun H3 hH3 => ?_ }
    · rw [List.map_set]; exact ka9
    · rcases List.mem_or_eq_of_mem_set hx with hx | rfl
      · exact pa.nb x hx
      · exact hb
    · obtain ⟨z1, z2⟩ := pa.new z
      refine ⟨?_, hpp.2 z2⟩
      have := offs_len (i := j2) H2 kvs
      rw [z1, List.length_nil] at this
      rw [z1]
      exact List.length_eq_zero_iff.mp (by omega)
    · by_cases z : 0 ≤ puts
      · have := hpp.1 z; omega
      · have := hpp.2 (by omega); omega
    · rw [List.length_set] at hH3 ⊢
      have := hH3.uniq hH2
      subst this
      rw [List.map_set]
      refine ⟨u1, u2, fun z => ?_⟩
      have zp : 0 ≤ puts := by
        by_cases c : 0 ≤ puts
        · exact c
        · have := hpp.2 (by omega); omega
      have := hpp.1 zp
      have t3' := t3 zp
      rw [this, Int.add_mul, Int.one_mul]
      omega
  · refine Fx.trans (W4.2.sub fun z hz => .inr (.inr (.inr (.inr (.inr hz))))) ?_
    refine Fx.trans (Fx.wr' (.inl (.inr (.inr (.inr (.inl rfl))))) (Fx.wr (.inr (.inr (.inr (.inr (.inl rfl))))))) (x78.fx.trans (fx.sub fun z hz => hz.elim (fun z => .inr (.inl z)) fun z => .inr (.inr (.inl z))))
end GL
namespace GL
open PySem PySem.Spec L2 G
theorem rd_law_deed {K : Frg} (T : TK K) {x0 x1 x2 : A} {h : AH} {Q : AVK} {E : AXK} (hR : R_law_deed K x0 x1 x2 h Q E) : t_law_deed K { nx := fun _ h' => Q .non h', rt := Q, ex := fun c _ h' => E c h' } [some x0, some x1, some x2, none] h := by
  obtain ⟨k, R, P, s, L, fs, kvs, made, asked, puts, w, rfl, rfl, rfl, pa, hm, hw, q⟩ := hR
  unfold t_law_deed
  refine seq_cut (fun α h' => ∃ fork : Int, α = [some (.ref k), some (.ref s), some (.ref w), some (.int fork)] ∧ Wl w h h') (fun J hJ => ?_) fun α h1 pv => ?_
  · try dsimp only [nb, aRet, aRetN, aSeq, aIfS, aNext, aBreak, aCont, aDrop, aAsg, aPar, aAug, aSetL, aSetF, aFld, aVar, aC, aNil, aCons, aTup, aLst, a1, a2, aN, aAndV, aOrV, aNotV, aIf, aAnd, aOr, aNot, aTest, aChn, aCall, aMeth, aMake, aBmL, aRaise, aTryOnly, aTryAs, aFor, aiSeq, aiRng1, aiRng2, aiEnum, agN, agNil, agCons, agTup, aSlL, aRev, aNoPart, aPart, aNewK, aNewT, aLc, aWhile, asB, asT, iA, iA0, subA, modA, modP, divP, divA, powA, ltA, leA, gtA, geA, addA, mulA, negA, lenA, absA, intA, allA, listA, tupleA, one, two, sp0, sp1, sp2, sp3, sp4, sp5, sp6, appendA, reverseA, clearA, wipeA, putFA, List.getElem?_cons_zero, List.getElem?_cons_succ, List.set_cons_zero, List.set_cons_succ, List.cons_append, List.nil_append, List.append_nil, R_law_draw]
    exact ⟨w, 11, rfl, rfl, by decide, by decide, hw, fun r h2 r0 r1 W => hJ _ _ ⟨r, rfl, W⟩⟩
  obtain ⟨fork, rfl, W⟩ := pv
  have pa1 := pa.wl hw W
  have fr : ∀ h', StepTo K h1 h' k R P s L w made → StepTo K h h' k R P s L w made := fun h' st => by
    obtain ⟨⟨P', fs', kvs', made', asked', puts', a, b, c⟩, fx⟩ := st
    refine ⟨⟨P', fs', kvs', made', asked', puts', a, b, c.elim .inl fun z => .inr (W.isN z)⟩, Fx.trans (W.2.sub fun z hz => .inr (.inr (.inr (.inr (.inr hz))))) fx⟩
  try dsimp only [nb, aRet, aRetN, aSeq, aIfS, aNext, aBreak, aCont, aDrop, aAsg, aPar, aAug, aSetL, aSetF, aFld, aVar, aC, aNil, aCons, aTup, aLst, a1, a2, aN, aAndV, aOrV, aNotV, aIf, aAnd, aOr, aNot, aTest, aChn, aCall, aMeth, aMake, aBmL, aRaise, aTryOnly, aTryAs, aFor, aiSeq, aiRng1, aiRng2, aiEnum, agN, agNil, agCons, agTup, aSlL, aRev, aNoPart, aPart, aNewK, aNewT, aLc, aWhile, asB, asT, iA, iA0, subA, modA, modP, divP, divA, powA, ltA, leA, gtA, geA, addA, mulA, negA, lenA, absA, intA, allA, listA, tupleA, one, two, sp0, sp1, sp2, sp3, sp4, sp5, sp6, appendA, reverseA, clearA, wipeA, putFA, List.getElem?_cons_zero, List.getElem?_cons_succ, List.set_cons_zero, List.set_cons_succ, List.cons_append, List.nil_append, List.append_nil, R_law_changed, R_law_refused, R_law_whole]
  refine ifd (fun _ => ⟨by decide, k, R, P, s, L, fs, kvs, made, asked, puts, w, _, rfl, rfl, rfl, rfl, pa1, W.1, fun h' st => q h' (fr h' st)⟩) fun _ => ?_
  refine ifd (fun _ => ⟨k, R, P, s, L, fs, kvs, made, asked, puts, w, rfl, rfl, rfl, pa1, W.1, fun h' W2 => q h' (fr h' ⟨⟨P, fs, kvs, made, asked, puts, pa1.wl W.1 W2, by omega, .inl rfl⟩, W2.2.sub fun z hz => .inr (.inr (.inr (.inr (.inr hz))))⟩)⟩) fun _ => ?_
  refine ⟨k, R, P, s, L, fs, kvs, made, asked, puts, rfl, rfl, pa1, hm, fun kvs' made' h' pa' hm' fx => q h' (fr h' ⟨⟨P, fs, kvs', made', true, 0, pa', hm', .inl rfl⟩, fx.sub fun z hz => ?_⟩)⟩
  rcases hz with hz | hz | hz
  · exact .inl hz
  · exact .inr (.inr (.inl hz))
  · exact .inr (.inr (.inr (.inl hz)))
/-! ### both keepers, both states -/
structure Q5 where
  k : Addr
  R : Addr
  P : Addr
  s : Addr
  L : Addr
def Q5.all (x : Q5) : List Addr := [x.k, x.R, x.P, x.s, x.L]
def One (K : Frg) (h : AH) (x : Q5) (B : Nat) : Prop := ∃ fs kvs made asked puts, PairAt K h x.k x.R x.P x.s x.L fs kvs made asked puts ∧ made ≤ B
structure Two (K : Frg) (h : AH) (x y : Q5) (B : Nat) (G : List Addr) : Prop where
  a : One K h x B
  b : One K h y B
  d : ∀ z ∈ x.all, z ∉ y.all
  g : ∀ z ∈ G, z ∉ x.all ∧ z ∉ y.all ∧ h z ≠ none
theorem Two.swap {K : Frg} {h : AH} {x y : Q5} {B : Nat} {G : List Addr} (t : Two K h x y B G) : Two K h y x B G := ⟨t.b, t.a, fun z hz hx => t.d z hx hz, fun z hz => let ⟨a, b, c⟩ := t.g z hz; ⟨b, a, c⟩⟩
theorem One.mono {K : Frg} {h : AH} {x : Q5} {B C : Nat} (o : One K h x B) (l : B ≤ C) : One K h x C := let ⟨a, b, c, d, e, p, m⟩ := o; ⟨a, b, c, d, e, p, Nat.le_trans m l⟩
theorem One.up {K : Frg} {h h' : AH} {x : Q5} {B : Nat} (e : Ext h h') (o : One K h x B) : One K h' x B := let ⟨a, b, c, d, f, p, m⟩ := o; ⟨a, b, c, d, f, p.up e, m⟩
theorem Two.up {K : Frg} {h h' : AH} {x y : Q5} {B : Nat} {G : List Addr} (e : Ext h h') (t : Two K h x y B G) : Two K h' x y B G := ⟨t.a.up e, t.b.up e, t.d, fun z hz => let ⟨a, b, c⟩ := t.g z hz; ⟨a, b, fun n => c (e.isN n)⟩⟩
theorem One.frame {K : Frg} {h h' : AH} {x : Q5} {B : Nat} {M : Addr → Prop} (f : Fx M h h') (n : ∀ z ∈ x.all, ¬ M z) (five : ∀ p i, FiveAt h p i → ¬ M p) (o : One K h x B) : One K h' x B := by
  obtain ⟨fs, kvs, made, asked, puts, a, m⟩ := o
  obtain ⟨ps, row⟩ := a.row
  obtain ⟨sk, es, sr⟩ := a.st
  have n1 := n x.k (by simp [Q5.all])
  have n2 := n x.R (by simp [Q5.all])
  have n3 := n x.P (by simp [Q5.all])
  have n4 := n x.s (by simp [Q5.all])
  have n5 := n x.L (by simp [Q5.all])
  exact ⟨fs, kvs, made, asked, puts, { a with ka := ⟨f _ _ n1 a.ka.k, f _ _ n2 a.ka.r, f _ _ n3 a.ka.p⟩, st := ⟨sk, f _ _ n4 es, sr⟩, row := ⟨ps, f _ _ n5 row.1, Paired.mapP row.2 fun p i z => f _ _ (five p i z) z⟩ }, m⟩
theorem Two.stepG {K : Frg} {h h' : AH} {x y : Q5} {B made : Nat} {G : List Addr} {w : Addr} (t : Two K h x y B G) (wy : ∀ z ∈ y.all, z ≠ w) (w5 : ∀ p i, FiveAt h p i → p ≠ w) (wn : ∀ z ∈ G, z ≠ w) (hm : made ≤ B) (st : StepTo K h h' x.k x.R x.P x.s x.L w made) :
    ∃ x', x'.k = x.k ∧ x'.s = x.s ∧ Two K h' x' y (B + 64) G ∧ ∀ z o, z ∈ G → z ≠ w → h z = some o → h' z = some o := by
  obtain ⟨⟨P', fs', kvs', made', asked', puts', pa, hm', hP⟩, fx⟩ := st
  obtain ⟨afs, akv, am, aa, ap, apa, _⟩ := t.a
  obtain ⟨bfs, bkv, bm, ba, bp, bpa, _⟩ := t.b
  have inX : ∀ z, (z = x.k ∨ z = x.R ∨ z = x.P ∨ z = x.s ∨ z = x.L) → z ∈ x.all := fun z hz => by simp [Q5.all]; exact hz
  have notY : ∀ z ∈ y.all, ¬ (z = x.k ∨ z = x.R ∨ z = x.P ∨ z = x.s ∨ z = x.L ∨ z = w) := fun z hz m => by
    have : (z = x.k ∨ z = x.R ∨ z = x.P ∨ z = x.s ∨ z = x.L) ∨ z = w := by
      rcases m with m | m | m | m | m | m
      · exact .inl (.inl m)
      · exact .inl (.inr (.inl m))
      · exact .inl (.inr (.inr (.inl m)))
      · exact .inl (.inr (.inr (.inr (.inl m))))
      · exact .inl (.inr (.inr (.inr (.inr m))))
      · exact .inr m
    rcases this with m | m
    · exact t.d z (inX z m) hz
    · exact wy z hz m
  obtain ⟨aps, arow⟩ := apa.row
  have five : ∀ p i, FiveAt h p i → ¬ (p = x.k ∨ p = x.R ∨ p = x.P ∨ p = x.s ∨ p = x.L ∨ p = w) := fun p i e m => by
    rcases m with m | m | m | m | m | m
    · unfold FiveAt at e; rw [m, apa.ka.k] at e; cases e
    · exact five_ne_R e apa.ka.r m
    · unfold FiveAt at e; rw [m, apa.ka.p] at e; cases e
    · unfold FiveAt at e; obtain ⟨sk, es⟩ := apa.st.is; rw [m, es] at e; cases e
    · exact five_ne e arow.1 m
    · exact w5 p i e m
  have nYn : ∀ z ∈ y.all, h z ≠ none := fun z hz n => by
    simp [Q5.all] at hz
    obtain ⟨sk, es⟩ := bpa.st.is
    obtain ⟨bps, brow⟩ := bpa.row
    rcases hz with hz | hz | hz | hz | hz <;> rw [hz] at n
    · rw [bpa.ka.k] at n; cases n
    · rw [bpa.ka.r] at n; cases n
    · rw [bpa.ka.p] at n; cases n
    · rw [es] at n; cases n
    · rw [brow.1] at n; cases n
  have newX : ∀ z, z ∈ [x.k, x.R, P', x.s, x.L] → z ∈ x.all ∨ h z = none := fun z hz => by
    simp at hz
    rcases hz with hz | hz | hz | hz | hz
    · exact .inl (inX z (.inl hz))
    · exact .inl (inX z (.inr (.inl hz)))
    · rcases hP with e | e
      · exact .inl (inX z (.inr (.inr (.inl (by rw [hz, e])))))
      · exact .inr (by rw [hz]; exact e)
    · exact .inl (inX z (.inr (.inr (.inr (.inl hz)))))
    · exact .inl (inX z (.inr (.inr (.inr (.inr hz)))))
  have keep : ∀ z o, z ∈ G → z ≠ w → h z = some o → h' z = some o := fun z o hz hn e => fx z o (fun m => by
    have g := (t.g z hz).1
    rcases m with m | m | m | m | m | m
    · exact g (inX z (.inl m))
    · exact g (inX z (.inr (.inl m)))
    · exact g (inX z (.inr (.inr (.inl m))))
    · exact g (inX z (.inr (.inr (.inr (.inl m)))))
    · exact g (inX z (.inr (.inr (.inr (.inr m)))))
    · exact hn m) e
  refine ⟨⟨x.k, x.R, P', x.s, x.L⟩, rfl, rfl, ⟨⟨fs', kvs', made', asked', puts', pa, by omega⟩, (One.frame fx notY five t.b).mono (by omega), fun z hz hy => ?_, fun z hz => ⟨fun m => ?_, (t.g z hz).2.1, ?_⟩⟩, keep⟩
  · rcases newX z hz with m | m
    · exact t.d z m hy
    · exact nYn z hy m
  · rcases newX z m with m | m
    · exact (t.g z hz).1 m
    · exact (t.g z hz).2.2 m
  · cases e : h z with
    | none => exact absurd e (t.g z hz).2.2
    | some o =>
      rw [keep z o hz (wn z hz) e]; simp
theorem Two.step {K : Frg} {h h' : AH} {x y : Q5} {B made : Nat} {G : List Addr} {w : Addr} (t : Two K h x y B G) (hw : WellAt h w) (wn : ∀ z ∈ G, z ≠ w) (hm : made ≤ B) (st : StepTo K h h' x.k x.R x.P x.s x.L w made) :
    ∃ x', x'.k = x.k ∧ x'.s = x.s ∧ Two K h' x' y (B + 64) G ∧ ∀ z o, z ∈ G → z ≠ w → h z = some o → h' z = some o := by
  refine t.stepG (fun z hz m => ?_) (fun p i e => five_well hw e) wn hm st
  obtain ⟨_, _, _, _, _, bpa, _⟩ := t.b
  obtain ⟨w1, w2, w3, w4, w5⟩ := pair_well bpa hw
  simp [Q5.all] at hz
  subst m
  rcases hz with hz | hz | hz | hz | hz
  · exact w1 hz.symm
  · exact w2 hz.symm
  · exact w3 hz.symm
  · exact w4 hz.symm
  · exact w5 hz.symm
theorem Two.stepW {K : Frg} {h h' : AH} {x y : Q5} {B made : Nat} {G : List Addr} (t : Two K h x y B G) (hm : made ≤ B) (st : StepTo K h h' x.k x.R x.P x.s x.L x.k made) :
    ∃ x', x'.k = x.k ∧ x'.s = x.s ∧ Two K h' x' y (B + 64) G ∧ ∀ z o, z ∈ G → h z = some o → h' z = some o := by
  have g : ∀ z ∈ G, z ≠ x.k := fun z hz c => (t.g z hz).1 (by rw [c]; simp [Q5.all])
  have w5 : ∀ p i, FiveAt h p i → p ≠ x.k := fun p i e m => by
    obtain ⟨_, _, _, _, _, apa, _⟩ := t.a
    unfold FiveAt at e
    rw [m, apa.ka.k] at e
    cases e
  obtain ⟨x', a, b, c, d⟩ := t.stepG (fun z hz m => t.d x.k (by simp [Q5.all]) (by rw [← m]; exact hz)) w5 g hm st
  exact ⟨x', a, b, c, fun z o hz e => d z o hz (g z hz) e⟩
theorem One.live {K : Frg} {h : AH} {x : Q5} {B : Nat} (o : One K h x B) : ∀ z ∈ x.all, h z ≠ none := fun z hz n => by
  obtain ⟨_, _, _, _, _, pa, _⟩ := o
  simp [Q5.all] at hz
  obtain ⟨sk, es⟩ := pa.st.is
  obtain ⟨ps, row⟩ := pa.row
  rcases hz with hz | hz | hz | hz | hz <;> rw [hz] at n
  · rw [pa.ka.k] at n; cases n
  · rw [pa.ka.r] at n; cases n
  · rw [pa.ka.p] at n; cases n
  · rw [es] at n; cases n
  · rw [row.1] at n; cases n
theorem Two.more {K : Frg} {h : AH} {x y : Q5} {B : Nat} {G : List Addr} {r : Addr} {o : AO} (t : Two K h x y B G) (hr : h r = none) : r ∉ x.all ∧ r ∉ y.all ∧ updA h r o r ≠ none :=
  ⟨fun c => t.a.live r c hr, fun c => t.b.live r c hr, by rw [updA_same]; simp⟩
theorem sp2_of {R : Sp2} {x y : A} {h : AH} {Q : AVK} {E : AXK} (r : R x y h Q E) : sp2 R [x, y] h Q E := r
theorem wholeOf {K : Frg} {h : AH} {x y : Q5} {B : Nat} {G : List Addr} {Q : AVK} {E : AXK} (t : Two K h x y B G) (b : B + 64 ≤ 90000) (q : ∀ h' x', x'.k = x.k → x'.s = x.s → Two K h' x' y (B + 64) G → (∀ z o, z ∈ G → h z = some o → h' z = some o) → Q (.bl true) h') : R_law_whole K (.ref x.k) (.ref x.s) h Q E := by
  obtain ⟨fs, kvs, made, asked, puts, pa, hm⟩ := t.a
  refine ⟨x.k, x.R, x.P, x.s, x.L, fs, kvs, made, asked, puts, rfl, rfl, pa, by omega, fun kvs' made' h' pa' hm' fx => ?_⟩
  obtain ⟨x', e1, e2, t', keep⟩ := t.stepW hm ⟨⟨x.P, fs, kvs', made', true, 0, pa', hm', .inl rfl⟩, fx.sub fun z hz => by
    rcases hz with hz | hz | hz
    · exact .inl hz
    · exact .inr (.inr (.inl hz))
    · exact .inr (.inr (.inr (.inl hz)))⟩
  exact q h' x' e1 e2 t' keep
theorem stillOf {K : Frg} {h : AH} {x : Q5} {B : Nat} {Q : AVK} {E : AXK} (o : One K h x B) (q : ∀ h', Ext h h' → Q (.bl true) h') : R_law_still K (.ref x.k) (.ref x.s) h Q E := by
  obtain ⟨fs, kvs, made, asked, puts, pa, hm⟩ := o
  exact ⟨x.k, x.R, x.P, x.s, x.L, fs, kvs, made, asked, puts, rfl, rfl, pa, q⟩
theorem Two.wl {K : Frg} {h h' : AH} {x y : Q5} {B : Nat} {G : List Addr} {w : Addr} (t : Two K h x y B G) (hw : WellAt h w) (W : Wl w h h') (wn : ∀ z ∈ G, z ≠ w) : Two K h' x y B G := by
  have one : ∀ {x}, One K h x B → One K h' x B := fun {x} o => by
    refine One.frame W.2 (fun z hz m => ?_) (fun p i e m => five_well hw e m) o
    obtain ⟨_, _, _, _, _, pa, _⟩ := o
    obtain ⟨w1, w2, w3, w4, w5⟩ := pair_well pa hw
    simp [Q5.all] at hz
    subst m
    rcases hz with hz | hz | hz | hz | hz
    · exact w1 hz.symm
    · exact w2 hz.symm
    · exact w3 hz.symm
    · exact w4 hz.symm
    · exact w5 hz.symm
  refine ⟨one t.a, one t.b, t.d, fun z hz => ?_⟩
  obtain ⟨a, b, c⟩ := t.g z hz
  refine ⟨a, b, ?_⟩
  cases e : h z with
  | none => exact absurd e c
  | some o => rw [W.2 z o (wn z hz) e]; simp
theorem cutA_mem {xs : List A} {lo hi : Option Int} {x : A} (h : x ∈ cutA xs lo hi) : x ∈ xs := List.mem_of_mem_drop (List.mem_of_mem_take h)
theorem cut24 (xs : List A) : (cutA xs (some 1) (some 25)).length ≤ 24 := by
  unfold cutA
  rw [List.length_take, List.length_drop]
  have h1 : HT.sIx xs.length xs.length (some 25) = min 25 xs.length := by
    unfold HT.sIx
    simp
  have h2 : HT.sIx xs.length 0 (some 1) = min 1 xs.length := by
    unfold HT.sIx
    simp
  omega
theorem updA_none {h : AH} {k z : Addr} {o : AO} (e : updA h k o z = none) : h z = none ∧ z ≠ k := by
  by_cases c : z = k
  · rw [c, updA_same] at e; cases e
  · rw [updA_ne c] at e; exact ⟨e, c⟩
theorem rd_law {K : Frg} (T : TK K) {x0 : A} {h : AH} {Q : AVK} {E : AXK} (hR : R_law K x0 h Q E) : t_law K { nx := fun _ h' => Q .non h', rt := Q, ex := fun c _ h' => E c h' } [some x0, none, none, none, none, none, none, none, none, none, none, none] h := by
  obtain ⟨ns, rfl, q⟩ := hR
  unfold t_law
  refine seq_cut (fun α h' => ∃ w, α = [some (.fls (ns.map A.int)), some (.ref w), none, none, none, none, none, none, none, none, none, none] ∧ WellAt h' w) (fun J hJ => ?_) fun α h1 pv => ?_
  · try dsimp only [nb, aRet, aRetN, aSeq, aIfS, aNext, aBreak, aCont, aDrop, aAsg, aPar, aAug, aSetL, aSetF, aFld, aVar, aC, aNil, aCons, aTup, aLst, a1, a2, aN, aAndV, aOrV, aNotV, aIf, aAnd, aOr, aNot, aTest, aChn, aCall, aMeth, aMake, aBmL, aRaise, aTryOnly, aTryAs, aFor, aiSeq, aiRng1, aiRng2, aiEnum, agN, agNil, agCons, agTup, aSlL, aRev, aNoPart, aPart, aNewK, aNewT, aLc, aWhile, asB, asT, iA, iA0, subA, modA, modP, divP, divA, powA, ltA, leA, gtA, geA, addA, mulA, negA, lenA, absA, intA, allA, listA, tupleA, one, two, sp0, sp1, sp2, sp3, sp4, sp5, sp6, appendA, reverseA, clearA, wipeA, putFA, List.getElem?_cons_zero, List.getElem?_cons_succ, List.set_cons_zero, List.set_cons_succ, List.cons_append, List.nil_append, List.append_nil, R_law_cell_at, R_law_well]
    exact ⟨ns, 0, rfl, rfl, by decide, fun c => ⟨c, rfl, fun w h' _ hw _ => hJ _ _ ⟨w, rfl, hw⟩⟩⟩
  obtain ⟨w, rfl, hw⟩ := pv
  refine seq_cut (fun α h' => ∃ m : Int, α = [some (.fls (ns.map A.int)), some (.ref w), some (.int m), none, none, none, none, none, none, none, none, none] ∧ WellAt h' w ∧ 0 ≤ m ∧ m ≤ 34) (fun J hJ => ?_) fun α h2 pv => ?_
  · try dsimp only [nb, aRet, aRetN, aSeq, aIfS, aNext, aBreak, aCont, aDrop, aAsg, aPar, aAug, aSetL, aSetF, aFld, aVar, aC, aNil, aCons, aTup, aLst, a1, a2, aN, aAndV, aOrV, aNotV, aIf, aAnd, aOr, aNot, aTest, aChn, aCall, aMeth, aMake, aBmL, aRaise, aTryOnly, aTryAs, aFor, aiSeq, aiRng1, aiRng2, aiEnum, agN, agNil, agCons, agTup, aSlL, aRev, aNoPart, aPart, aNewK, aNewT, aLc, aWhile, asB, asT, iA, iA0, subA, modA, modP, divP, divA, powA, ltA, leA, gtA, geA, addA, mulA, negA, lenA, absA, intA, allA, listA, tupleA, one, two, sp0, sp1, sp2, sp3, sp4, sp5, sp6, appendA, reverseA, clearA, wipeA, putFA, List.getElem?_cons_zero, List.getElem?_cons_succ, List.set_cons_zero, List.set_cons_succ, List.cons_append, List.nil_append, List.append_nil, R_law_draw]
    refine ⟨w, 10, rfl, rfl, by decide, by decide, hw, fun r1 a1 r10 r11 W1 => ⟨w, 3, rfl, rfl, by decide, by decide, W1.1, fun r2 a2 r20 r21 W2 => ⟨w, 4, rfl, rfl, by decide, by decide, W2.1, fun r3 a3 r30 r31 W3 => ⟨by simp; decide, fun p hp => ?_⟩⟩⟩⟩
    have W4 := Wl.ext W3.1 (Ext.new (o := .lst [.int r1, .int (15 + r2), .int (31 + r3), .int 4]) hp)
    refine ⟨w, 4, rfl, rfl, by decide, by decide, W4.1, fun r a5 r0 r1 W5 => ?_⟩
    have e := W5.2 p _ (well_ne W3.1 hp) updA_same
    have : r = 0 ∨ r = 1 ∨ r = 2 ∨ r = 3 := by omega
    rcases this with rfl | rfl | rfl | rfl <;> exact ix_ref e rfl (hJ _ _ ⟨_, rfl, W5.1, by omega, by omega⟩)
  obtain ⟨m, rfl, hw2, m0, m1⟩ := pv
  refine seq_cut (fun α h' => ∃ (D : Addr) (ps : List Addr) (fs : List IRul), α = [some (.fls (ns.map A.int)), some (.ref w), some (.int m), some (.ref D), none, none, none, none, none, none, none, none] ∧ RowAt h' D ps fs ∧ fs.length ≤ 34 ∧ ∀ f ∈ fs, INB 1 f) (fun J hJ => ?_) fun α h3 pv => ?_
  · try dsimp only [nb, aRet, aRetN, aSeq, aIfS, aNext, aBreak, aCont, aDrop, aAsg, aPar, aAug, aSetL, aSetF, aFld, aVar, aC, aNil, aCons, aTup, aLst, a1, a2, aN, aAndV, aOrV, aNotV, aIf, aAnd, aOr, aNot, aTest, aChn, aCall, aMeth, aMake, aBmL, aRaise, aTryOnly, aTryAs, aFor, aiSeq, aiRng1, aiRng2, aiEnum, agN, agNil, agCons, agTup, aSlL, aRev, aNoPart, aPart, aNewK, aNewT, aLc, aWhile, asB, asT, iA, iA0, subA, modA, modP, divP, divA, powA, ltA, leA, gtA, geA, addA, mulA, negA, lenA, absA, intA, allA, listA, tupleA, one, two, sp0, sp1, sp2, sp3, sp4, sp5, sp6, appendA, reverseA, clearA, wipeA, putFA, List.getElem?_cons_zero, List.getElem?_cons_succ, List.set_cons_zero, List.set_cons_succ, List.cons_append, List.nil_append, List.append_nil]
    refine ⟨by omega, fun D hD => ?_⟩
    have hDw := well_ne hw2 hD
    refine lc_rng (fun i h' => Wl w h2 h' ∧ ∃ (ps : List Addr) (fs : List IRul), h' D = some (.lst (ps.map A.ref)) ∧ Paired (FiveAt (hid (fun a => a = w ∨ a = D) h')) ps fs ∧ fs.length = i ∧ ∀ f ∈ fs, INB 1 f) ⟨Wl.ext hw2 (Ext.new hD), [], [], updA_same, .nil, rfl, fun _ h => nomatch h⟩ (fun i hi h' pv => ?_) fun h' pv => ?_
    · obtain ⟨W, ps, fs, eD, pr, lf, nb⟩ := pv
      try dsimp only [nb, aRet, aRetN, aSeq, aIfS, aNext, aBreak, aCont, aDrop, aAsg, aPar, aAug, aSetL, aSetF, aFld, aVar, aC, aNil, aCons, aTup, aLst, a1, a2, aN, aAndV, aOrV, aNotV, aIf, aAnd, aOr, aNot, aTest, aChn, aCall, aMeth, aMake, aBmL, aRaise, aTryOnly, aTryAs, aFor, aiSeq, aiRng1, aiRng2, aiEnum, agN, agNil, agCons, agTup, aSlL, aRev, aNoPart, aPart, aNewK, aNewT, aLc, aWhile, asB, asT, iA, iA0, subA, modA, modP, divP, divA, powA, ltA, leA, gtA, geA, addA, mulA, negA, lenA, absA, intA, allA, listA, tupleA, one, two, sp0, sp1, sp2, sp3, sp4, sp5, sp6, appendA, reverseA, clearA, wipeA, putFA, List.getElem?_cons_zero, List.getElem?_cons_succ, List.set_cons_zero, List.set_cons_succ, List.cons_append, List.nil_append, List.append_nil, R_law_five]
      refine ⟨w, rfl, W.1, fun p f h4 hp W4 hf hb => ⟨_, W4.2 _ _ hDw eD, ?_, ⟨?_, Fx.wr' (.inr hD) (W.trans W4).2⟩, ps ++ [p], fs ++ [f], by rw [updA_same, List.map_append]; rfl, ?_, by rw [List.length_append, lf]; rfl, fun x hx => ?_⟩⟩
      · rw [List.length_map, pr.length, lf]
        exact Nat.lt_of_lt_of_le (by omega : i < 1000) (by decide)
      · obtain ⟨a, b, c, e⟩ := W4.1
        exact ⟨a, b, c, by rw [updA_ne hDw.symm]; exact e⟩
      · have keep : ∀ (y : Addr) (o o2 : AO), ¬ (y = w ∨ y = D) → h4 y = some o → hid (fun a => a = w ∨ a = D) (updA h4 D o2) y = some o := fun y o o2 n e => hid_of n (by rw [updA_ne (fun z => n (.inr z))]; exact e)
        refine PySem.Paired.snoc (Paired.mapP pr fun p' f' z => ?_) ?_
        · have z1 := hid_some z
          exact keep _ _ _ z1.1 (W4.2 _ _ (fun z => z1.1 (.inl z)) z1.2)
        · have z1 := hid_some hf
          have npD : p ≠ D := fun z => by subst z; rw [eD] at hp; cases hp
          exact keep _ _ _ (fun z => z.elim z1.1 npD) z1.2
      · rcases List.mem_append.mp hx with hx | hx
        · exact nb x hx
        · rw [List.mem_singleton.mp hx]; exact hb
    · obtain ⟨W, ps, fs, eD, pr, lf, nb⟩ := pv
      exact hJ _ _ ⟨D, ps, fs, rfl, ⟨eD, Paired.mapP pr fun p f z => hid_ext _ _ z⟩, by omega, nb⟩
  obtain ⟨D, ps, fs, rfl, row, lf, nb⟩ := pv
  have hlp : ps.length = fs.length := row.2.length
  have hz : (List.range fs.length).map (fun i => rulA ((fs.map ruleF).getD i idR)) = (fs.map ruleF).map rulA := by
    have := range_map_get rulA idR (fs.map ruleF)
    rw [List.length_map] at this
    exact this
  have rulesOf : ∀ (h4 : AH) (α : ASt) (X : Addr → AH → Prop), Ext h3 h4 → (∀ D2 h5, h4 D2 = none → Ext h4 h5 → h5 D2 = some (.lst ((fs.map ruleF).map rulA)) → X D2 h5) →
      (∀ x, ((wipeA α [11]).set 11 (some x))[11]? = some (some x)) → seqOf (.ref D) h4 fun S => ∀ D2, h4 D2 = none → lcS S (agN 11) aYes (aCall (sp_law_rule K) [] (aCons (aVar 11) (aCons (aC (.int 16)) aNil))) [11] α h4 D2 fun h5 => X D2 h5 := fun h4 α X x34 fin hα => by
    refine lc_map (fun i => rulA ((fs.map ruleF).getD i idR)) (itA_ref.mpr (x34 _ _ row.1)) (by rw [List.length_map]; omega) (fun i hi h5 C ex hC => ?_) fun D2 h5 hD2 ex eD2 => fin D2 h5 hD2 ex (by rw [eD2, List.length_map, hlp, hz])
    rw [List.length_map] at hi
    have hif : i < fs.length := by rw [← hlp]; exact hi
    rw [List.getElem_map]
    show (match ((wipeA α [11]).set 11 (some (.ref ps[i])))[11]? with
      | some (some a) => _
      | _ => False)
    rw [hα]
    refine ⟨_, fs[i], 16, rfl, (x34.trans ex) _ _ (Paired.get row.2 i hi hif), rfl, by decide, by decide, fun h6 e6 => ?_⟩
    have := hC h6 e6
    rw [getD_at _ (by rw [List.length_map]; exact hif), List.getElem_map] at this
    exact this
  refine seq_cut (fun α h' => ∃ Hd, α = [some (.fls (ns.map A.int)), some (.ref w), some (.int m), some (.ref D), some (.ref Hd), none, none, none, none, none, none, none] ∧ Ext h3 h' ∧ h' Hd = some (.lst ((fs.map ruleF).map rulA)) ∧ h3 Hd = none) (fun J hJ => ?_) fun α h4 pv => ?_
  · try dsimp only [nb, aRet, aRetN, aSeq, aIfS, aNext, aBreak, aCont, aDrop, aAsg, aPar, aAug, aSetL, aSetF, aFld, aVar, aC, aNil, aCons, aTup, aLst, a1, a2, aN, aAndV, aOrV, aNotV, aIf, aAnd, aOr, aNot, aTest, aChn, aCall, aMeth, aMake, aBmL, aRaise, aTryOnly, aTryAs, aFor, aiSeq, aiRng1, aiRng2, aiEnum, agN, agNil, agCons, agTup, aSlL, aRev, aNoPart, aPart, aNewK, aNewT, aLc, aWhile, asB, asT, iA, iA0, subA, modA, modP, divP, divA, powA, ltA, leA, gtA, geA, addA, mulA, negA, lenA, absA, intA, allA, listA, tupleA, one, two, sp0, sp1, sp2, sp3, sp4, sp5, sp6, appendA, reverseA, clearA, wipeA, putFA, List.getElem?_cons_zero, List.getElem?_cons_succ, List.set_cons_zero, List.set_cons_succ, List.cons_append, List.nil_append, List.append_nil]
    exact rulesOf h3 _ _ (Ext.refl _) (fun D2 h5 n x e => hJ _ _ ⟨D2, rfl, x, e, n⟩) fun x => rfl
  obtain ⟨Hd, rfl, x34, eHd, nHd⟩ := pv
  refine seq_cut (fun α h' => ∃ KL k0 R0 P0 k1 R1 P1, α = [some (.fls (ns.map A.int)), some (.ref w), some (.int m), some (.ref D), some (.ref Hd), some (.ref KL), none, none, none, none, none, none] ∧ Ext h4 h' ∧ h' KL = some (.lst [.ref k0, .ref k1]) ∧ h4 KL = none ∧ KeepAt K h' k0 R0 P0 (fs.map ruleF) [] 0 ∧ KeepAt K h' k1 R1 P1 (fs.map ruleF) [] 0 ∧ (∀ z ∈ [k0, R0, P0], h4 z = none ∧ z ∉ [k1, R1, P1, KL]) ∧ (∀ z ∈ [k1, R1, P1], h4 z = none ∧ z ≠ KL)) (fun J hJ => ?_) fun α h5 pv => ?_
  · try dsimp only [nb, aRet, aRetN, aSeq, aIfS, aNext, aBreak, aCont, aDrop, aAsg, aPar, aAug, aSetL, aSetF, aFld, aVar, aC, aNil, aCons, aTup, aLst, a1, a2, aN, aAndV, aOrV, aNotV, aIf, aAnd, aOr, aNot, aTest, aChn, aCall, aMeth, aMake, aBmL, aRaise, aTryOnly, aTryAs, aFor, aiSeq, aiRng1, aiRng2, aiEnum, agN, agNil, agCons, agTup, aSlL, aRev, aNoPart, aPart, aNewK, aNewT, aLc, aWhile, asB, asT, iA, iA0, subA, modA, modP, divP, divA, powA, ltA, leA, gtA, geA, addA, mulA, negA, lenA, absA, intA, allA, listA, tupleA, one, two, sp0, sp1, sp2, sp3, sp4, sp5, sp6, appendA, reverseA, clearA, wipeA, putFA, List.getElem?_cons_zero, List.getElem?_cons_succ, List.set_cons_zero, List.set_cons_succ, List.cons_append, List.nil_append, List.append_nil, R_Keeper_init]
    intro k0 n0
    have neHd0 : Hd ≠ k0 := fun z => by rw [z, n0] at eHd; cases eHd
    refine ⟨k0, Hd, fs.map ruleF, rfl, rfl, updA_same, (updA_ne neHd0).trans eHd, fun h5 R0 P0 fx0 nR0 nP0 ka0 => ?_⟩
    have nup : ∀ {h : AH} {k z : Addr} {o : AO}, updA h k o z = none → h z = none ∧ z ≠ k := fun {h k z o} e => by
      by_cases c : z = k
      · rw [c, updA_same] at e; cases e
      · rw [updA_ne c] at e; exact ⟨e, c⟩
    have a0 := nup nR0
    have b0 := nup nP0
    have x5 : Ext h4 h5 := fun z o e => fx0 z o (fun c => by rw [c, n0] at e; cases e) (by rw [updA_ne (fun c => by rw [c, n0] at e; cases e)]; exact e)
    intro k1 n1
    have eHd5 := x5 _ _ eHd
    have neHd1 : Hd ≠ k1 := fun z => by rw [z, n1] at eHd5; cases eHd5
    refine ⟨k1, Hd, fs.map ruleF, rfl, rfl, updA_same, (updA_ne neHd1).trans eHd5, fun h6 R1 P1 fx1 nR1 nP1 ka1 => ?_⟩
    have a1 := nup nR1
    have b1 := nup nP1
    have x6 : Ext h5 h6 := fun z o e => fx1 z o (fun c => by rw [c, n1] at e; cases e) (by rw [updA_ne (fun c => by rw [c, n1] at e; cases e)]; exact e)
    refine ⟨by simp; decide, fun p hp => ?_⟩
    have xp := Ext.new (o := .lst [.ref k0, .ref k1]) hp
    have q0 := ka0.up x6
    have ne0 : ∀ z ∈ [k0, R0, P0], h4 z = none ∧ h5 z ≠ none := fun z hz => by
      simp at hz
      rcases hz with rfl | rfl | rfl
      · exact ⟨n0, by rw [ka0.k]; simp⟩
      · exact ⟨a0.1, by rw [ka0.r]; simp⟩
      · exact ⟨b0.1, by rw [ka0.p]; simp⟩
    have ne1 : ∀ z ∈ [k1, R1, P1], h5 z = none ∧ h6 z ≠ none := fun z hz => by
      simp at hz
      rcases hz with rfl | rfl | rfl
      · exact ⟨n1, by rw [ka1.k]; simp⟩
      · exact ⟨a1.1, by rw [ka1.r]; simp⟩
      · exact ⟨b1.1, by rw [ka1.p]; simp⟩
    refine hJ _ _ ⟨p, k0, R0, P0, k1, R1, P1, rfl, (x5.trans x6).trans xp, updA_same, (x5.trans x6).isN hp, q0.up xp, ka1.up xp, fun z hz => ⟨(ne0 z hz).1, fun c => ?_⟩, fun z hz => ⟨x5.isN (ne1 z hz).1, fun c => (ne1 z hz).2 (by rw [c]; exact hp)⟩⟩
    have c : z ∈ [k1, R1, P1] ∨ z = p := by
      simp at c
      simp
      rcases c with c | c | c | c
      · exact .inl (.inl c)
      · exact .inl (.inr (.inl c))
      · exact .inl (.inr (.inr c))
      · exact .inr c
    rcases c with c | c
    · exact (ne0 z hz).2 (ne1 z c).1
    · exact (ne0 z hz).2 (x6.isN (by rw [c]; exact hp))
  obtain ⟨KL, k0, R0, P0, k1, R1, P1, rfl, x45, eKL, nKL, ka0, ka1, d0, d1⟩ := pv
  have x35 := x34.trans x45
  refine seq_cut (fun α h' => α = [some (.fls (ns.map A.int)), some (.ref w), some (.int m), some (.ref D), some (.ref Hd), some (.ref KL), none, none, none, none, none, none] ∧ Ext h5 h') (fun J hJ => ?_) fun α h6 pv => ?_
  · try dsimp only [nb, aRet, aRetN, aSeq, aIfS, aNext, aBreak, aCont, aDrop, aAsg, aPar, aAug, aSetL, aSetF, aFld, aVar, aC, aNil, aCons, aTup, aLst, a1, a2, aN, aAndV, aOrV, aNotV, aIf, aAnd, aOr, aNot, aTest, aChn, aCall, aMeth, aMake, aBmL, aRaise, aTryOnly, aTryAs, aFor, aiSeq, aiRng1, aiRng2, aiEnum, agN, agNil, agCons, agTup, aSlL, aRev, aNoPart, aPart, aNewK, aNewT, aLc, aWhile, asB, asT, iA, iA0, subA, modA, modP, divP, divA, powA, ltA, leA, gtA, geA, addA, mulA, negA, lenA, absA, intA, allA, listA, tupleA, one, two, sp0, sp1, sp2, sp3, sp4, sp5, sp6, appendA, reverseA, clearA, wipeA, putFA, List.getElem?_cons_zero, List.getElem?_cons_succ, List.set_cons_zero, List.set_cons_succ, List.cons_append, List.nil_append, List.append_nil]
    refine rulesOf h5 _ _ x35 (fun D2 h6 n x e => ?_) fun x => rfl
    refine eqA_lists (n := 3) (x _ _ (x45 _ _ eHd)) e (paired_refl fun x hx => ?_) (by decide) ?_
    · obtain ⟨r, _, rfl⟩ := List.mem_map.mp hx
      exact .inr (.inr (rul_same (n := 0) r))
    · exact hJ _ _ ⟨rfl, x⟩
  obtain ⟨rfl, x56⟩ := pv
  have neHd : ∀ z, h4 z = none → z ≠ Hd := fun z n c => by rw [c, eHd] at n; cases n
  refine seq_cut (fun α h' => α = [some (.fls (ns.map A.int)), some (.ref w), some (.int m), some (.ref D), some (.ref Hd), some (.ref KL), none, none, none, none, none, none] ∧ h' = updA h6 Hd (.lst [])) (fun J hJ => ?_) fun α h7 pv => ?_
  · try dsimp only [nb, aRet, aRetN, aSeq, aIfS, aNext, aBreak, aCont, aDrop, aAsg, aPar, aAug, aSetL, aSetF, aFld, aVar, aC, aNil, aCons, aTup, aLst, a1, a2, aN, aAndV, aOrV, aNotV, aIf, aAnd, aOr, aNot, aTest, aChn, aCall, aMeth, aMake, aBmL, aRaise, aTryOnly, aTryAs, aFor, aiSeq, aiRng1, aiRng2, aiEnum, agN, agNil, agCons, agTup, aSlL, aRev, aNoPart, aPart, aNewK, aNewT, aLc, aWhile, asB, asT, iA, iA0, subA, modA, modP, divP, divA, powA, ltA, leA, gtA, geA, addA, mulA, negA, lenA, absA, intA, allA, listA, tupleA, one, two, sp0, sp1, sp2, sp3, sp4, sp5, sp6, appendA, reverseA, clearA, wipeA, putFA, List.getElem?_cons_zero, List.getElem?_cons_succ, List.set_cons_zero, List.set_cons_succ, List.cons_append, List.nil_append, List.append_nil]
    have eHd6 := x56 _ _ (x45 _ _ eHd)
    exact ⟨⟨_, eHd6⟩, _, eHd6, hJ _ _ ⟨rfl, rfl⟩⟩
  obtain ⟨rfl, h7e⟩ := pv
  have x37 : Ext h3 h7 := fun z o e => by rw [h7e, updA_ne (fun c => by rw [c, nHd] at e; cases e)]; exact x56 _ _ (x35 _ _ e)
  have up7 : ∀ z o, h4 z = none → h5 z = some o → h7 z = some o := fun z o n e => by rw [h7e, updA_ne (neHd z n)]; exact x56 _ _ e
  have kb0 : KeepAt K h7 k0 R0 P0 (fs.map ruleF) [] 0 := ⟨up7 _ _ (d0 k0 (by simp)).1 ka0.k, up7 _ _ (d0 R0 (by simp)).1 ka0.r, up7 _ _ (d0 P0 (by simp)).1 ka0.p⟩
  have kb1 : KeepAt K h7 k1 R1 P1 (fs.map ruleF) [] 0 := ⟨up7 _ _ (d1 k1 (by simp)).1 ka1.k, up7 _ _ (d1 R1 (by simp)).1 ka1.r, up7 _ _ (d1 P1 (by simp)).1 ka1.p⟩
  have eKL7 := up7 _ _ nKL eKL
  have row7 : RowAt h7 D ps fs := row.up x37
  clear up7 neHd h7e eHd rulesOf x56 ka0 ka1 eKL
  refine seq_cut (fun α h' => ∃ SL s0 L0 s1 L1, α = [some (.fls (ns.map A.int)), some (.ref w), some (.int m), some (.ref D), some (.ref Hd), some (.ref KL), some (.ref SL), none, none, none, none, none] ∧ Ext h7 h' ∧ h' SL = some (.lst [.ref s0, .ref s1]) ∧ h7 SL = none ∧ StateAt h' s0 L0 0 false (-1) ∧ StateAt h' s1 L1 0 false (-1) ∧ RowAt h' L0 ps fs ∧ RowAt h' L1 ps fs ∧ h7 s0 = none ∧ h7 L0 = none ∧ h7 s1 = none ∧ h7 L1 = none ∧ [s0, L0, s1, L1, SL].Nodup) (fun J hJ => ?_) fun α h8 pv => ?_
  · try dsimp only [nb, aRet, aRetN, aSeq, aIfS, aNext, aBreak, aCont, aDrop, aAsg, aPar, aAug, aSetL, aSetF, aFld, aVar, aC, aNil, aCons, aTup, aLst, a1, a2, aN, aAndV, aOrV, aNotV, aIf, aAnd, aOr, aNot, aTest, aChn, aCall, aMeth, aMake, aBmL, aRaise, aTryOnly, aTryAs, aFor, aiSeq, aiRng1, aiRng2, aiEnum, agN, agNil, agCons, agTup, aSlL, aRev, aNoPart, aPart, aNewK, aNewT, aLc, aWhile, asB, asT, iA, iA0, subA, modA, modP, divP, divA, powA, ltA, leA, gtA, geA, addA, mulA, negA, lenA, absA, intA, allA, listA, tupleA, one, two, sp0, sp1, sp2, sp3, sp4, sp5, sp6, appendA, reverseA, clearA, wipeA, putFA, List.getElem?_cons_zero, List.getElem?_cons_succ, List.set_cons_zero, List.set_cons_succ, List.cons_append, List.nil_append, List.append_nil]
    refine ⟨by decide, fun SL hSL => ?_⟩
    refine lc_rng (fun i h' => Ext h7 h' ∧ ∃ ss : List (Addr × Addr), ss.length = i ∧ h' SL = some (.lst (ss.map fun x => .ref x.1)) ∧ (∀ x ∈ ss, StateAt h' x.1 x.2 0 false (-1) ∧ h' x.2 = some (.lst (ps.map A.ref)) ∧ h7 x.1 = none ∧ h7 x.2 = none) ∧ ((ss.flatMap fun x => [x.1, x.2]) ++ [SL]).Nodup) ⟨Ext.new hSL, [], rfl, updA_same, fun _ h => (nomatch h), by show [SL].Nodup; simp⟩ (fun i hi h' pv => ?_) fun h' pv => ?_
    · obtain ⟨x7, ss, ls, eS, all, nd⟩ := pv
      try dsimp only [nb, aRet, aRetN, aSeq, aIfS, aNext, aBreak, aCont, aDrop, aAsg, aPar, aAug, aSetL, aSetF, aFld, aVar, aC, aNil, aCons, aTup, aLst, a1, a2, aN, aAndV, aOrV, aNotV, aIf, aAnd, aOr, aNot, aTest, aChn, aCall, aMeth, aMake, aBmL, aRaise, aTryOnly, aTryAs, aFor, aiSeq, aiRng1, aiRng2, aiEnum, agN, agNil, agCons, agTup, aSlL, aRev, aNoPart, aPart, aNewK, aNewT, aLc, aWhile, asB, asT, iA, iA0, subA, modA, modP, divP, divA, powA, ltA, leA, gtA, geA, addA, mulA, negA, lenA, absA, intA, allA, listA, tupleA, one, two, sp0, sp1, sp2, sp3, sp4, sp5, sp6, appendA, reverseA, clearA, wipeA, putFA, List.getElem?_cons_zero, List.getElem?_cons_succ, List.set_cons_zero, List.set_cons_succ, List.cons_append, List.nil_append, List.append_nil, aDisp, aPairs]
      intro p hp
      have eD' : h' D = some (.lst (ps.map A.ref)) := x7 _ _ row7.1
      have ne' : ∀ {z o}, h' z = some o → z ≠ p := fun e c => by rw [c, hp] at e; cases e
      refine ⟨ps.map A.ref, (updA_ne (ne' eD')).trans eD', fun L hL => ?_⟩
      obtain ⟨nL, neL⟩ := updA_none hL
      have neL' : ∀ {z o}, h' z = some o → z ≠ L := fun e c => by rw [c, nL] at e; cases e
      refine ⟨(updA_ne neL.symm).trans updA_same, Nat.le_of_ble_eq_true rfl, ss.map fun x => .ref x.1, ?_, ?_, ?_, ss ++ [(p, L)], by simp [ls], ?_, fun x hx => ?_, ?_⟩
      · rw [updA_ne (ne' eS), updA_ne (neL' eS), updA_ne (ne' eS)]; exact eS
      · rw [List.length_map]; exact Nat.lt_of_lt_of_le (by omega : ss.length < 1000) (by decide)
      · intro z o e
        have nz : z ≠ SL := fun c => by rw [c, hSL] at e; cases e
        have e := x7 _ _ e
        rw [updA_ne nz, updA_ne (ne' e), updA_ne (neL' e), updA_ne (ne' e)]; exact e
      · rw [updA_same, List.map_append]; rfl
      · rcases List.mem_append.mp hx with hx | hx
        · obtain ⟨⟨kv, ek, rk⟩, eL, r⟩ := all x hx
          have nSL : ∀ z ∈ [x.1, x.2], z ≠ SL := fun z hz c => by
            rw [List.nodup_append] at nd
            exact nd.2.2 z (List.mem_flatMap.mpr ⟨x, hx, hz⟩) SL (by simp) c
          refine ⟨⟨kv, ?_, rk⟩, ?_, r⟩
          · rw [updA_ne (nSL _ (by simp)), updA_ne (ne' ek), updA_ne (neL' ek), updA_ne (ne' ek)]; exact ek
          · rw [updA_ne (nSL _ (by simp)), updA_ne (ne' eL), updA_ne (neL' eL), updA_ne (ne' eL)]; exact eL
        · rw [List.mem_singleton.mp hx]
          refine ⟨⟨_, by rw [updA_ne (ne' eS).symm]; exact updA_same, NoTwice.nil.pt.pt.pt.pt, Nat.le_of_ble_eq_true rfl, rfl, rfl, rfl, rfl⟩, by rw [updA_ne (neL' eS).symm, updA_ne neL]; exact updA_same, x7.isN hp, x7.isN nL⟩
      · have old : ∀ z ∈ ss.flatMap (fun x => [x.1, x.2]), z ≠ p ∧ z ≠ L := fun z hz => by
          obtain ⟨x, hx, hz⟩ := List.mem_flatMap.mp hz
          obtain ⟨⟨kv, ek, rk⟩, eL, r⟩ := all x hx
          simp at hz
          rcases hz with rfl | rfl
          · exact ⟨ne' ek, neL' ek⟩
          · exact ⟨ne' eL, neL' eL⟩
        have a := ne' eS
        have b := neL' eS
        rw [List.flatMap_append, List.append_assoc, List.nodup_append]
        rw [List.nodup_append] at nd
        refine ⟨nd.1, ?_, fun z hz y hy c => ?_⟩
        · simp
          exact ⟨⟨neL.symm, a.symm⟩, b.symm⟩
        · simp at hy
          subst c
          rcases hy with hy | hy | hy
          · exact (old _ hz).1 hy
          · exact (old _ hz).2 hy
          · exact nd.2.2 z hz SL (by simp) hy
    · obtain ⟨x7, ss, ls, eS, all, nd⟩ := pv
      match ss, ls with
      | [(s0, L0), (s1, L1)], _ =>
        obtain ⟨a1, a2, a3, a4⟩ := all (s0, L0) (by simp)
        obtain ⟨b1, b2, b3, b4⟩ := all (s1, L1) (by simp)
        have up : ∀ {L}, h' L = some (.lst (ps.map A.ref)) → RowAt h' L ps fs := fun e => ⟨e, (row7.up x7).2⟩
        exact hJ _ _ ⟨SL, s0, L0, s1, L1, rfl, x7, eS, hSL, a1, b1, up a2, up b2, a3, a4, b3, b4, nd⟩
  obtain ⟨SL, s0, L0, s1, L1, rfl, x78, eSL, nSL, st0, st1, row0, row1, n0, n1, n2, n3, nd⟩ := pv
  have eKL8 := x78 _ _ eKL7
  have pair : ∀ k R P s L, KeepAt K h7 k R P (fs.map ruleF) [] 0 → StateAt h8 s L 0 false (-1) → RowAt h8 L ps fs → h7 L = none → One K h8 ⟨k, R, P, s, L⟩ 0 := fun k R P s L ka st row n => ⟨fs, [], 0, false, -1,
    { ka := ka.up x78, st := st, row := ⟨ps, row⟩, len := by omega, nb := nb, RL := fun c => (by have n : h7 L = none := n; have c : R = L := c; rw [← c, ka.r] at n; cases n), nt := NoTwice.nil, kl := Nat.zero_le _, ml := by decide, new := fun _ => ⟨rfl, rfl⟩, pm := by decide, tree := fun H2 _ => ⟨(tree_nil _ _ (fs.map ruleF)).1, (tree_nil 0 H2 _).2, fun z => absurd z (by decide)⟩ }, Nat.le_refl _⟩
  have two : Two K h8 ⟨k0, R0, P0, s0, L0⟩ ⟨k1, R1, P1, s1, L1⟩ 0 [KL, SL] := by
    have na : ∀ z ∈ [k0, R0, P0], h7 z ≠ none := fun z hz n => by
      simp at hz
      rcases hz with hz | hz | hz <;> rw [hz] at n
      · rw [kb0.k] at n; cases n
      · rw [kb0.r] at n; cases n
      · rw [kb0.p] at n; cases n
    have nb : ∀ z ∈ [k1, R1, P1], h7 z ≠ none := fun z hz n => by
      simp at hz
      rcases hz with hz | hz | hz <;> rw [hz] at n
      · rw [kb1.k] at n; cases n
      · rw [kb1.r] at n; cases n
      · rw [kb1.p] at n; cases n
    have ns0 : ∀ z ∈ [s0, L0], h7 z = none := fun z hz => by
      simp at hz
      rcases hz with rfl | rfl
      · exact n0
      · exact n1
    have ns1 : ∀ z ∈ [s1, L1], h7 z = none := fun z hz => by
      simp at hz
      rcases hz with rfl | rfl
      · exact n2
      · exact n3
    have sp : ∀ {a b c d e z : Addr}, z ∈ Q5.all ⟨a, b, c, d, e⟩ → z ∈ [a, b, c] ∨ z ∈ [d, e] := fun {a b c d e z} hz => by
      simp [Q5.all] at hz
      simp
      rcases hz with hz | hz | hz | hz | hz
      · exact .inl (.inl hz)
      · exact .inl (.inr (.inl hz))
      · exact .inl (.inr (.inr hz))
      · exact .inr (.inl hz)
      · exact .inr (.inr hz)
    have nd' : (∀ z ∈ [s0, L0], z ∉ [s1, L1]) ∧ SL ∉ [s0, L0] ∧ SL ∉ [s1, L1] := by
      simp at nd
      obtain ⟨⟨q1, q2, q3, q4⟩, ⟨q5, q6, q7⟩, ⟨q8, q9⟩, q10⟩ := nd
      refine ⟨fun z hz c => ?_, fun c => ?_, fun c => ?_⟩
      · simp at hz c
        rcases hz with rfl | rfl <;> rcases c with c | c
        · exact q2 c
        · exact q3 c
        · exact q5 c
        · exact q6 c
      · simp at c
        rcases c with c | c
        · exact q4 c.symm
        · exact q7 c.symm
      · simp at c
        rcases c with c | c
        · exact q9 c.symm
        · exact q10 c.symm
    have nKL7 : h7 KL ≠ none := by rw [eKL7]; simp
    refine ⟨pair _ _ _ _ _ kb0 st0 row0 n1, pair _ _ _ _ _ kb1 st1 row1 n3, fun z hz hy => ?_, fun z hz => ?_⟩
    · rcases sp hz with hz | hz <;> rcases sp hy with hy | hy
      · refine (d0 z hz).2 ?_
        simp at hy
        simp
        rcases hy with hy | hy | hy
        · exact .inl hy
        · exact .inr (.inl hy)
        · exact .inr (.inr (.inl hy))
      · exact na z hz (ns1 z hy)
      · exact nb z hy (ns0 z hz)
      · exact nd'.1 z hz hy
    · simp at hz
      rcases hz with rfl | rfl
      · refine ⟨fun c => ?_, fun c => ?_, by rw [eKL8]; simp⟩
        · rcases sp c with c | c
          · exact (d0 _ c).2 (by simp)
          · exact nKL7 (ns0 _ c)
        · rcases sp c with c | c
          · exact (d1 _ c).2 rfl
          · exact nKL7 (ns1 _ c)
      · refine ⟨fun c => ?_, fun c => ?_, by rw [eSL]; simp⟩
        · rcases sp c with c | c
          · exact na _ c nSL
          · exact nd'.2.1 c
        · rcases sp c with c | c
          · exact nb _ c nSL
          · exact nd'.2.2 c
  clear pair
  refine seq_cut (fun α h' => ∃ x y e f g u, α = [some (.fls (ns.map A.int)), some (.ref w), some (.int m), some (.ref D), some (.ref Hd), some (.ref KL), some (.ref SL), e, f, g, u, none] ∧ Two K h' x y 2000 [KL, SL] ∧ h' KL = some (.lst [.ref x.k, .ref y.k]) ∧ h' SL = some (.lst [.ref x.s, .ref y.s])) (fun J hJ => ?_) fun α h9 pv => ?_
  · try dsimp only [nb, aRet, aRetN, aSeq, aIfS, aNext, aBreak, aCont, aDrop, aAsg, aPar, aAug, aSetL, aSetF, aFld, aVar, aC, aNil, aCons, aTup, aLst, a1, a2, aN, aAndV, aOrV, aNotV, aIf, aAnd, aOr, aNot, aTest, aChn, aCall, aMeth, aMake, aBmL, aRaise, aTryOnly, aTryAs, aFor, aiSeq, aiRng1, aiRng2, aiEnum, agN, agNil, agCons, agTup, aSlL, aRev, aNoPart, aPart, aNewK, aNewT, aLc, aWhile, asB, asT, iA, iA0, subA, modA, modP, divP, divA, powA, ltA, leA, gtA, geA, addA, mulA, negA, lenA, absA, intA, allA, listA, tupleA, one, two, sp0, sp1, sp2, sp3, sp4, sp5, sp6, appendA, reverseA, clearA, wipeA, putFA, List.getElem?_cons_zero, List.getElem?_cons_succ, List.set_cons_zero, List.set_cons_succ, List.cons_append, List.nil_append, List.append_nil]
    intro r hr
    have c24 := cut24 (ns.map A.int)
    have ci : ∀ z ∈ cutA (ns.map A.int) (some 1) (some 25), ∃ i : Int, z = .int i := fun z hz => by
      obtain ⟨i, _, e⟩ := List.mem_map.mp (cutA_mem hz)
      exact ⟨i, e.symm⟩
    generalize cutA (ns.map A.int) (some 1) (some 25) = Z at *
    have xr := Ext.new (o := .lst Z) hr
    have two : Two K (updA h8 r (.lst Z)) ⟨k0, R0, P0, s0, L0⟩ ⟨k1, R1, P1, s1, L1⟩ 0 [KL, SL, r] := by
      have t := two.up xr
      refine ⟨t.a, t.b, t.d, fun z hz => ?_⟩
      simp at hz
      rcases hz with rfl | rfl | rfl
      · exact t.g _ (by simp)
      · exact t.g _ (by simp)
      · exact two.more hr
    refine for_it (xs := Z) (fun i α h' => ∃ x y e f g u, α = [some (.fls (ns.map A.int)), some (.ref w), some (.int m), some (.ref D), some (.ref Hd), some (.ref KL), some (.ref SL), e, f, g, u, none] ∧ Two K h' x y (64 * i) [KL, SL, r] ∧ h' KL = some (.lst [.ref x.k, .ref y.k]) ∧ h' SL = some (.lst [.ref x.s, .ref y.s]) ∧ h' r = some (.lst Z)) (itA_ref.mpr updA_same) ⟨_, _, _, _, _, _, rfl, two, xr _ _ eKL8, xr _ _ eSL, updA_same⟩ (fun p e i α h' _ pv => by cases e; exact pv.choose_spec.choose_spec.choose_spec.choose_spec.choose_spec.choose_spec.2.2.2.2) (fun i hi α h' pv => ?_) fun α h' pv => ?_
    · obtain ⟨x, y, e, f, g, u, rfl, two, eKL, eSL, er⟩ := pv
      obtain ⟨c, hc⟩ := ci _ (List.getElem_mem hi)
      rw [hc]
      refine seq_cut (fun α h2 => ∃ v, α = [some (.fls (ns.map A.int)), some (.ref w), some (.int m), some (.ref D), some (.ref Hd), some (.ref KL), some (.ref SL), some (.int c), some (.ref v), g, u, none] ∧ WellAt h2 v ∧ h' v = none ∧ Ext h' h2) (fun J hJ => ?_) fun α h2 pv => ?_
      · try dsimp only [nb, aRet, aRetN, aSeq, aIfS, aNext, aBreak, aCont, aDrop, aAsg, aPar, aAug, aSetL, aSetF, aFld, aVar, aC, aNil, aCons, aTup, aLst, a1, a2, aN, aAndV, aOrV, aNotV, aIf, aAnd, aOr, aNot, aTest, aChn, aCall, aMeth, aMake, aBmL, aRaise, aTryOnly, aTryAs, aFor, aiSeq, aiRng1, aiRng2, aiEnum, agN, agNil, agCons, agTup, aSlL, aRev, aNoPart, aPart, aNewK, aNewT, aLc, aWhile, asB, asT, iA, iA0, subA, modA, modP, divP, divA, powA, ltA, leA, gtA, geA, addA, mulA, negA, lenA, absA, intA, allA, listA, tupleA, one, two, sp0, sp1, sp2, sp3, sp4, sp5, sp6, appendA, reverseA, clearA, wipeA, putFA, List.getElem?_cons_zero, List.getElem?_cons_succ, List.set_cons_zero, List.set_cons_succ, List.cons_append, List.nil_append, List.append_nil, R_law_well]
        exact ⟨c, rfl, fun v h2 n W x => hJ _ _ ⟨v, rfl, W, n, x⟩⟩
      obtain ⟨v, rfl, hv, nv, x2⟩ := pv
      have gv : ∀ z ∈ [KL, SL, r], z ≠ v := fun z hz c => (two.g z hz).2.2 (by rw [c]; exact nv)
      refine seq_cut (fun α h3 => ∃ b : Int, α = [some (.fls (ns.map A.int)), some (.ref w), some (.int m), some (.ref D), some (.ref Hd), some (.ref KL), some (.ref SL), some (.int c), some (.ref v), some (.int b), u, none] ∧ (b = 0 ∨ b = 1) ∧ Wl v h2 h3) (fun J hJ => ?_) fun α h3 pv => ?_
      · try dsimp only [nb, aRet, aRetN, aSeq, aIfS, aNext, aBreak, aCont, aDrop, aAsg, aPar, aAug, aSetL, aSetF, aFld, aVar, aC, aNil, aCons, aTup, aLst, a1, a2, aN, aAndV, aOrV, aNotV, aIf, aAnd, aOr, aNot, aTest, aChn, aCall, aMeth, aMake, aBmL, aRaise, aTryOnly, aTryAs, aFor, aiSeq, aiRng1, aiRng2, aiEnum, agN, agNil, agCons, agTup, aSlL, aRev, aNoPart, aPart, aNewK, aNewT, aLc, aWhile, asB, asT, iA, iA0, subA, modA, modP, divP, divA, powA, ltA, leA, gtA, geA, addA, mulA, negA, lenA, absA, intA, allA, listA, tupleA, one, two, sp0, sp1, sp2, sp3, sp4, sp5, sp6, appendA, reverseA, clearA, wipeA, putFA, List.getElem?_cons_zero, List.getElem?_cons_succ, List.set_cons_zero, List.set_cons_succ, List.cons_append, List.nil_append, List.append_nil, R_law_draw]
        refine ⟨v, 3, rfl, rfl, by decide, by decide, hv, fun r' h3 r0 r1 W => ?_⟩
        exact ⟨cd, hJ _ _ ⟨r' / 2, rfl, by omega, W⟩⟩
      obtain ⟨b, rfl, hb, W⟩ := pv
      have two3 := (two.up x2).wl hv W gv
      have kp : ∀ z o, z ∈ [KL, SL, r] → h' z = some o → h3 z = some o := fun z o hz e => W.2 z o (gv z hz) (x2 _ _ e)
      have eKL3 := kp _ _ (by simp) eKL
      have eSL3 := kp _ _ (by simp) eSL
      have er3 := kp _ _ (by simp) er
      refine seq_cut (fun α h' => ∃ x y b, α = [some (.fls (ns.map A.int)), some (.ref w), some (.int m), some (.ref D), some (.ref Hd), some (.ref KL), some (.ref SL), some (.int c), some (.ref v), some (.int b), u, none] ∧ Two K h' x y (64 * (i + 1)) [KL, SL, r] ∧ h' KL = some (.lst [.ref x.k, .ref y.k]) ∧ h' SL = some (.lst [.ref x.s, .ref y.s]) ∧ h' r = some (.lst Z)) (fun J hJ => ?_) fun α h4 pv => ?_
      · have fin : ∀ h4 : AH, (∀ z o, z ∈ [KL, SL, r] → z ≠ v → h3 z = some o → h4 z = some o) → h4 KL = some (.lst [.ref x.k, .ref y.k]) ∧ h4 SL = some (.lst [.ref x.s, .ref y.s]) ∧ h4 r = some (.lst Z) := fun h4 k => ⟨k _ _ (by simp) (gv _ (by simp)) eKL3, k _ _ (by simp) (gv _ (by simp)) eSL3, k _ _ (by simp) (gv _ (by simp)) er3⟩
        try dsimp only [nb, aRet, aRetN, aSeq, aIfS, aNext, aBreak, aCont, aDrop, aAsg, aPar, aAug, aSetL, aSetF, aFld, aVar, aC, aNil, aCons, aTup, aLst, a1, a2, aN, aAndV, aOrV, aNotV, aIf, aAnd, aOr, aNot, aTest, aChn, aCall, aMeth, aMake, aBmL, aRaise, aTryOnly, aTryAs, aFor, aiSeq, aiRng1, aiRng2, aiEnum, agN, agNil, agCons, agTup, aSlL, aRev, aNoPart, aPart, aNewK, aNewT, aLc, aWhile, asB, asT, iA, iA0, subA, modA, modP, divP, divA, powA, ltA, leA, gtA, geA, addA, mulA, negA, lenA, absA, intA, allA, listA, tupleA, one, two, sp0, sp1, sp2, sp3, sp4, sp5, sp6, appendA, reverseA, clearA, wipeA, putFA, List.getElem?_cons_zero, List.getElem?_cons_succ, List.set_cons_zero, List.set_cons_succ, List.cons_append, List.nil_append, List.append_nil, R_law_deed]
        rcases hb with rfl | rfl
        · refine ix_ref eKL3 rfl (ix_ref eSL3 rfl ?_)
          obtain ⟨fs', kvs', made', asked', puts', pa, hm⟩ := two3.a
          refine ⟨x.k, x.R, x.P, x.s, x.L, fs', kvs', made', asked', puts', v, rfl, rfl, rfl, pa, by omega, W.1, fun h4 st => ?_⟩
          obtain ⟨x', ek, es, two4, keep⟩ := two3.step W.1 gv hm st
          obtain ⟨f1, f2, f3⟩ := fin h4 keep
          refine hJ _ _ ⟨x', y, _, rfl, two4, ?_, ?_, f3⟩
          · rw [ek]; exact f1
          · rw [es]; exact f2
        · refine ix_ref eKL3 rfl (ix_ref eSL3 rfl ?_)
          obtain ⟨fs', kvs', made', asked', puts', pa, hm⟩ := two3.b
          refine ⟨y.k, y.R, y.P, y.s, y.L, fs', kvs', made', asked', puts', v, rfl, rfl, rfl, pa, by omega, W.1, fun h4 st => ?_⟩
          obtain ⟨y', ek, es, two4, keep⟩ := two3.swap.step W.1 gv hm st
          obtain ⟨f1, f2, f3⟩ := fin h4 keep
          refine hJ _ _ ⟨x, y', _, rfl, two4.swap, ?_, ?_, f3⟩
          · rw [ek]; exact f1
          · rw [es]; exact f2
      obtain ⟨x, y, b, rfl, two, eKL, eSL, er⟩ := pv
      try dsimp only [nb, aRet, aRetN, aSeq, aIfS, aNext, aBreak, aCont, aDrop, aAsg, aPar, aAug, aSetL, aSetF, aFld, aVar, aC, aNil, aCons, aTup, aLst, a1, a2, aN, aAndV, aOrV, aNotV, aIf, aAnd, aOr, aNot, aTest, aChn, aCall, aMeth, aMake, aBmL, aRaise, aTryOnly, aTryAs, aFor, aiSeq, aiRng1, aiRng2, aiEnum, agN, agNil, agCons, agTup, aSlL, aRev, aNoPart, aPart, aNewK, aNewT, aLc, aWhile, asB, asT, iA, iA0, subA, modA, modP, divP, divA, powA, ltA, leA, gtA, geA, addA, mulA, negA, lenA, absA, intA, allA, listA, tupleA, one, two, sp0, sp1, sp2, sp3, sp4, sp5, sp6, appendA, reverseA, clearA, wipeA, putFA, List.getElem?_cons_zero, List.getElem?_cons_succ, List.set_cons_zero, List.set_cons_succ, List.cons_append, List.nil_append, List.append_nil, R_law_still]
      refine ⟨by decide, loop_rng (fun j α h' => ∃ u, α = [some (.fls (ns.map A.int)), some (.ref w), some (.int m), some (.ref D), some (.ref Hd), some (.ref KL), some (.ref SL), some (.int c), some (.ref v), some (.int b), u, none] ∧ Two K h' x y (64 * (i + 1)) [KL, SL, r] ∧ h' KL = some (.lst [.ref x.k, .ref y.k]) ∧ h' SL = some (.lst [.ref x.s, .ref y.s]) ∧ h' r = some (.lst Z)) ⟨_, rfl, two, eKL, eSL, er⟩ (fun j hj α h5 pv => ?_) fun α h5 pv => ?_⟩
      · obtain ⟨u, rfl, two, eKL, eSL, er⟩ := pv
        have done : ∀ h6 : AH, Ext h5 h6 → Two K h6 x y (64 * (i + 1)) [KL, SL, r] ∧ h6 KL = some (.lst [.ref x.k, .ref y.k]) ∧ h6 SL = some (.lst [.ref x.s, .ref y.s]) ∧ h6 r = some (.lst Z) := fun h6 e => ⟨two.up e, e _ _ eKL, e _ _ eSL, e _ _ er⟩
        have hj2 : j = 0 ∨ j = 1 := by have : j < 2 := hj; omega
        try dsimp only [nb, aRet, aRetN, aSeq, aIfS, aNext, aBreak, aCont, aDrop, aAsg, aPar, aAug, aSetL, aSetF, aFld, aVar, aC, aNil, aCons, aTup, aLst, a1, a2, aN, aAndV, aOrV, aNotV, aIf, aAnd, aOr, aNot, aTest, aChn, aCall, aMeth, aMake, aBmL, aRaise, aTryOnly, aTryAs, aFor, aiSeq, aiRng1, aiRng2, aiEnum, agN, agNil, agCons, agTup, aSlL, aRev, aNoPart, aPart, aNewK, aNewT, aLc, aWhile, asB, asT, iA, iA0, subA, modA, modP, divP, divA, powA, ltA, leA, gtA, geA, addA, mulA, negA, lenA, absA, intA, allA, listA, tupleA, one, two, sp0, sp1, sp2, sp3, sp4, sp5, sp6, appendA, reverseA, clearA, wipeA, putFA, List.getElem?_cons_zero, List.getElem?_cons_succ, List.set_cons_zero, List.set_cons_succ, List.cons_append, List.nil_append, List.append_nil, R_law_still]
        rcases hj2 with rfl | rfl
        · obtain ⟨fs', kvs', made', asked', puts', pa, hm⟩ := two.a
          exact ix_ref eKL rfl (ix_ref eSL rfl ⟨x.k, x.R, x.P, x.s, x.L, fs', kvs', made', asked', puts', rfl, rfl, pa, fun h6 e => ⟨_, rfl, done h6 e⟩⟩)
        · obtain ⟨fs', kvs', made', asked', puts', pa, hm⟩ := two.b
          exact ix_ref eKL rfl (ix_ref eSL rfl ⟨y.k, y.R, y.P, y.s, y.L, fs', kvs', made', asked', puts', rfl, rfl, pa, fun h6 e => ⟨_, rfl, done h6 e⟩⟩)
      · obtain ⟨u, rfl, two, eKL, eSL, er⟩ := pv
        exact ⟨x, y, _, _, _, _, rfl, two, eKL, eSL, er⟩
    · obtain ⟨x, y, e, f, g, u, rfl, two, eKL, eSL, er⟩ := pv
      exact hJ _ _ ⟨x, y, e, f, g, u, rfl, ⟨two.a.mono (by omega), two.b.mono (by omega), two.d, fun z hz => two.g z (by simp at hz; rcases hz with rfl | rfl <;> simp)⟩, eKL, eSL⟩
  obtain ⟨x, y, e, f, g, u, rfl, two, eKL9, eSL9⟩ := pv
  try dsimp only [nb, aRet, aRetN, aSeq, aIfS, aNext, aBreak, aCont, aDrop, aAsg, aPar, aAug, aSetL, aSetF, aFld, aVar, aC, aNil, aCons, aTup, aLst, a1, a2, aN, aAndV, aOrV, aNotV, aIf, aAnd, aOr, aNot, aTest, aChn, aCall, aMeth, aMake, aBmL, aRaise, aTryOnly, aTryAs, aFor, aiSeq, aiRng1, aiRng2, aiEnum, agN, agNil, agCons, agTup, aSlL, aRev, aNoPart, aPart, aNewK, aNewT, aLc, aWhile, asB, asT, iA, iA0, subA, modA, modP, divP, divA, powA, ltA, leA, gtA, geA, addA, mulA, negA, lenA, absA, intA, allA, listA, tupleA, one, two, sp0, sp1, sp2, sp3, sp4, sp5, sp6, appendA, reverseA, clearA, wipeA, putFA, List.getElem?_cons_zero, List.getElem?_cons_succ, List.set_cons_zero, List.set_cons_succ, List.cons_append, List.nil_append, List.append_nil, R_law_whole, R_law_still]
  refine ⟨by simp; decide, fun r hr => ?_⟩
  have xr := Ext.new (o := .lst [.int 0, .int 1, .int 0]) hr
  have two : Two K (updA h9 r (.lst [.int 0, .int 1, .int 0])) x y 2000 [KL, SL, r] := by
    have t := two.up xr
    refine ⟨t.a, t.b, t.d, fun z hz => ?_⟩
    simp at hz
    rcases hz with rfl | rfl | rfl
    · exact t.g _ (by simp)
    · exact t.g _ (by simp)
    · exact two.more hr
  have eKL := xr _ _ eKL9
  have eSL := xr _ _ eSL9
  refine for_it (xs := [.int 0, .int 1, .int 0]) (fun i α h' => ∃ x y e f g u, α = [some (.fls (ns.map A.int)), some (.ref w), some (.int m), some (.ref D), some (.ref Hd), some (.ref KL), some (.ref SL), e, f, g, u, none] ∧ Two K h' x y (2000 + 64 * i) [KL, SL, r] ∧ h' KL = some (.lst [.ref x.k, .ref y.k]) ∧ h' SL = some (.lst [.ref x.s, .ref y.s]) ∧ h' r = some (.lst [.int 0, .int 1, .int 0])) (itA_ref.mpr updA_same) ⟨_, _, _, _, _, _, rfl, two, eKL, eSL, updA_same⟩ (fun p e i α h' _ pv => by cases e; exact pv.choose_spec.choose_spec.choose_spec.choose_spec.choose_spec.choose_spec.2.2.2.2) (fun i hi α h' pv => ?_) fun α h' pv => ?_
  · obtain ⟨x, y, e, f, g, u, rfl, two, eKL, eSL, er⟩ := pv
    have hi3 : i = 0 ∨ i = 1 ∨ i = 2 := by have : i < 3 := hi; omega
    try dsimp only [nb, aRet, aRetN, aSeq, aIfS, aNext, aBreak, aCont, aDrop, aAsg, aPar, aAug, aSetL, aSetF, aFld, aVar, aC, aNil, aCons, aTup, aLst, a1, a2, aN, aAndV, aOrV, aNotV, aIf, aAnd, aOr, aNot, aTest, aChn, aCall, aMeth, aMake, aBmL, aRaise, aTryOnly, aTryAs, aFor, aiSeq, aiRng1, aiRng2, aiEnum, agN, agNil, agCons, agTup, aSlL, aRev, aNoPart, aPart, aNewK, aNewT, aLc, aWhile, asB, asT, iA, iA0, subA, modA, modP, divP, divA, powA, ltA, leA, gtA, geA, addA, mulA, negA, lenA, absA, intA, allA, listA, tupleA, one, two, sp0, sp1, sp2, sp3, sp4, sp5, sp6, appendA, reverseA, clearA, wipeA, putFA, List.getElem?_cons_zero, List.getElem?_cons_succ, List.set_cons_zero, List.set_cons_succ, List.cons_append, List.nil_append, List.append_nil, R_law_whole, R_law_still]
    rcases hi3 with rfl | rfl | rfl
    · refine ix_ref eKL rfl (ix_ref eSL rfl (sp2_of (R := R_law_whole K) ?_))
      refine wholeOf two (by omega) fun h4 x' ek es t4 keep => ?_
      have eKL4 := keep _ _ (by simp) eKL
      have eSL4 := keep _ _ (by simp) eSL
      have er4 := keep _ _ (by simp) er
      rw [← ek] at eKL4
      rw [← es] at eSL4
      try dsimp only [nb, aRet, aRetN, aSeq, aIfS, aNext, aBreak, aCont, aDrop, aAsg, aPar, aAug, aSetL, aSetF, aFld, aVar, aC, aNil, aCons, aTup, aLst, a1, a2, aN, aAndV, aOrV, aNotV, aIf, aAnd, aOr, aNot, aTest, aChn, aCall, aMeth, aMake, aBmL, aRaise, aTryOnly, aTryAs, aFor, aiSeq, aiRng1, aiRng2, aiEnum, agN, agNil, agCons, agTup, aSlL, aRev, aNoPart, aPart, aNewK, aNewT, aLc, aWhile, asB, asT, iA, iA0, subA, modA, modP, divP, divA, powA, ltA, leA, gtA, geA, addA, mulA, negA, lenA, absA, intA, allA, listA, tupleA, one, two, sp0, sp1, sp2, sp3, sp4, sp5, sp6, appendA, reverseA, clearA, wipeA, putFA, List.getElem?_cons_zero, List.getElem?_cons_succ, List.set_cons_zero, List.set_cons_succ, List.cons_append, List.nil_append, List.append_nil]
      rw [if_neg (show ¬ ((!true) = true) by decide)]
      refine ix_ref eKL4 rfl (ix_ref eSL4 rfl (sp2_of (R := R_law_still K) ?_))
      exact stillOf t4.a fun h5 e5 => ⟨x', y, _, _, _, _, rfl, t4.up e5, e5 _ _ eKL4, e5 _ _ eSL4, e5 _ _ er4⟩
    · refine ix_ref eKL rfl (ix_ref eSL rfl (sp2_of (R := R_law_whole K) ?_))
      refine wholeOf two.swap (by omega) fun h4 x' ek es t4 keep => ?_
      have eKL4 := keep _ _ (by simp) eKL
      have eSL4 := keep _ _ (by simp) eSL
      have er4 := keep _ _ (by simp) er
      rw [← ek] at eKL4
      rw [← es] at eSL4
      try dsimp only [nb, aRet, aRetN, aSeq, aIfS, aNext, aBreak, aCont, aDrop, aAsg, aPar, aAug, aSetL, aSetF, aFld, aVar, aC, aNil, aCons, aTup, aLst, a1, a2, aN, aAndV, aOrV, aNotV, aIf, aAnd, aOr, aNot, aTest, aChn, aCall, aMeth, aMake, aBmL, aRaise, aTryOnly, aTryAs, aFor, aiSeq, aiRng1, aiRng2, aiEnum, agN, agNil, agCons, agTup, aSlL, aRev, aNoPart, aPart, aNewK, aNewT, aLc, aWhile, asB, asT, iA, iA0, subA, modA, modP, divP, divA, powA, ltA, leA, gtA, geA, addA, mulA, negA, lenA, absA, intA, allA, listA, tupleA, one, two, sp0, sp1, sp2, sp3, sp4, sp5, sp6, appendA, reverseA, clearA, wipeA, putFA, List.getElem?_cons_zero, List.getElem?_cons_succ, List.set_cons_zero, List.set_cons_succ, List.cons_append, List.nil_append, List.append_nil]
      rw [if_neg (show ¬ ((!true) = true) by decide)]
      refine ix_ref eKL4 rfl (ix_ref eSL4 rfl (sp2_of (R := R_law_still K) ?_))
      exact stillOf t4.a fun h5 e5 => ⟨x, x', _, _, _, _, rfl, t4.swap.up e5, e5 _ _ eKL4, e5 _ _ eSL4, e5 _ _ er4⟩
    · refine ix_ref eKL rfl (ix_ref eSL rfl (sp2_of (R := R_law_whole K) ?_))
      refine wholeOf two (by omega) fun h4 x' ek es t4 keep => ?_
      have eKL4 := keep _ _ (by simp) eKL
      have eSL4 := keep _ _ (by simp) eSL
      have er4 := keep _ _ (by simp) er
      rw [← ek] at eKL4
      rw [← es] at eSL4
      try dsimp only [nb, aRet, aRetN, aSeq, aIfS, aNext, aBreak, aCont, aDrop, aAsg, aPar, aAug, aSetL, aSetF, aFld, aVar, aC, aNil, aCons, aTup, aLst, a1, a2, aN, aAndV, aOrV, aNotV, aIf, aAnd, aOr, aNot, aTest, aChn, aCall, aMeth, aMake, aBmL, aRaise, aTryOnly, aTryAs, aFor, aiSeq, aiRng1, aiRng2, aiEnum, agN, agNil, agCons, agTup, aSlL, aRev, aNoPart, aPart, aNewK, aNewT, aLc, aWhile, asB, asT, iA, iA0, subA, modA, modP, divP, divA, powA, ltA, leA, gtA, geA, addA, mulA, negA, lenA, absA, intA, allA, listA, tupleA, one, two, sp0, sp1, sp2, sp3, sp4, sp5, sp6, appendA, reverseA, clearA, wipeA, putFA, List.getElem?_cons_zero, List.getElem?_cons_succ, List.set_cons_zero, List.set_cons_succ, List.cons_append, List.nil_append, List.append_nil]
      rw [if_neg (show ¬ ((!true) = true) by decide)]
      refine ix_ref eKL4 rfl (ix_ref eSL4 rfl (sp2_of (R := R_law_still K) ?_))
      exact stillOf t4.a fun h5 e5 => ⟨x', y, _, _, _, _, rfl, t4.up e5, e5 _ _ eKL4, e5 _ _ eSL4, e5 _ _ er4⟩
  · exact q h'
theorem law_reads {K : Frg} (ns : List Int) (_ : ns.length ≤ 63) (_ : ∀ z ∈ ns, Builtin.Int.intBits z ≤ 1048576) : sp_law K [.fls (ns.map A.int)] (fun _ => none) (fun v _ => v = .bl true) AE0 := ⟨ns, rfl, fun _ => rfl⟩
end GL
namespace GL
open PySem PySem.Spec L2 G
section
variable {P : Program} {w : World} {K : Frg} {mg : Str → Option Value} {base : Heap}
theorem ok_divisor (T : Txt K mg) (F : ∃ fd, FunD K d_divisor.name d_divisor.qual d_divisor.params d_divisor.body d_divisor.scope [] [] (f_divisor K) fd)  : DefOk P w K mg base (f_divisor K) 1 a_divisor (sp_divisor K) :=
  defOk (k := 0) (t := t_divisor K) F (fun _ _ _ _ _ _ us hl => match us, hl with | [_, _], _ => rfl) sc_divisor (fun cdv A outer s H E hr hp =>
  (ass_cons (as_while hp (at_cmp (opr_ne hr.units) o_ne (av 1) ae_int (nomark _))
  (ass_one (as_par 0 1 rfl sc_divisor.nd rfl rfl (by decide) rfl rfl (aa_cons (av 1) (aa_cons (ae_op op_modN o_mod (av 0) (av 1)) aa_nil)) (by rfl))))
  (ass_one (as_ret (ae_callB call_abs o_abs rfl T.n_abs (by decide +kernel) (aa_cons (av 0) aa_nil)))))) (sp2_in (T := fun as _ _ _ => as.length = 2) fun _ _ _ _ _ _ => rfl) (sp2_in fun _ _ _ _ _ h => rd_divisor T.toTK h)
theorem ok_made (T : Txt K mg) (F : ∃ fd, FunD K d_made.name d_made.qual d_made.params d_made.body d_made.scope [] [] (f_made K) fd) (h_divisor : DefOk P w K mg base (f_divisor K) 1 a_divisor (sp_divisor K)) : DefOk P w K mg base (f_made K) 2 a_made (sp_made K) :=
  defOk (k := 1) (t := t_made K) F (fun _ _ _ _ _ _ us hl => match us, hl with | [_, _], _ => rfl) sc_made (fun cdv A outer s H E hr hp =>
  (ass_cons (as_if (at_cmp (opr_eq hr.units) o_eq (av 1) ae_int (nomark _))
  (ass_one (as_raise rfl T.x_NoFraction rfl))
  ass_nil)
  (ass_cons (as_set 2 sc_made.nd rfl (Or.inl rfl) (c_call h_divisor (hr.mono (by decide)) T.g_divisor (aa_cons (av 0) (aa_cons (av 1) aa_nil))))
  (ass_cons (as_if (at_cmp op_lt o_lt (av 1) ae_int (nomark _))
  (ass_one (as_set 2 sc_made.nd rfl (Or.inl rfl) (ae_un un_neg o_neg (av 2))))
  ass_nil)
  (ass_one (as_ret (ae_tup (aa_cons (ae_op opr_div o_div (av 0) (av 2)) (aa_cons (ae_op opr_div o_div (av 1) (av 2)) aa_nil))))))))) (sp2_in (T := fun as _ _ _ => as.length = 2) fun _ _ _ _ _ _ => rfl) (sp2_in fun _ _ _ _ _ h => rd_made T.toTK h)
theorem ok_plus (T : Txt K mg) (F : ∃ fd, FunD K d_plus.name d_plus.qual d_plus.params d_plus.body d_plus.scope [] [] (f_plus K) fd) (h_made : DefOk P w K mg base (f_made K) 2 a_made (sp_made K)) : DefOk P w K mg base (f_plus K) 3 a_plus (sp_plus K) :=
  defOk (k := 2) (t := t_plus K) F (fun _ _ _ _ _ _ us hl => match us, hl with | [_, _], _ => rfl) sc_plus (fun cdv A outer s H E hr hp =>
  (ass_one (as_ret (c_call h_made (hr.mono (by decide)) T.g_made (aa_cons (ae_op opr_add o_add (ae_op opr_mul o_mul (ae_ix ixr_all o_ix (av 0) ae_int (fun _ _ => rfl)) (ae_ix ixr_all o_ix (av 1) ae_int (fun _ _ => rfl))) (ae_op opr_mul o_mul (ae_ix ixr_all o_ix (av 1) ae_int (fun _ _ => rfl)) (ae_ix ixr_all o_ix (av 0) ae_int (fun _ _ => rfl)))) (aa_cons (ae_op opr_mul o_mul (ae_ix ixr_all o_ix (av 0) ae_int (fun _ _ => rfl)) (ae_ix ixr_all o_ix (av 1) ae_int (fun _ _ => rfl))) aa_nil)))))) (sp2_in (T := fun as _ _ _ => as.length = 2) fun _ _ _ _ _ _ => rfl) (sp2_in fun _ _ _ _ _ h => rd_plus T.toTK h)
theorem ok_times (T : Txt K mg) (F : ∃ fd, FunD K d_times.name d_times.qual d_times.params d_times.body d_times.scope [] [] (f_times K) fd) (h_made : DefOk P w K mg base (f_made K) 2 a_made (sp_made K)) : DefOk P w K mg base (f_times K) 3 a_times (sp_times K) :=
  defOk (k := 2) (t := t_times K) F (fun _ _ _ _ _ _ us hl => match us, hl with | [_, _], _ => rfl) sc_times (fun cdv A outer s H E hr hp =>
  (ass_one (as_ret (c_call h_made (hr.mono (by decide)) T.g_made (aa_cons (ae_op opr_mul o_mul (ae_ix ixr_all o_ix (av 0) ae_int (fun _ _ => rfl)) (ae_ix ixr_all o_ix (av 1) ae_int (fun _ _ => rfl))) (aa_cons (ae_op opr_mul o_mul (ae_ix ixr_all o_ix (av 0) ae_int (fun _ _ => rfl)) (ae_ix ixr_all o_ix (av 1) ae_int (fun _ _ => rfl))) aa_nil)))))) (sp2_in (T := fun as _ _ _ => as.length = 2) fun _ _ _ _ _ _ => rfl) (sp2_in fun _ _ _ _ _ h => rd_times T.toTK h)
theorem ok_behind (T : Txt K mg) (F : ∃ fd, FunD K d_behind.name d_behind.qual d_behind.params d_behind.body d_behind.scope [] [] (f_behind K) fd) (h_plus : DefOk P w K mg base (f_plus K) 3 a_plus (sp_plus K)) (h_times : DefOk P w K mg base (f_times K) 3 a_times (sp_times K)) : DefOk P w K mg base (f_behind K) 4 a_behind (sp_behind K) :=
  defOk (k := 3) (t := t_behind K) F (fun _ _ _ _ _ _ us hl => match us, hl with | [_, _], _ => rfl) sc_behind (fun cdv A outer s H E hr hp =>
  (ass_cons (as_asg (av 0) (ag_tup rfl (ags_cons (ag_name 2 sc_behind.nd rfl (Or.inl rfl)) (ags_cons (ag_name 3 sc_behind.nd rfl (Or.inl rfl)) (ags_cons (ag_name 4 sc_behind.nd rfl (Or.inl rfl)) (ags_cons (ag_name 5 sc_behind.nd rfl (Or.inl rfl)) (ags_cons (ag_name 6 sc_behind.nd rfl (Or.inl rfl)) ags_nil)))))))
  (ass_cons (as_asg (av 1) (ag_tup rfl (ags_cons (ag_name 7 sc_behind.nd rfl (Or.inl rfl)) (ags_cons (ag_name 8 sc_behind.nd rfl (Or.inl rfl)) (ags_cons (ag_name 9 sc_behind.nd rfl (Or.inl rfl)) (ags_cons (ag_name 10 sc_behind.nd rfl (Or.inl rfl)) (ags_cons (ag_name 11 sc_behind.nd rfl (Or.inl rfl)) ags_nil)))))))
  (ass_one (as_ret (ae_tup (aa_cons (c_call h_times (hr.mono (by decide)) T.g_times (aa_cons (av 7) (aa_cons (av 2) aa_nil))) (aa_cons (c_call h_plus (hr.mono (by decide)) T.g_plus (aa_cons (c_call h_times (hr.mono (by decide)) T.g_times (aa_cons (av 7) (aa_cons (av 3) aa_nil))) (aa_cons (c_call h_times (hr.mono (by decide)) T.g_times (aa_cons (av 8) (aa_cons (av 5) aa_nil))) aa_nil))) (aa_cons (c_call h_plus (hr.mono (by decide)) T.g_plus (aa_cons (c_call h_plus (hr.mono (by decide)) T.g_plus (aa_cons (c_call h_times (hr.mono (by decide)) T.g_times (aa_cons (av 7) (aa_cons (av 4) aa_nil))) (aa_cons (c_call h_times (hr.mono (by decide)) T.g_times (aa_cons (av 8) (aa_cons (av 6) aa_nil))) aa_nil))) (aa_cons (av 9) aa_nil))) (aa_cons (c_call h_times (hr.mono (by decide)) T.g_times (aa_cons (av 10) (aa_cons (av 5) aa_nil))) (aa_cons (c_call h_plus (hr.mono (by decide)) T.g_plus (aa_cons (c_call h_times (hr.mono (by decide)) T.g_times (aa_cons (av 10) (aa_cons (av 6) aa_nil))) (aa_cons (av 11) aa_nil))) aa_nil))))))))))) (sp2_in (T := fun as _ _ _ => as.length = 2) fun _ _ _ _ _ _ => rfl) (sp2_in fun _ _ _ _ _ h => rd_behind T.toTK h)
theorem ok_Keeper_init (T : Txt K mg) (F : ∃ fd, FunD K d_Keeper_init.name d_Keeper_init.qual d_Keeper_init.params d_Keeper_init.body d_Keeper_init.scope [] [] (f_Keeper_init K) fd)  : DefOk P w K mg base (f_Keeper_init K) 1 a_Keeper_init (sp_Keeper_init K) :=
  defOk (k := 0) (t := t_Keeper_init K) F (fun _ _ _ _ _ _ us hl => match us, hl with | [_, _], _ => rfl) sc_Keeper_init (fun cdv A outer s H E hr hp =>
  (ass_cons (as_fld (av 0) (ae_callTy call_list_of o_list rfl T.n_list (by decide +kernel) (aa_cons (av 1) aa_nil)) rfl)
  (ass_cons (as_fld (av 0) ae_newT rfl)
  (ass_one (as_fld (av 0) ae_int rfl))))) (sp2_in (T := fun as _ _ _ => as.length = 2) fun _ _ _ _ _ _ => rfl) (sp2_in fun _ _ _ _ _ h => rd_Keeper_init T.toTK h)
theorem ok_Keeper_many (T : Txt K mg) (F : ∃ fd, FunD K d_Keeper_many.name d_Keeper_many.qual d_Keeper_many.params d_Keeper_many.body d_Keeper_many.scope [] [] (f_Keeper_many K) fd)  : DefOk P w K mg base (f_Keeper_many K) 1 a_Keeper_many (sp_Keeper_many K) :=
  defOk (k := 0) (t := t_Keeper_many K) F (fun _ _ _ _ _ _ us hl => match us, hl with | [_], _ => rfl) sc_Keeper_many (fun cdv A outer s H E hr hp =>
  (ass_one (as_ret (ae_callB call_len_seq o_len rfl T.n_len boot_len (aa_cons (ae_fld (av 0) rfl) aa_nil))))) (sp1_in (T := fun as _ _ _ => as.length = 1) fun _ _ _ _ _ => rfl) (sp1_in fun _ _ _ _ h => rd_Keeper_many T.toTK h)
theorem ok_Keeper_made (T : Txt K mg) (F : ∃ fd, FunD K d_Keeper_made.name d_Keeper_made.qual d_Keeper_made.params d_Keeper_made.body d_Keeper_made.scope [] [] (f_Keeper_made K) fd)  : DefOk P w K mg base (f_Keeper_made K) 1 a_Keeper_made (sp_Keeper_made K) :=
  defOk (k := 0) (t := t_Keeper_made K) F (fun _ _ _ _ _ _ us hl => match us, hl with | [_], _ => rfl) sc_Keeper_made (fun cdv A outer s H E hr hp =>
  (ass_one (as_ret (ae_fld (av 0) rfl)))) (sp1_in (T := fun as _ _ _ => as.length = 1) fun _ _ _ _ _ => rfl) (sp1_in fun _ _ _ _ h => rd_Keeper_made T.toTK h)
theorem ok_Keeper_height (T : Txt K mg) (F : ∃ fd, FunD K d_Keeper_height.name d_Keeper_height.qual d_Keeper_height.params d_Keeper_height.body d_Keeper_height.scope [] [] (f_Keeper_height K) fd)  : DefOk P w K mg base (f_Keeper_height K) 1 a_Keeper_height (sp_Keeper_height K) :=
  defOk (k := 0) (t := t_Keeper_height K) F (fun _ _ _ _ _ _ us hl => match us, hl with | [_], _ => rfl) sc_Keeper_height (fun cdv A outer s H E hr hp =>
  (ass_cons (as_set 1 sc_Keeper_height.nd rfl (Or.inl rfl) ae_int)
  (ass_cons (as_set 2 sc_Keeper_height.nd rfl (Or.inl rfl) ae_int)
  (ass_cons (as_while hp (at_cmp op_lt o_lt (av 2) (ae_callB call_len_seq o_len rfl T.n_len boot_len (aa_cons (ae_fld (av 0) rfl) aa_nil)) (nomark _))
  (ass_cons (as_set 2 sc_Keeper_height.nd rfl (Or.inl rfl) (ae_op opr_mul o_mul (av 2) ae_int))
  (ass_one (as_aug 1 sc_Keeper_height.nd rfl (Or.inl rfl) ae_int ip_add o_ipadd))))
  (ass_one (as_ret (av 1))))))) (sp1_in (T := fun as _ _ _ => as.length = 1) fun _ _ _ _ _ => rfl) (sp1_in fun _ _ _ _ h => rd_Keeper_height T.toTK h)
theorem ok_Keeper_check (T : Txt K mg) (F : ∃ fd, FunD K d_Keeper_check.name d_Keeper_check.qual d_Keeper_check.params d_Keeper_check.body d_Keeper_check.scope [] [] (f_Keeper_check K) fd)  : DefOk P w K mg base (f_Keeper_check K) 1 a_Keeper_check (sp_Keeper_check K) :=
  defOk (k := 0) (t := t_Keeper_check K) F (fun _ _ _ _ _ _ us hl => match us, hl with | [_, _, _], _ => rfl) sc_Keeper_check (fun cdv A outer s H E hr hp =>
  (ass_one (as_if (AW.at (aw_or (at_cmp op_lt o_lt (av 1) ae_int (nomark _)) (aw_or1 (at_cmp op_ge o_ge (av 1) (av 2) (nomark _)))))
  (ass_one (as_raise rfl T.x_NoLayer rfl))
  ass_nil))) (sp3_in (T := fun as _ _ _ => as.length = 3) fun _ _ _ _ _ _ _ => rfl) (sp3_in fun _ _ _ _ _ _ h => rd_Keeper_check T.toTK h)
theorem ok_Keeper_rule_at (T : Txt K mg) (F : ∃ fd, FunD K d_Keeper_rule_at.name d_Keeper_rule_at.qual d_Keeper_rule_at.params d_Keeper_rule_at.body d_Keeper_rule_at.scope [] [] (f_Keeper_rule_at K) fd) (h_Keeper_check : DefOk P w K mg base (f_Keeper_check K) 1 a_Keeper_check (sp_Keeper_check K)) : DefOk P w K mg base (f_Keeper_rule_at K) 2 a_Keeper_rule_at (sp_Keeper_rule_at K) :=
  defOk (k := 1) (t := t_Keeper_rule_at K) F (fun _ _ _ _ _ _ us hl => match us, hl with | [_, _], _ => rfl) sc_Keeper_rule_at (fun cdv A outer s H E hr hp =>
  (ass_cons (as_expr (c_meth (av 0) T.cl_Keeper T.m_Keeper_check h_Keeper_check (hr.mono (by decide)) (aa_cons (av 1) (aa_cons (ae_callB call_len_seq o_len rfl T.n_len boot_len (aa_cons (ae_fld (av 0) rfl) aa_nil)) aa_nil))))
  (ass_one (as_ret (ae_ix ixr_all o_ix (ae_fld (av 0) rfl) (av 1) (fun _ _ => rfl)))))) (sp2_in (T := fun as _ _ _ => as.length = 2) fun _ _ _ _ _ _ => rfl) (sp2_in fun _ _ _ _ _ h => rd_Keeper_rule_at T.toTK h)
theorem ok_Keeper_put_at (T : Txt K mg) (F : ∃ fd, FunD K d_Keeper_put_at.name d_Keeper_put_at.qual d_Keeper_put_at.params d_Keeper_put_at.body d_Keeper_put_at.scope [] [] (f_Keeper_put_at K) fd) (h_Keeper_check : DefOk P w K mg base (f_Keeper_check K) 1 a_Keeper_check (sp_Keeper_check K)) (h_Keeper_height : DefOk P w K mg base (f_Keeper_height K) 1 a_Keeper_height (sp_Keeper_height K)) : DefOk P w K mg base (f_Keeper_put_at K) 2 a_Keeper_put_at (sp_Keeper_put_at K) :=
  defOk (k := 1) (t := t_Keeper_put_at K) F (fun _ _ _ _ _ _ us hl => match us, hl with | [_, _, _], _ => rfl) sc_Keeper_put_at (fun cdv A outer s H E hr hp =>
  (ass_cons (as_expr (c_meth (av 0) T.cl_Keeper T.m_Keeper_check h_Keeper_check (hr.mono (by decide)) (aa_cons (av 1) (aa_cons (ae_callB call_len_seq o_len rfl T.n_len boot_len (aa_cons (ae_fld (av 0) rfl) aa_nil)) aa_nil))))
  (ass_cons (as_setL (av 2) (ae_fld (av 0) rfl) (av 1))
  (ass_cons (as_set 3 sc_Keeper_put_at.nd rfl (Or.inl rfl) ae_int)
  (ass_one (as_for hp rfl (ai_range1 rfl T.n_range (aa_cons (c_meth0 (av 0) T.cl_Keeper T.m_Keeper_height h_Keeper_height (hr.mono (by decide))) aa_nil)) (ag_name 4 sc_Keeper_put_at.nd rfl (Or.inl rfl))
  (ass_cons (as_expr (ae_bmD PySem.F.slot_dict_pop PySem.F.type_dict_pop (DX.mt_popT (hu_of hr)) o_dpop (ae_fld (av 0) rfl) (aa_cons (ae_kt (aa_cons (ae_op opr_mul o_mul (ae_op opr_div o_div (av 1) (av 3)) (av 3)) (aa_cons (av 3) aa_nil))) (aa_cons ae_non aa_nil))))
  (ass_one (as_set 3 sc_Keeper_put_at.nd rfl (Or.inl rfl) (ae_op opr_mul o_mul (av 3) ae_int)))))))))) (sp3_in (T := fun as _ _ _ => as.length = 3) fun _ _ _ _ _ _ _ => rfl) (sp3_in fun _ _ _ _ _ _ h => rd_Keeper_put_at T.toTK h)
theorem ok_Keeper_put_in (T : Txt K mg) (F : ∃ fd, FunD K d_Keeper_put_in.name d_Keeper_put_in.qual d_Keeper_put_in.params d_Keeper_put_in.body d_Keeper_put_in.scope [] [] (f_Keeper_put_in K) fd) (h_Keeper_check : DefOk P w K mg base (f_Keeper_check K) 1 a_Keeper_check (sp_Keeper_check K)) : DefOk P w K mg base (f_Keeper_put_in K) 2 a_Keeper_put_in (sp_Keeper_put_in K) :=
  defOk (k := 1) (t := t_Keeper_put_in K) F (fun _ _ _ _ _ _ us hl => match us, hl with | [_, _, _], _ => rfl) sc_Keeper_put_in (fun cdv A outer s H E hr hp =>
  (ass_cons (as_expr (c_meth (av 0) T.cl_Keeper T.m_Keeper_check h_Keeper_check (hr.mono (by decide)) (aa_cons (av 1) (aa_cons (ae_op opr_add o_add (ae_callB call_len_seq o_len rfl T.n_len boot_len (aa_cons (ae_fld (av 0) rfl) aa_nil)) ae_int) aa_nil))))
  (ass_cons (as_expr (ae_bm PySem.F.slot_list_insert PySem.F.type_list_insert mt_insert o_insert (ae_fld (av 0) rfl) (aa_cons (av 1) (aa_cons (av 2) aa_nil))))
  (ass_one (as_fld (av 0) ae_newT rfl))))) (sp3_in (T := fun as _ _ _ => as.length = 3) fun _ _ _ _ _ _ _ => rfl) (sp3_in fun _ _ _ _ _ _ h => rd_Keeper_put_in T.toTK h)
theorem ok_Keeper_take_out (T : Txt K mg) (F : ∃ fd, FunD K d_Keeper_take_out.name d_Keeper_take_out.qual d_Keeper_take_out.params d_Keeper_take_out.body d_Keeper_take_out.scope [] [] (f_Keeper_take_out K) fd) (h_Keeper_check : DefOk P w K mg base (f_Keeper_check K) 1 a_Keeper_check (sp_Keeper_check K)) : DefOk P w K mg base (f_Keeper_take_out K) 2 a_Keeper_take_out (sp_Keeper_take_out K) :=
  defOk (k := 1) (t := t_Keeper_take_out K) F (fun _ _ _ _ _ _ us hl => match us, hl with | [_, _], _ => rfl) sc_Keeper_take_out (fun cdv A outer s H E hr hp =>
  (ass_cons (as_expr (c_meth (av 0) T.cl_Keeper T.m_Keeper_check h_Keeper_check (hr.mono (by decide)) (aa_cons (av 1) (aa_cons (ae_callB call_len_seq o_len rfl T.n_len boot_len (aa_cons (ae_fld (av 0) rfl) aa_nil)) aa_nil))))
  (ass_cons (as_expr (ae_bm PySem.F.slot_list_pop PySem.F.type_list_pop mt_popAt o_popAt (ae_fld (av 0) rfl) (aa_cons (av 1) aa_nil)))
  (ass_one (as_fld (av 0) ae_newT rfl))))) (sp2_in (T := fun as _ _ _ => as.length = 2) fun _ _ _ _ _ _ => rfl) (sp2_in fun _ _ _ _ _ h => rd_Keeper_take_out T.toTK h)
theorem okn_Keeper_part (T : Txt K mg) (F : ∃ fd, FunD K d_Keeper_part.name d_Keeper_part.qual d_Keeper_part.params d_Keeper_part.body d_Keeper_part.scope [] [] (f_Keeper_part K) fd) (h_behind : DefOk P w K mg base (f_behind K) 4 a_behind (sp_behind K)) : ∀ n, DefOk P w K mg base (f_Keeper_part K) (4 + n + 1) a_Keeper_part (sp_Keeper_part n K)
  | 0 => defOk0 F (fun _ _ _ _ _ _ us hl => match us, hl with | [_, _, _], _ => rfl) sc_Keeper_part (sp3_in (T := fun _ _ _ _ => False) fun _ _ _ _ _ _ h => h)
  | n + 1 => by
    have h_Keeper_part := okn_Keeper_part T F h_behind n
    exact defOk (k := 4 + n + 1) (t := t_Keeper_part n K) F (fun _ _ _ _ _ _ us hl => match us, hl with | [_, _, _], _ => rfl) sc_Keeper_part (fun cdv A outer s H E hr hp =>
  (ass_cons (as_if (at_cmp (opr_eq hr.units) o_eq (av 2) ae_int (nomark _))
  (ass_one (as_ret (ae_ix ixr_all o_ix (ae_fld (av 0) rfl) (av 1) (fun _ _ => rfl))))
  ass_nil)
  (ass_cons (as_set 3 sc_Keeper_part.nd rfl (Or.inl rfl) (ae_op op_fdivW o_divP (av 2) ae_int))
  (ass_cons (as_if (at_cmp op_ge o_ge (ae_op opr_add o_add (av 1) (av 3)) (ae_callB call_len_seq o_len rfl T.n_len boot_len (aa_cons (ae_fld (av 0) rfl) aa_nil)) (nomark _))
  (ass_one (as_ret (c_meth (av 0) T.cl_Keeper T.m_Keeper_part h_Keeper_part (hr.mono (by omega)) (aa_cons (av 1) (aa_cons (av 3) aa_nil)))))
  ass_nil)
  (ass_cons (as_if (at_cmp (opr_dnotin (hu_of hr)) (o_din true) (ae_kt (aa_cons (av 1) (aa_cons (av 2) aa_nil))) (ae_fld (av 0) rfl) rfl)
  (ass_cons (as_faug (av 0) ae_int in_add o_radd)
  (ass_one (as_dput (hu_of hr) (ae_fld (av 0) rfl) (ae_kt (aa_cons (av 1) (aa_cons (av 2) aa_nil))) (c_call h_behind (hr.mono (by omega)) T.g_behind (aa_cons (c_meth (av 0) T.cl_Keeper T.m_Keeper_part h_Keeper_part (hr.mono (by omega)) (aa_cons (av 1) (aa_cons (av 3) aa_nil))) (aa_cons (c_meth (av 0) T.cl_Keeper T.m_Keeper_part h_Keeper_part (hr.mono (by omega)) (aa_cons (ae_op opr_add o_add (av 1) (av 3)) (aa_cons (av 3) aa_nil))) aa_nil))) rfl)))
  ass_nil)
  (ass_one (as_ret (ae_dget (hu_of hr) (ae_fld (av 0) rfl) (ae_kt (aa_cons (av 1) (aa_cons (av 2) aa_nil))) (fun _ _ => rfl))))))))) (sp3_in (T := fun as _ _ _ => as.length = 3) fun _ _ _ _ _ _ _ => rfl) (sp3_in fun _ _ _ _ _ _ h => rd_Keeper_part T.toTK h)
theorem ok_Keeper_part (T : Txt K mg) (F : ∃ fd, FunD K d_Keeper_part.name d_Keeper_part.qual d_Keeper_part.params d_Keeper_part.body d_Keeper_part.scope [] [] (f_Keeper_part K) fd) (h_behind : DefOk P w K mg base (f_behind K) 4 a_behind (sp_behind K)) : DefOk P w K mg base (f_Keeper_part K) 13 a_Keeper_part (sp_Keeper_part depth_Keeper_part K) := okn_Keeper_part T F h_behind 8
theorem ok_Keeper_whole (T : Txt K mg) (F : ∃ fd, FunD K d_Keeper_whole.name d_Keeper_whole.qual d_Keeper_whole.params d_Keeper_whole.body d_Keeper_whole.scope [] [] (f_Keeper_whole K) fd) (h_Keeper_height : DefOk P w K mg base (f_Keeper_height K) 1 a_Keeper_height (sp_Keeper_height K)) (h_Keeper_part : DefOk P w K mg base (f_Keeper_part K) 13 a_Keeper_part (sp_Keeper_part depth_Keeper_part K)) : DefOk P w K mg base (f_Keeper_whole K) 14 a_Keeper_whole (sp_Keeper_whole K) :=
  defOk (k := 13) (t := t_Keeper_whole K) F (fun _ _ _ _ _ _ us hl => match us, hl with | [_], _ => rfl) sc_Keeper_whole (fun cdv A outer s H E hr hp =>
  (ass_cons (as_if (at_cmp (opr_eq hr.units) o_eq (ae_fld (av 0) rfl) (ae_lst aa_nil) (nomark _))
  (ass_one (as_ret (ae_gcon rfl T.v_IDENTITY)))
  ass_nil)
  (ass_cons (as_set 1 sc_Keeper_whole.nd rfl (Or.inl rfl) ae_int)
  (ass_cons (as_for hp rfl (ai_range1 rfl T.n_range (aa_cons (c_meth0 (av 0) T.cl_Keeper T.m_Keeper_height h_Keeper_height (hr.mono (by decide))) aa_nil)) (ag_name 2 sc_Keeper_whole.nd rfl (Or.inl rfl))
  (ass_one (as_set 1 sc_Keeper_whole.nd rfl (Or.inl rfl) (ae_op opr_mul o_mul (av 1) ae_int))))
  (ass_one (as_ret (c_meth (av 0) T.cl_Keeper T.m_Keeper_part h_Keeper_part (hr.mono (by decide)) (aa_cons ae_int (aa_cons (av 1) aa_nil))))))))) (sp1_in (T := fun as _ _ _ => as.length = 1) fun _ _ _ _ _ => rfl) (sp1_in fun _ _ _ _ h => rd_Keeper_whole T.toTK h)
theorem ok_law_cell_at (T : Txt K mg) (F : ∃ fd, FunD K d_law_cell_at.name d_law_cell_at.qual d_law_cell_at.params d_law_cell_at.body d_law_cell_at.scope [] [] (f_law_cell_at K) fd)  : DefOk P w K mg base (f_law_cell_at K) 1 a_law_cell_at (sp_law_cell_at K) :=
  defOk (k := 0) (t := t_law_cell_at K) F (fun _ _ _ _ _ _ us hl => match us, hl with | [_, _], _ => rfl) sc_law_cell_at (fun cdv A outer s H E hr hp =>
  (ass_cons (as_if (at_cmp op_lt o_lt (av 1) (ae_callB call_len_seq o_len rfl T.n_len boot_len (aa_cons (av 0) aa_nil)) (nomark _))
  (ass_one (as_ret (ae_ix ixr_all o_ix (av 0) (av 1) (fun _ _ => rfl))))
  ass_nil)
  (ass_one (as_ret ae_int)))) (sp2_in (T := fun as _ _ _ => as.length = 2) fun _ _ _ _ _ _ => rfl) (sp2_in fun _ _ _ _ _ h => rd_law_cell_at T.toTK h)
theorem ok_law_well (T : Txt K mg) (F : ∃ fd, FunD K d_law_well.name d_law_well.qual d_law_well.params d_law_well.body d_law_well.scope [] [] (f_law_well K) fd)  : DefOk P w K mg base (f_law_well K) 1 a_law_well (sp_law_well K) :=
  defOk (k := 0) (t := t_law_well K) F (fun _ _ _ _ _ _ us hl => match us, hl with | [_], _ => rfl) sc_law_well (fun cdv A outer s H E hr hp =>
  (ass_one (as_ret (ae_lst (aa_cons (ae_op opr_mul o_mul (av 0) (ae_callTy call_int1 o_int rfl T.n_int (by decide +kernel) (aa_cons (ae_cmp op_ge o_ge (av 0) (ae_op op_pow o_pow ae_int ae_int) (nomark _)) aa_nil))) (aa_cons (ae_op op_mod o_modP (av 0) ae_int) (aa_cons ae_int aa_nil))))))) (sp1_in (T := fun as _ _ _ => as.length = 1) fun _ _ _ _ _ => rfl) (sp1_in fun _ _ _ _ h => rd_law_well T.toTK h)
theorem ok_law_draw (T : Txt K mg) (F : ∃ fd, FunD K d_law_draw.name d_law_draw.qual d_law_draw.params d_law_draw.body d_law_draw.scope [] [] (f_law_draw K) fd)  : DefOk P w K mg base (f_law_draw K) 1 a_law_draw (sp_law_draw K) :=
  defOk (k := 0) (t := t_law_draw K) F (fun _ _ _ _ _ _ us hl => match us, hl with | [_, _], _ => rfl) sc_law_draw (fun cdv A outer s H E hr hp =>
  (ass_cons (as_if (at_cmp op_gt o_gt (ae_ix ixr_all o_ix (av 0) ae_int (fun _ _ => rfl)) ae_int (nomark _))
  (ass_cons (as_set 2 sc_law_draw.nd rfl (Or.inl rfl) (ae_op op_modN o_mod (ae_ix ixr_all o_ix (av 0) ae_int (fun _ _ => rfl)) (av 1)))
  (ass_cons (as_setL (ae_op opr_div o_div (ae_ix ixr_all o_ix (av 0) ae_int (fun _ _ => rfl)) (av 1)) (av 0) ae_int)
  (ass_one (as_ret (av 2)))))
  ass_nil)
  (ass_cons (as_setL (ae_op opr_add o_add (ae_ix ixr_all o_ix (av 0) ae_int (fun _ _ => rfl)) ae_int) (av 0) ae_int)
  (ass_cons (as_set 3 sc_law_draw.nd rfl (Or.inl rfl) (ae_op op_mod o_modP (ae_op opr_mul o_mul (ae_op opr_add o_add (ae_op opr_add o_add (ae_ix ixr_all o_ix (av 0) ae_int (fun _ _ => rfl)) (ae_op opr_mul o_mul ae_int (ae_ix ixr_all o_ix (av 0) ae_int (fun _ _ => rfl)))) ae_int) ae_int) ae_int))
  (ass_cons (as_set 3 sc_law_draw.nd rfl (Or.inl rfl) (ae_op op_mod o_modP (ae_op opr_mul o_mul (av 3) (ae_op opr_add o_add (ae_op op_fdivW o_divP (av 3) ae_int) ae_int)) ae_int))
  (ass_one (as_ret (ae_op op_modN o_mod (ae_op op_mod o_modP (ae_op opr_mul o_mul (av 3) (ae_op opr_add o_add (ae_op op_fdivW o_divP (av 3) ae_int) ae_int)) ae_int) (av 1))))))))) (sp2_in (T := fun as _ _ _ => as.length = 2) fun _ _ _ _ _ _ => rfl) (sp2_in fun _ _ _ _ _ h => rd_law_draw T.toTK h)
theorem ok_law_lowest (T : Txt K mg) (F : ∃ fd, FunD K d_law_lowest.name d_law_lowest.qual d_law_lowest.params d_law_lowest.body d_law_lowest.scope [] [] (f_law_lowest K) fd)  : DefOk P w K mg base (f_law_lowest K) 1 a_law_lowest (sp_law_lowest K) :=
  defOk (k := 0) (t := t_law_lowest K) F (fun _ _ _ _ _ _ us hl => match us, hl with | [_, _], _ => rfl) sc_law_lowest (fun cdv A outer s H E hr hp =>
  (ass_cons (as_par 2 3 rfl sc_law_lowest.nd rfl rfl (by decide) rfl rfl (aa_cons (ae_callB call_abs o_abs rfl T.n_abs (by decide +kernel) (aa_cons (av 0) aa_nil)) (aa_cons (av 1) aa_nil)) (by rfl))
  (ass_cons (as_while hp (at_cmp (opr_ne hr.units) o_ne (av 3) ae_int (nomark _))
  (ass_one (as_par 2 3 rfl sc_law_lowest.nd rfl rfl (by decide) rfl rfl (aa_cons (av 3) (aa_cons (ae_op op_modN o_mod (av 2) (av 3)) aa_nil)) (by rfl))))
  (ass_one (as_ret (ae_tup (aa_cons (ae_op opr_div o_div (av 0) (av 2)) (aa_cons (ae_op opr_div o_div (av 1) (av 2)) aa_nil)))))))) (sp2_in (T := fun as _ _ _ => as.length = 2) fun _ _ _ _ _ _ => rfl) (sp2_in fun _ _ _ _ _ h => rd_law_lowest T.toTK h)
theorem ok_law_five (T : Txt K mg) (F : ∃ fd, FunD K d_law_five.name d_law_five.qual d_law_five.params d_law_five.body d_law_five.scope [] [] (f_law_five K) fd) (h_law_draw : DefOk P w K mg base (f_law_draw K) 1 a_law_draw (sp_law_draw K)) : DefOk P w K mg base (f_law_five K) 2 a_law_five (sp_law_five K) :=
  defOk (k := 1) (t := t_law_five K) F (fun _ _ _ _ _ _ us hl => match us, hl with | [_], _ => rfl) sc_law_five (fun cdv A outer s H E hr hp =>
  (ass_cons (as_set 1 sc_law_five.nd rfl (Or.inl rfl) (c_call h_law_draw (hr.mono (by decide)) T.g__law_draw (aa_cons (av 0) (aa_cons ae_int aa_nil))))
  (ass_cons (as_set 2 sc_law_five.nd rfl (Or.inl rfl) (c_call h_law_draw (hr.mono (by decide)) T.g__law_draw (aa_cons (av 0) (aa_cons (ae_op opr_add o_add (av 1) ae_int) aa_nil))))
  (ass_cons (as_set 3 sc_law_five.nd rfl (Or.inl rfl) (ae_lst (aa_cons (ae_lst (aa_cons (ae_op op_sub o_sub ae_int (av 1)) (aa_cons ae_int (aa_cons (av 2) (aa_cons (ae_op op_sub o_sub ae_int (av 1)) (aa_cons (av 1) aa_nil)))))) (aa_cons (ae_lst (aa_cons ae_int (aa_cons (ae_op op_sub o_sub ae_int (av 2)) (aa_cons (av 2) (aa_cons (ae_op op_sub o_sub ae_int (av 1)) (aa_cons (av 1) aa_nil)))))) (aa_cons (ae_lst (aa_cons (ae_op op_sub o_sub ae_int (av 2)) (aa_cons ae_int (aa_cons (av 2) (aa_cons (ae_op op_sub o_sub ae_int (av 1)) (aa_cons (av 1) aa_nil)))))) aa_nil)))))
  (ass_cons (as_set 3 sc_law_five.nd rfl (Or.inl rfl) (ae_op opr_add o_add (av 3) (ae_lst (aa_cons (ae_lst (aa_cons (ae_op opr_add o_add (ae_op op_sub o_sub ae_int (av 1)) (av 2)) (aa_cons (ae_op op_sub o_sub ae_int (av 2)) (aa_cons (av 2) (aa_cons (ae_op op_sub o_sub ae_int (av 1)) (aa_cons (av 1) aa_nil)))))) (aa_cons (ae_lst (aa_cons (ae_op op_sub o_sub ae_int (av 1)) (aa_cons (av 2) (aa_cons ae_int (aa_cons ae_int (aa_cons ae_int aa_nil)))))) (aa_cons (ae_lst (aa_cons (av 2) (aa_cons (ae_op op_sub o_sub (av 1) (av 2)) (aa_cons ae_int (aa_cons ae_int (aa_cons ae_int aa_nil)))))) aa_nil))))))
  (ass_one (as_ret (ae_ix ixr_all o_ix (av 3) (c_call h_law_draw (hr.mono (by decide)) T.g__law_draw (aa_cons (av 0) (aa_cons ae_int aa_nil))) (fun _ _ => rfl))))))))) (sp1_in (T := fun as _ _ _ => as.length = 1) fun _ _ _ _ _ => rfl) (sp1_in fun _ _ _ _ h => rd_law_five T.toTK h)
theorem ok_law_rule (T : Txt K mg) (F : ∃ fd, FunD K d_law_rule.name d_law_rule.qual d_law_rule.params d_law_rule.body d_law_rule.scope [] [] (f_law_rule K) fd) (h_law_lowest : DefOk P w K mg base (f_law_lowest K) 1 a_law_lowest (sp_law_lowest K)) : DefOk P w K mg base (f_law_rule K) 2 a_law_rule (sp_law_rule K) :=
  defOk (k := 1) (t := t_law_rule K) F (fun _ _ _ _ _ _ us hl => match us, hl with | [_, _], _ => rfl) sc_law_rule (fun cdv A outer s H E hr hp =>
  (ass_one (as_ret (ae_callTy call_tuple_of o_tuple rfl T.n_tuple (by decide +kernel) (aa_cons (ae_lc (own := [("top", 2)]) rfl sc_law_rule.nd (ai_seq (av 0)) (blkOk_by (N := N_law_rule) (sc := defScope s_law_rule) (by decide +kernel)) (fun _ _ _ _ _ => (ag_name 2 sc_law_rule.nd rfl (Or.inl rfl))) (fun _ _ _ _ _ => ats_nil) (fun _ _ _ _ _ => (c_call h_law_lowest (hr.mono (by decide)) T.g__law_lowest (aa_cons (av 2) (aa_cons (av 1) aa_nil)))) (by decide)) aa_nil))))) (sp2_in (T := fun as _ _ _ => as.length = 2) fun _ _ _ _ _ _ => rfl) (sp2_in fun _ _ _ _ _ h => rd_law_rule T.toTK h)
theorem ok_law_product (T : Txt K mg) (F : ∃ fd, FunD K d_law_product.name d_law_product.qual d_law_product.params d_law_product.body d_law_product.scope [] [] (f_law_product K) fd) (h_law_rule : DefOk P w K mg base (f_law_rule K) 2 a_law_rule (sp_law_rule K)) : DefOk P w K mg base (f_law_product K) 3 a_law_product (sp_law_product K) :=
  defOk (k := 2) (t := t_law_product K) F (fun _ _ _ _ _ _ us hl => match us, hl with | [_], _ => rfl) sc_law_product (fun cdv A outer s H E hr hp =>
  (ass_cons (as_asg (ae_tup (aa_cons ae_int (aa_cons ae_int (aa_cons ae_int (aa_cons ae_int (aa_cons ae_int (aa_cons ae_int aa_nil))))))) (ag_tup rfl (ags_cons (ag_name 1 sc_law_product.nd rfl (Or.inl rfl)) (ags_cons (ag_name 2 sc_law_product.nd rfl (Or.inl rfl)) (ags_cons (ag_name 3 sc_law_product.nd rfl (Or.inl rfl)) (ags_cons (ag_name 4 sc_law_product.nd rfl (Or.inl rfl)) (ags_cons (ag_name 5 sc_law_product.nd rfl (Or.inl rfl)) (ags_cons (ag_name 6 sc_law_product.nd rfl (Or.inl rfl)) ags_nil))))))))
  (ass_cons (as_for hp rfl (ai_seq (av 0)) (ag_name 7 sc_law_product.nd rfl (Or.inl rfl))
  (ass_cons (as_par 3 5 rfl sc_law_product.nd rfl rfl (by decide) rfl rfl (aa_cons (ae_op opr_add o_add (ae_op opr_add o_add (ae_op opr_mul o_mul (ae_ix ixr_all o_ix (av 7) ae_int (fun _ _ => rfl)) (av 3)) (ae_op opr_mul o_mul (ae_ix ixr_all o_ix (av 7) ae_int (fun _ _ => rfl)) (av 5))) (ae_op opr_mul o_mul (ae_ix ixr_all o_ix (av 7) ae_int (fun _ _ => rfl)) (av 6))) (aa_cons (ae_op opr_add o_add (ae_op opr_mul o_mul (ae_ix ixr_all o_ix (av 7) ae_int (fun _ _ => rfl)) (av 5)) (ae_op opr_mul o_mul (ae_ix ixr_all o_ix (av 7) ae_int (fun _ _ => rfl)) (av 6))) aa_nil)) (by rfl))
  (ass_one (as_asg (ae_tup (aa_cons (ae_op opr_mul o_mul (ae_ix ixr_all o_ix (av 7) ae_int (fun _ _ => rfl)) (av 1)) (aa_cons (ae_op opr_add o_add (ae_op opr_mul o_mul (ae_ix ixr_all o_ix (av 7) ae_int (fun _ _ => rfl)) (av 2)) (ae_op opr_mul o_mul (ae_ix ixr_all o_ix (av 7) ae_int (fun _ _ => rfl)) (av 4))) (aa_cons (ae_op opr_mul o_mul (ae_ix ixr_all o_ix (av 7) ae_int (fun _ _ => rfl)) (av 4)) (aa_cons (ae_op opr_mul o_mul ae_int (av 6)) aa_nil))))) (ag_tup rfl (ags_cons (ag_name 1 sc_law_product.nd rfl (Or.inl rfl)) (ags_cons (ag_name 2 sc_law_product.nd rfl (Or.inl rfl)) (ags_cons (ag_name 4 sc_law_product.nd rfl (Or.inl rfl)) (ags_cons (ag_name 6 sc_law_product.nd rfl (Or.inl rfl)) ags_nil)))))))))
  (ass_one (as_ret (c_call h_law_rule (hr.mono (by decide)) T.g__law_rule (aa_cons (ae_lst (aa_cons (av 1) (aa_cons (av 2) (aa_cons (av 3) (aa_cons (av 4) (aa_cons (av 5) aa_nil)))))) (aa_cons (av 6) aa_nil)))))))) (sp1_in (T := fun as _ _ _ => as.length = 1) fun _ _ _ _ _ => rfl) (sp1_in fun _ _ _ _ h => rd_law_product T.toTK h)
theorem ok_law_height (T : Txt K mg) (F : ∃ fd, FunD K d_law_height.name d_law_height.qual d_law_height.params d_law_height.body d_law_height.scope [] [] (f_law_height K) fd)  : DefOk P w K mg base (f_law_height K) 1 a_law_height (sp_law_height K) :=
  defOk (k := 0) (t := t_law_height K) F (fun _ _ _ _ _ _ us hl => match us, hl with | [_], _ => rfl) sc_law_height (fun cdv A outer s H E hr hp =>
  (ass_cons (as_set 1 sc_law_height.nd rfl (Or.inl rfl) ae_int)
  (ass_cons (as_set 2 sc_law_height.nd rfl (Or.inl rfl) ae_int)
  (ass_cons (as_while hp (at_cmp op_lt o_lt (av 2) (av 0) (nomark _))
  (ass_cons (as_set 2 sc_law_height.nd rfl (Or.inl rfl) (ae_op opr_mul o_mul (av 2) ae_int))
  (ass_one (as_set 1 sc_law_height.nd rfl (Or.inl rfl) (ae_op opr_add o_add (av 1) ae_int)))))
  (ass_one (as_ret (av 1))))))) (sp1_in (T := fun as _ _ _ => as.length = 1) fun _ _ _ _ _ => rfl) (sp1_in fun _ _ _ _ h => rd_law_height T.toTK h)
theorem ok_law_still (T : Txt K mg) (F : ∃ fd, FunD K d_law_still.name d_law_still.qual d_law_still.params d_law_still.body d_law_still.scope [] [] (f_law_still K) fd) (h_Keeper_made : DefOk P w K mg base (f_Keeper_made K) 1 a_Keeper_made (sp_Keeper_made K)) (h_Keeper_height : DefOk P w K mg base (f_Keeper_height K) 1 a_Keeper_height (sp_Keeper_height K)) (h_Keeper_many : DefOk P w K mg base (f_Keeper_many K) 1 a_Keeper_many (sp_Keeper_many K)) (h_law_height : DefOk P w K mg base (f_law_height K) 1 a_law_height (sp_law_height K)) (h_Keeper_rule_at : DefOk P w K mg base (f_Keeper_rule_at K) 2 a_Keeper_rule_at (sp_Keeper_rule_at K)) (h_law_rule : DefOk P w K mg base (f_law_rule K) 2 a_law_rule (sp_law_rule K)) : DefOk P w K mg base (f_law_still K) 3 a_law_still (sp_law_still K) :=
  defOk (k := 2) (t := t_law_still K) F (fun _ _ _ _ _ _ us hl => match us, hl with | [_, _], _ => rfl) sc_law_still (fun cdv A outer s H E hr hp =>
  (ass_cons (as_set 2 sc_law_still.nd rfl (Or.inl rfl) (ae_dget (hu_of hr) (av 1) ae_str (fun _ _ => rfl)))
  (ass_cons (as_set 3 sc_law_still.nd rfl (Or.inl rfl) (ae_lst (aa_cons (c_meth0 (av 0) T.cl_Keeper T.m_Keeper_many h_Keeper_many (hr.mono (by decide))) (aa_cons (c_meth0 (av 0) T.cl_Keeper T.m_Keeper_height h_Keeper_height (hr.mono (by decide))) (aa_cons (c_meth0 (av 0) T.cl_Keeper T.m_Keeper_made h_Keeper_made (hr.mono (by decide))) aa_nil)))))
  (ass_cons (as_if (at_cmp (opr_ne hr.units) o_ne (ae_lc (own := [("one", 5)]) rfl sc_law_still.nd (ai_seq (av 3)) (blkOk_by (N := N_law_still) (sc := defScope s_law_still) (by decide +kernel)) (fun _ _ _ _ _ => (ag_name 5 sc_law_still.nd rfl (Or.inl rfl))) (fun _ _ _ _ _ => (ats_one (AW.at (aw_or (at_not (at_val (ae_callB callr_isi o_isi rfl T.n_isinstance (by decide +kernel) (aa_cons (av 5) (aa_cons (ae_bty rfl T.n_int (by decide +kernel)) aa_nil))))) (aw_or1 (at_val (ae_callB callr_isi o_isi rfl T.n_isinstance (by decide +kernel) (aa_cons (av 5) (aa_cons (ae_bty rfl T.n_bool (by decide +kernel)) aa_nil))))))))) (fun _ _ _ _ _ => (av 5)) (by decide)) (ae_lst aa_nil) (nomark _))
  (ass_one (as_ret ae_bl))
  ass_nil)
  (ass_cons (as_if (at_cmp (opr_ne hr.units) o_ne (av 3) (ae_lst (aa_cons (ae_callB call_len_seq o_len rfl T.n_len boot_len (aa_cons (av 2) aa_nil)) (aa_cons (c_call h_law_height (hr.mono (by decide)) T.g__law_height (aa_cons (ae_callB call_len_seq o_len rfl T.n_len boot_len (aa_cons (av 2) aa_nil)) aa_nil)) (aa_cons (ae_dget (hu_of hr) (av 1) ae_str (fun _ _ => rfl)) aa_nil)))) (nomark _))
  (ass_one (as_ret ae_bl))
  ass_nil)
  (ass_cons (as_setLc 4 (own := [("k", 6)]) rfl sc_law_still.nd rfl rfl (sw_true rfl rfl rfl (by decide +kernel)) (ai_range1 rfl T.n_range (aa_cons (ae_callB call_len_seq o_len rfl T.n_len boot_len (aa_cons (av 2) aa_nil)) aa_nil)) (blkOk_by (N := N_law_still) (sc := defScope s_law_still) (by decide +kernel)) (fun _ _ _ _ _ => (ag_name 6 sc_law_still.nd rfl (Or.inl rfl))) (fun _ _ _ _ _ => ats_nil) (fun _ _ _ _ _ => (c_meth (av 0) T.cl_Keeper T.m_Keeper_rule_at h_Keeper_rule_at (hr.mono (by decide)) (aa_cons (av 6) aa_nil))) (by decide))
  (ass_one (as_ret (ae_and (ae_cmp (opr_eq hr.units) o_eq (av 4) (ae_lc (own := [("five", 7)]) rfl sc_law_still.nd (ai_seq (av 2)) (blkOk_by (N := N_law_still) (sc := defScope s_law_still) (by decide +kernel)) (fun _ _ _ _ _ => (ag_name 7 sc_law_still.nd rfl (Or.inl rfl))) (fun _ _ _ _ _ => ats_nil) (fun _ _ _ _ _ => (c_call h_law_rule (hr.mono (by decide)) T.g__law_rule (aa_cons (av 7) (aa_cons ae_int aa_nil)))) (by decide)) (nomark _)) (ae_one (ae_cmp (opr_eq hr.units) o_eq (c_meth0 (av 0) T.cl_Keeper T.m_Keeper_made h_Keeper_made (hr.mono (by decide))) (ae_dget (hu_of hr) (av 1) ae_str (fun _ _ => rfl)) (nomark _)))))))))))) (sp2_in (T := fun as _ _ _ => as.length = 2) fun _ _ _ _ _ _ => rfl) (sp2_in fun _ _ _ _ _ h => rd_law_still T.toTK h)
theorem ok_law_whole (T : Txt K mg) (F : ∃ fd, FunD K d_law_whole.name d_law_whole.qual d_law_whole.params d_law_whole.body d_law_whole.scope [] [] (f_law_whole K) fd) (h_Keeper_whole : DefOk P w K mg base (f_Keeper_whole K) 14 a_Keeper_whole (sp_Keeper_whole K)) (h_Keeper_made : DefOk P w K mg base (f_Keeper_made K) 1 a_Keeper_made (sp_Keeper_made K)) (h_law_height : DefOk P w K mg base (f_law_height K) 1 a_law_height (sp_law_height K)) (h_law_product : DefOk P w K mg base (f_law_product K) 3 a_law_product (sp_law_product K)) : DefOk P w K mg base (f_law_whole K) 15 a_law_whole (sp_law_whole K) :=
  defOk (k := 14) (t := t_law_whole K) F (fun _ _ _ _ _ _ us hl => match us, hl with | [_, _], _ => rfl) sc_law_whole (fun cdv A outer s H E hr hp =>
  (ass_cons (as_set 2 sc_law_whole.nd rfl (Or.inl rfl) (ae_dget (hu_of hr) (av 1) ae_str (fun _ _ => rfl)))
  (ass_cons (as_set 3 sc_law_whole.nd rfl (Or.inl rfl) (c_meth0 (av 0) T.cl_Keeper T.m_Keeper_whole h_Keeper_whole (hr.mono (by decide))))
  (ass_cons (as_set 4 sc_law_whole.nd rfl (Or.inl rfl) (ae_op op_sub o_sub (c_meth0 (av 0) T.cl_Keeper T.m_Keeper_made h_Keeper_made (hr.mono (by decide))) (ae_dget (hu_of hr) (av 1) ae_str (fun _ _ => rfl))))
  (ass_cons (as_set 5 sc_law_whole.nd rfl (Or.inl rfl) (ae_callB (call_max2 rfl) o_max rfl T.n_max (by decide +kernel) (aa_cons ae_int (aa_cons (ae_op op_sub o_sub (ae_callB call_len_seq o_len rfl T.n_len boot_len (aa_cons (av 2) aa_nil)) ae_int) aa_nil))))
  (ass_cons (as_if (at_cmp op_ge o_ge (ae_dget (hu_of hr) (av 1) ae_str (fun _ _ => rfl)) ae_int (nomark _))
  (ass_one (as_set 5 sc_law_whole.nd rfl (Or.inl rfl) (ae_callB (call_min2 rfl) o_min rfl T.n_min (by decide +kernel) (aa_cons (av 5) (aa_cons (ae_op opr_mul o_mul (ae_dget (hu_of hr) (av 1) ae_str (fun _ _ => rfl)) (c_call h_law_height (hr.mono (by decide)) T.g__law_height (aa_cons (ae_callB call_len_seq o_len rfl T.n_len boot_len (aa_cons (av 2) aa_nil)) aa_nil))) aa_nil)))))
  ass_nil)
  (ass_cons (as_if (AW.at (aw_or (at_not (at_chain op_le op_le o_le o_le ae_int (av 4) (av 5))) (aw_or1 (AW.at (aw_and (at_not (at_val (ae_dget (hu_of hr) (av 1) ae_str (fun _ _ => rfl)))) (aw_and1 (at_cmp (opr_ne hr.units) o_ne (av 4) (av 5) (nomark _))))))))
  (ass_one (as_ret ae_bl))
  ass_nil)
  (ass_cons (as_dput (hu_of hr) (av 1) ae_str (ae_op opr_add o_add (ae_dget (hu_of hr) (av 1) ae_str (fun _ _ => rfl)) (av 4)) rfl)
  (ass_cons (as_dput (hu_of hr) (av 1) ae_str ae_bl rfl)
  (ass_cons (as_dput (hu_of hr) (av 1) ae_str ae_int rfl)
  (ass_one (as_ret (ae_and (ae_callB callr_isi o_isi rfl T.n_isinstance (by decide +kernel) (aa_cons (av 3) (aa_cons (ae_bty rfl T.n_tuple (by decide +kernel)) aa_nil))) (ae_one (ae_cmp (opr_eq hr.units) o_eq (av 3) (c_call h_law_product (hr.mono (by decide)) T.g__law_product (aa_cons (av 2) aa_nil)) (nomark _)))))))))))))))) (sp2_in (T := fun as _ _ _ => as.length = 2) fun _ _ _ _ _ _ => rfl) (sp2_in fun _ _ _ _ _ h => rd_law_whole T.toTK h)
theorem ok_law_refused (T : Txt K mg) (F : ∃ fd, FunD K d_law_refused.name d_law_refused.qual d_law_refused.params d_law_refused.body d_law_refused.scope [] [] (f_law_refused K) fd) (h_law_draw : DefOk P w K mg base (f_law_draw K) 1 a_law_draw (sp_law_draw K)) (h_law_rule : DefOk P w K mg base (f_law_rule K) 2 a_law_rule (sp_law_rule K)) (h_law_five : DefOk P w K mg base (f_law_five K) 2 a_law_five (sp_law_five K)) (h_Keeper_put_at : DefOk P w K mg base (f_Keeper_put_at K) 2 a_Keeper_put_at (sp_Keeper_put_at K)) (h_Keeper_put_in : DefOk P w K mg base (f_Keeper_put_in K) 2 a_Keeper_put_in (sp_Keeper_put_in K)) (h_Keeper_take_out : DefOk P w K mg base (f_Keeper_take_out K) 2 a_Keeper_take_out (sp_Keeper_take_out K)) (h_Keeper_rule_at : DefOk P w K mg base (f_Keeper_rule_at K) 2 a_Keeper_rule_at (sp_Keeper_rule_at K)) : DefOk P w K mg base (f_law_refused K) 3 a_law_refused (sp_law_refused K) :=
  defOk (k := 2) (t := t_law_refused K) F (fun _ _ _ _ _ _ us hl => match us, hl with | [_, _, _], _ => rfl) sc_law_refused (fun cdv A outer s H E hr hp =>
  (ass_cons (as_set 3 sc_law_refused.nd rfl (Or.inl rfl) (c_call h_law_draw (hr.mono (by decide)) T.g__law_draw (aa_cons (av 2) (aa_cons ae_int aa_nil))))
  (ass_cons (as_set 4 sc_law_refused.nd rfl (Or.inl rfl) (ae_op opr_add o_add (ae_callB call_len_seq o_len rfl T.n_len boot_len (aa_cons (ae_dget (hu_of hr) (av 1) ae_str (fun _ _ => rfl)) aa_nil)) (ae_callTy call_int1 o_int rfl T.n_int (by decide +kernel) (aa_cons (ae_cmp (opr_eq hr.units) o_eq (av 3) ae_int (nomark _)) aa_nil))))
  (ass_cons (as_set 5 sc_law_refused.nd rfl (Or.inl rfl) (ae_ix ixr_all o_ix (ae_lst (aa_cons (av 4) (aa_cons (ae_un un_neg o_neg ae_int) (aa_cons (ae_op opr_add o_add (ae_op opr_add o_add (av 4) ae_int) (c_call h_law_draw (hr.mono (by decide)) T.g__law_draw (aa_cons (av 2) (aa_cons ae_int aa_nil)))) (aa_cons (ae_op op_sub o_sub (ae_un un_neg o_neg ae_int) (c_call h_law_draw (hr.mono (by decide)) T.g__law_draw (aa_cons (av 2) (aa_cons ae_int aa_nil)))) aa_nil))))) (c_call h_law_draw (hr.mono (by decide)) T.g__law_draw (aa_cons (av 2) (aa_cons ae_int aa_nil))) (fun _ _ => rfl)))
  (ass_cons (as_set 6 sc_law_refused.nd rfl (Or.inl rfl) (c_call h_law_rule (hr.mono (by decide)) T.g__law_rule (aa_cons (c_call h_law_five (hr.mono (by decide)) T.g__law_five (aa_cons (av 2) aa_nil)) (aa_cons ae_int aa_nil))))
  (ass_cons (as_set 7 sc_law_refused.nd rfl (Or.inl rfl) ae_str)
  (ass_cons (as_try_as (i := 8) rfl rfl sc_law_refused.nd rfl rfl ⟨rfl, by decide, .inl T.g_HallError⟩ (fun pn xe hp =>
  (ass_one (as_if (at_cmp (opr_eq hr.units) o_eq (av 3) ae_int (nomark _))
  (ass_one (as_expr (c_meth (av 0) T.cl_Keeper T.m_Keeper_put_at h_Keeper_put_at (hr.mono (by decide)) (aa_cons (av 5) (aa_cons (av 6) aa_nil)))))
  (ass_one (as_if (at_cmp (opr_eq hr.units) o_eq (av 3) ae_int (nomark _))
  (ass_one (as_expr (c_meth (av 0) T.cl_Keeper T.m_Keeper_put_in h_Keeper_put_in (hr.mono (by decide)) (aa_cons (av 5) (aa_cons (av 6) aa_nil)))))
  (ass_one (as_if (at_cmp (opr_eq hr.units) o_eq (av 3) ae_int (nomark _))
  (ass_one (as_expr (c_meth (av 0) T.cl_Keeper T.m_Keeper_take_out h_Keeper_take_out (hr.mono (by decide)) (aa_cons (av 5) aa_nil))))
  (ass_one (as_expr (c_meth (av 0) T.cl_Keeper T.m_Keeper_rule_at h_Keeper_rule_at (hr.mono (by decide)) (aa_cons (av 5) aa_nil))))))))))) (fun a oe C pn ec hz hf =>
  (ass_one (as_set 7 sc_law_refused.nd rfl (Or.inl rfl) (ae_ix ixr_all o_ix (ae_lst (aa_cons ae_str (aa_cons ae_str aa_nil))) (ae_callTy call_int1 o_int rfl T.n_int (by decide +kernel) (aa_cons (ae_and (ae_callB (call_isEA ec hz hf) o_isE rfl T.n_isinstance (by decide +kernel) (aa_cons (av 8) (aa_cons (ae_gref rfl T.g_NoLayer) aa_nil))) (ae_one (ae_callB (call_isEA ec hz hf) o_isE rfl T.n_isinstance (by decide +kernel) (aa_cons (av 8) (aa_cons (ae_bty rfl T.n_ValueError (by decide +kernel)) aa_nil))))) aa_nil)) (fun _ _ => rfl))))))
  (ass_one (as_ret (ae_cmp (opr_eq hr.units) o_eq (av 7) ae_str (nomark _))))))))))) (sp3_in (T := fun as _ _ _ => as.length = 3) fun _ _ _ _ _ _ _ => rfl) (sp3_in fun _ _ _ _ _ _ h => rd_law_refused T.toTK h)
theorem ok_law_changed (T : Txt K mg) (F : ∃ fd, FunD K d_law_changed.name d_law_changed.qual d_law_changed.params d_law_changed.body d_law_changed.scope [] [] (f_law_changed K) fd) (h_law_five : DefOk P w K mg base (f_law_five K) 2 a_law_five (sp_law_five K)) (h_law_draw : DefOk P w K mg base (f_law_draw K) 1 a_law_draw (sp_law_draw K)) (h_Keeper_put_in : DefOk P w K mg base (f_Keeper_put_in K) 2 a_Keeper_put_in (sp_Keeper_put_in K)) (h_law_rule : DefOk P w K mg base (f_law_rule K) 2 a_law_rule (sp_law_rule K)) (h_Keeper_take_out : DefOk P w K mg base (f_Keeper_take_out K) 2 a_Keeper_take_out (sp_Keeper_take_out K)) (h_Keeper_put_at : DefOk P w K mg base (f_Keeper_put_at K) 2 a_Keeper_put_at (sp_Keeper_put_at K)) : DefOk P w K mg base (f_law_changed K) 3 a_law_changed (sp_law_changed K) :=
  defOk (k := 2) (t := t_law_changed K) F (fun _ _ _ _ _ _ us hl => match us, hl with | [_, _, _, _], _ => rfl) sc_law_changed (fun cdv A outer s H E hr hp =>
  (ass_cons (as_set 4 sc_law_changed.nd rfl (Or.inl rfl) (ae_dget (hu_of hr) (av 1) ae_str (fun _ _ => rfl)))
  (ass_cons (as_set 5 sc_law_changed.nd rfl (Or.inl rfl) (c_call h_law_five (hr.mono (by decide)) T.g__law_five (aa_cons (av 2) aa_nil)))
  (ass_cons (as_if (AW.at (aw_and (at_cmp (opr_ne hr.units) o_ne (av 4) (ae_lst aa_nil) (nomark _)) (aw_and1 (at_cmp (opr_eq hr.units) o_eq (c_call h_law_draw (hr.mono (by decide)) T.g__law_draw (aa_cons (av 2) (aa_cons ae_int aa_nil))) ae_int (nomark _)))))
  (ass_one (as_set 5 sc_law_changed.nd rfl (Or.inl rfl) (ae_ix ixr_all o_ix (av 4) (c_call h_law_draw (hr.mono (by decide)) T.g__law_draw (aa_cons (av 2) (aa_cons (ae_callB call_len_seq o_len rfl T.n_len boot_len (aa_cons (av 4) aa_nil)) aa_nil))) (fun _ _ => rfl))))
  ass_nil)
  (ass_cons (as_set 6 sc_law_changed.nd rfl (Or.inl rfl) (c_call h_law_draw (hr.mono (by decide)) T.g__law_draw (aa_cons (av 2) (aa_cons (ae_op opr_add o_add (ae_callB call_len_seq o_len rfl T.n_len boot_len (aa_cons (av 4) aa_nil)) ae_int) aa_nil))))
  (ass_cons (as_if (AW.at (aw_or (AW.at (aw_and (at_cmp (opr_eq hr.units) o_eq (av 3) ae_int (nomark _)) (aw_and1 (at_cmp op_lt o_lt (ae_callB call_len_seq o_len rfl T.n_len boot_len (aa_cons (av 4) aa_nil)) ae_int (nomark _))))) (aw_or1 (at_cmp (opr_eq hr.units) o_eq (av 4) (ae_lst aa_nil) (nomark _)))))
  (ass_cons (as_expr (ae_bm PySem.F.slot_list_insert PySem.F.type_list_insert mt_insert o_insert (av 4) (aa_cons (av 6) (aa_cons (av 5) aa_nil))))
  (ass_cons (as_dput (hu_of hr) (av 1) ae_str (ae_un un_neg o_neg ae_int) rfl)
  (ass_one (as_ret (ae_cmp op_isN o_isN (c_meth (av 0) T.cl_Keeper T.m_Keeper_put_in h_Keeper_put_in (hr.mono (by decide)) (aa_cons (av 6) (aa_cons (c_call h_law_rule (hr.mono (by decide)) T.g__law_rule (aa_cons (av 5) (aa_cons ae_int aa_nil))) aa_nil))) ae_non (nomark _))))))
  ass_nil)
  (ass_cons (as_set 6 sc_law_changed.nd rfl (Or.inl rfl) (ae_op op_modN o_mod (av 6) (ae_callB call_len_seq o_len rfl T.n_len boot_len (aa_cons (av 4) aa_nil))))
  (ass_cons (as_if (at_cmp (opr_eq hr.units) o_eq (av 3) ae_int (nomark _))
  (ass_cons (as_expr (ae_bm PySem.F.slot_list_pop PySem.F.type_list_pop mt_popAt o_popAt (av 4) (aa_cons (av 6) aa_nil)))
  (ass_cons (as_dput (hu_of hr) (av 1) ae_str (ae_un un_neg o_neg ae_int) rfl)
  (ass_one (as_ret (ae_cmp op_isN o_isN (c_meth (av 0) T.cl_Keeper T.m_Keeper_take_out h_Keeper_take_out (hr.mono (by decide)) (aa_cons (av 6) aa_nil)) ae_non (nomark _))))))
  ass_nil)
  (ass_cons (as_if (at_cmp (opr_eq hr.units) o_eq (av 3) ae_int (nomark _))
  (ass_one (as_set 5 sc_law_changed.nd rfl (Or.inl rfl) (ae_ix ixr_all o_ix (av 4) (av 6) (fun _ _ => rfl))))
  ass_nil)
  (ass_cons (as_setL (av 5) (av 4) (av 6))
  (ass_cons (as_dput (hu_of hr) (av 1) ae_str (ae_op opr_add o_add (ae_dget (hu_of hr) (av 1) ae_str (fun _ _ => rfl)) (ae_callTy call_int1 o_int rfl T.n_int (by decide +kernel) (aa_cons (ae_cmp op_ge o_ge (ae_dget (hu_of hr) (av 1) ae_str (fun _ _ => rfl)) ae_int (nomark _)) aa_nil))) rfl)
  (ass_one (as_ret (ae_cmp op_isN o_isN (c_meth (av 0) T.cl_Keeper T.m_Keeper_put_at h_Keeper_put_at (hr.mono (by decide)) (aa_cons (av 6) (aa_cons (c_call h_law_rule (hr.mono (by decide)) T.g__law_rule (aa_cons (av 5) (aa_cons ae_int aa_nil))) aa_nil))) ae_non (nomark _))))))))))))))) (sp4_in (T := fun as _ _ _ => as.length = 4) fun _ _ _ _ _ _ _ _ => rfl) (sp4_in fun _ _ _ _ _ _ _ h => rd_law_changed T.toTK h)
theorem ok_law_deed (T : Txt K mg) (F : ∃ fd, FunD K d_law_deed.name d_law_deed.qual d_law_deed.params d_law_deed.body d_law_deed.scope [] [] (f_law_deed K) fd) (h_law_draw : DefOk P w K mg base (f_law_draw K) 1 a_law_draw (sp_law_draw K)) (h_law_changed : DefOk P w K mg base (f_law_changed K) 3 a_law_changed (sp_law_changed K)) (h_law_refused : DefOk P w K mg base (f_law_refused K) 3 a_law_refused (sp_law_refused K)) (h_law_whole : DefOk P w K mg base (f_law_whole K) 15 a_law_whole (sp_law_whole K)) : DefOk P w K mg base (f_law_deed K) 16 a_law_deed (sp_law_deed K) :=
  defOk (k := 15) (t := t_law_deed K) F (fun _ _ _ _ _ _ us hl => match us, hl with | [_, _, _], _ => rfl) sc_law_deed (fun cdv A outer s H E hr hp =>
  (ass_cons (as_set 3 sc_law_deed.nd rfl (Or.inl rfl) (c_call h_law_draw (hr.mono (by decide)) T.g__law_draw (aa_cons (av 2) (aa_cons ae_int aa_nil))))
  (ass_cons (as_if (at_cmp op_lt o_lt (av 3) ae_int (nomark _))
  (ass_one (as_ret (c_call h_law_changed (hr.mono (by decide)) T.g__law_changed (aa_cons (av 0) (aa_cons (av 1) (aa_cons (av 2) (aa_cons (ae_op op_mod o_modP (av 3) ae_int) aa_nil)))))))
  ass_nil)
  (ass_cons (as_if (at_cmp op_lt o_lt (av 3) ae_int (nomark _))
  (ass_one (as_ret (c_call h_law_refused (hr.mono (by decide)) T.g__law_refused (aa_cons (av 0) (aa_cons (av 1) (aa_cons (av 2) aa_nil))))))
  ass_nil)
  (ass_one (as_ret (c_call h_law_whole (hr.mono (by decide)) T.g__law_whole (aa_cons (av 0) (aa_cons (av 1) aa_nil))))))))) (sp3_in (T := fun as _ _ _ => as.length = 3) fun _ _ _ _ _ _ _ => rfl) (sp3_in fun _ _ _ _ _ _ h => rd_law_deed T.toTK h)
theorem fn_law (T : Txt K mg) {fd : FuncData} (F : FunD K d_law.name d_law.qual d_law.params d_law.body d_law.scope [] [] (f_law K) fd) (h_law_well : DefOk P w K mg base (f_law_well K) 1 a_law_well (sp_law_well K)) (h_law_cell_at : DefOk P w K mg base (f_law_cell_at K) 1 a_law_cell_at (sp_law_cell_at K)) (h_law_draw : DefOk P w K mg base (f_law_draw K) 1 a_law_draw (sp_law_draw K)) (h_law_five : DefOk P w K mg base (f_law_five K) 2 a_law_five (sp_law_five K)) (h_law_rule : DefOk P w K mg base (f_law_rule K) 2 a_law_rule (sp_law_rule K)) (h_Keeper_init : DefOk P w K mg base (f_Keeper_init K) 1 a_Keeper_init (sp_Keeper_init K)) (h_law_deed : DefOk P w K mg base (f_law_deed K) 16 a_law_deed (sp_law_deed K)) (h_law_still : DefOk P w K mg base (f_law_still K) 3 a_law_still (sp_law_still K)) (h_law_whole : DefOk P w K mg base (f_law_whole K) 15 a_law_whole (sp_law_whole K)) : AFn P w K mg base 17 (f_law K) fd a_law (sp_law K) :=
  fnA (t := t_law K) F sc_law (fun X _ _ ⟨cdv, A, outer, s, H, E, e⟩ hr hp => by
    subst e
    exact (ass_cons (as_set 1 sc_law.nd rfl (Or.inr rfl) (c_call h_law_well (hr.mono (by decide)) T.g__law_well (aa_cons (c_call h_law_cell_at (hr.mono (by decide)) T.g__law_cell_at (aa_cons (av 0) (aa_cons ae_int aa_nil))) aa_nil)))
      (ass_cons (as_set 2 sc_law.nd rfl (Or.inl rfl) (ae_ix ixr_all o_ix (ae_lst (aa_cons (c_call h_law_draw (hr.mono (by decide)) T.g__law_draw (aa_cons (av 1) (aa_cons ae_int aa_nil))) (aa_cons (ae_op opr_add o_add ae_int (c_call h_law_draw (hr.mono (by decide)) T.g__law_draw (aa_cons (av 1) (aa_cons ae_int aa_nil)))) (aa_cons (ae_op opr_add o_add ae_int (c_call h_law_draw (hr.mono (by decide)) T.g__law_draw (aa_cons (av 1) (aa_cons ae_int aa_nil)))) (aa_cons ae_int aa_nil))))) (c_call h_law_draw (hr.mono (by decide)) T.g__law_draw (aa_cons (av 1) (aa_cons ae_int aa_nil))) (fun _ _ => rfl)))
      (ass_cons (as_set 3 sc_law.nd rfl (Or.inr rfl) (ae_lc (own := [("k", 10)]) rfl sc_law.nd (ai_range1 rfl T.n_range (aa_cons (av 2) aa_nil)) (blkOk_by (N := N_law) (sc := defScope s_law) (by decide +kernel)) (fun _ _ _ _ _ => (ag_name 10 sc_law.nd rfl (Or.inl rfl))) (fun _ _ _ _ _ => ats_nil) (fun _ _ _ _ _ => (c_call h_law_five (hr.mono (by decide)) T.g__law_five (aa_cons (av 1) aa_nil))) (by decide)))
      (ass_cons (as_setLc 4 (own := [("five", 11)]) rfl sc_law.nd rfl rfl (sw_true rfl rfl rfl (by decide +kernel)) (ai_seq (av 3)) (blkOk_by (N := N_law) (sc := defScope s_law) (by decide +kernel)) (fun _ _ _ _ _ => (ag_name 11 sc_law.nd rfl (Or.inl rfl))) (fun _ _ _ _ _ => ats_nil) (fun _ _ _ _ _ => (c_call h_law_rule (hr.mono (by decide)) T.g__law_rule (aa_cons (av 11) (aa_cons ae_int aa_nil)))) (by decide))
      (ass_cons (as_set 5 sc_law.nd rfl (Or.inl rfl) (ae_lst (aa_cons (c_make T.k_Keeper h_Keeper_init (hr.mono (by decide)) T.g_Keeper (aa_cons (av 4) aa_nil)) (aa_cons (c_make T.k_Keeper h_Keeper_init (hr.mono (by decide)) T.g_Keeper (aa_cons (av 4) aa_nil)) aa_nil))))
      (ass_cons (as_if (at_cmp (opr_ne hr.units) o_ne (av 4) (ae_lc (own := [("five", 11)]) rfl sc_law.nd (ai_seq (av 3)) (blkOk_by (N := N_law) (sc := defScope s_law) (by decide +kernel)) (fun _ _ _ _ _ => (ag_name 11 sc_law.nd rfl (Or.inl rfl))) (fun _ _ _ _ _ => ats_nil) (fun _ _ _ _ _ => (c_call h_law_rule (hr.mono (by decide)) T.g__law_rule (aa_cons (av 11) (aa_cons ae_int aa_nil)))) (by decide)) (nomark _))
      (ass_one (as_ret ae_bl))
      ass_nil)
      (ass_cons (as_expr (ae_bm0 PySem.F.slot_list_clear PySem.F.type_list_clear mt_clear o_clear (av 4)))
      (ass_cons (as_setLc 6 (own := [("k", 10)]) rfl sc_law.nd rfl rfl (sw_true rfl rfl rfl (by decide +kernel)) (ai_range1 rfl T.n_range (aa_cons ae_int aa_nil)) (blkOk_by (N := N_law) (sc := defScope s_law) (by decide +kernel)) (fun _ _ _ _ _ => (ag_name 10 sc_law.nd rfl (Or.inl rfl))) (fun _ _ _ _ _ => ats_nil) (fun _ _ _ _ _ => (ae_disp (aps_cons ae_str (ae_callTy call_list_of o_list rfl T.n_list (by decide +kernel) (aa_cons (av 3) aa_nil)) (aps_cons ae_str ae_int (aps_cons ae_str ae_bl (aps_cons ae_str (ae_un un_neg o_neg ae_int) aps_nil)))))) (by decide))
      (ass_cons (as_for hp rfl (ai_seq (ae_slL (av 0) (ao_some ae_int) (ao_some ae_int))) (ag_name 7 sc_law.nd rfl (Or.inl rfl))
      (ass_cons (as_set 8 sc_law.nd rfl (Or.inl rfl) (c_call h_law_well (hr.mono (by decide)) T.g__law_well (aa_cons (av 7) aa_nil)))
      (ass_cons (as_set 9 sc_law.nd rfl (Or.inl rfl) (ae_op op_fdivW o_divP (c_call h_law_draw (hr.mono (by decide)) T.g__law_draw (aa_cons (av 8) (aa_cons ae_int aa_nil))) ae_int))
      (ass_cons (as_if (at_not (at_val (c_call h_law_deed (hr.mono (by decide)) T.g__law_deed (aa_cons (ae_ix ixr_all o_ix (av 5) (av 9) (fun _ _ => rfl)) (aa_cons (ae_ix ixr_all o_ix (av 6) (av 9) (fun _ _ => rfl)) (aa_cons (av 8) aa_nil))))))
      (ass_one (as_ret ae_bl))
      ass_nil)
      (ass_one (as_for hp rfl (ai_range1 rfl T.n_range (aa_cons ae_int aa_nil)) (ag_name 10 sc_law.nd rfl (Or.inl rfl))
      (ass_one (as_if (at_not (at_val (c_call h_law_still (hr.mono (by decide)) T.g__law_still (aa_cons (ae_ix ixr_all o_ix (av 5) (av 10) (fun _ _ => rfl)) (aa_cons (ae_ix ixr_all o_ix (av 6) (av 10) (fun _ _ => rfl)) aa_nil)))))
      (ass_one (as_ret ae_bl))
      ass_nil))))))))
      (ass_cons (as_for hp rfl (ai_seq (ae_lst (aa_cons ae_int (aa_cons ae_int (aa_cons ae_int aa_nil))))) (ag_name 10 sc_law.nd rfl (Or.inl rfl))
      (ass_one (as_if (AW.at (aw_or (at_not (at_val (c_call h_law_whole (hr.mono (by decide)) T.g__law_whole (aa_cons (ae_ix ixr_all o_ix (av 5) (av 10) (fun _ _ => rfl)) (aa_cons (ae_ix ixr_all o_ix (av 6) (av 10) (fun _ _ => rfl)) aa_nil))))) (aw_or1 (at_not (at_val (c_call h_law_still (hr.mono (by decide)) T.g__law_still (aa_cons (ae_ix ixr_all o_ix (av 5) (av 10) (fun _ _ => rfl)) (aa_cons (ae_ix ixr_all o_ix (av 6) (av 10) (fun _ _ => rfl)) aa_nil))))))))
      (ass_one (as_ret ae_bl))
      ass_nil)))
      (ass_one (as_ret ae_bl))))))))))))) (sp1_in (T := fun as _ _ _ => as.length = 1) fun _ _ _ _ _ => rfl) (sp1_in fun _ _ _ _ h => rd_law T.toTK h)
end
theorem facts {P : Program} {w : World} {K : Frg} {h : Heap} {mg : Str → Option Value} {fa : Addr} (X : K.In h) (Gm : h.Ns mainGlobals mg) (hfa : mg ("law" : Str) = some (.ref fa)) (c : SaysG fb fn K) :
    ∃ fd : FuncData, (∀ (s : Shared) (v : Value), BindsTo s fd ⟨[v], []⟩ [("script", v)]) ∧ ∀ base : Heap, K.In base → base.Ns mainGlobals mg → AFn P w K mg base 17 fa fd ["script"] (sp_law K) := by
  have T := txt X Gm c
  have e := hfa.symm.trans T.g_law
  cases e
  obtain ⟨fd, F⟩ := c.def_ 29 (d := d_law) rfl
  have b := FunD.bindsA (ps := ["script"]) F fun _ _ _ _ _ _ us hl => match us, hl with | [_], _ => rfl
  refine ⟨fd, fun s v => b s [v] rfl, fun base _ _ => ?_⟩
  have h_divisor := ok_divisor (P := P) (w := w) (base := base) T (c.def_ 0 (d := d_divisor) rfl) 
  have h_made := ok_made (P := P) (w := w) (base := base) T (c.def_ 1 (d := d_made) rfl) h_divisor
  have h_plus := ok_plus (P := P) (w := w) (base := base) T (c.def_ 2 (d := d_plus) rfl) h_made
  have h_times := ok_times (P := P) (w := w) (base := base) T (c.def_ 3 (d := d_times) rfl) h_made
  have h_behind := ok_behind (P := P) (w := w) (base := base) T (c.def_ 4 (d := d_behind) rfl) h_plus h_times
  have h_Keeper_init := ok_Keeper_init (P := P) (w := w) (base := base) T (c.def_ 5 (d := d_Keeper_init) rfl) 
  have h_Keeper_many := ok_Keeper_many (P := P) (w := w) (base := base) T (c.def_ 6 (d := d_Keeper_many) rfl) 
  have h_Keeper_made := ok_Keeper_made (P := P) (w := w) (base := base) T (c.def_ 7 (d := d_Keeper_made) rfl) 
  have h_Keeper_height := ok_Keeper_height (P := P) (w := w) (base := base) T (c.def_ 8 (d := d_Keeper_height) rfl) 
  have h_Keeper_check := ok_Keeper_check (P := P) (w := w) (base := base) T (c.def_ 9 (d := d_Keeper_check) rfl) 
  have h_Keeper_rule_at := ok_Keeper_rule_at (P := P) (w := w) (base := base) T (c.def_ 10 (d := d_Keeper_rule_at) rfl) h_Keeper_check
  have h_Keeper_put_at := ok_Keeper_put_at (P := P) (w := w) (base := base) T (c.def_ 11 (d := d_Keeper_put_at) rfl) h_Keeper_check h_Keeper_height
  have h_Keeper_put_in := ok_Keeper_put_in (P := P) (w := w) (base := base) T (c.def_ 12 (d := d_Keeper_put_in) rfl) h_Keeper_check
  have h_Keeper_take_out := ok_Keeper_take_out (P := P) (w := w) (base := base) T (c.def_ 13 (d := d_Keeper_take_out) rfl) h_Keeper_check
  have h_Keeper_part := ok_Keeper_part (P := P) (w := w) (base := base) T (c.def_ 14 (d := d_Keeper_part) rfl) h_behind
  have h_Keeper_whole := ok_Keeper_whole (P := P) (w := w) (base := base) T (c.def_ 15 (d := d_Keeper_whole) rfl) h_Keeper_height h_Keeper_part
  have h_law_cell_at := ok_law_cell_at (P := P) (w := w) (base := base) T (c.def_ 16 (d := d_law_cell_at) rfl) 
  have h_law_well := ok_law_well (P := P) (w := w) (base := base) T (c.def_ 17 (d := d_law_well) rfl) 
  have h_law_draw := ok_law_draw (P := P) (w := w) (base := base) T (c.def_ 18 (d := d_law_draw) rfl) 
  have h_law_lowest := ok_law_lowest (P := P) (w := w) (base := base) T (c.def_ 19 (d := d_law_lowest) rfl) 
  have h_law_five := ok_law_five (P := P) (w := w) (base := base) T (c.def_ 20 (d := d_law_five) rfl) h_law_draw
  have h_law_rule := ok_law_rule (P := P) (w := w) (base := base) T (c.def_ 21 (d := d_law_rule) rfl) h_law_lowest
  have h_law_product := ok_law_product (P := P) (w := w) (base := base) T (c.def_ 22 (d := d_law_product) rfl) h_law_rule
  have h_law_height := ok_law_height (P := P) (w := w) (base := base) T (c.def_ 23 (d := d_law_height) rfl) 
  have h_law_still := ok_law_still (P := P) (w := w) (base := base) T (c.def_ 24 (d := d_law_still) rfl) h_Keeper_made h_Keeper_height h_Keeper_many h_law_height h_Keeper_rule_at h_law_rule
  have h_law_whole := ok_law_whole (P := P) (w := w) (base := base) T (c.def_ 25 (d := d_law_whole) rfl) h_Keeper_whole h_Keeper_made h_law_height h_law_product
  have h_law_refused := ok_law_refused (P := P) (w := w) (base := base) T (c.def_ 26 (d := d_law_refused) rfl) h_law_draw h_law_rule h_law_five h_Keeper_put_at h_Keeper_put_in h_Keeper_take_out h_Keeper_rule_at
  have h_law_changed := ok_law_changed (P := P) (w := w) (base := base) T (c.def_ 27 (d := d_law_changed) rfl) h_law_five h_law_draw h_Keeper_put_in h_law_rule h_Keeper_take_out h_Keeper_put_at
  have h_law_deed := ok_law_deed (P := P) (w := w) (base := base) T (c.def_ 28 (d := d_law_deed) rfl) h_law_draw h_law_changed h_law_refused h_law_whole
  exact fn_law T F h_law_well h_law_cell_at h_law_draw h_law_five h_law_rule h_Keeper_init h_law_deed h_law_still h_law_whole
def loose0 : List Str := ["__name__", "HallError", "NoFraction", "NoLayer", "divisor", "made", "plus", "times", "IDENTITY", "behind", "Keeper", "_law_cell_at", "_law_well", "_law_draw", "_law_lowest", "_law_five", "_law_rule", "_law_product", "_law_height", "_law_still"]
def loose1 : List Str := ["_law_whole", "_law_refused", "_law_changed", "_law_deed"]
def loose : List Str := loose0 ++ loose1
abbrev R : PySem.W.OpenRow := PySem.W.OpenLaw.row PySem.Challenge.rw_glazehall_k53_whole_keepers_by_turns
abbrev hk : PySem.W.Hook := hookG 5 fb fn
def ob (s : PySem.W.SharedT) : AlG := obsG 5 fb fn (HandSHeadRun.getT s)
theorem ob_eq (s : PySem.W.SharedT) : ob s = hk.obs s.abs := obsG_eq (HandSHeadRun.getT_eq s)
theorem run (w : World) : HandSHeadRun.RunEq R (PySem.W.view R.prog [28]) hk ob 6000 loose w := by
  intro os
  kernel_rfl
end GL
open PySem PySem.W PySem.Calls PyProof.Rows
theorem PySem.Challenge.cw_glazehall_k53_whole_keepers_by_turns_holds : PySem.Challenge.rw_glazehall_k53_whole_keepers_by_turns.Holds := by
  w_on; o_law
  refine HandSHeadRun.head_any (r := OpenLaw.row PySem.Challenge.rw_glazehall_k53_whole_keepers_by_turns) (q := view (OpenLaw.row PySem.Challenge.rw_glazehall_k53_whole_keepers_by_turns).prog [28]) (H := GL.hk) (ob := GL.ob) (M := 6000) (loose := GL.loose) (d := HandSHeadRun.topDef (OpenLaw.row PySem.Challenge.rw_glazehall_k53_whole_keepers_by_turns).prog 28) (kwd := []) GL.ob_eq
    (by kernel_rfl) (fun s => by kernel_rfl) GL.run (by kernel_rfl) (by kernel_rfl) (by kernel_rfl) (by rfl) (by first | assumption | decide +kernel) (by decide +kernel) ⟨rfl, rfl, rfl, rfl, rfl, by decide +kernel⟩ ?hw ?hc
  case hw => w_witness2
  case hc =>
    refine G.law_end (l := PySem.Challenge.rw_glazehall_k53_whole_keepers_by_turns) (k := 17) (sp := GL.sp_law) rfl (by kernel_rfl) ⟨rfl, by decide, by decide⟩ ?F
    intro w mg fa h Y Gm hmg0
    obtain ⟨K, KX, c⟩ := Y
    have hmg : mg ("law" : PySem.Str) = some (.ref fa) := by
      have e : (HandSHeadRun.topDef (OpenLaw.row PySem.Challenge.rw_glazehall_k53_whole_keepers_by_turns).prog 28).name = ("law" : PySem.Str) := by kernel_rfl
      rw [← e]
      exact hmg0
    obtain ⟨fd, hb, hF⟩ := GL.facts (P := (PySem.Challenge.rw_glazehall_k53_whole_keepers_by_turns).prog) (w := w) KX Gm hmg c
    exact ⟨K, fd, KX, hb, fun ns hl hbits => GL.law_reads ns hl hbits, hF⟩
