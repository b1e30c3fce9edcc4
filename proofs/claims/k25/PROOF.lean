import PyProof.Rows.All
import Wide.All
import OpenK.AllK
import Wide.FinOn
import HandS.ForMost
import HandS.ForExc
import HandS.IsInst
import HandS.Wide
import HandS.Defaults
import HandS.Flow
import HandS.ExcIs
import HandS.More
import HandS.DeepEq
import HandS.Style
import HandS.HeadHook1
import HandS.HeadHook2
import KE.KStateDown
import HandS.Ends
import HandS.Head0
import HandS.Head1
import HandS.Head2
import HandS.HeadEnd
import HandS.EndBits
import HandS.DictTup
import HandS.Dict
import HandS.Deep
import HandS.TupAny
import HandS.ClsMeth
import HandS.New0
import HandS.TryMany
import HandS.Words
import HandS.WordsExc
import PySem.Challenge.RW_glazehall_k25_whole_small_things_again
set_option Elab.async false
set_option linter.all false
set_option maxRecDepth 100000
set_option maxHeartbeats 0
set_option autoImplicit false
/-! A layer over HandS: tuples are pure values; lists, dicts and instances stand in an abstract heap. -/
namespace G
open PySem PySem.Spec L2


abbrev Frg := PySem.W.Frag
/-- values: tuples are values; kt: a tuple of ints and texts that may be a dict's key; fls: a list that is read only (the script) -/
inductive A where
  | non | bl (b : Bool) | int (i : Int) | str (x : Str) | tup (xs : List A) | kt (ks : List Key) | fls (xs : List A) | ref (a : Addr) | ty (n : String)
  deriving Inhabited

/-- a tuple that stands for good: tracked, or of the written part -/
def TupAt (K : Frg) (H : Hp) (p : Addr) (vs : List V) : Prop :=
  H p = some (.tup vs) ∨
    ∃ (o : Obj) (its : Array Value) (n : Nat), K.lookup p = some o ∧ o.cls = .type "tuple" ∧ o.data = .seq its n ∧ its.size ≤ sizeLine ∧ Vals vs its.toList
theorem TupAt.sq {K : Frg} {H : Hp} {p : Addr} {vs : List V} (h : TupAt K H p vs) : SqT K H p vs := h.elim (fun e => .inl (.inl e)) .inr
theorem TupAt.of {K : Frg} {H : Hp} {p : Addr} {vs : List V} (h : H p = some (.tup vs)) : TupAt K H p vs := .inl h

/-- a list that stands for good -/
def FlAt (K : Frg) (H : Hp) (p : Addr) (vs : List V) : Prop :=
  (∃ o, H p = some (.frz o (.lst vs))) ∨
    ∃ (o : Obj) (its : Array Value) (n : Nat), K.lookup p = some o ∧ o.cls = .type "list" ∧ o.dict = none ∧ o.data = .seq its n ∧ its.size ≤ sizeLine ∧ Vals vs its.toList
theorem FlAt.sq {K : Frg} {H : Hp} {p : Addr} {vs : List V} (h : FlAt K H p vs) : SqL K H p vs := h.elim (fun e => .inl (.inr e)) .inr

mutual
inductive RelA (K : Frg) (H : Hp) : A → V → Prop
  | non : RelA K H .non .non
  | bl (b : Bool) : RelA K H (.bl b) (.bl b)
  | int (i : Int) : RelA K H (.int i) (.int i)
  | str (x : Str) : RelA K H (.str x) (.str x)
  | ref (a : Addr) : RelA K H (.ref a) (.ref a)
  | ty (n : String) : RelA K H (.ty n) (.ty n)
  | kt {p : Addr} {ks : List Key} : H p = some (.tup (ks.map kV)) → RelA K H (.kt ks) (.ref p)
  | tup {p : Addr} {xs : List A} {vs : List V} : TupAt K H p vs → RelAs K H xs vs → RelA K H (.tup xs) (.ref p)
  | fls {p : Addr} {xs : List A} {vs : List V} : FlAt K H p vs → RelAs K H xs vs → RelA K H (.fls xs) (.ref p)
inductive RelAs (K : Frg) (H : Hp) : List A → List V → Prop
  | nil : RelAs K H [] []
  | cons {a : A} {as : List A} {v : V} {vs : List V} : RelA K H a v → RelAs K H as vs → RelAs K H (a :: as) (v :: vs)
end

/-- what stands for good -/
def Stands (u : HO) : Prop := (∃ xs, u = .tup xs) ∨ ∃ o xs, u = .frz o (.lst xs)
/-- tuples and frozen lists stay -/
def Mono (H H' : Hp) : Prop := ∀ b u, Stands u → H b = some u → H' b = some u
section
variable {K : Frg} {H H' H1 H2 : Hp} {p : Addr} {o u : HO}
theorem Mono.refl (H : Hp) : Mono H H := fun _ _ _ h => h
theorem Mono.trans (a : Mono H H1) (b : Mono H1 H2) : Mono H H2 := fun c x z e => b c x z (a c x z e)
theorem Mono.new (h : H p = none) : Mono H (upd H p o) := fun b xs _ e => by rw [upd_ne (ne_of_none e h)]; exact e
theorem Mono.wr (h : H p = some o) (n : ¬ Stands o) : Mono H (upd H p u) := fun b xs z e => by
  have ne : b ≠ p := fun q => by subst q; rw [e] at h; exact n (Option.some.inj h ▸ z)
  rw [upd_ne ne]; exact e
theorem ns_lst {xs : List V} : ¬ Stands (.lst xs) := fun z => z.elim (fun ⟨_, e⟩ => nomatch e) fun ⟨_, _, e⟩ => nomatch e
theorem ns_ins {C dx : Addr} {xs : List (Str × V)} : ¬ Stands (.ins C dx xs) := fun z => z.elim (fun ⟨_, e⟩ => nomatch e) fun ⟨_, _, e⟩ => nomatch e
theorem ns_dK {xs : List (Key × V)} : ¬ Stands (.dK xs) := fun z => z.elim (fun ⟨_, e⟩ => nomatch e) fun ⟨_, _, e⟩ => nomatch e
theorem ns_dT {xs : List (List Key × V)} : ¬ Stands (.dT xs) := fun z => z.elim (fun ⟨_, e⟩ => nomatch e) fun ⟨_, _, e⟩ => nomatch e
theorem ns_lK {o : Obj} {xs : List (Key × V)} : ¬ Stands (.frz o (.dK xs)) := fun z => z.elim (fun ⟨_, e⟩ => nomatch e) fun ⟨_, _, e⟩ => nomatch e
theorem ns_lT {o : Obj} {xs : List (List Key × V)} : ¬ Stands (.frz o (.dT xs)) := fun z => z.elim (fun ⟨_, e⟩ => nomatch e) fun ⟨_, _, e⟩ => nomatch e
theorem Mono.tup {vs : List V} (m : Mono H H') (e : H p = some (.tup vs)) : H' p = some (.tup vs) := m _ _ (.inl ⟨_, rfl⟩) e
theorem Mono.frz {vs : List V} {ob : Obj} (m : Mono H H') (e : H p = some (.frz ob (.lst vs))) : H' p = some (.frz ob (.lst vs)) := m _ _ (.inr ⟨_, _, rfl⟩) e
theorem TupAt.mono (m : Mono H H') {vs : List V} (h : TupAt K H p vs) : TupAt K H' p vs := h.elim (fun e => .inl (m.tup e)) .inr
theorem FlAt.mono (m : Mono H H') {vs : List V} (h : FlAt K H p vs) : FlAt K H' p vs := h.elim (fun ⟨o, e⟩ => .inl ⟨o, m.frz e⟩) .inr
mutual
theorem RelA.mono (m : Mono H H') : ∀ (a : A) (v : V), RelA K H a v → RelA K H' a v
  | .non, _, h => by cases h; exact .non
  | .bl _, _, h => by cases h; exact .bl _
  | .int _, _, h => by cases h; exact .int _
  | .str _, _, h => by cases h; exact .str _
  | .ref _, _, h => by cases h; exact .ref _
  | .ty _, _, h => by cases h; exact .ty _
  | .kt _, _, h => by cases h with | kt e => exact .kt (m.tup e)
  | .tup xs, _, h => by cases h with | tup e r => exact .tup (e.mono m) (RelAs.mono m xs _ r)
  | .fls xs, _, h => by cases h with | fls e r => exact .fls (e.mono m) (RelAs.mono m xs _ r)
theorem RelAs.mono (m : Mono H H') : ∀ (as : List A) (vs : List V), RelAs K H as vs → RelAs K H' as vs
  | [], _, h => by cases h; exact .nil
  | a :: as, _, h => by cases h with | cons r rs => exact .cons (RelA.mono m a _ r) (RelAs.mono m as _ rs)
end
theorem RelA.up {a : A} {v : V} (h : RelA K H a v) (m : Mono H H') : RelA K H' a v := RelA.mono m a v h
theorem RelAs.up {as : List A} {vs : List V} (h : RelAs K H as vs) (m : Mono H H') : RelAs K H' as vs := RelAs.mono m as vs h
theorem RelAs.len : ∀ {as : List A} {vs : List V}, RelAs K H as vs → as.length = vs.length
  | _, _, .nil => rfl
  | _, _, .cons _ t => by rw [List.length_cons, List.length_cons, t.len]
theorem RelAs.get : ∀ {as : List A} {vs : List V} {i : Nat} {a : A}, RelAs K H as vs → as[i]? = some a → ∃ v, vs[i]? = some v ∧ RelA K H a v
  | _, _, _, _, .nil, e => by simp at e
  | _, _, 0, _, .cons r _, e => by simp at e; subst e; exact ⟨_, rfl, r⟩
  | _, _, i + 1, _, .cons _ t, e => by
    obtain ⟨v, h1, h2⟩ := t.get (i := i) (by simpa using e)
    exact ⟨v, by simpa using h1, h2⟩
theorem RelAs.getV : ∀ {as : List A} {vs : List V} {i : Nat} {v : V}, RelAs K H as vs → vs[i]? = some v → ∃ a, as[i]? = some a ∧ RelA K H a v
  | _, _, _, _, .nil, e => by simp at e
  | _, _, 0, _, .cons r _, e => by simp at e; subst e; exact ⟨_, rfl, r⟩
  | _, _, i + 1, _, .cons _ t, e => by
    obtain ⟨v, h1, h2⟩ := t.getV (i := i) (by simpa using e)
    exact ⟨v, by simpa using h1, h2⟩
theorem RelAs.app : ∀ {as bs : List A} {vs ws : List V}, RelAs K H as vs → RelAs K H bs ws → RelAs K H (as ++ bs) (vs ++ ws)
  | _, _, _, _, .nil, s => s
  | _, _, _, _, .cons r t, s => .cons r (t.app s)
theorem RelAs.set {a : A} {v : V} (r : RelA K H a v) : ∀ {as : List A} {vs : List V} (i : Nat), RelAs K H as vs → RelAs K H (as.set i a) (vs.set i v)
  | _, _, _, .nil => .nil
  | _, _, 0, .cons _ t => .cons r t
  | _, _, i + 1, .cons q t => .cons q (RelAs.set r i t)
theorem RelAs.take : ∀ {as : List A} {vs : List V} (n : Nat), RelAs K H as vs → RelAs K H (as.take n) (vs.take n)
  | _, _, 0, _ => .nil
  | _, _, _ + 1, .nil => .nil
  | _, _, n + 1, .cons r t => .cons r (RelAs.take n t)
theorem RelAs.drop : ∀ {as : List A} {vs : List V} (n : Nat), RelAs K H as vs → RelAs K H (as.drop n) (vs.drop n)
  | _, _, 0, r => r
  | _, _, _ + 1, .nil => .nil
  | _, _, n + 1, .cons _ t => RelAs.drop n t
theorem RelAs.one {a : A} {v : V} (r : RelA K H a v) : RelAs K H [a] [v] := .cons r .nil
theorem RelAs.rev : ∀ {as : List A} {vs : List V}, RelAs K H as vs → RelAs K H as.reverse vs.reverse
  | _, _, .nil => .nil
  | _, _, .cons r t => by rw [List.reverse_cons, List.reverse_cons]; exact t.rev.app (.one r)
theorem RelAs.erase : ∀ {as : List A} {vs : List V} (i : Nat), RelAs K H as vs → RelAs K H (as.eraseIdx i) (vs.eraseIdx i)
  | _, _, _, .nil => .nil
  | _, _, 0, .cons _ t => t
  | _, _, i + 1, .cons r t => .cons r (RelAs.erase i t)
end

/-! ### the abstract heap -/
inductive AO where
  | lst (xs : List A)
  | dK (kvs : List (Key × A)) | dT (kvs : List (List Key × A))
  | lK (kvs : List (Key × A)) | lT (kvs : List (List Key × A))
  | ins (C : Addr) (fs : List (Str × A))
abbrev AH := Addr → Option AO
def updA (h : AH) (a : Addr) (o : AO) : AH := fun b => if b = a then some o else h b
theorem updA_same {h : AH} {a : Addr} {o : AO} : updA h a o a = some o := by unfold updA; rw [if_pos rfl]
theorem updA_ne {h : AH} {a b : Addr} {o : AO} (e : b ≠ a) : updA h a o b = h b := by unfold updA; rw [if_neg e]
abbrev RelK {κ : Type} (K : Frg) (H : Hp) : List (κ × A) → List (κ × V) → Prop := Paired fun p q => p.1 = q.1 ∧ RelA K H p.2 q.2
inductive RelO (K : Frg) (H : Hp) : AO → HO → Prop
  | lst {xs vs} : RelAs K H xs vs → RelO K H (.lst xs) (.lst vs)
  | dK {xs vs} : RelK K H xs vs → RelO K H (.dK xs) (.dK vs)
  | dT {xs vs} : RelK K H xs vs → RelO K H (.dT xs) (.dT vs)
  | lK {xs vs o} : RelK K H xs vs → RelO K H (.lK xs) (.frz o (.dK vs))
  | lT {xs vs o} : RelK K H xs vs → RelO K H (.lT xs) (.frz o (.dT vs))
  | ins {C dx xs vs} : RelK K H xs vs → RelO K H (.ins C xs) (.ins C dx vs)
def RelH (K : Frg) (H : Hp) (h : AH) : Prop := ∀ a o, h a = some o → ∃ u, H a = some u ∧ RelO K H o u
section
variable {K : Frg} {H H' : Hp} {h : AH} {p : Addr} {o o' : AO} {u u' : HO}
theorem RelK.up {κ : Type} {xs : List (κ × A)} {vs : List (κ × V)} (r : RelK K H xs vs) (m : Mono H H') : RelK K H' xs vs := Paired.mapP r fun _ _ q => ⟨q.1, q.2.up m⟩
theorem RelO.up (r : RelO K H o u) (m : Mono H H') : RelO K H' o u := by
  cases r with
  | lst r => exact .lst (r.up m)
  | dK r => exact .dK (RelK.up r m)
  | dT r => exact .dT (RelK.up r m)
  | lK r => exact .lK (RelK.up r m)
  | lT r => exact .lT (RelK.up r m)
  | ins r => exact .ins (RelK.up r m)
theorem RelO.notTup (r : RelO K H o u) : ¬ Stands u := fun q => by
  rcases q with ⟨xs, q⟩ | ⟨ob, xs, q⟩ <;> subst q <;> cases r
theorem RelH.free (r : RelH K H h) (e : H p = none) : h p = none := by
  cases q : h p with
  | none => rfl
  | some o => obtain ⟨u, e', _⟩ := r p o q; rw [e] at e'; cases e'
/-- a new untracked thing (a tuple, a garbage object) -/
theorem RelH.skip (r : RelH K H h) (e : H p = none) : RelH K (upd H p u) h := fun a o q => by
  obtain ⟨w, e', r'⟩ := r a o q
  exact ⟨w, by rw [upd_ne (ne_of_none e' e)]; exact e', r'.up (Mono.new e)⟩
theorem RelH.new (r : RelH K H h) (e : H p = none) (n : RelO K H o u) : RelH K (upd H p u) (updA h p o) := fun a q z => by
  by_cases hb : a = p
  · subst hb
    rw [updA_same] at z; cases z
    exact ⟨u, upd_same, n.up (Mono.new e)⟩
  · rw [updA_ne hb] at z
    exact r.skip e a q z
theorem RelH.wr (r : RelH K H h) (e : H p = some u) (nt : ¬ Stands u) (n : RelO K H o' u') : RelH K (upd H p u') (updA h p o') := fun a q z => by
  by_cases hb : a = p
  · subst hb
    rw [updA_same] at z; cases z
    exact ⟨u', upd_same, n.up (Mono.wr e nt)⟩
  · rw [updA_ne hb] at z
    obtain ⟨w, e', r'⟩ := r a q z
    exact ⟨w, by rw [upd_ne hb]; exact e', r'.up (Mono.wr e nt)⟩
theorem RelH.sub {h' : AH} (r : RelH K H h) (k : ∀ a o, h' a = some o → h a = some o) : RelH K H h' := fun a o q => r a o (k a o q)
end

/-! ### slots -/
abbrev ASt := List (Option A)
structure RelS (K : Frg) (H : Hp) (α : ASt) (σ : L2.St) : Prop where
  len : α.length = σ.length
  get : ∀ (i : Nat) (a : A), α[i]? = some (some a) → ∃ v, σ[i]? = some (some v) ∧ RelA K H a v
section
variable {K : Frg} {H H' : Hp} {α : ASt} {σ : L2.St}
theorem RelS.up (r : RelS K H α σ) (m : Mono H H') : RelS K H' α σ := ⟨r.len, fun i a e => let ⟨v, e', q⟩ := r.get i a e; ⟨v, e', q.up m⟩⟩
theorem RelS.set {a : A} {v : V} (r : RelS K H α σ) (i : Nat) (q : RelA K H a v) : RelS K H (α.set i (some a)) (σ.set i (some v)) := by
  refine ⟨by rw [List.length_set, List.length_set]; exact r.len, fun j b e => ?_⟩
  by_cases hj : i = j
  · subst hj
    by_cases hl : i < α.length
    · rw [List.getElem?_set_self hl] at e; cases e
      exact ⟨v, by rw [List.getElem?_set_self (by rw [← r.len]; exact hl)], q⟩
    · rw [List.getElem?_eq_none (by simpa using hl)] at e; cases e
  · rw [List.getElem?_set_ne hj] at e
    obtain ⟨v', e', q'⟩ := r.get j b e
    exact ⟨v', by rw [List.getElem?_set_ne hj]; exact e', q'⟩
theorem RelS.gone (r : RelS K H α σ) (i : Nat) : RelS K H (α.set i none) (σ.set i none) := by
  refine ⟨by rw [List.length_set, List.length_set]; exact r.len, fun j b e => ?_⟩
  by_cases hj : i = j
  · subst hj
    by_cases hl : i < α.length
    · rw [List.getElem?_set_self hl] at e; cases e
    · rw [List.getElem?_eq_none (by simpa using hl)] at e; cases e
  · rw [List.getElem?_set_ne hj] at e
    obtain ⟨v', e', q'⟩ := r.get j b e
    exact ⟨v', by rw [List.getElem?_set_ne hj]; exact e', q'⟩
end
end G
namespace G
open PySem PySem.Spec L2

/-! ### judgements -/
abbrev AVK := A → AH → Prop
abbrev AXK := Value → AH → Prop
abbrev ATE := ASt → AH → AVK → AXK → Prop
abbrev ATT := ASt → AH → (Bool → AH → Prop) → AXK → Prop
abbrev ATA := ASt → AH → (List A → AH → Prop) → AXK → Prop
def LQ (K : Frg) (H : Hp) (Q : AVK) : VK := fun v H' => ∃ a h', Mono H H' ∧ RelA K H' a v ∧ RelH K H' h' ∧ Q a h'
def LB (K : Frg) (H : Hp) (Q : Bool → AH → Prop) : Bool → Hp → Prop := fun b H' => ∃ h', Mono H H' ∧ RelH K H' h' ∧ Q b h'
def LQs (K : Frg) (H : Hp) (Q : List A → AH → Prop) : List V → Hp → Prop := fun vs H' => ∃ as h', Mono H H' ∧ RelAs K H' as vs ∧ RelH K H' h' ∧ Q as h'
def LN (K : Frg) (H : Hp) (N : ASt → AH → Prop) : L2.St → Hp → Prop := fun σ' H' => ∃ α' h', Mono H H' ∧ RelS K H' α' σ' ∧ RelH K H' h' ∧ N α' h'
section
variable {K : Frg} {H H1 : Hp}
theorem LQ.up {Q : AVK} {v : V} {H' : Hp} (m : Mono H H1) (q : LQ K H1 Q v H') : LQ K H Q v H' := let ⟨a, h', m', r, rh, q⟩ := q; ⟨a, h', m.trans m', r, rh, q⟩
theorem LB.up {Q : Bool → AH → Prop} {b : Bool} {H' : Hp} (m : Mono H H1) (q : LB K H1 Q b H') : LB K H Q b H' := let ⟨h', m', rh, q⟩ := q; ⟨h', m.trans m', rh, q⟩
theorem LQs.up {Q : List A → AH → Prop} {v : List V} {H' : Hp} (m : Mono H H1) (q : LQs K H1 Q v H') : LQs K H Q v H' := let ⟨a, h', m', r, rh, q⟩ := q; ⟨a, h', m.trans m', r, rh, q⟩
theorem LN.up {N : ASt → AH → Prop} {σ : L2.St} {H' : Hp} (m : Mono H H1) (q : LN K H1 N σ H') : LN K H N σ H' := let ⟨a, h', m', r, rh, q⟩ := q; ⟨a, h', m.trans m', r, rh, q⟩
end

/-- an exception that E wishes for is taken -/
def TakesE (X : Cx) (H : Hp) (α : ASt) (E : AXK) : Prop := ∃ Hb, Mono Hb H ∧ Takes X (fun cls d σ H' => d = none ∧ Mono Hb H' ∧ RelS X.K H' α σ ∧ ∃ h, RelH X.K H' h ∧ E cls h)
abbrev AX := Value → ASt → AH → Prop
def TakesS (X : Cx) (H : Hp) (ex : AX) : Prop := ∃ Hb, Mono Hb H ∧ Takes X (fun cls d σ H' => d = none ∧ Mono Hb H' ∧ ∃ α h, RelS X.K H' α σ ∧ RelH X.K H' h ∧ ex cls α h)
theorem TakesS.e {X : Cx} {H : Hp} {ex : AX} (t : TakesS X H ex) (α : ASt) : TakesE X H α (fun c h => ex c α h) := let ⟨Hb, m, t⟩ := t; ⟨Hb, m, Takes.imp t fun _ _ _ _ ⟨e, mm, r, h, rh, q⟩ => ⟨e, mm, α, h, r, rh, q⟩⟩
theorem TakesE.up {X : Cx} {H H1 : Hp} {α : ASt} {E : AXK} (t : TakesE X H α E) (m : Mono H H1) : TakesE X H1 α E := let ⟨Hb, m', t⟩ := t; ⟨Hb, m'.trans m, t⟩
theorem TakesS.up {X : Cx} {H H1 : Hp} {ex : AX} (t : TakesS X H ex) (m : Mono H H1) : TakesS X H1 ex := let ⟨Hb, m', t⟩ := t; ⟨Hb, m'.trans m, t⟩
abbrev AE0 : AXK := fun _ _ => False
theorem TakesE.none {X : Cx} {H : Hp} {α : ASt} : TakesE X H α AE0 := ⟨H, Mono.refl H, fun _ _ ⟨_, _, _, _, _, _, _, _, _, _, _, _, _, _, _, _, _, _, _, _, _, w⟩ => w.elim⟩
theorem TakesS.none {X : Cx} {H : Hp} : TakesS X H (fun _ _ _ => False) := ⟨H, Mono.refl H, fun _ _ ⟨_, _, _, _, _, _, _, _, _, _, _, _, _, _, _, _, _, _, _, _, _, _, w⟩ => w.elim⟩

structure AE (X : Cx) (e : Expr) (t : ATE) : Prop where
  run : ∀ (pins : List (Addr × Obj)) (s : Shared) (σ : L2.St) (H : Hp) (α : ASt) (h : AH) (Q : AVK) (E : AXK), Inv X pins σ H s → RelS X.K H α σ → RelH X.K H h → TakesE X H α E → t α h Q E →
    wpAny (model X.prog X.w) X.A (eval e X.env) (EP X pins σ (LQ X.K H Q)) X.xe s
structure AT (X : Cx) (e : Expr) (t : ATT) : Prop where
  run : ∀ (pins : List (Addr × Obj)) (s : Shared) (σ : L2.St) (H : Hp) (α : ASt) (h : AH) (Q : Bool → AH → Prop) (E : AXK), Inv X pins σ H s → RelS X.K H α σ → RelH X.K H h → TakesE X H α E → t α h Q E →
    wpAny (model X.prog X.w) X.A (isTrue e X.env (eval e X.env)) (TP X pins σ (LB X.K H Q)) X.xe s
structure AW (X : Cx) (e : Expr) (t : ATT) : Prop where
  run : ∀ (whole : Sem Value) (pins : List (Addr × Obj)) (s : Shared) (σ : L2.St) (H : Hp) (α : ASt) (h : AH) (Q : Bool → AH → Prop) (E : AXK), Inv X pins σ H s → RelS X.K H α σ → RelH X.K H h → TakesE X H α E → t α h Q E →
    wpAny (model X.prog X.w) X.A (isTrue e X.env whole) (TP X pins σ (LB X.K H Q)) X.xe s
structure AAs (X : Cx) (es : List Expr) (t : ATA) : Prop where
  run : ∀ (pos : Pos) (pins : List (Addr × Obj)) (s : Shared) (σ : L2.St) (H : Hp) (α : ASt) (h : AH) (Q : List A → AH → Prop) (E : AXK), Inv X pins σ H s → RelS X.K H α σ → RelH X.K H h → TakesE X H α E → t α h Q E →
    wpAny (model X.prog X.w) X.A (spliced (backTo pos (starEach es X.env))) (AP X pins σ (LQs X.K H Q)) X.xe s

/-! the readings as HandS takes them -/
def low (X : Cx) (t : ATE) : TE := fun σ H Qv => ∃ α h Q E, RelS X.K H α σ ∧ RelH X.K H h ∧ TakesE X H α E ∧ t α h Q E ∧ ∀ v H', LQ X.K H Q v H' → Qv v H'
def lowT (X : Cx) (t : ATT) : TT := fun σ H Qv => ∃ α h Q E, RelS X.K H α σ ∧ RelH X.K H h ∧ TakesE X H α E ∧ t α h Q E ∧ ∀ v H', LB X.K H Q v H' → Qv v H'
def lowA (X : Cx) (t : ATA) : TA := fun σ H Qv => ∃ α h Q E, RelS X.K H α σ ∧ RelH X.K H h ∧ TakesE X H α E ∧ t α h Q E ∧ ∀ v H', LQs X.K H Q v H' → Qv v H'
section
variable {X : Cx} {e : Expr} {es : List Expr}
theorem AE.pe {t : ATE} (a : AE X e t) : PE X e (low X t) := ⟨fun pins s σ H Qv I ⟨α, h, Q, E, rs, rh, tk, ht, k⟩ => thn (a.run pins s σ H α h Q E I rs rh tk ht) fun u s' ⟨v, H', I', r, q⟩ => ⟨v, H', I', r, k _ _ q⟩⟩
theorem AT.pt {t : ATT} (a : AT X e t) : PT X e (lowT X t) := ⟨fun pins s σ H Qv I ⟨α, h, Q, E, rs, rh, tk, ht, k⟩ => thn (a.run pins s σ H α h Q E I rs rh tk ht) fun u s' ⟨H', I', q⟩ => ⟨H', I', k _ _ q⟩⟩
theorem AW.pw {t : ATT} (a : AW X e t) : PW X e (lowT X t) := ⟨fun wh pins s σ H Qv I ⟨α, h, Q, E, rs, rh, tk, ht, k⟩ => thn (a.run wh pins s σ H α h Q E I rs rh tk ht) fun u s' ⟨H', I', q⟩ => ⟨H', I', k _ _ q⟩⟩
theorem AAs.pa {t : ATA} (a : AAs X es t) : PA X es (lowA X t) := ⟨fun pos pins s σ H Qv I ⟨α, h, Q, E, rs, rh, tk, ht, k⟩ => thn (a.run pos pins s σ H α h Q E I rs rh tk ht) fun u s' ⟨v, H', I', r, q⟩ => ⟨v, H', I', r, k _ _ q⟩⟩
theorem AE.of {t : ATE} {t' : TE} (p : PE X e t') (k : ∀ σ H Q, low X t σ H Q → t' σ H Q) : AE X e t := ⟨fun pins s σ H α h Q E I rs rh tk ht => p.run pins s σ H _ I (k _ _ _ ⟨α, h, Q, E, rs, rh, tk, ht, fun _ _ z => z⟩)⟩
theorem AT.of {t : ATT} {t' : TT} (p : PT X e t') (k : ∀ σ H Q, lowT X t σ H Q → t' σ H Q) : AT X e t := ⟨fun pins s σ H α h Q E I rs rh tk ht => p.run pins s σ H _ I (k _ _ _ ⟨α, h, Q, E, rs, rh, tk, ht, fun _ _ z => z⟩)⟩
theorem AW.of {t : ATT} {t' : TT} (p : PW X e t') (k : ∀ σ H Q, lowT X t σ H Q → t' σ H Q) : AW X e t := ⟨fun wh pins s σ H α h Q E I rs rh tk ht => p.run wh pins s σ H _ I (k _ _ _ ⟨α, h, Q, E, rs, rh, tk, ht, fun _ _ z => z⟩)⟩
theorem AAs.of {t : ATA} {t' : TA} (p : PA X es t') (k : ∀ σ H Q, lowA X t σ H Q → t' σ H Q) : AAs X es t := ⟨fun pos pins s σ H α h Q E I rs rh tk ht => p.run pos pins s σ H _ I (k _ _ _ ⟨α, h, Q, E, rs, rh, tk, ht, fun _ _ z => z⟩)⟩
theorem AW.at {t : ATT} (h : AW X e t) : AT X e t := ⟨h.run _⟩
/-- the reading of a first part, then the rest -/
theorem low.then {t : ATE} {σ : L2.St} {H H0 : Hp} {α : ASt} {h : AH} {Q : AVK} {E : AXK} {Qv : VK} (rs : RelS X.K H α σ) (rh : RelH X.K H h) (tk : TakesE X H α E) (ht : t α h Q E)
    (k : ∀ v H' a h', Mono H H' → RelA X.K H' a v → RelH X.K H' h' → RelS X.K H' α σ → Q a h' → Qv v H') : low X t σ H Qv := ⟨α, h, Q, E, rs, rh, tk, ht, fun v H' ⟨a, h', m, r, rh', q⟩ => k v H' a h' m r rh' (rs.up m) q⟩
theorem lowA.then {t : ATA} {σ : L2.St} {H : Hp} {α : ASt} {h : AH} {Q : List A → AH → Prop} {E : AXK} {Qv : List V → Hp → Prop} (rs : RelS X.K H α σ) (rh : RelH X.K H h) (tk : TakesE X H α E) (ht : t α h Q E)
    (k : ∀ v H' a h', Mono H H' → RelAs X.K H' a v → RelH X.K H' h' → RelS X.K H' α σ → Q a h' → Qv v H') : lowA X t σ H Qv := ⟨α, h, Q, E, rs, rh, tk, ht, fun v H' ⟨a, h', m, r, rh', q⟩ => k v H' a h' m r rh' (rs.up m) q⟩
theorem lowT.then {t : ATT} {σ : L2.St} {H : Hp} {α : ASt} {h : AH} {Q : Bool → AH → Prop} {E : AXK} {Qv : Bool → Hp → Prop} (rs : RelS X.K H α σ) (rh : RelH X.K H h) (tk : TakesE X H α E) (ht : t α h Q E)
    (k : ∀ b H' h', Mono H H' → RelH X.K H' h' → RelS X.K H' α σ → Q b h' → Qv b H') : lowT X t σ H Qv := ⟨α, h, Q, E, rs, rh, tk, ht, fun v H' ⟨h', m, rh', q⟩ => k v H' h' m rh' (rs.up m) q⟩
end

/-! ### names, constants, displays -/
section
variable {X : Cx} {e a b : Expr} {es : List Expr} {pos : Pos} {te ta tb : ATE} {tr : ATA}
def aVar (i : Nat) : ATE := fun α h Q _ => match α[i]? with
  | some (some a) => Q a h
  | _ => False
def aC (a : A) : ATE := fun _ h Q _ => Q a h
theorem ae_var {i : Nat} {x : Str} (hN : X.N[i]? = some x) (hv : Vis X.env.scope x) (hd : (x == ("__debug__" : Str)) = false := by decide) (hcd : (x == ("__classdict__" : Str)) = false := by decide) : AE X (.Name x pos) (aVar i) :=
  AE.of (pe_var hN hv hd hcd) fun σ H Q ⟨α, h, q, E, rs, rh, tk, ht, k⟩ => by
    unfold aVar at ht
    cases e1 : α[i]? with
    | none => rw [e1] at ht; exact ht.elim
    | some o =>
      cases o with
      | none => rw [e1] at ht; exact ht.elim
      | some a =>
        rw [e1] at ht
        obtain ⟨v, e2, r⟩ := rs.get i a e1
        exact ⟨v, e2, k _ _ ⟨a, h, Mono.refl H, r, rh, ht⟩⟩
theorem av (i : Nat) {x : Str} (hN : X.N[i]? = some x := by rfl) (hv : Vis X.env.scope x := by first | exact Or.inl rfl | exact Or.inr (Or.inl rfl) | exact Or.inr (Or.inr rfl)) (hd : (x == ("__debug__" : Str)) = false := by decide)
    (hcd : (x == ("__classdict__" : Str)) = false := by decide) : AE X (.Name x pos) (aVar i) := ae_var hN hv hd hcd
theorem aC.low {a : A} {v : V} (r : ∀ H, RelA X.K H a v) {σ : L2.St} {H : Hp} {Q : VK} (x : low X (aC a) σ H Q) : Q v H := let ⟨_, h, _, _, _, rh, _, ht, k⟩ := x; k _ _ ⟨a, h, Mono.refl H, r H, rh, ht⟩
theorem ae_int {i j} : AE X (.Constant (.int i) j pos) (aC (.int i)) := AE.of pe_int fun _ _ _ => aC.low fun _ => .int i
theorem ae_bl {b j} : AE X (.Constant (.bool b) j pos) (aC (.bl b)) := AE.of pe_bl fun _ _ _ => aC.low fun _ => .bl b
theorem ae_non {j} : AE X (.Constant .none j pos) (aC .non) := AE.of pe_non fun _ _ _ => aC.low fun _ => .non
theorem ae_str {x j} : AE X (.Constant (.str x) j pos) (aC (.str x)) := AE.of pe_str fun _ _ _ => aC.low fun _ => .str x
/-- a module's name whose value is known -/
theorem ae_glob {x : Str} {v : V} {w : A} {u : Value} (hg : Gl X x) (hm : X.mg x = some u) (r : RelV v u) (ra : ∀ H, RelA X.K H w v) (hd : (x == ("__debug__" : Str)) = false := by decide) : AE X (.Name x pos) (aC w) := AE.of (pe_glob hg hm r hd) fun _ _ _ => aC.low ra
theorem ae_bltn {x : Str} {v : V} {w : A} {u : Value} (hg : Gl X x) (hm : X.mg x = none) (hv : bootBuiltins x = some u) (r : RelV v u) (ra : ∀ H, RelA X.K H w v) (hn : x ≠ "__name__" := by decide) (hd : (x == ("__debug__" : Str)) = false := by decide) :
    AE X (.Name x pos) (aC w) := AE.of (pe_bltn hg hm hv r hn hd) fun _ _ _ => aC.low ra

def aNil : ATA := fun _ h Q _ => Q [] h
def aCons (ta : ATE) (tr : ATA) : ATA := fun α h Q E => ta α h (fun x h1 => tr α h1 (fun xs h2 => Q (x :: xs) h2) E) E
theorem aa_nil : AAs X [] aNil := AAs.of pa_nil fun σ H Q ⟨α, h, q, E, rs, rh, tk, ht, k⟩ => k _ _ ⟨[], h, Mono.refl H, .nil, rh, ht⟩
theorem aa_cons (ha : AE X e te) (hr : AAs X es tr) (hs : starEach (e :: es) X.env = (false, eval e X.env) :: starEach es X.env := by rfl) : AAs X (e :: es) (aCons te tr) :=
  AAs.of (pa_cons ha.pe hr.pa hs) fun σ H Q ⟨α, h, q, E, rs, rh, tk, ht, k⟩ =>
    low.then (H0 := H) rs rh tk ht fun v H1 x h1 m1 r1 rh1 rs1 q1 => lowA.then rs1 rh1 (tk.up m1) q1 fun vs H2 xs h2 m2 r2 rh2 rs2 q2 => k _ _ ⟨x :: xs, h2, m1.trans m2, .cons (r1.up m2) r2, rh2, q2⟩
/-- a tuple -/
def aTup (t : ATA) : ATE := fun α h Q E => t α h (fun xs h1 => xs.length ≤ sizeLine ∧ Q (.tup xs) h1) E
theorem ae_tup {x1} (p : AAs X es tr) : AE X (.Tuple es x1 pos) (aTup tr) := AE.of (pe_tup p.pa) fun σ H Q ⟨α, h, q, E, rs, rh, tk, ht, k⟩ =>
  lowA.then rs rh tk ht fun vs H1 xs h1 m1 r1 rh1 _ ⟨z, q1⟩ => ⟨by rw [← r1.len]; exact z, fun p hp => k _ _ ⟨.tup xs, h1, m1.trans (Mono.new hp), .tup (.of upd_same) (r1.up (Mono.new (o := .tup vs) hp)), rh1.skip hp, q1⟩⟩
/-- the ints and texts of a flat tuple -/
def keyA : A → Option Key
  | .int i => some (.inl i)
  | .str x => some (.inr x)
  | _ => none
def keysA : List A → Option (List Key)
  | [] => some []
  | a :: as => match keyA a, keysA as with
    | some k, some ks => some (k :: ks)
    | _, _ => none
theorem keyA_rel {K : Frg} {H : Hp} {a : A} {v : V} {k : Key} (r : RelA K H a v) (e : keyA a = some k) : v = kV k := by
  cases r <;> simp [keyA] at e <;> subst e <;> rfl
theorem keysA_rel {K : Frg} {H : Hp} : ∀ {as : List A} {vs : List V} {ks : List Key}, RelAs K H as vs → keysA as = some ks → vs = ks.map kV
  | _, _, ks, .nil, e => by simp [keysA] at e; subst e; rfl
  | a :: as, _, ks, .cons r t, e => by
    unfold keysA at e
    cases e1 : keyA a with
    | none => rw [e1] at e; simp at e
    | some k =>
      cases e2 : keysA as with
      | none => rw [e1, e2] at e; simp at e
      | some l =>
        rw [e1, e2] at e
        simp at e; subst e
        rw [List.map_cons, keyA_rel r e1, keysA_rel t e2]
/-- a tuple that may be a dict's key -/
def aKt (t : ATA) : ATE := fun α h Q E => t α h (fun xs h1 => xs.length ≤ sizeLine ∧ match keysA xs with
  | some ks => Q (.kt ks) h1
  | none => False) E
theorem ae_kt {x1} (p : AAs X es tr) : AE X (.Tuple es x1 pos) (aKt tr) := AE.of (pe_tup p.pa) fun σ H Q ⟨α, h, q, E, rs, rh, tk, ht, k⟩ =>
  lowA.then rs rh tk ht fun vs H1 xs h1 m1 r1 rh1 _ ⟨z, q1⟩ => ⟨by rw [← r1.len]; exact z, fun p hp => by
    cases e1 : keysA xs with
    | none => rw [e1] at q1; exact q1.elim
    | some ks =>
      rw [e1] at q1
      exact k _ _ ⟨.kt ks, h1, m1.trans (Mono.new hp), .kt (by rw [upd_same, keysA_rel r1 e1]), rh1.skip hp, q1⟩⟩
/-- a list display -/
def aLst (t : ATA) : ATE := fun α h Q E => t α h (fun xs h1 => xs.length ≤ sizeLine ∧ ∀ p, h1 p = none → Q (.ref p) (updA h1 p (.lst xs))) E
theorem ae_lst (p : AAs X es tr) : AE X (.List es pos) (aLst tr) := AE.of (pe_lst p.pa) fun σ H Q ⟨α, h, q, E, rs, rh, tk, ht, k⟩ =>
  lowA.then rs rh tk ht fun vs H1 xs h1 m1 r1 rh1 _ ⟨z, q1⟩ => ⟨by rw [← r1.len]; exact z, fun p hp => k _ _ ⟨.ref p, _, m1.trans (Mono.new hp), .ref p, rh1.new hp (.lst r1), q1 p (rh1.free hp)⟩⟩
end

/-! ### operators by values -/
abbrev AR1 := A → AH → AVK → Prop
abbrev AR2 := A → A → AH → AVK → Prop
abbrev ARs := List A → AH → AVK → Prop
def Op2 (K : Frg) (r : R2) (rA : AR2) : Prop := ∀ (H : Hp) (h : AH) (x y : V) (a b : A) (Q : AVK) (Qv : VK), RelA K H a x → RelA K H b y → RelH K H h → (∀ v H', LQ K H Q v H' → Qv v H') → rA a b h Q → r x y H Qv
def Op1 (K : Frg) (r : V → Hp → VK → Prop) (rA : AR1) : Prop := ∀ (H : Hp) (h : AH) (x : V) (a : A) (Q : AVK) (Qv : VK), RelA K H a x → RelH K H h → (∀ v H', LQ K H Q v H' → Qv v H') → rA a h Q → r x H Qv
def OpN (K : Frg) (r : List V → Hp → VK → Prop) (rA : ARs) : Prop := ∀ (H : Hp) (h : AH) (xs : List V) (as : List A) (Q : AVK) (Qv : VK), RelAs K H as xs → RelH K H h → (∀ v H', LQ K H Q v H' → Qv v H') → rA as h Q → r xs H Qv
def a2 (rA : AR2) (ta tb : ATE) : ATE := fun α h Q E => ta α h (fun x h1 => tb α h1 (fun y h2 => rA x y h2 Q) E) E
def a1 (rA : AR1) (ta : ATE) : ATE := fun α h Q E => ta α h (fun x h1 => rA x h1 Q) E
def aN (rA : ARs) (t : ATA) : ATE := fun α h Q E => t α h (fun xs h1 => rA xs h1 Q) E
section
variable {X : Cx} {a b e : Expr} {es : List Expr} {pos p : Pos} {ta tb te : ATE} {tr : ATA} {r : R2} {rA : AR2}
theorem low2 (hr : Op2 X.K r rA) {σ : L2.St} {H : Hp} {Qv : VK} (x : low X (a2 rA ta tb) σ H Qv) : tOp r (low X ta) (low X tb) σ H Qv := by
  obtain ⟨α, h, q, E, rs, rh, tk, ht, k⟩ := x
  exact low.then (H0 := H) rs rh tk ht fun v H1 x h1 m1 r1 rh1 rs1 q1 => low.then (H0 := H) rs1 rh1 (tk.up m1) q1 fun w H2 y h2 m2 r2 rh2 rs2 q2 =>
    hr H2 h2 v w x y q Qv (r1.up m2) r2 rh2 (fun z H' g => k _ _ (g.up (m1.trans m2))) q2
theorem ae_op {op : Operator} (ho : OpR X (binaryOp op) r) (hr : Op2 X.K r rA) (ha : AE X a ta) (hb : AE X b tb) : AE X (.BinOp a op b pos) (a2 rA ta tb) := AE.of (pe_op ho ha.pe hb.pe) fun _ _ _ x => low2 hr x
theorem ae_un {op : UnaryOp} {r : V → Hp → VK → Prop} {rA : AR1} (ho : UnR X (unaryOp op) r) (hr : Op1 X.K r rA) (ha : AE X a ta) : AE X (.UnaryOp op a pos) (a1 rA ta) :=
  AE.of (pe_un ho ha.pe) fun σ H Qv ⟨α, h, q, E, rs, rh, tk, ht, k⟩ => low.then (H0 := H) rs rh tk ht fun v H1 x h1 m1 r1 rh1 rs1 q1 => hr H1 h1 v x q Qv r1 rh1 (fun z H' g => k _ _ (g.up m1)) q1
theorem ae_cmp {op : CmpOp} (ho : OpR X (compareOp op) r) (hr : Op2 X.K r rA) (ha : AE X a ta) (hb : AE X b tb) (hm : behindInMarks op b = false) : AE X (.Compare a [op] [b] pos) (a2 rA ta tb) := AE.of (pe_cmpR ho ha.pe hb.pe hm) fun _ _ _ x => low2 hr x
/-- a value that is a bool, as a test -/
def asB (x : A) (Q : Bool → Prop) : Prop := match x with
  | .bl b => Q b
  | _ => False
def aTest (t : ATE) : ATT := fun α h Q E => t α h (fun x h1 => asB x fun b => Q b h1) E
theorem bl_of {K : Frg} {H : Hp} {a : A} {v : V} {Q : Bool → Prop} (r : RelA K H a v) (q : asB a Q) : ∃ b, v = .bl b ∧ Q b := by
  cases r with
  | bl b => exact ⟨b, rfl, q⟩
  | _ => exact q.elim
theorem at_cmp {op : CmpOp} (ho : OpR X (compareOp op) r) (hr : Op2 X.K r rA) (ha : AE X a ta) (hb : AE X b tb) (hm : behindInMarks op b = false) : AT X (.Compare a [op] [b] pos) (aTest (a2 rA ta tb)) :=
  AT.of (pt_cmpR ho ha.pe hb.pe hm) fun σ H Qv ⟨α, h, q, E, rs, rh, tk, ht, k⟩ => low2 hr ⟨α, h, _, E, rs, rh, tk, ht, fun v H' ⟨x, h', m, r1, rh', q1⟩ => by
    obtain ⟨b, e, q2⟩ := bl_of r1 q1
    exact ⟨b, e, k _ _ ⟨h', m, rh', q2⟩⟩⟩
theorem at_val (he : AE X e te) (ht : ∀ whole, isTrue e X.env whole = (do let v ← whole; standAt e.pos; holding [v] (truthy v)) := by intro _; rfl) : AT X e (aTest te) :=
  AT.of (pt_val he.pe ht) fun σ H Qv ⟨α, h, q, E, rs, rh, tk, ht, k⟩ => ⟨α, h, _, E, rs, rh, tk, ht, fun v H' ⟨x, h', m, r1, rh', q1⟩ => by
    obtain ⟨b, e, q2⟩ := bl_of r1 q1
    exact ⟨b, e, k _ _ ⟨h', m, rh', q2⟩⟩⟩
/-! and, or, not -/
variable {tA tB : ATT} {rest : List Expr}
def aAnd (t u : ATT) : ATT := fun α h Q E => t α h (fun c h1 => if c = true then u α h1 Q E else Q false h1) E
def aOr (t u : ATT) : ATT := fun α h Q E => t α h (fun c h1 => if c = true then Q true h1 else u α h1 Q E) E
def aNot (t : ATT) : ATT := fun α h Q E => t α h (fun c h1 => Q (!c) h1) E
theorem aw_and1 (ha : AT X a tA) : AW X (.BoolOp .And [a] pos) tA := AW.of (pw_and1 ha.pt) fun _ _ _ x => x
theorem aw_or1 (ha : AT X a tA) : AW X (.BoolOp .Or [a] pos) tA := AW.of (pw_or1 ha.pt) fun _ _ _ x => x
theorem aw_and (ha : AT X a tA) (hb : AW X (.BoolOp .And (b :: rest) pos) tB) : AW X (.BoolOp .And (a :: b :: rest) pos) (aAnd tA tB) :=
  AW.of (pw_and ha.pt hb.pw) fun σ H Qv ⟨α, h, q, E, rs, rh, tk, ht, k⟩ => lowT.then rs rh tk ht fun c H1 h1 m1 rh1 rs1 q1 => by
    cases c with
    | true => exact ⟨α, h1, q, E, rs1, rh1, tk.up m1, by rw [if_pos rfl] at q1; exact q1, fun v H' g => k _ _ (g.up m1)⟩
    | false => exact k _ _ ⟨h1, m1, rh1, by rw [if_neg Bool.false_ne_true] at q1; exact q1⟩
theorem aw_or (ha : AT X a tA) (hb : AW X (.BoolOp .Or (b :: rest) pos) tB) : AW X (.BoolOp .Or (a :: b :: rest) pos) (aOr tA tB) :=
  AW.of (pw_or ha.pt hb.pw) fun σ H Qv ⟨α, h, q, E, rs, rh, tk, ht, k⟩ => lowT.then rs rh tk ht fun c H1 h1 m1 rh1 rs1 q1 => by
    cases c with
    | false => exact ⟨α, h1, q, E, rs1, rh1, tk.up m1, by rw [if_neg Bool.false_ne_true] at q1; exact q1, fun v H' g => k _ _ (g.up m1)⟩
    | true => exact k _ _ ⟨h1, m1, rh1, by rw [if_pos rfl] at q1; exact q1⟩
theorem at_not (ha : AT X a tA) : AT X (.UnaryOp .Not a pos) (aNot tA) := AT.of (pt_not ha.pt) fun σ H Qv ⟨α, h, q, E, rs, rh, tk, ht, k⟩ =>
  lowT.then rs rh tk ht fun c H1 h1 m1 rh1 rs1 q1 => k _ _ ⟨h1, m1, rh1, q1⟩
/-- the same as values: bools -/
def aB (t : ATT) : ATE := fun α h Q E => t α h (fun c h1 => Q (.bl c) h1) E
def aAndV (ta tb : ATE) : ATE := fun α h Q E => ta α h (fun x h1 => asB x fun c => if c = true then tb α h1 Q E else Q (.bl false) h1) E
def aOrV (ta tb : ATE) : ATE := fun α h Q E => ta α h (fun x h1 => asB x fun c => if c = true then Q (.bl true) h1 else tb α h1 Q E) E
def aNotV (ta : ATE) : ATE := fun α h Q E => ta α h (fun x h1 => asB x fun c => Q (.bl (!c)) h1) E
theorem ae_one {op} (h : AE X a te) : AE X (.BoolOp op [a] pos) te := AE.of (pe_one h.pe) fun _ _ _ x => x
theorem ae_and (ha : AE X a ta) (hb : AE X (.BoolOp .And (b :: rest) pos) tb) : AE X (.BoolOp .And (a :: b :: rest) pos) (aAndV ta tb) :=
  AE.of (pe_and ha.pe hb.pe) fun σ H Qv ⟨α, h, q, E, rs, rh, tk, ht, k⟩ => low.then (H0 := H) rs rh tk ht fun v H1 x h1 m1 r1 rh1 rs1 q1 => by
    obtain ⟨c, e, q2⟩ := bl_of r1 q1
    refine ⟨c, e, ?_⟩
    cases c with
    | true => exact ⟨α, h1, q, E, rs1, rh1, tk.up m1, by rw [if_pos rfl] at q2; exact q2, fun v H' g => k _ _ (g.up m1)⟩
    | false => exact k _ _ ⟨.bl false, h1, m1, .bl _, rh1, by rw [if_neg Bool.false_ne_true] at q2; exact q2⟩
theorem ae_or (ha : AE X a ta) (hb : AE X (.BoolOp .Or (b :: rest) pos) tb) : AE X (.BoolOp .Or (a :: b :: rest) pos) (aOrV ta tb) :=
  AE.of (pe_or ha.pe hb.pe) fun σ H Qv ⟨α, h, q, E, rs, rh, tk, ht, k⟩ => low.then (H0 := H) rs rh tk ht fun v H1 x h1 m1 r1 rh1 rs1 q1 => by
    obtain ⟨c, e, q2⟩ := bl_of r1 q1
    refine ⟨c, e, ?_⟩
    cases c with
    | false => exact ⟨α, h1, q, E, rs1, rh1, tk.up m1, by rw [if_neg Bool.false_ne_true] at q2; exact q2, fun v H' g => k _ _ (g.up m1)⟩
    | true => exact k _ _ ⟨.bl true, h1, m1, .bl _, rh1, by rw [if_pos rfl] at q2; exact q2⟩
theorem ae_not (ha : AE X a ta) : AE X (.UnaryOp .Not a pos) (aNotV ta) :=
  AE.of (pe_not ha.pe) fun σ H Qv ⟨α, h, q, E, rs, rh, tk, ht, k⟩ => low.then (H0 := H) rs rh tk ht fun v H1 x h1 m1 r1 rh1 rs1 q1 => by
    obtain ⟨c, e, q2⟩ := bl_of r1 q1
    exact ⟨c, e, k _ _ ⟨.bl (!c), h1, m1, .bl _, rh1, q2⟩⟩
def aIf (t : ATT) (ta tb : ATE) : ATE := fun α h Q E => t α h (fun c h1 => if c = true then ta α h1 Q E else tb α h1 Q E) E
theorem ae_ifExp {c : Expr} (hc : AT X c tA) (ha : AE X a ta) (hb : AE X b tb) : AE X (.IfExp c a b pos) (aIf tA ta tb) :=
  AE.of (pe_ifExp hc.pt ha.pe hb.pe) fun σ H Qv ⟨α, h, q, E, rs, rh, tk, ht, k⟩ => lowT.then rs rh tk ht fun c H1 h1 m1 rh1 rs1 q1 => by
    cases c with
    | true => exact ⟨α, h1, q, E, rs1, rh1, tk.up m1, by rw [if_pos rfl] at q1; exact q1, fun v H' g => k _ _ (g.up m1)⟩
    | false => exact ⟨α, h1, q, E, rs1, rh1, tk.up m1, by rw [if_neg Bool.false_ne_true] at q1; exact q1, fun v H' g => k _ _ (g.up m1)⟩
/-- a < b < c -/
def aChain (rA rB : AR2) (ta tb tc : ATE) : ATE := fun α h Q E => ta α h (fun x h1 => tb α h1 (fun y h2 => rA x y h2 fun z h3 => match z with
  | .bl k => if k = true then tc α h3 (fun w h4 => rB y w h4 Q) E else Q (.bl false) h3
  | _ => False) E) E
/-! calls of built-ins, methods of built-in types, subscripts -/
variable {x : Str} {id T : String} {rs : List V → Hp → VK → Prop} {rAs : ARs}
theorem lowN (hr : OpN X.K rs rAs) {σ : L2.St} {H : Hp} {Qv : VK} (x : low X (aN rAs tr) σ H Qv) : tCB rs (lowA X tr) σ H Qv := by
  obtain ⟨α, h, q, E, rs, rh, tk, ht, k⟩ := x
  exact lowA.then rs rh tk ht fun v H1 x h1 m1 r1 rh1 rs1 q1 => hr H1 h1 v x q Qv r1 rh1 (fun z H' g => k _ _ (g.up m1)) q1
theorem ae_callB (hc : CallR X (.builtin id) rs) (hr : OpN X.K rs rAs) (hg : Gl X x) (hm : X.mg x = none) (hv : bootBuiltins x = some (.builtin id)) (ha : AAs X (e :: es) tr) (hn : x ≠ "__name__" := by decide) (hdb : (x == ("__debug__" : Str)) = false := by decide)
    (he : starEach (e :: es) X.env = (false, eval e X.env) :: starEach es X.env := by rfl) (hpl : (backTo pos (starEach es X.env)).any (·.1) = false := by rfl) : AE X (.Call (.Name x p) (e :: es) [] pos) (aN rAs tr) :=
  AE.of (pe_callB hc hg hm hv ha.pa hn hdb he hpl) fun _ _ _ x => lowN hr x
theorem ae_callTy (hc : CallR X (.type T) rs) (hr : OpN X.K rs rAs) (hg : Gl X x) (hm : X.mg x = none) (hv : bootBuiltins x = some (.type T)) (ha : AAs X (e :: es) tr) (hn : x ≠ "__name__" := by decide) (hdb : (x == ("__debug__" : Str)) = false := by decide)
    (he : starEach (e :: es) X.env = (false, eval e X.env) :: starEach es X.env := by rfl) (hpl : (backTo pos (starEach es X.env)).any (·.1) = false := by rfl) : AE X (.Call (.Name x p) (e :: es) [] pos) (aN rAs tr) :=
  AE.of (pe_callTy hc hg hm hv ha.pa hn hdb he hpl) fun _ _ _ x => lowN hr x
theorem ae_ix (hi : IxR X r) (hr : Op2 X.K r rA) (ha : AE X a ta) (hb : AE X b tb) (hs : PlainIx b) : AE X (.Subscript a b pos) (a2 rA ta tb) := AE.of (pe_ix hi ha.pe hb.pe hs) fun _ _ _ x => low2 hr x
/-- methods of built-in types: the object, then the arguments -/
def tyA (T : String) (x : A) (h : AH) : Prop := match x with
  | .str _ => T = "str"
  | .tup _ => T = "tuple"
  | .kt _ => T = "tuple"
  | .ref p => (T = "list" ∧ ∃ xs, h p = some (.lst xs)) ∨ (T = "dict" ∧ ((∃ xs, h p = some (.dK xs)) ∨ ∃ xs, h p = some (.dT xs)))
  | _ => False
end
end G
namespace G
open PySem PySem.Spec L2

/-! ### int operators -/
def iA (C : Int → Int → Prop) (g : Int → Int → A) : AR2 := fun x y h Q => match x, y with
  | .int i, .int j => C i j ∧ Q (g i j) h
  | _, _ => False
def iA0 (g : Int → Int → A) : AR2 := fun x y h Q => match x, y with
  | .int i, .int j => Q (g i j) h
  | _, _ => False
section
variable {K : Frg} {H : Hp} {h : AH} {a b : A} {x y : V} {Q : AVK}
theorem iA_inv {C : Int → Int → Prop} {g : Int → Int → A} (ra : RelA K H a x) (rb : RelA K H b y) (q : iA C g a b h Q) : ∃ i j, x = .int i ∧ y = .int j ∧ C i j ∧ Q (g i j) h := by
  cases ra with
  | int i => cases rb with
    | int j => exact ⟨i, j, rfl, rfl, q.1, q.2⟩
    | _ => exact (show False from q).elim
  | _ => cases rb <;> exact (show False from q).elim
theorem iA0_inv {g : Int → Int → A} (ra : RelA K H a x) (rb : RelA K H b y) (q : iA0 g a b h Q) : ∃ i j, x = .int i ∧ y = .int j ∧ Q (g i j) h := by
  cases ra with
  | int i => cases rb with
    | int j => exact ⟨i, j, rfl, rfl, q⟩
    | _ => exact (show False from q).elim
  | _ => cases rb <;> exact (show False from q).elim
end
theorem op2_I {K : Frg} {C : Int → Int → Prop} {g : Int → Int → V} {gA : Int → Int → A} (hg : ∀ H i j, RelA K H (gA i j) (g i j)) : Op2 K (rI C g) (iA C gA) := fun H h x y a b Q Qv ra rb rh k q => by
  obtain ⟨i, j, rfl, rfl, c, q⟩ := iA_inv ra rb q
  exact ⟨i, j, rfl, rfl, c, k _ _ ⟨gA i j, h, Mono.refl H, hg H i j, rh, q⟩⟩
theorem op2_I0 {K : Frg} {g : Int → Int → V} {gA : Int → Int → A} (hg : ∀ H i j, RelA K H (gA i j) (g i j)) : Op2 K (rI0 g) (iA0 gA) := fun H h x y a b Q Qv ra rb rh k q => by
  obtain ⟨i, j, rfl, rfl, q⟩ := iA0_inv ra rb q
  exact ⟨i, j, rfl, rfl, k _ _ ⟨gA i j, h, Mono.refl H, hg H i j, rh, q⟩⟩
abbrev subA : AR2 := iA0 fun i j => .int (i - j)
abbrev modA : AR2 := iA (fun _ j => j ≠ 0) fun i j => .int (i.fmod j)
abbrev modP : AR2 := iA (fun _ j => 0 < j) fun i j => .int (i % j)
abbrev divP : AR2 := iA CDivW fun i j => .int (i / j)
abbrev divN : AR2 := iA CDivN fun i j => .int (i.fdiv j)
abbrev powA : AR2 := iA CPow fun i j => .int (i ^ j.toNat)
abbrev ltA : AR2 := iA0 fun i j => .bl (decide (i < j))
abbrev leA : AR2 := iA0 fun i j => .bl (decide (i ≤ j))
abbrev gtA : AR2 := iA0 fun i j => .bl (decide (j < i))
abbrev geA : AR2 := iA0 fun i j => .bl (decide (j ≤ i))
theorem o_sub {K : Frg} : Op2 K (rI0 fun i j => .int (i - j)) subA := op2_I0 fun _ _ _ => .int _
theorem o_mod {K : Frg} : Op2 K (rI (fun _ j => j ≠ 0) fun i j => .int (i.fmod j)) modA := op2_I fun _ _ _ => .int _
theorem o_modP {K : Frg} : Op2 K (rI (fun _ j => 0 < j) fun i j => .int (i % j)) modP := op2_I fun _ _ _ => .int _
theorem o_divP {K : Frg} : Op2 K (rI CDivW fun i j => .int (i / j)) divP := op2_I fun _ _ _ => .int _
theorem o_divN {K : Frg} : Op2 K (rI CDivN fun i j => .int (i.fdiv j)) divN := op2_I fun _ _ _ => .int _
theorem o_pow {K : Frg} : Op2 K (rI CPow fun i j => .int (i ^ j.toNat)) powA := op2_I fun _ _ _ => .int _
theorem o_lt {K : Frg} : Op2 K (rI0 fun i j => .bl (decide (i < j))) ltA := op2_I0 fun _ _ _ => .bl _
theorem o_le {K : Frg} : Op2 K (rI0 fun i j => .bl (decide (i ≤ j))) leA := op2_I0 fun _ _ _ => .bl _
theorem o_gt {K : Frg} : Op2 K (rI0 fun i j => .bl (decide (j < i))) gtA := op2_I0 fun _ _ _ => .bl _
theorem o_ge {K : Frg} : Op2 K (rI0 fun i j => .bl (decide (j ≤ i))) geA := op2_I0 fun _ _ _ => .bl _
/-- floor division: by a positive number, or by a small one -/
def CDivZ (_ j : Int) : Prop := j ≠ 0 ∧ j.natAbs.log2 < 9000
theorem op_fdivZ {X : Cx} : OpR X (binaryOp .FloorDiv) (rI CDivZ fun i j => .int (i.fdiv j)) := opI fun _ _ _ _ _ _ _ hc q => PyProof.Rows.floordiv_int hc.1 q (.inl (PyProof.noPylong_of_log2 hc.2))
def divA : AR2 := fun x y h Q => match x, y with
  | .int i, .int j => (CDivW i j ∧ Q (.int (i / j)) h) ∨ (CDivZ i j ∧ Q (.int (i.fdiv j)) h)
  | _, _ => False
theorem Op2.or {K : Frg} {r r' : R2} {rA rB : AR2} (a : Op2 K r rA) (b : Op2 K r' rB) : Op2 K (fun x y H Q => r x y H Q ∨ r' x y H Q) (fun x y h Q => rA x y h Q ∨ rB x y h Q) := fun H h x y u v Q Qv ra rb rh k q =>
  q.elim (fun q => .inl (a H h x y u v Q Qv ra rb rh k q)) fun q => .inr (b H h x y u v Q Qv ra rb rh k q)
theorem o_div {K : Frg} : Op2 K (fun x y H Q => rI CDivW (fun i j => .int (i / j)) x y H Q ∨ rI CDivZ (fun i j => .int (i.fdiv j)) x y H Q) divA := fun H h x y a b Q Qv ra rb rh k q => by
  cases ra with
  | int i => cases rb with
    | int j =>
      rcases (show (CDivW i j ∧ Q (.int (i / j)) h) ∨ (CDivZ i j ∧ Q (.int (i.fdiv j)) h) from q) with q | q
      · exact .inl ⟨i, j, rfl, rfl, q.1, k _ _ ⟨_, h, Mono.refl H, .int _, rh, q.2⟩⟩
      · exact .inr ⟨i, j, rfl, rfl, q.1, k _ _ ⟨_, h, Mono.refl H, .int _, rh, q.2⟩⟩
    | _ => exact (show False from q).elim
  | _ => cases rb <;> exact (show False from q).elim
theorem opr_div {X : Cx} : OpR X (binaryOp .FloorDiv) (fun x y H Q => rI CDivW (fun i j => .int (i / j)) x y H Q ∨ rI CDivZ (fun i j => .int (i.fdiv j)) x y H Q) := op_fdivW.or op_fdivZ

/-! ### lists and tuples that stand -/
theorem RelH.lst {K : Frg} {H : Hp} {h : AH} {p : Addr} {xs : List A} (r : RelH K H h) (e : h p = some (.lst xs)) : ∃ vs, H p = some (.lst vs) ∧ RelAs K H xs vs := by
  obtain ⟨u, e', q⟩ := r p _ e
  cases q with
  | lst q => exact ⟨_, e', q⟩
/-- a list that may be read -/
abbrev LstA (h : AH) (p : Addr) (xs : List A) : Prop := h p = some (.lst xs)
theorem RelH.rd {K : Frg} {H : Hp} {h : AH} {p : Addr} {xs : List A} (r : RelH K H h) (e : LstA h p xs) : ∃ vs, SqL K H p vs ∧ RelAs K H xs vs := by
  obtain ⟨vs, e', q⟩ := r.lst e
  exact ⟨vs, .of e', q⟩
/-- what a flat key tuple holds -/
def keyV : Key → A
  | .inl i => .int i
  | .inr x => .str x
theorem rel_keyV {K : Frg} {H : Hp} (k : Key) : RelA K H (keyV k) (kV k) := by cases k <;> constructor
theorem rel_keysV {K : Frg} {H : Hp} : ∀ ks : List Key, RelAs K H (ks.map keyV) (ks.map kV)
  | [] => .nil
  | k :: ks => .cons (rel_keyV k) (rel_keysV ks)
/-- the items of a tuple value -/
def asT (x : A) (Q : List A → Prop) : Prop := match x with
  | .tup xs => Q xs
  | .kt ks => Q (ks.map keyV)
  | _ => False
theorem tup_of {K : Frg} {H : Hp} {x : A} {v : V} {Q : List A → Prop} (r : RelA K H x v) (q : asT x Q) : ∃ p xs vs, v = .ref p ∧ SqT K H p vs ∧ RelAs K H xs vs ∧ Q xs := by
  cases r with
  | @tup p xs vs h r => exact ⟨p, xs, vs, rfl, h.sq, r, q⟩
  | @kt p ks h => exact ⟨p, ks.map keyV, ks.map kV, rfl, SqT.of h, rel_keysV ks, q⟩
  | _ => exact (show False from q).elim

/-! ### + and * of all kinds -/
def addA : AR2 := fun x y h Q => match x, y with
  | .int i, .int j => Q (.int (i + j)) h
  | .str a, .str b => a.length + b.length ≤ sizeLine ∧ Q (.str (a ++ b)) h
  | .tup xs, .tup ys => (xs ≠ [] ∧ xs.length + ys.length ≤ sizeLine) ∧ Q (.tup (xs ++ ys)) h
  | .ref p, .ref q => ∃ xs ys, h p = some (.lst xs) ∧ h q = some (.lst ys) ∧ xs.length + ys.length ≤ sizeLine ∧ ∀ r, h r = none → Q (.ref r) (updA h r (.lst (xs ++ ys)))
  | _, _ => False
def rAddAll (K : Frg) : R2 := fun x y H Q => rI0 (fun i j => .int (i + j)) x y H Q ∨ (∃ i j, x = V.str i ∧ y = V.str j ∧ i.length + j.length ≤ sizeLine ∧ Q (.str (i ++ j)) H) ∨ rCatT K x y H Q ∨ rCat x y H Q
theorem opr_add {X : Cx} : OpR X (binaryOp .Add) (rAddAll X.K) := op_add.or (op_add_str.or (op_catT.or op_cat))
theorem o_add {K : Frg} : Op2 K (rAddAll K) addA := fun H h x y a b Q Qv ra rb rh k q => by
  cases ra with
  | int i => cases rb with
    | int j => exact .inl ⟨i, j, rfl, rfl, k _ _ ⟨_, h, Mono.refl H, .int _, rh, q⟩⟩
    | _ => exact (show False from q).elim
  | str i => cases rb with
    | str j =>
      obtain ⟨z, q⟩ := (show i.length + j.length ≤ sizeLine ∧ Q (.str (i ++ j)) h from q)
      exact .inr (.inl ⟨i, j, rfl, rfl, z, k _ _ ⟨_, h, Mono.refl H, .str _, rh, q⟩⟩)
    | _ => exact (show False from q).elim
  | @tup p xs vs e1 r1 => cases rb with
    | @tup p2 ys ws e2 r2 =>
      obtain ⟨⟨n, z⟩, q⟩ := (show (xs ≠ [] ∧ xs.length + ys.length ≤ sizeLine) ∧ Q (.tup (xs ++ ys)) h from q)
      have l1 := r1.len
      have l2 := r2.len
      refine .inr (.inr (.inl ⟨p, p2, vs, ws, rfl, rfl, e1.sq, e2.sq, fun z => ?_, by rw [← l1, ← l2]; exact z, fun z => ?_, fun _ p3 hp => ?_⟩))
      · subst z
        cases r1
        exact n rfl
      · subst z
        cases r2
        rw [List.append_nil] at q
        exact k _ _ ⟨_, h, Mono.refl H, .tup e1 r1, rh, q⟩
      · exact k _ _ ⟨_, h, Mono.new hp, .tup (.of upd_same) ((r1.app r2).up (Mono.new hp)), rh.skip hp, q⟩
    | _ => exact (show False from q).elim
  | ref p => cases rb with
    | ref p2 =>
      obtain ⟨xs, ys, e1, e2, z, q⟩ := (show ∃ xs ys, h p = some (.lst xs) ∧ h p2 = some (.lst ys) ∧ xs.length + ys.length ≤ sizeLine ∧ ∀ r, h r = none → Q (.ref r) (updA h r (.lst (xs ++ ys))) from q)
      obtain ⟨vs, f1, r1⟩ := rh.lst e1
      obtain ⟨ws, f2, r2⟩ := rh.lst e2
      refine .inr (.inr (.inr ⟨p, p2, vs, ws, rfl, rfl, f1, f2, by rw [← r1.len, ← r2.len]; exact z, fun r hr => ?_⟩))
      exact k _ _ ⟨_, _, Mono.new hr, .ref r, rh.new hr (.lst (r1.app r2)), q r (rh.free hr)⟩
    | _ => exact (show False from q).elim
  | _ => cases rb <;> exact (show False from q).elim
def mulA : AR2 := fun x y h Q => match x, y with
  | .int i, .int j => IntMulOk i j ∧ Q (.int (i * j)) h
  | .ref p, .int k => ∃ xs, h p = some (.lst xs) ∧ (-(2 ^ 63) ≤ k ∧ k < 2 ^ 63 ∧ xs.length * k.toNat ≤ sizeLine) ∧ ∀ r, h r = none → Q (.ref r) (updA h r (.lst (List.replicate k.toNat xs).flatten))
  | _, _ => False
def rMulAll : R2 := fun x y H Q => rI IntMulOk (fun i j => .int (i * j)) x y H Q ∨ rRep x y H Q
theorem opr_mul {X : Cx} : OpR X (binaryOp .Mult) rMulAll := (opI fun _ _ _ _ _ _ _ hc q => PyProof.Rows.mul_int q hc).or op_rep
theorem RelAs.rep {K : Frg} {H : Hp} {xs : List A} {vs : List V} (r : RelAs K H xs vs) : ∀ n, RelAs K H (List.replicate n xs).flatten (List.replicate n vs).flatten
  | 0 => .nil
  | n + 1 => by rw [List.replicate_succ, List.replicate_succ, List.flatten_cons, List.flatten_cons]; exact r.app (r.rep n)
theorem o_mul {K : Frg} : Op2 K rMulAll mulA := fun H h x y a b Q Qv ra rb rh k q => by
  cases ra with
  | int i => cases rb with
    | int j =>
      obtain ⟨z, q⟩ := (show IntMulOk i j ∧ Q (.int (i * j)) h from q)
      exact .inl ⟨i, j, rfl, rfl, z, k _ _ ⟨_, h, Mono.refl H, .int _, rh, q⟩⟩
    | _ => exact (show False from q).elim
  | ref p => cases rb with
    | int n =>
      obtain ⟨xs, e1, ⟨z1, z2, z3⟩, q⟩ := (show ∃ xs, h p = some (.lst xs) ∧ (-(2 ^ 63) ≤ n ∧ n < 2 ^ 63 ∧ xs.length * n.toNat ≤ sizeLine) ∧ ∀ r, h r = none → Q (.ref r) (updA h r (.lst (List.replicate n.toNat xs).flatten)) from q)
      obtain ⟨vs, f1, r1⟩ := rh.lst e1
      exact .inr ⟨p, n, vs, rfl, rfl, f1, z1, z2, by rw [← r1.len]; exact z3, fun r hr => k _ _ ⟨_, _, Mono.new hr, .ref r, rh.new hr (.lst (r1.rep _)), q r (rh.free hr)⟩⟩
    | _ => exact (show False from q).elim
  | _ => cases rb <;> exact (show False from q).elim
def negA : AR1 := fun x h Q => match x with
  | .int i => Q (.int (-i)) h
  | _ => False
theorem o_neg {K : Frg} : Op1 K (rU fun i => .int (-i)) negA := fun H h x a Q Qv ra rh k q => by
  cases ra with
  | int i => exact ⟨i, rfl, k _ _ ⟨_, h, Mono.refl H, .int _, rh, q⟩⟩
  | _ => exact (show False from q).elim

/-! ### subscripts: lists, tuples, dicts -/
def ixA : AR2 := fun x y h Q => match x, y with
  | .tup xs, .int i => match atI xs i with
    | some v => Q v h
    | none => False
  | .kt ks, .int i => match atI (ks.map keyV) i with
    | some v => Q v h
    | none => False
  | .fls xs, .int i => match atI xs i with
    | some v => Q v h
    | none => False
  | .ref p, .int i => ∃ xs v, LstA h p xs ∧ atI xs i = some v ∧ Q v h
  | _, _ => False
theorem ixN_len {n m : Nat} (e : n = m) (i : Int) : ixN n i = ixN m i := by rw [e]
theorem atI_rel {K : Frg} {H : Hp} {xs : List A} {vs : List V} {i : Int} {a : A} (r : RelAs K H xs vs) (e : atI xs i = some a) : ∃ v, atI vs i = some v ∧ RelA K H a v := by
  unfold atI at e ⊢
  rw [← r.len]
  cases q : ixN xs.length i with
  | none => rw [q] at e; simp at e
  | some j =>
    rw [q] at e
    obtain ⟨v, e', r'⟩ := r.get (i := j) (a := a) (by simpa using e)
    exact ⟨v, by simpa using e', r'⟩
def rIxAll (K : Frg) : R2 := fun x y H Q => rIxL K x y H Q ∨ rIxT K x y H Q
theorem ixr_all {X : Cx} : IxR X (rIxAll X.K) := ix_list.or ix_tup
theorem o_ix {K : Frg} : Op2 K (rIxAll K) ixA := fun H h x y a b Q Qv ra rb rh k q => by
  cases ra with
  | @tup p xs vs e1 r1 => cases rb with
    | int i =>
      cases e : atI xs i with
      | none =>
        have q' : (match atI xs i with
          | some v => Q v h
          | none => False) := q
        rw [e] at q'
        exact q'.elim
      | some w =>
        have q' : (match atI xs i with
          | some v => Q v h
          | none => False) := q
        rw [e] at q'
        obtain ⟨v, e', r'⟩ := atI_rel r1 e
        exact .inr ⟨p, vs, i, v, rfl, rfl, e1.sq, e', k _ _ ⟨_, h, Mono.refl H, r', rh, q'⟩⟩
    | _ => exact (show False from q).elim
  | @fls p xs vs e1 r1 => cases rb with
    | int i =>
      have q' : (match atI xs i with
          | some v => Q v h
          | none => False) := q
      cases e : atI xs i with
      | none => rw [e] at q'; exact q'.elim
      | some w =>
        rw [e] at q'
        obtain ⟨v, e', r'⟩ := atI_rel r1 e
        exact .inl ⟨p, vs, i, v, rfl, rfl, e1.sq, e', k _ _ ⟨_, h, Mono.refl H, r', rh, q'⟩⟩
    | _ => exact (show False from q).elim
  | @kt p ks e1 => cases rb with
    | int i =>
      have q' : (match atI (ks.map keyV) i with
          | some v => Q v h
          | none => False) := q
      cases e : atI (ks.map keyV) i with
      | none => rw [e] at q'; exact q'.elim
      | some w =>
        rw [e] at q'
        obtain ⟨v, e', r'⟩ := atI_rel (rel_keysV (K := K) (H := H) ks) e
        exact .inr ⟨p, _, i, v, rfl, rfl, SqT.of e1, e', k _ _ ⟨_, h, Mono.refl H, r', rh, q'⟩⟩
    | _ => exact (show False from q).elim
  | ref p => cases rb with
    | int i =>
      obtain ⟨xs, v, e1, e, q⟩ := (show ∃ xs v, LstA h p xs ∧ atI xs i = some v ∧ Q v h from q)
      obtain ⟨vs, f1, r1⟩ := rh.rd e1
      obtain ⟨w, e', r'⟩ := atI_rel r1 e
      exact .inl ⟨p, vs, i, w, rfl, rfl, f1, e', k _ _ ⟨_, h, Mono.refl H, r', rh, q⟩⟩
    | _ => exact (show False from q).elim
  | _ => cases rb <;> exact (show False from q).elim

/-! ### == over data -/
mutual
inductive DatA (h : AH) : A → PyData → Prop
  | non : DatA h .non .none
  | bl (b : Bool) : DatA h (.bl b) (.bool b)
  | int (i : Int) : DatA h (.int i) (.int i)
  | str (x : Str) : DatA h (.str x) (.str x)
  | tup {xs : List A} {ds : List PyData} : DatAs h xs ds → DatA h (.tup xs) (.tuple ds)
  | kt {ks : List Key} {ds : List PyData} : DatAs h (ks.map keyV) ds → DatA h (.kt ks) (.tuple ds)
  | lst {p : Addr} {xs : List A} {ds : List PyData} : LstA h p xs → DatAs h xs ds → DatA h (.ref p) (.list ds)
  | fls {xs : List A} {ds : List PyData} : DatAs h xs ds → DatA h (.fls xs) (.list ds)
inductive DatAs (h : AH) : List A → List PyData → Prop
  | nil : DatAs h [] []
  | cons {a : A} {as : List A} {d : PyData} {ds : List PyData} : DatA h a d → DatAs h as ds → DatAs h (a :: as) (d :: ds)
end
section
variable {K : Frg} {H : Hp} {h : AH}
mutual
theorem DatA.dp (rh : RelH K H h) : ∀ (d : PyData) (a : A) (v : V), DatA h a d → RelA K H a v → Dp K H v d
  | .none, _, _, q, r => by cases q; cases r; exact .non
  | .bool _, _, _, q, r => by cases q; cases r; exact .bl _
  | .int _, _, _, q, r => by cases q; cases r; exact .int _
  | .str _, _, _, q, r => by cases q; cases r; exact .str _
  | .tuple ds, _, _, q, r => by
    cases q with
    | tup q => cases r with
      | tup e r => exact .tup e.sq (DatAs.dp rh ds _ _ q r)
    | kt q => cases r with
      | kt e => exact .tup (SqT.of e) (DatAs.dp rh ds _ _ q (rel_keysV _))
  | .list ds, _, _, q, r => by
    cases q with
    | lst e q =>
      cases r with
      | ref =>
        obtain ⟨vs, f, r'⟩ := rh.rd e
        exact .lst f (DatAs.dp rh ds _ _ q r')
    | fls q => cases r with
      | fls e r => exact .lst e.sq (DatAs.dp rh ds _ _ q r)
  | .dict _, _, _, q, _ => by cases q
theorem DatAs.dp (rh : RelH K H h) : ∀ (ds : List PyData) (as : List A) (vs : List V), DatAs h as ds → RelAs K H as vs → DpAll K H vs ds
  | [], _, _, q, r => by cases q; cases r; exact .nil
  | d :: ds, _, _, q, r => by
    cases q with
    | cons q1 q2 => cases r with
      | cons r1 r2 => exact .cons (DatA.dp rh d _ _ q1 r1) (DatAs.dp rh ds _ _ q2 r2)
end
end
def nb (neg b : Bool) : Bool := match neg with
  | true => !b
  | false => b
def flatA : A → Bool
  | .non => true
  | .bl _ => true
  | .int _ => true
  | .str _ => true
  | _ => false
theorem flatA_rel {K : Frg} {H : Hp} {a : A} {v : V} (r : RelA K H a v) (f : flatA a = true) : flatV v = true := by cases r <;> first | rfl | (simp [flatA] at f)
/-! the same: of the same shape, or the same object -/
def SeqR (K : Frg) (H : Hp) (F : V → V → Prop) (x y : V) : Prop :=
  (∃ a b xs ys, x = .ref a ∧ y = .ref b ∧ SqL K H a xs ∧ SqL K H b ys ∧ Paired F xs ys) ∨
    ∃ a b xs ys, x = .ref a ∧ y = .ref b ∧ SqT K H a xs ∧ SqT K H b ys ∧ Paired F xs ys
def EqS (K : Frg) (H : Hp) : Nat → V → V → Prop
  | 0 => fun _ _ => False
  | n + 1 => fun x y => (x = y ∧ flatB x = true) ∨ (∃ a, x = .ref a ∧ y = .ref a) ∨ SeqR K H (EqS K H n) x y
section
variable {X : Cx} {pins : List (Addr × Obj)} {σ : L2.St} {H : Hp} {s : Shared}
theorem items_at {A : Around} {F : V → V → Prop} (ih : ∀ x y v u, F x y → RelV x v → RelV y u → SeqAt.EqAt A s v u true) {xs ys : List V} (hp : Paired F xs ys) :
    ∀ {us ws : List Value}, Vals xs us → Vals ys ws → ∀ j (h1 : j < us.length) (h2 : j < ws.length), SeqAt.EqAt A s us[j] ws[j] true := by
  induction hp with
  | nil =>
    intro us ws r1 r2 j h1 h2
    cases r1
    exact absurd h1 (Nat.not_lt_zero j)
  | cons h _ k =>
    intro us ws r1 r2 j h1 h2
    cases r1 with
    | cons a1 b1 =>
      cases r2 with
      | cons a2 b2 =>
        cases j with
        | zero => exact ih _ _ _ _ h a1 a2
        | succ j => exact k b1 b2 j (Nat.lt_of_succ_lt_succ h1) (Nat.lt_of_succ_lt_succ h2)
theorem all_true (n : Nat) : ((List.range n).all fun _ => true) = true := List.all_eq_true.mpr fun _ _ => rfl
theorem eqS_run (I : Inv X pins σ H s) : ∀ (n : Nat) (A : Around), A.units + n < cLine → ∀ (x y : V) (v u : Value), EqS X.K H n x y → RelV x v → RelV y u → SeqAt.EqAt A s v u true
  | 0, _, _, _, _, _, _, h, _, _ => (show False from h).elim
  | n + 1, A, hu, x, y, v, u, h, rx, ry => by
    rcases h with ⟨rfl, f⟩ | ⟨a, rfl, rfl⟩ | h
    · exact eqAt_same rx ry f
    · cases (show v = Value.ref a from rx)
      cases (show u = Value.ref a from ry)
      exact SeqAt.EqAt.same _
    · have ih : ∀ x y v u, EqS X.K H n x y → RelV x v → RelV y u → SeqAt.EqAt A.in1 s v u true := eqS_run I n A.in1 (by show A.units + 1 + n < cLine; omega)
      rcases h with ⟨a, b, xs, ys, rfl, rfl, ha, hb, hp⟩ | ⟨a, b, xs, ys, rfl, rfl, ha, hb, hp⟩
      · cases (show v = Value.ref a from rx)
        cases (show u = Value.ref b from ry)
        by_cases e : a = b
        · subst e; exact SeqAt.EqAt.same _
        obtain ⟨us, r1, p1, _⟩ := I.list ha
        obtain ⟨ws, r2, p2, _⟩ := I.list hb
        have hsz : us.toArray.size = ws.toArray.size := by
          rw [List.size_toArray, List.size_toArray, ← r1.length, ← r2.length]
          exact Paired.length hp
        have z := SeqAt.RcAt.lists (e := fun _ => true) p1.isList p2.isList hsz (by omega : A.units < cLine) fun j h1 h2 => by
          have k := items_at ih hp r1 r2 j (by simpa using h1) (by simpa using h2)
          simpa using k
        rw [all_true] at z
        exact SeqAt.EqAt.of_refs e z
      · cases (show v = Value.ref a from rx)
        cases (show u = Value.ref b from ry)
        by_cases e : a = b
        · subst e; exact SeqAt.EqAt.same _
        obtain ⟨us, r1, p1, _⟩ := I.tuple ha
        obtain ⟨ws, r2, p2, _⟩ := I.tuple hb
        have hsz : us.toArray.size = ws.toArray.size := by
          rw [List.size_toArray, List.size_toArray, ← r1.length, ← r2.length]
          exact Paired.length hp
        have z := SeqAt.RcAt.tuples (e := fun _ => true) (show s.heap.IsTuple a us.toArray from p1) (show s.heap.IsTuple b ws.toArray from p2) (by omega : A.units < cLine) fun j h1 h2 => by
          have k := items_at ih hp r1 r2 j (by simpa using h1) (by simpa using h2)
          simpa using k
        rw [all_true, hsz, beq_self_eq_true, Bool.and_self] at z
        exact SeqAt.EqAt.of_refs e z
end
def rEqS (K : Frg) (neg : Bool) : R2 := fun x y H Q => ∃ n, n ≤ 60 ∧ SeqR K H (EqS K H n) x y ∧ Q (.bl (!neg)) H
theorem op_eqS {X : Cx} (hu : X.A.units + 64 < cLine) : OpR X (compareOp .Eq) (rEqS X.K false) := by
  intro pins s σ H x y v u Q I rx ry h
  obtain ⟨n, hn, h, q⟩ := h
  have ih : ∀ x y v u, EqS X.K H n x y → RelV x v → RelV y u → SeqAt.EqAt X.A.in1 s v u true := eqS_run I n X.A.in1 (by show X.A.units + 1 + n < cLine; omega)
  rcases h with ⟨a, b, xs, ys, rfl, rfl, ha, hb, hp⟩ | ⟨a, b, xs, ys, rfl, rfl, ha, hb, hp⟩
  · cases (show v = Value.ref a from rx)
    cases (show u = Value.ref b from ry)
    obtain ⟨us, r1, p1, _⟩ := I.list ha
    obtain ⟨ws, r2, p2, _⟩ := I.list hb
    have hsz : us.toArray.size = ws.toArray.size := by
      rw [List.size_toArray, List.size_toArray, ← r1.length, ← r2.length]
      exact Paired.length hp
    have z := SeqAt.RcAt.lists (e := fun _ => true) p1.isList p2.isList hsz (by omega : X.A.units < cLine) fun j h1 h2 => by
      have k := items_at ih hp r1 r2 j (by simpa using h1) (by simpa using h2)
      simpa using k
    rw [all_true] at z
    exact z _ _ _ _ ⟨.bl true, H, I, rfl, q⟩
  · cases (show v = Value.ref a from rx)
    cases (show u = Value.ref b from ry)
    obtain ⟨us, r1, p1, _⟩ := I.tuple ha
    obtain ⟨ws, r2, p2, _⟩ := I.tuple hb
    have hsz : us.toArray.size = ws.toArray.size := by
      rw [List.size_toArray, List.size_toArray, ← r1.length, ← r2.length]
      exact Paired.length hp
    have z := SeqAt.RcAt.tuples (e := fun _ => true) (show s.heap.IsTuple a us.toArray from p1) (show s.heap.IsTuple b ws.toArray from p2) (by omega : X.A.units < cLine) fun j h1 h2 => by
      have k := items_at ih hp r1 r2 j (by simpa using h1) (by simpa using h2)
      simpa using k
    rw [all_true, hsz, beq_self_eq_true, Bool.and_self] at z
    exact z _ _ _ _ ⟨.bl true, H, I, rfl, q⟩
theorem op_neS {X : Cx} (hu : X.A.units + 64 < cLine) : OpR X (compareOp .NotEq) (rEqS X.K true) := by
  intro pins s σ H x y v u Q I rx ry h
  obtain ⟨n, hn, h, q⟩ := h
  have ih : ∀ x y v u, EqS X.K H n x y → RelV x v → RelV y u → SeqAt.EqAt X.A.in1 s v u true := eqS_run I n X.A.in1 (by show X.A.units + 1 + n < cLine; omega)
  rcases h with ⟨a, b, xs, ys, rfl, rfl, ha, hb, hp⟩ | ⟨a, b, xs, ys, rfl, rfl, ha, hb, hp⟩
  · cases (show v = Value.ref a from rx)
    cases (show u = Value.ref b from ry)
    obtain ⟨us, r1, p1, _⟩ := I.list ha
    obtain ⟨ws, r2, p2, _⟩ := I.list hb
    have hsz : us.toArray.size = ws.toArray.size := by
      rw [List.size_toArray, List.size_toArray, ← r1.length, ← r2.length]
      exact Paired.length hp
    have z := SeqAt.RcNeAt.lists (e := fun _ => true) p1.isList p2.isList hsz (by omega : X.A.units < cLine) fun j h1 h2 => by
      have k := items_at ih hp r1 r2 j (by simpa using h1) (by simpa using h2)
      simpa using k
    rw [all_true] at z
    exact z _ _ _ _ ⟨.bl false, H, I, rfl, q⟩
  · cases (show v = Value.ref a from rx)
    cases (show u = Value.ref b from ry)
    obtain ⟨us, r1, p1, _⟩ := I.tuple ha
    obtain ⟨ws, r2, p2, _⟩ := I.tuple hb
    have hsz : us.toArray.size = ws.toArray.size := by
      rw [List.size_toArray, List.size_toArray, ← r1.length, ← r2.length]
      exact Paired.length hp
    have z := SeqAt.RcNeAt.tuples (e := fun _ => true) (show s.heap.IsTuple a us.toArray from p1) (show s.heap.IsTuple b ws.toArray from p2) (by omega : X.A.units < cLine) fun j h1 h2 => by
      have k := items_at ih hp r1 r2 j (by simpa using h1) (by simpa using h2)
      simpa using k
    rw [all_true, hsz, beq_self_eq_true, Bool.and_self] at z
    exact z _ _ _ _ ⟨.bl false, H, I, rfl, q⟩
def SamR (h : AH) (F : A → A → Prop) (x y : A) : Prop :=
  (∃ a b xs ys, x = .ref a ∧ y = .ref b ∧ LstA h a xs ∧ LstA h b ys ∧ Paired F xs ys) ∨ ∃ xs ys, x = .tup xs ∧ y = .tup ys ∧ Paired F xs ys
def SamA (h : AH) : Nat → A → A → Prop
  | 0 => fun _ _ => False
  | n + 1 => fun x y => (x = y ∧ flatA x = true) ∨ (∃ a, x = .ref a ∧ y = .ref a) ∨ SamR h (SamA h n) x y
section
variable {K : Frg} {H : Hp} {h : AH}
theorem sam_all {F : A → A → Prop} {G : V → V → Prop} (ih : ∀ x y v u, F x y → RelA K H x v → RelA K H y u → G v u) {xs ys : List A} (hp : Paired F xs ys) : ∀ {vs us : List V}, RelAs K H xs vs → RelAs K H ys us → Paired G vs us := by
  induction hp with
  | nil =>
    intro vs us r1 r2
    cases r1
    cases r2
    exact .nil
  | cons h _ k =>
    intro vs us r1 r2
    cases r1 with
    | cons a1 b1 => cases r2 with
      | cons a2 b2 => exact .cons (ih _ _ _ _ h a1 a2) (k b1 b2)
theorem samR_rel (rh : RelH K H h) {F : A → A → Prop} {G : V → V → Prop} (ih : ∀ x y v u, F x y → RelA K H x v → RelA K H y u → G v u) {x y : A} {v u : V} (s : SamR h F x y) (rx : RelA K H x v) (ry : RelA K H y u) : SeqR K H G v u := by
  rcases s with ⟨a, b, xs, ys, rfl, rfl, ha, hb, hp⟩ | ⟨xs, ys, rfl, rfl, hp⟩
  · cases rx
    cases ry
    obtain ⟨vs, e1, r1⟩ := rh.rd ha
    obtain ⟨us, e2, r2⟩ := rh.rd hb
    exact .inl ⟨a, b, vs, us, rfl, rfl, e1, e2, sam_all ih hp r1 r2⟩
  · cases rx with
    | tup e1 r1 => cases ry with
      | tup e2 r2 => exact .inr ⟨_, _, _, _, rfl, rfl, e1.sq, e2.sq, sam_all ih hp r1 r2⟩
theorem samA_rel (rh : RelH K H h) : ∀ (n : Nat) (x y : A) (v u : V), SamA h n x y → RelA K H x v → RelA K H y u → EqS K H n v u
  | 0, _, _, _, _, s, _, _ => (show False from s).elim
  | n + 1, x, y, v, u, s, rx, ry => by
    rcases s with ⟨rfl, f⟩ | ⟨a, rfl, rfl⟩ | s
    · refine .inl ?_
      cases rx <;> cases ry <;> first | exact ⟨rfl, rfl⟩ | (simp [flatA] at f; done)
    · cases rx
      cases ry
      exact .inr (.inl ⟨a, rfl, rfl⟩)
    · exact .inr (.inr (samR_rel rh (samA_rel rh n) s rx ry))
end
def eqA (neg : Bool) : AR2 := fun x y h Q => match x, y with
  | .int i, .int j => Q (.bl (nb neg (decide (i = j)))) h
  | .str a, .str b => Q (.bl (nb neg (decide (a = b)))) h
  | x, y => ((∃ d e, DatA h x d ∧ DatA h y e ∧ SeqAt.shaped d = true ∧ SeqAt.shaped e = true ∧ Q (.bl (nb neg (PyData.eqv d e))) h) ∨
      ∃ p q xs ys, x = .ref p ∧ y = .ref q ∧ LstA h p xs ∧ LstA h q ys ∧ xs.length ≠ ys.length ∧ Q (.bl neg) h) ∨ ∃ n, n ≤ 60 ∧ SamR h (SamA h n) x y ∧ Q (.bl (!neg)) h
/-- lists of unlike lengths -/
def rEqL (K : Frg) (neg : Bool) : R2 := fun x y H Q => ∃ a b xs ys, x = .ref a ∧ y = .ref b ∧ SqL K H a xs ∧ SqL K H b ys ∧ xs.length ≠ ys.length ∧ Q (.bl neg) H
theorem op_eqL {X : Cx} (hu : X.A.units + 64 < cLine) : OpR X (compareOp .Eq) (rEqL X.K false) := by
  intro pins s σ H x y v u Q I rx ry ⟨a, b, xs, ys, ex, ey, ha, hb, hn, q⟩
  subst ex ey
  cases (show v = Value.ref a from rx)
  cases (show u = Value.ref b from ry)
  obtain ⟨us, r1, p1, _⟩ := I.list ha
  obtain ⟨ws, r2, p2, _⟩ := I.list hb
  have hsz : (us.toArray.size != ws.toArray.size) = true := by
    rw [List.size_toArray, List.size_toArray, ← r1.length, ← r2.length]
    exact bne_iff_ne.mpr hn
  exact SeqAt.RcAt.lists_lengths p1.isList p2.isList hsz (by omega : X.A.units < cLine) _ _ _ _ ⟨.bl false, H, I, rfl, q⟩
theorem op_neL {X : Cx} (hu : X.A.units + 64 < cLine) : OpR X (compareOp .NotEq) (rEqL X.K true) := by
  intro pins s σ H x y v u Q I rx ry ⟨a, b, xs, ys, ex, ey, ha, hb, hn, q⟩
  subst ex ey
  cases (show v = Value.ref a from rx)
  cases (show u = Value.ref b from ry)
  obtain ⟨us, r1, p1, _⟩ := I.list ha
  obtain ⟨ws, r2, p2, _⟩ := I.list hb
  have hsz : (us.toArray.size != ws.toArray.size) = true := by
    rw [List.size_toArray, List.size_toArray, ← r1.length, ← r2.length]
    exact bne_iff_ne.mpr hn
  exact SeqAt.RcNeAt.lists_lengths p1.isList p2.isList hsz (by omega : X.A.units < cLine) _ _ _ _ ⟨.bl true, H, I, rfl, q⟩
def rEqAll (K : Frg) : R2 := fun x y H Q => rEq x y H Q ∨ rEqD K x y H Q ∨ rEqS K false x y H Q ∨ rEqL K false x y H Q
def rNeAll (K : Frg) : R2 := fun x y H Q => rNe x y H Q ∨ rNeD K x y H Q ∨ rEqS K true x y H Q ∨ rEqL K true x y H Q
theorem opr_eq {X : Cx} (hu : X.A.units + 64 < cLine) : OpR X (compareOp .Eq) (rEqAll X.K) := op_eq.or ((op_eqD hu).or ((op_eqS hu).or (op_eqL hu)))
theorem opr_ne {X : Cx} (hu : X.A.units + 64 < cLine) : OpR X (compareOp .NotEq) (rNeAll X.K) := op_ne.or ((op_neD hu).or ((op_neS hu).or (op_neL hu)))
theorem eqA_inv {K : Frg} {H : Hp} {h : AH} {a b : A} {x y : V} {Q : AVK} {neg : Bool} (rh : RelH K H h) (ra : RelA K H a x) (rb : RelA K H b y) (q : eqA neg a b h Q) :
    (scal x y = true ∧ Q (.bl (nb neg (decide (x = y)))) h) ∨ (∃ d e, Dp K H x d ∧ Dp K H y e ∧ SeqAt.shaped d = true ∧ SeqAt.shaped e = true ∧ Q (.bl (nb neg (PyData.eqv d e))) h) ∨
      (∃ n, n ≤ 60 ∧ SeqR K H (EqS K H n) x y ∧ Q (.bl (!neg)) h) ∨ ∃ p q xs ys, x = .ref p ∧ y = .ref q ∧ SqL K H p xs ∧ SqL K H q ys ∧ xs.length ≠ ys.length ∧ Q (.bl neg) h := by
  have gen : (((∃ d e, DatA h a d ∧ DatA h b e ∧ SeqAt.shaped d = true ∧ SeqAt.shaped e = true ∧ Q (.bl (nb neg (PyData.eqv d e))) h) ∨
      ∃ p q xs ys, a = .ref p ∧ b = .ref q ∧ LstA h p xs ∧ LstA h q ys ∧ xs.length ≠ ys.length ∧ Q (.bl neg) h) ∨ ∃ n, n ≤ 60 ∧ SamR h (SamA h n) a b ∧ Q (.bl (!neg)) h) →
      (∃ d e, Dp K H x d ∧ Dp K H y e ∧ SeqAt.shaped d = true ∧ SeqAt.shaped e = true ∧ Q (.bl (nb neg (PyData.eqv d e))) h) ∨ (∃ n, n ≤ 60 ∧ SeqR K H (EqS K H n) x y ∧ Q (.bl (!neg)) h) ∨
        ∃ p q xs ys, x = .ref p ∧ y = .ref q ∧ SqL K H p xs ∧ SqL K H q ys ∧ xs.length ≠ ys.length ∧ Q (.bl neg) h := fun z => by
    rcases z with (⟨d, e, hd, he, sd, se, q⟩ | ⟨p, p2, xs, ys, rfl, rfl, e1, e2, hn, q⟩) | ⟨n, hn, s, q⟩
    · exact .inl ⟨d, e, DatA.dp rh d a x hd ra, DatA.dp rh e b y he rb, sd, se, q⟩
    · cases ra
      cases rb
      obtain ⟨vs, f1, r1⟩ := rh.rd e1
      obtain ⟨us, f2, r2⟩ := rh.rd e2
      exact .inr (.inr ⟨p, p2, vs, us, rfl, rfl, f1, f2, by rw [← r1.len, ← r2.len]; exact hn, q⟩)
    · exact .inr (.inl ⟨n, hn, samR_rel rh (samA_rel rh n) s ra rb, q⟩)
  cases ra with
  | int i => cases rb with
    | int j =>
      refine .inl ⟨rfl, ?_⟩
      have e : decide (V.int i = V.int j) = decide (i = j) := by by_cases z : i = j <;> simp [z]
      rw [e]
      exact q
    | _ => exact .inr (gen q)
  | str i => cases rb with
    | str j =>
      refine .inl ⟨rfl, ?_⟩
      have e : decide (V.str i = V.str j) = decide (i = j) := by by_cases z : i = j <;> simp [z]
      rw [e]
      exact q
    | _ => exact .inr (gen q)
  | _ => exact .inr (gen q)
theorem o_eq {K : Frg} : Op2 K (rEqAll K) (eqA false) := fun H h x y a b Q Qv ra rb rh k q => by
  rcases eqA_inv rh ra rb q with ⟨s, q⟩ | ⟨d, e, hd, he, sd, se, q⟩ | ⟨n, hn, s, q⟩ | ⟨p, p2, xs, ys, e1, e2, f1, f2, hn, q⟩
  · exact .inl ⟨s, k _ _ ⟨_, h, Mono.refl H, .bl _, rh, q⟩⟩
  · exact .inr (.inl ⟨d, e, hd, he, sd, se, k _ _ ⟨_, h, Mono.refl H, .bl _, rh, q⟩⟩)
  · exact .inr (.inr (.inl ⟨n, hn, s, k _ _ ⟨_, h, Mono.refl H, .bl _, rh, q⟩⟩))
  · exact .inr (.inr (.inr ⟨p, p2, xs, ys, e1, e2, f1, f2, hn, k _ _ ⟨_, h, Mono.refl H, .bl _, rh, q⟩⟩))
theorem o_ne {K : Frg} : Op2 K (rNeAll K) (eqA true) := fun H h x y a b Q Qv ra rb rh k q => by
  rcases eqA_inv rh ra rb q with ⟨s, q⟩ | ⟨d, e, hd, he, sd, se, q⟩ | ⟨n, hn, s, q⟩ | ⟨p, p2, xs, ys, e1, e2, f1, f2, hn, q⟩
  · exact .inl ⟨s, k _ _ ⟨_, h, Mono.refl H, .bl _, rh, q⟩⟩
  · exact .inr (.inl ⟨d, e, hd, he, sd, se, k _ _ ⟨_, h, Mono.refl H, .bl _, rh, q⟩⟩)
  · exact .inr (.inr (.inl ⟨n, hn, s, k _ _ ⟨_, h, Mono.refl H, .bl _, rh, q⟩⟩))
  · exact .inr (.inr (.inr ⟨p, p2, xs, ys, e1, e2, f1, f2, hn, k _ _ ⟨_, h, Mono.refl H, .bl _, rh, q⟩⟩))
/-- x is None -/
def isNonA (neg : Bool) : AR2 := fun x y h Q => match y with
  | .non => Q (.bl (match x with
    | .non => !neg
    | _ => neg)) h
  | _ => False
theorem o_isN {K : Frg} : Op2 K (fun x y H Q => y = .non ∧ Q (.bl (decide (x = .non))) H) (isNonA false) := fun H h x y a b Q Qv ra rb rh k q => by
  cases rb with
  | non =>
    refine ⟨rfl, k _ _ ⟨_, h, Mono.refl H, .bl _, rh, ?_⟩⟩
    cases ra <;> exact q
  | _ => exact (show False from q).elim
theorem o_notN {K : Frg} : Op2 K (fun x y H Q => y = .non ∧ Q (.bl (!decide (x = .non))) H) (isNonA true) := fun H h x y a b Q Qv ra rb rh k q => by
  cases rb with
  | non =>
    refine ⟨rfl, k _ _ ⟨_, h, Mono.refl H, .bl _, rh, ?_⟩⟩
    cases ra <;> exact q
  | _ => exact (show False from q).elim
/-! ### in: lists and tuples of flat things -/
def eqFA : A → A → Bool
  | .non, .non => true
  | .bl a, .bl b => a == b
  | .bl a, .int b => (if a then 1 else 0) == b
  | .int a, .bl b => a == (if b then 1 else 0)
  | .int a, .int b => a == b
  | .str a, .str b => a == b
  | _, _ => false
def inA (x : A) (xs : List A) : Bool := xs.any fun y => eqFA y x
theorem eqFA_rel {K : Frg} {H : Hp} {a b : A} {v w : V} (r : RelA K H a v) (r' : RelA K H b w) (f : flatA a = true) (f' : flatA b = true) : eqV v w = eqFA a b := by
  cases r <;> cases r' <;> first | rfl | (simp [flatA] at f; done) | (simp [flatA] at f'; done)
theorem flatAs_rel {K : Frg} {H : Hp} : ∀ {as : List A} {vs : List V}, RelAs K H as vs → as.all flatA = true → vs.all flatV = true
  | _, _, .nil, _ => rfl
  | _, _, .cons r t, f => by
    rw [List.all_cons, Bool.and_eq_true] at f ⊢
    exact ⟨flatA_rel r f.1, flatAs_rel t f.2⟩
theorem inA_rel {K : Frg} {H : Hp} {b : A} {w : V} (r' : RelA K H b w) (f' : flatA b = true) : ∀ {as : List A} {vs : List V}, RelAs K H as vs → as.all flatA = true → inV w vs = inA b as
  | _, _, .nil, _ => rfl
  | _, _, .cons r t, f => by
    rw [List.all_cons, Bool.and_eq_true] at f
    unfold inV inA
    rw [List.any_cons, List.any_cons, eqFA_rel r r' f.1 f']
    have := inA_rel r' f' t f.2
    unfold inV inA at this
    rw [this]
def inSA (neg : Bool) : AR2 := fun x y h Q => match y with
  | .ref p => ∃ xs, LstA h p xs ∧ (flatA x = true ∧ xs.all flatA = true) ∧ Q (.bl (nb neg (inA x xs))) h
  | .fls xs => (flatA x = true ∧ xs.all flatA = true) ∧ Q (.bl (nb neg (inA x xs))) h
  | y => asT y fun xs => (flatA x = true ∧ xs.all flatA = true) ∧ Q (.bl (nb neg (inA x xs))) h
theorem o_in {K : Frg} (neg : Bool) : Op2 K (rIn K neg) (inSA neg) := fun H h x y a b Q Qv ra rb rh k q => by
  have fin : ∀ {p : Addr} {xs : List A} {vs : List V}, y = .ref p → (SqL K H p vs ∨ SqT K H p vs) → RelAs K H xs vs → (flatA a = true ∧ xs.all flatA = true) → Q (.bl (nb neg (inA a xs))) h → rIn K neg x y H Qv :=
    fun {p xs vs} ey e r f q => ⟨p, vs, ey, e, flatA_rel ra f.1, flatAs_rel r f.2, k _ _ ⟨_, h, Mono.refl H, .bl _, rh, by rw [inA_rel ra f.1 r f.2]; cases neg <;> exact q⟩⟩
  cases rb with
  | ref p =>
    obtain ⟨xs, e, f, q⟩ := (show ∃ xs, LstA h p xs ∧ (flatA a = true ∧ xs.all flatA = true) ∧ Q (.bl (nb neg (inA a xs))) h from q)
    obtain ⟨vs, e', r⟩ := rh.rd e
    exact fin rfl (.inl e') r f q
  | @tup p xs vs e r => exact fin rfl (.inr e.sq) r q.1 q.2
  | @fls p xs vs e r => exact fin rfl (.inl e.sq) r q.1 q.2
  | @kt p ks e => exact fin rfl (.inr (SqT.of e)) (rel_keysV ks) q.1 q.2
  | _ => exact (show False from q).elim
end G
namespace G
open PySem PySem.Spec L2

/-! ### statements -/
structure AEnds where
  nx : ASt → AH → Prop
  rt : AVK
  bk : ASt → AH → Prop := fun _ _ => False
  ct : ASt → AH → Prop := fun _ _ => False
  ex : AX := fun _ _ _ => False
abbrev ATS := AEnds → ASt → AH → Prop
def lowD (K : Frg) (H : Hp) (D : AEnds) : Ends := { nx := LN K H D.nx, rt := LQ K H D.rt, bk := LN K H D.bk, ct := LN K H D.ct }
structure AS (X : Cx) (st : Stmt) (t : ATS) : Prop where
  run : ∀ (pins : List (Addr × Obj)) (s : Shared) (σ : L2.St) (H : Hp) (α : ASt) (h : AH) (D : AEnds), Inv X pins σ H s → RelS X.K H α σ → RelH X.K H h → TakesS X H D.ex → t D α h →
    wpAny (model X.prog X.w) X.A (exec st X.env) (SP X pins (lowD X.K H D)) X.xe s
structure ASs (X : Cx) (st : List Stmt) (t : ATS) : Prop where
  run : ∀ (pins : List (Addr × Obj)) (s : Shared) (σ : L2.St) (H : Hp) (α : ASt) (h : AH) (D : AEnds), Inv X pins σ H s → RelS X.K H α σ → RelH X.K H h → TakesS X H D.ex → t D α h →
    wpAny (model X.prog X.w) X.A (execs st X.env) (SP X pins (lowD X.K H D)) X.xe s
/-- ends that are reached from H by the abstract ends -/
structure Reach (K : Frg) (H : Hp) (DA : AEnds) (D : Ends) : Prop where
  nx : ∀ σ' H', LN K H DA.nx σ' H' → D.nx σ' H'
  rt : ∀ v H', LQ K H DA.rt v H' → D.rt v H'
  bk : ∀ σ' H', LN K H DA.bk σ' H' → D.bk σ' H'
  ct : ∀ σ' H', LN K H DA.ct σ' H' → D.ct σ' H'
theorem Reach.self {K : Frg} {H : Hp} {DA : AEnds} : Reach K H DA (lowD K H DA) := ⟨fun _ _ z => z, fun _ _ z => z, fun _ _ z => z, fun _ _ z => z⟩
theorem Reach.up {K : Frg} {H H' : Hp} {DA : AEnds} {D : Ends} (r : Reach K H DA D) (m : Mono H H') : Reach K H' DA D := ⟨fun _ _ z => r.nx _ _ (z.up m), fun _ _ z => r.rt _ _ (z.up m), fun _ _ z => r.bk _ _ (z.up m), fun _ _ z => r.ct _ _ (z.up m)⟩
theorem SP.imp {X : Cx} {pins : List (Addr × Obj)} {D D' : Ends} {f : Flow} {s : Shared} (h : SP X pins D f s) (n : ∀ σ H, D.nx σ H → D'.nx σ H) (r : ∀ v H, D.rt v H → D'.rt v H) (b : ∀ σ H, D.bk σ H → D'.bk σ H) (c : ∀ σ H, D.ct σ H → D'.ct σ H) : SP X pins D' f s := by
  cases f with
  | next => obtain ⟨σ', H', I', q⟩ := h; exact ⟨σ', H', I', n _ _ q⟩
  | brk => obtain ⟨σ', H', I', q⟩ := h; exact ⟨σ', H', I', b _ _ q⟩
  | cont => obtain ⟨σ', H', I', q⟩ := h; exact ⟨σ', H', I', c _ _ q⟩
  | ret u => obtain ⟨v, σ', H', I', rv, q⟩ := h; exact ⟨v, σ', H', I', rv, r _ _ q⟩
def lowS (X : Cx) (t : ATS) : TS := fun D σ H => ∃ α h DA, RelS X.K H α σ ∧ RelH X.K H h ∧ TakesS X H DA.ex ∧ t DA α h ∧ Reach X.K H DA D
section
variable {X : Cx} {st : Stmt} {rest sts : List Stmt} {t u : ATS} {e a b : Expr} {pos : Pos} {te ta tb : ATE}
theorem AS.ps (a : AS X st t) : PS X st (lowS X t) := ⟨fun pins s σ H D I ⟨α, h, DA, rs, rh, tk, ht, k⟩ => thn (a.run pins s σ H α h DA I rs rh tk ht) fun f s' q => SP.imp q k.nx k.rt k.bk k.ct⟩
theorem ASs.pss (a : ASs X sts t) : PSs X sts (lowS X t) := ⟨fun pins s σ H D I ⟨α, h, DA, rs, rh, tk, ht, k⟩ => thn (a.run pins s σ H α h DA I rs rh tk ht) fun f s' q => SP.imp q k.nx k.rt k.bk k.ct⟩
theorem AS.of {t' : TS} (p : PS X st t') (k : ∀ D σ H, lowS X t D σ H → t' D σ H) : AS X st t := ⟨fun pins s σ H α h D I rs rh tk ht => p.run pins s σ H _ I (k _ _ _ ⟨α, h, D, rs, rh, tk, ht, .self⟩)⟩
theorem ASs.of {t' : TS} (p : PSs X sts t') (k : ∀ D σ H, lowS X t D σ H → t' D σ H) : ASs X sts t := ⟨fun pins s σ H α h D I rs rh tk ht => p.run pins s σ H _ I (k _ _ _ ⟨α, h, D, rs, rh, tk, ht, .self⟩)⟩
def aNext : ATS := fun D α h => D.nx α h
def aSeq (t u : ATS) : ATS := fun D α h => t { D with nx := u D } α h
theorem ass_nil : ASs X [] aNext := .of pss_nil fun D σ H ⟨α, h, DA, rs, rh, tk, ht, k⟩ => k.nx _ _ ⟨α, h, Mono.refl H, rs, rh, ht⟩
theorem ass_cons (h1 : AS X st t) (h2 : ASs X rest u) : ASs X (st :: rest) (aSeq t u) := .of (pss_cons h1.ps h2.pss) fun D σ H ⟨α, h, DA, rs, rh, tk, ht, k⟩ =>
  ⟨α, h, { DA with nx := u DA }, rs, rh, tk, ht, ⟨fun σ' H' ⟨α', h', m, rs', rh', q⟩ => ⟨α', h', DA, rs', rh', tk.up m, q, k.up m⟩, k.rt, k.bk, k.ct⟩⟩
theorem ass_one (h1 : AS X st t) : ASs X [st] t := .of (pss_one h1.ps) fun _ _ _ x => x
def aBreak : ATS := fun D α h => D.bk α h
def aCont : ATS := fun D α h => D.ct α h
theorem as_pass : AS X (.Pass pos) aNext := .of ps_pass fun D σ H ⟨α, h, DA, rs, rh, tk, ht, k⟩ => k.nx _ _ ⟨α, h, Mono.refl H, rs, rh, ht⟩
theorem as_break : AS X (.Break pos) aBreak := .of ps_break fun D σ H ⟨α, h, DA, rs, rh, tk, ht, k⟩ => k.bk _ _ ⟨α, h, Mono.refl H, rs, rh, ht⟩
theorem as_continue : AS X (.Continue pos) aCont := .of ps_continue fun D σ H ⟨α, h, DA, rs, rh, tk, ht, k⟩ => k.ct _ _ ⟨α, h, Mono.refl H, rs, rh, ht⟩
def aDrop (te : ATE) : ATS := fun D α h => te α h (fun _ h1 => D.nx α h1) fun c h1 => D.ex c α h1
theorem as_expr (he : AE X e te) (hs : swapsWith e none pos.line X.env = pure false := by rfl) : AS X (.Expr e pos) (aDrop te) := .of (ps_expr he.pe hs) fun D σ H ⟨α, h, DA, rs, rh, tk, ht, k⟩ =>
  low.then (H0 := H) rs rh (tk.e α) ht fun v H1 x h1 m1 r1 rh1 rs1 q1 => k.nx _ _ ⟨α, h1, m1, rs1, rh1, q1⟩
def aRet (te : ATE) : ATS := fun D α h => te α h D.rt fun c h1 => D.ex c α h1
theorem as_ret (he : AE X e te) : AS X (.Return (some e) pos) (aRet te) := .of (ps_ret he.pe) fun D σ H ⟨α, h, DA, rs, rh, tk, ht, k⟩ => ⟨α, h, _, _, rs, rh, tk.e α, ht, k.rt⟩
def aRetN : ATS := fun D _ h => D.rt .non h
theorem as_retN : AS X (.Return none pos) aRetN := .of ps_retN fun D σ H ⟨α, h, DA, rs, rh, tk, ht, k⟩ => k.rt _ _ ⟨.non, h, Mono.refl H, .non, rh, ht⟩
def aIfS (c : ATT) (t u : ATS) : ATS := fun D α h => c α h (fun b h1 => if b = true then t D α h1 else u D α h1) fun c h1 => D.ex c α h1
theorem as_if {c : Expr} {x y : List Stmt} {tc : ATT} (hc : AT X c tc) (ha : ASs X x t) (hb : ASs X y u) : AS X (.If c x y pos) (aIfS tc t u) := .of (ps_if hc.pt ha.pss hb.pss) fun D σ H ⟨α, h, DA, rs, rh, tk, ht, k⟩ =>
  lowT.then rs rh (tk.e α) ht fun b H1 h1 m1 rh1 rs1 q1 => by
    cases b with
    | true => exact ⟨α, h1, DA, rs1, rh1, tk.up m1, by rw [if_pos rfl] at q1; exact q1, k.up m1⟩
    | false => exact ⟨α, h1, DA, rs1, rh1, tk.up m1, by rw [if_neg Bool.false_ne_true] at q1; exact q1, k.up m1⟩
end

/-! ### targets -/
abbrev ATG := A → ASt → AH → (ASt → AH → Prop) → Prop
abbrev ATGs := List A → ASt → AH → (ASt → AH → Prop) → Prop
/-- the slots but those at is are kept -/
def Kept (is : List Nat) (σ σ' : L2.St) : Prop := σ'.length = σ.length ∧ ∀ j, j ∉ is → σ'[j]? = σ[j]?
def lowG (X : Cx) (is : List Nat) (t : ATG) : TG := fun v σ H Qv => ∃ a α h Q, RelA X.K H a v ∧ RelS X.K H α σ ∧ RelH X.K H h ∧ t a α h Q ∧ ∀ σ' H', LN X.K H Q σ' H' → Kept is σ σ' → Qv σ' H'
def lowGs (X : Cx) (is : List Nat) (t : ATGs) : TGs := fun vs σ H Qv => ∃ as α h Q, RelAs X.K H as vs ∧ RelS X.K H α σ ∧ RelH X.K H h ∧ t as α h Q ∧ ∀ σ' H', LN X.K H Q σ' H' → Kept is σ σ' → Qv σ' H'
structure AG (X : Cx) (target : Expr) (is : List Nat) (t : ATG) : Prop where
  pg : PG X target (lowG X is t)
structure AGs (X : Cx) (ts : List Expr) (is : List Nat) (t : ATGs) : Prop where
  pgs : PGs X ts (lowGs X is t)
theorem pgImp {X : Cx} {e : Expr} {t t' : TG} (h : PG X e t) (k : ∀ v σ H Q, t' v σ H Q → t v σ H Q) : PG X e t' := ⟨fun pins s σ H v u Q I r q => h.run pins s σ H v u Q I r (k _ _ _ _ q)⟩
theorem pgsImp {X : Cx} {e : List Expr} {t t' : TGs} (h : PGs X e t) (k : ∀ v σ H Q, t' v σ H Q → t v σ H Q) : PGs X e t' := ⟨fun pins s σ H v u Q I r q => h.run pins s σ H v u Q I r (k _ _ _ _ q)⟩
section
variable {X : Cx} {pos : Pos}
def agN (i : Nat) : ATG := fun a α h Q => Q (α.set i (some a)) h
theorem kept_set {i : Nat} {σ : L2.St} {v : V} : Kept [i] σ (σ.set i (some v)) := ⟨List.length_set, fun j hj => List.getElem?_set_ne (fun e => hj (by simp [e]))⟩
theorem ag_name (i : Nat) {x : Str} (hN : X.N.Nodup) (hi : X.N[i]? = some x) (hx : Loc X.env.scope x) (hf : X.fn x = true ∨ X.env.scope.names.lookup x = some .local := by first | exact .inl rfl | exact .inr rfl | assumption) : AG X (.Name x pos) [i] (agN i) :=
  ⟨pgImp (pg_name hN hi hx hf) fun v σ H Q ⟨a, α, h, q, r, rs, rh, ht, k⟩ => k _ _ ⟨_, h, Mono.refl H, rs.set i r, rh, ht⟩ kept_set⟩
def agNil : ATGs := fun vs α h Q => vs = [] ∧ Q α h
def agCons (t : ATG) (u : ATGs) : ATGs := fun vs α h Q => match vs with
  | v :: r => t v α h fun α' h' => u r α' h' Q
  | [] => False
theorem ags_nil : AGs X [] [] agNil := ⟨pgsImp pgs_nil fun v σ H Q ⟨as, α, h, q, r, rs, rh, ⟨e, ht⟩, k⟩ => by
  subst e
  cases r
  exact ⟨rfl, k _ _ ⟨α, h, Mono.refl H, rs, rh, ht⟩ ⟨rfl, fun _ _ => rfl⟩⟩⟩
theorem ags_cons {e : Expr} {es : List Expr} {is js : List Nat} {t : ATG} {u : ATGs} (h1 : AG X e is t) (h2 : AGs X es js u)
    (hs : (assignEach (e :: es) X.env).map (·.2) = assign e X.env :: (assignEach es X.env).map (·.2) := by rfl) : AGs X (e :: es) (is ++ js) (agCons t u) := ⟨pgsImp (pgs_cons h1.pg h2.pgs hs) fun v σ H Q ⟨as, α, h, q, r, rs, rh, ht, k⟩ => by
  cases r with
  | nil => exact ht.elim
  | @cons a as v vs r1 r2 =>
    refine ⟨v, vs, rfl, a, α, h, _, r1, rs, rh, ht, fun σ1 H1 ⟨α1, g1, m1, rs1, rh1, q1⟩ k1 => ?_⟩
    refine ⟨as, α1, g1, q, r2.up m1, rs1, rh1, q1, fun σ2 H2 z k2 => k _ _ (z.up m1) ⟨k2.1.trans k1.1, fun j hj => ?_⟩⟩
    rw [k2.2 j (fun z => hj (List.mem_append_right _ z)), k1.2 j (fun z => hj (List.mem_append_left _ z))]⟩
def agTup (n : Nat) (t : ATGs) : ATG := fun v α h Q => match v with
  | .ref p => ∃ xs, LstA h p xs ∧ xs.length = n ∧ t xs α h Q
  | .fls xs => xs.length = n ∧ t xs α h Q
  | v => asT v fun xs => xs.length = n ∧ t xs α h Q
theorem ag_tup {es : List Expr} {k : Nat} {is : List Nat} {t : ATGs} {n : Nat} (hc : X.calm = true) (h : AGs X es is t)
    (hn : (assignEach es X.env).length = n := by rfl) (hst : (assignEach es X.env).findIdx? (·.1) = none := by rfl) : AG X (.Tuple es k pos) is (agTup n t) := by
  have both : PG X (.Tuple es k pos) (fun v σ H Q => gTup X.K n (lowGs X is t) v σ H Q ∨ gLst X.K n (lowGs X is t) v σ H Q) := ⟨fun pins s σ H v u Q I r hw => by
    rcases hw with hw | hw
    · exact (pg_tup hc h.pgs hn hst).run pins s σ H v u Q I r hw
    · exact (pg_lst hc h.pgs hn hst).run pins s σ H v u Q I r hw⟩
  refine ⟨pgImp both fun v σ H Q ⟨a, α, h, q, r, rs, rh, ht, k⟩ => ?_⟩
  have tupCase : (asT a fun xs => xs.length = n ∧ t xs α h q) → gTup X.K n (lowGs X is t) v σ H Q ∨ gLst X.K n (lowGs X is t) v σ H Q := fun ht => by
    obtain ⟨p, xs, vs, rfl, hq, rv, l, q1⟩ := tup_of r ht
    exact .inl ⟨p, vs, rfl, hq, by rw [← rv.len]; exact l, xs, α, h, q, rv, rs, rh, q1, k⟩
  cases r with
  | ref p =>
    obtain ⟨xs, e, l, q1⟩ := (show ∃ xs, LstA h p xs ∧ xs.length = n ∧ t xs α h q from ht)
    obtain ⟨vs, e', rv⟩ := rh.rd e
    exact .inr ⟨p, vs, rfl, e', by rw [← rv.len]; exact l, xs, α, h, q, rv, rs, rh, q1, k⟩
  | @fls p xs vs eF rv =>
    obtain ⟨l, q1⟩ := (show xs.length = n ∧ t xs α h q from ht)
    exact .inr ⟨p, vs, rfl, eF.sq, by rw [← rv.len]; exact l, xs, α, h, q, rv, rs, rh, q1, k⟩
  | _ => exact tupCase ht
/-- target = value -/
def aAsg (te : ATE) (g : ATG) : ATS := fun D α h => te α h (fun x h1 => g x α h1 D.nx) fun c h1 => D.ex c α h1
theorem as_asg {tg e : Expr} {te : ATE} {is : List Nat} {g : ATG} (he : AE X e te) (hg : AG X tg is g) (hs : swapsWithSole [tg] e pos.line X.env = pure false := by rfl) (hw : swappedStores [tg] e X.env = pure none := by rfl)
    (h1 : (assignEach [tg] X.env).map (·.2) = [assign tg X.env] := by rfl) : AS X (.Assign [tg] e pos) (aAsg te g) := .of (ps_asg he.pe hg.pg hs hw h1) fun D σ H ⟨α, h, DA, rs, rh, tk, ht, k⟩ =>
  low.then (H0 := H) rs rh (tk.e α) ht fun v H1 x h1 m1 r1 rh1 rs1 q1 => ⟨x, α, h1, _, r1, rs1, rh1, q1, fun σ' H' z _ => k.nx _ _ (z.up m1)⟩
theorem as_set (i : Nat) {x : Str} {e : Expr} {te : ATE} {pos' : Pos} (hN : X.N.Nodup) (hi : X.N[i]? = some x) (hx : Loc X.env.scope x) (he : AE X e te) (hs : swapsWith e (some (.Name x pos')) pos.line X.env = pure false := by rfl) (hf : X.fn x = true ∨ X.env.scope.names.lookup x = some .local := by first | exact .inl rfl | exact .inr rfl | assumption) :
    AS X (.Assign [.Name x pos'] e pos) (aAsg te (agN i)) := .of (ps_set (i := i) hN hi hx he.pe hs hf) fun D σ H ⟨α, h, DA, rs, rh, tk, ht, k⟩ =>
  low.then (H0 := H) rs rh (tk.e α) ht fun v H1 x h1 m1 r1 rh1 rs1 q1 => k.nx _ _ ⟨_, h1, m1, rs1.set i r1, rh1, q1⟩
/-- a, b = x, y: two local names -/
def aPar (i j : Nat) (ta : ATA) : ATS := fun D α h => ta α h (fun vs h1 => match vs with
  | [v, w] => D.nx ((α.set i (some v)).set j (some w)) h1
  | _ => False) fun c h1 => D.ex c α h1
theorem as_par (i j : Nat) {x y : Str} {a b : Expr} {ta : ATA} {px py pt : Pos} {kt k2 pt2} (hc : X.calm = true) (hN : X.N.Nodup) (hi : X.N[i]? = some x) (hj : X.N[j]? = some y) (hij : i ≠ j)
    (hx : X.env.scope.names.lookup x = some .local) (hy : X.env.scope.names.lookup y = some .local) (ha : AAs X [a, b] ta)
    (hw : swappedStores [.Tuple [.Name x px, .Name y py] kt pt] (.Tuple [a, b] k2 pt2) X.env = pure (some [x, y]))
    (hs : swapsWithSole [.Tuple [.Name x px, .Name y py] kt pt] (.Tuple [a, b] k2 pt2) pos.line X.env = pure false := by rfl) :
    AS X (.Assign [.Tuple [.Name x px, .Name y py] kt pt] (.Tuple [a, b] k2 pt2) pos) (aPar i j ta) := .of (ps_par hc hN hi hj hij hx hy ha.pa hw hs) fun D σ H ⟨α, h, DA, rs, rh, tk, ht, k⟩ =>
  lowA.then rs rh (tk.e α) ht fun vs H1 xs h1 m1 r1 rh1 rs1 q1 => by
    cases r1 with
    | nil => exact q1.elim
    | cons r1 t1 => cases t1 with
      | nil => exact q1.elim
      | cons r2 t2 => cases t2 with
        | cons _ _ => exact q1.elim
        | nil => exact ⟨_, _, rfl, k.nx _ _ ⟨_, h1, m1, (rs1.set i r1).set j r2, rh1, q1⟩⟩
/-- x op= e -/
def aAug (i : Nat) (te : ATE) (r : AR2) : ATS := fun D α h => match α[i]? with
  | some (some x) => te α h (fun y h1 => r x y h1 fun z h2 => D.nx (α.set i (some z)) h2) fun c h1 => D.ex c α h1
  | _ => False
theorem as_aug (i : Nat) {x : Str} {e : Expr} {te : ATE} {op : Operator} {ti : TIp} {rA : AR2} {pos' : Pos} (hN : X.N.Nodup) (hi : X.N[i]? = some x) (hx : Loc X.env.scope x) (he : AE X e te) (ho : PIp X op ti) (hr : Op2 X.K ti rA)
    (hf : X.fn x = true ∨ X.env.scope.names.lookup x = some .local := by first | exact .inl rfl | exact .inr rfl | assumption) : AS X (.AugAssign (.Name x pos') op e pos) (aAug i te rA) :=
  .of (ps_aug hN hi hx he.pe ho hf) fun D σ H ⟨α, h, DA, rs, rh, tk, ht, k⟩ => by
    unfold aAug at ht
    cases e1 : α[i]? with
    | none => rw [e1] at ht; exact ht.elim
    | some o => cases o with
      | none => rw [e1] at ht; exact ht.elim
      | some a =>
        rw [e1] at ht
        obtain ⟨v, e2, r⟩ := rs.get i a e1
        refine ⟨v, e2, low.then (H0 := H) rs rh (tk.e α) ht fun w H1 y h1 m1 r1 rh1 rs1 q1 => ?_⟩
        exact hr H1 h1 v w a y _ _ (r.up m1) r1 rh1 (fun z H' ⟨z', h2, m2, r2, rh2, q2⟩ => k.nx _ _ ⟨_, h2, m1.trans m2, (rs1.up m2).set i r2, rh2, q2⟩) q1
theorem pip_add : PIp X .Add (ipI fun i j => i + j) := ip_add
theorem o_ipadd {K : Frg} : Op2 K (ipI fun i j => i + j) (iA0 fun i j => .int (i + j)) := fun H h x y a b Q Qv ra rb rh k q => by
  obtain ⟨i, j, rfl, rfl, q⟩ := iA0_inv ra rb q
  exact ⟨i, j, rfl, rfl, k _ _ ⟨_, h, Mono.refl H, .int _, rh, q⟩⟩
theorem o_ipsub {K : Frg} : Op2 K (ipI fun i j => i - j) (iA0 fun i j => .int (i - j)) := fun H h x y a b Q Qv ra rb rh k q => by
  obtain ⟨i, j, rfl, rfl, q⟩ := iA0_inv ra rb q
  exact ⟨i, j, rfl, rfl, k _ _ ⟨_, h, Mono.refl H, .int _, rh, q⟩⟩
/-- xs[i] = e, xs a list -/
def aSetL (to ti tv : ATE) : ATS := fun D α h => tv α h (fun v h1 => to α h1 (fun o h2 => ti α h2 (fun i h3 => match o, i with
  | .ref p, .int k => ∃ xs j, h3 p = some (.lst xs) ∧ ixN xs.length k = some j ∧ D.nx α (updA h3 p (.lst (xs.set j v)))
  | _, _ => False) fun c h3 => D.ex c α h3) fun c h3 => D.ex c α h3) fun c h3 => D.ex c α h3
theorem as_setL {o i e : Expr} {to ti te : ATE} {pos' : Pos} (he : AE X e te) (ho : AE X o to) (hi : AE X i ti) (hs : swapsWithSole [.Subscript o i pos'] e pos.line X.env = pure false := by rfl) (hw : swappedStores [.Subscript o i pos'] e X.env = pure none := by rfl)
    (h1 : (assignEach [.Subscript o i pos'] X.env).map (·.2) = [assign (.Subscript o i pos') X.env] := by rfl)
    (ha : ∀ v, assign (.Subscript o i pos') X.env v = (do
      let ov ← holding [v] (eval o X.env)
      let iv ← holding [v, ov] (eval i X.env)
      standAt pos'
      holding [v, ov, iv] (setItem ov iv v)
      release [v, ov, iv] []) := by intro _; rfl) : AS X (.Assign [.Subscript o i pos'] e pos) (aSetL to ti te) :=
  .of (ps_asg he.pe (pg_sub ho.pe hi.pe set_list ha) hs hw h1) fun D σ H ⟨α, h, DA, rs, rh, tk, ht, k⟩ =>
    low.then (H0 := H) rs rh (tk.e α) ht fun v H1 x h1 m1 r1 rh1 rs1 q1 => low.then (H0 := H) rs1 rh1 ((tk.up m1).e α) q1 fun ov H2 y h2 m2 r2 rh2 rs2 q2 => low.then (H0 := H) rs2 rh2 ((tk.up (m1.trans m2)).e α) q2 fun iv H3 z h3 m3 r3 rh3 rs3 q3 => by
      have r2' := r2.up m3
      cases r2' with
      | ref p => cases r3 with
        | int n =>
          obtain ⟨xs, j, e1, e2, q⟩ := (show ∃ xs j, h3 p = some (.lst xs) ∧ ixN xs.length n = some j ∧ DA.nx α (updA h3 p (.lst (xs.set j x))) from q3)
          obtain ⟨vs, f1, rv⟩ := rh3.lst e1
          refine ⟨p, vs, n, j, rfl, rfl, f1, by rw [← rv.len]; exact e2, k.nx _ _ ⟨α, _, ((m1.trans m2).trans m3).trans (Mono.wr f1 ns_lst), rs3.up (Mono.wr f1 ns_lst), rh3.wr f1 ns_lst (.lst (rv.set ((r1.up m2).up m3) j)), q⟩⟩
        | _ => exact (show False from q3).elim
      | _ => cases r3 <;> exact (show False from q3).elim
end

/-! ### fields of own instances -/
def ClsF (K : Frg) (C : Addr) (f : Str) : Prop := Cls K C ∧ NoAttr K C f
theorem RelH.ins {K : Frg} {H : Hp} {h : AH} {p C : Addr} {fs : List (Str × A)} (r : RelH K H h) (e : h p = some (.ins C fs)) : ∃ dx vs, H p = some (.ins C dx vs) ∧ RelK K H fs vs := by
  obtain ⟨u, e', q⟩ := r p _ e
  cases q with
  | ins q => exact ⟨_, _, e', q⟩
theorem RelK.look {K : Frg} {H : Hp} {f : Str} {a : A} : ∀ {fs : List (Str × A)} {vs : List (Str × V)}, RelK K H fs vs → fs.lookup f = some a → ∃ v, vs.lookup f = some v ∧ RelA K H a v
  | _, _, .nil, e => by simp at e
  | (g, x) :: fs, (g', y) :: vs, .cons r t, e => by
    obtain ⟨e1, r⟩ := r
    have e1 : g = g' := e1
    subst e1
    by_cases q : f = g
    · have hb : (f == g) = true := beq_iff_eq.mpr q
      simp only [List.lookup, hb] at e ⊢
      cases e
      exact ⟨y, rfl, r⟩
    · have hb : (f == g) = false := beq_eq_false_iff_ne.mpr q
      simp only [List.lookup, hb] at e ⊢
      exact RelK.look t e
theorem RelK.lookN {K : Frg} {H : Hp} {f : Str} : ∀ {fs : List (Str × A)} {vs : List (Str × V)}, RelK K H fs vs → fs.lookup f = none → vs.lookup f = none
  | _, _, .nil, e => rfl
  | (g, x) :: fs, (g', y) :: vs, .cons r t, e => by
    obtain ⟨e1, r⟩ := r
    have e1 : g = g' := e1
    subst e1
    by_cases q : f = g
    · have hb : (f == g) = true := beq_iff_eq.mpr q
      simp only [List.lookup, hb] at e
      cases e
    · have hb : (f == g) = false := beq_eq_false_iff_ne.mpr q
      simp only [List.lookup, hb] at e ⊢
      exact RelK.lookN t e
def putFA (f : Str) (v : A) : List (Str × A) → List (Str × A)
  | [] => [(f, v)]
  | (g, x) :: r => if g = f then (g, v) :: r else (g, x) :: putFA f v r
theorem RelK.putF {K : Frg} {H : Hp} {f : Str} {a : A} {v : V} (ra : RelA K H a v) : ∀ {fs : List (Str × A)} {vs : List (Str × V)}, RelK K H fs vs → RelK K H (putFA f a fs) (L2.putF f v vs)
  | _, _, .nil => .cons ⟨rfl, ra⟩ .nil
  | (g, x) :: fs, (g', y) :: vs, .cons r t => by
    obtain ⟨e1, r⟩ := r
    have e1 : g = g' := e1
    subst e1
    unfold putFA L2.putF
    by_cases q : g = f
    · rw [if_pos q, if_pos q]; exact .cons ⟨rfl, ra⟩ t
    · rw [if_neg q, if_neg q]; exact .cons ⟨rfl, r⟩ (RelK.putF ra t)
section
variable {X : Cx} {o e value : Expr} {f : Str} {pos pos' : Pos} {ta tv : ATE}
def aFld (K : Frg) (ta : ATE) (f : Str) : ATE := fun α h Q E => ta α h (fun x h1 => match x with
  | .ref p => ∃ C fs v, h1 p = some (.ins C fs) ∧ ClsF K C f ∧ fs.lookup f = some v ∧ Q v h1
  | _ => False) E
theorem ae_fld (he : AE X e ta) (hb : attributeBase e f X.env (eval e X.env) = eval e X.env) : AE X (.Attribute e f pos) (aFld X.K ta f) := .of (pe_fld he.pe hb) fun σ H Qv ⟨α, h, q, E, rs, rh, tk, ht, k⟩ =>
  low.then (H0 := H) rs rh tk ht fun v H1 x h1 m1 r1 rh1 rs1 q1 => by
    cases r1 with
    | ref p =>
      obtain ⟨C, fs, v, e1, c, l, q⟩ := (show ∃ C fs v, h1 p = some (.ins C fs) ∧ ClsF X.K C f ∧ fs.lookup f = some v ∧ q v h1 from q1)
      obtain ⟨dx, vs, f1, rk⟩ := rh1.ins e1
      obtain ⟨w, l', rw'⟩ := rk.look l
      exact ⟨p, C, dx, vs, w, rfl, f1, c.1, c.2, l', k _ _ ⟨v, h1, m1, rw', rh1, q⟩⟩
    | _ => exact (show False from q1).elim
def aSetF (K : Frg) (ta tv : ATE) (f : Str) : ATS := fun D α h => tv α h (fun y h1 => ta α h1 (fun x h2 => match x with
  | .ref p => ∃ C fs, h2 p = some (.ins C fs) ∧ ClsF K C f ∧ fs.length < 1000 ∧ D.nx α (updA h2 p (.ins C (putFA f y fs)))
  | _ => False) fun c h3 => D.ex c α h3) fun c h3 => D.ex c α h3
theorem Paired.len {α β : Type} {F : α → β → Prop} {l₁ : List α} {l₂ : List β} (h : Paired F l₁ l₂) : l₁.length = l₂.length := h.length
theorem as_fld (ha : AE X o ta) (hv : AE X value tv) (hs : swapsWith value (some (.Attribute o f pos')) pos.line X.env = pure false) : AS X (.Assign [.Attribute o f pos'] value pos) (aSetF X.K ta tv f) := .of (ps_fld ha.pe hv.pe hs) fun D σ H ⟨α, h, DA, rs, rh, tk, ht, k⟩ =>
  low.then (H0 := H) rs rh (tk.e α) ht fun v H1 y h1 m1 r1 rh1 rs1 q1 => low.then (H0 := H) rs1 rh1 ((tk.up m1).e α) q1 fun ov H2 x h2 m2 r2 rh2 rs2 q2 => by
    cases r2 with
    | ref p =>
      obtain ⟨C, fs, e1, c, l, q⟩ := (show ∃ C fs, h2 p = some (.ins C fs) ∧ ClsF X.K C f ∧ fs.length < 1000 ∧ DA.nx α (updA h2 p (.ins C (putFA f y fs))) from q2)
      obtain ⟨dx, vs, f1, rk⟩ := rh2.ins e1
      refine ⟨p, C, dx, vs, rfl, f1, c.1, c.2, by rw [← Paired.len rk]; exact l, k.nx _ _ ⟨α, _, (m1.trans m2).trans (Mono.wr f1 ns_ins), rs2.up (Mono.wr f1 ns_ins), rh2.wr f1 ns_ins (.ins (RelK.putF (r1.up m2) rk)), q⟩⟩
    | _ => exact (show False from q2).elim
end
end G
namespace G
open PySem PySem.Spec L2

/-! ### what is walked -/
structure ASrc where
  n : Nat
  item : Nat → A → Prop
  stay : AH → Prop := fun _ => True
structure SrcOk (K : Frg) (Hb : Hp) (S : ASrc) (J : It) : Prop where
  go : ∀ (i : Nat) (H : Hp) (h : AH), Mono Hb H → RelH K H h → S.stay h → i < S.n → J.go i H
  yld : ∀ (i : Nat) (H H' : Hp) (h : AH) (x : V), Mono Hb H → RelH K H h → S.stay h → i < S.n → J.yld i H x H' → ∃ a, S.item i a ∧ Mono H H' ∧ RelA K H' a x ∧ RelH K H' h
  stop : ∀ (i : Nat) (H : Hp) (h : AH), Mono Hb H → RelH K H h → S.stay h → S.n ≤ i → J.stop i H
abbrev ATI := ASt → AH → (ASrc → AH → Prop) → AXK → Prop
def lowI (X : Cx) (w : ATI) : TI := fun σ H R => ∃ α h RA E, RelS X.K H α σ ∧ RelH X.K H h ∧ TakesE X H α E ∧ w α h RA E ∧ ∀ J S H' h', Mono H H' → RelH X.K H' h' → SrcOk X.K H' S J → RA S h' → R J H'
structure AI (X : Cx) (tg iter : Expr) (w : ATI) : Prop where
  pi : PI X tg iter (lowI X w)
theorem piImp {X : Cx} {tg e : Expr} {t t' : TI} (h : PI X tg e t) (k : ∀ σ H Q, t' σ H Q → t σ H Q) : PI X tg e t' := ⟨fun pins s σ H R I q => h.run pins s σ H R I (k _ _ _ q)⟩
/-- a list or a tuple -/
def seqOf (x : A) (h : AH) (R : ASrc → Prop) : Prop := match x with
  | .ref p => ∃ xs, LstA h p xs ∧ R ⟨xs.length, fun i a => xs[i]? = some a, fun h' => LstA h' p xs⟩
  | .fls xs => R ⟨xs.length, fun i a => xs[i]? = some a, fun _ => True⟩
  | x => asT x fun xs => R ⟨xs.length, fun i a => xs[i]? = some a, fun _ => True⟩
theorem src_list {K : Frg} {H : Hp} {p : Addr} {xs : List A} : SrcOk K H ⟨xs.length, fun i a => xs[i]? = some a, fun h' => LstA h' p xs⟩ (Itl K p) where
  go := fun i H h _ rh st hi => by
    obtain ⟨vs, e, r⟩ := rh.rd st
    obtain ⟨v, e', _⟩ := r.get (i := i) (a := xs[i]'hi) (List.getElem?_eq_getElem hi)
    exact ⟨vs, v, e, e'⟩
  yld := fun i H H' h x _ rh st hi y => by
    obtain ⟨rfl, y⟩ := y
    obtain ⟨vs, e, r⟩ := rh.rd st
    obtain ⟨a, e', ra⟩ := r.getV (y vs e)
    exact ⟨a, e', Mono.refl _, ra, rh⟩
  stop := fun i H h _ rh st hi => by
    obtain ⟨vs, e, r⟩ := rh.rd st
    exact ⟨vs, e, by rw [← r.len]; exact hi⟩
theorem src_fls {K : Frg} {Hb : Hp} {p : Addr} {xs : List A} {vs : List V} (ht : FlAt K Hb p vs) (r : RelAs K Hb xs vs) : SrcOk K Hb ⟨xs.length, fun i a => xs[i]? = some a, fun _ => True⟩ (Itl K p) where
  go := fun i H h m rh st hi => by
    obtain ⟨v, e', _⟩ := r.get (i := i) (a := xs[i]'hi) (List.getElem?_eq_getElem hi)
    exact ⟨vs, v, (ht.mono m).sq, e'⟩
  yld := fun i H H' h x m rh st hi y => by
    obtain ⟨rfl, y⟩ := y
    obtain ⟨a, e', ra⟩ := r.getV (y vs (ht.mono m).sq)
    exact ⟨a, e', Mono.refl _, ra.up m, rh⟩
  stop := fun i H h m rh st hi => ⟨vs, (ht.mono m).sq, by rw [← r.len]; exact hi⟩
theorem src_tup {K : Frg} {Hb : Hp} {p : Addr} {xs : List A} {vs : List V} (ht : TupAt K Hb p vs) (r : RelAs K Hb xs vs) : SrcOk K Hb ⟨xs.length, fun i a => xs[i]? = some a, fun _ => True⟩ (Itt K p) where
  go := fun i H h m rh st hi => by
    obtain ⟨v, e', _⟩ := r.get (i := i) (a := xs[i]'hi) (List.getElem?_eq_getElem hi)
    exact ⟨vs, v, (ht.mono m).sq, e'⟩
  yld := fun i H H' h x m rh st hi y => by
    obtain ⟨rfl, y⟩ := y
    obtain ⟨a, e', ra⟩ := r.getV (y vs (ht.mono m).sq)
    exact ⟨a, e', Mono.refl _, ra.up m, rh⟩
  stop := fun i H h m rh st hi => ⟨vs, (ht.mono m).sq, by rw [← r.len]; exact hi⟩
theorem src_range {K : Frg} {H : Hp} {lo : Int} {n : Nat} : SrcOk K H ⟨n, fun i a => a = .int (lo + i), fun _ => True⟩ (Itr lo n) where
  go := fun i H h _ rh st hi => hi
  yld := fun i H H' h x _ rh st hi y => by
    obtain ⟨rfl, rfl⟩ := y
    exact ⟨_, rfl, Mono.refl _, .int _, rh⟩
  stop := fun i H h _ rh st hi => hi
theorem src_enum {K : Frg} {H : Hp} {p : Addr} {xs : List A} : SrcOk K H ⟨xs.length, fun i a => ∃ x, a = .tup [.int (i : Nat), x] ∧ xs[i]? = some x, fun h' => LstA h' p xs⟩ (Ite K p) where
  go := fun i H h _ rh st hi => by
    obtain ⟨vs, e, r⟩ := rh.rd st
    obtain ⟨v, e', _⟩ := r.get (i := i) (a := xs[i]'hi) (List.getElem?_eq_getElem hi)
    exact ⟨vs, v, e, e'⟩
  yld := fun i H H' h x _ rh st hi y => by
    obtain ⟨T, x', rfl, hT, rfl, y⟩ := y
    obtain ⟨vs, e, r⟩ := rh.rd st
    obtain ⟨a, e', ra⟩ := r.getV (y vs e)
    exact ⟨_, ⟨a, rfl, e'⟩, Mono.new hT, .tup (.of upd_same) (.cons (.int _) (.one (ra.up (Mono.new hT)))), rh.skip hT⟩
  stop := fun i H h _ rh st hi => by
    obtain ⟨vs, e, r⟩ := rh.rd st
    exact ⟨vs, e, by rw [← r.len]; exact hi⟩
theorem tupAt_of {K : Frg} {H : Hp} {x : A} {v : V} {Q : List A → Prop} (r : RelA K H x v) (q : asT x Q) : ∃ p xs vs, v = .ref p ∧ TupAt K H p vs ∧ RelAs K H xs vs ∧ Q xs := by
  cases r with
  | @tup p xs vs h r => exact ⟨p, xs, vs, rfl, h, r, q⟩
  | @kt p ks h => exact ⟨p, ks.map keyV, ks.map kV, rfl, .of h, rel_keysV ks, q⟩
  | _ => exact (show False from q).elim
section
variable {X : Cx} {tg : Expr}
def aiSeq (te : ATE) : ATI := fun α h R E => te α h (fun x h1 => seqOf x h1 fun S => R S h1) E
theorem ai_seq {l : Expr} {te : ATE} (he : AE X l te) : AI X tg l (aiSeq te) := by
  refine ⟨⟨fun pins s σ H R I hw => ?_⟩⟩
  obtain ⟨α, h, RA, E, rs, rh, tk, ht, k⟩ := hw
  refine thn (he.run pins s σ H α h _ E I rs rh tk ht) fun v s1 ⟨x, H1, I1, r1, a, h1, m1, ra, rh1, q⟩ => ?_
  have tupCase : ∀ (q : asT a fun xs => RA ⟨xs.length, fun i a => xs[i]? = some a, fun _ => True⟩ h1), wpAny (model X.prog X.w) X.A (pyIter v) (PIE X pins σ tg R) X.xe s1 := fun q => by
    obtain ⟨p, xs, vs, rfl, hT, rv, q⟩ := tupAt_of ra q
    cases r1
    obtain ⟨its, rvv, pt, hz⟩ := I1.tuple hT.sq
    refine wpAny_pyIter_tuple (show s1.heap.IsTuple p its.toArray from pt) ?_
    refine ⟨s1.heap.objs.size, [s1.heap.objs.size], _, _, H1, rfl, I1.kept (t' := s1.toks) fun b o e => Heap.get?_push_of_some _ e, turn_tuple p _, ⟨_, Heap.get?_push_size _ rfl, rfl, rfl⟩, fun b hb => ?_, k _ _ H1 h1 m1 rh1 (src_tup hT rv) q⟩
    have e : b = s1.heap.objs.size := by simpa using hb
    subst e
    exact I1.fpOk (Nat.le_refl _) (I1.hok.fresh (Nat.le_refl _))
  cases ra with
  | ref p =>
    obtain ⟨xs, e, q⟩ := (show ∃ xs, LstA h1 p xs ∧ RA ⟨xs.length, fun i a => xs[i]? = some a, fun h' => LstA h' p xs⟩ h1 from q)
    obtain ⟨vs, hq, rv⟩ := rh1.rd e
    cases r1
    obtain ⟨its, rvv, pl, hz⟩ := I1.list hq
    refine wpAny_pyIter_list pl.isList ?_
    refine ⟨s1.heap.objs.size, [s1.heap.objs.size], _, _, H1, rfl, I1.kept (t' := s1.toks) fun b o e => Heap.get?_push_of_some _ e, turn_list p _, ⟨_, Heap.get?_push_size _ rfl, rfl, rfl⟩, fun b hb => ?_, k _ _ H1 h1 m1 rh1 src_list q⟩
    have e : b = s1.heap.objs.size := by simpa using hb
    subst e
    exact I1.fpOk (Nat.le_refl _) (I1.hok.fresh (Nat.le_refl _))
  | @fls p xs vs eF rv =>
    have q : RA ⟨xs.length, fun i a => xs[i]? = some a, fun _ => True⟩ h1 := q
    cases r1
    obtain ⟨its, rvv, pl, hz⟩ := I1.list eF.sq
    refine wpAny_pyIter_list pl.isList ?_
    refine ⟨s1.heap.objs.size, [s1.heap.objs.size], _, _, H1, rfl, I1.kept (t' := s1.toks) fun b o e => Heap.get?_push_of_some _ e, turn_list p _, ⟨_, Heap.get?_push_size _ rfl, rfl, rfl⟩, fun b hb => ?_, k _ _ H1 h1 m1 rh1 (src_fls eF rv) q⟩
    have e : b = s1.heap.objs.size := by simpa using hb
    subst e
    exact I1.fpOk (Nat.le_refl _) (I1.hok.fresh (Nat.le_refl _))
  | _ => exact tupCase q
/-- range(n), range(a, b) -/
def aiRng1 (t : ATA) : ATI := fun α h R E => t α h (fun xs h1 => match xs with
  | [.int n] => (-(2 ^ 62) ≤ n ∧ n < 2 ^ 62) ∧ R ⟨n.toNat, fun i a => a = .int (0 + i), fun _ => True⟩ h1
  | _ => False) E
theorem ai_range1 {a : Expr} {ta : ATA} {p pos : Pos} (hg : Gl X "range") (hm : X.mg "range" = none) (ha : AAs X [a] ta) (hs : starEach [a] X.env = [(false, eval a X.env)] := by rfl) : AI X tg (.Call (.Name "range" p) [a] [] pos) (aiRng1 ta) :=
  ⟨piImp (pi_range1 hg hm ha.pa hs) fun σ H R ⟨α, h, RA, E, rs, rh, tk, ht, k⟩ => lowA.then rs rh tk ht fun v H1 xs h1 m1 r1 rh1 rs1 q1 => by
    cases r1 with
    | nil => exact q1.elim
    | cons r t => cases t with
      | cons _ _ => cases r <;> exact (show False from q1).elim
      | nil => cases r with
        | int n => exact ⟨n, rfl, q1.1.1, q1.1.2, k _ _ H1 h1 m1 rh1 src_range q1.2⟩
        | _ => exact (show False from q1).elim⟩
def aiRng2 (t : ATA) : ATI := fun α h R E => t α h (fun xs h1 => match xs with
  | [.int i, .int j] => (-(2 ^ 62) ≤ i ∧ i < 2 ^ 62 ∧ -(2 ^ 62) ≤ j ∧ j < 2 ^ 62) ∧ R ⟨(j - i).toNat, fun k a => a = .int (i + k), fun _ => True⟩ h1
  | _ => False) E
theorem ai_range2 {a b : Expr} {ta : ATA} {p pos : Pos} (hg : Gl X "range") (hm : X.mg "range" = none) (ha : AAs X [a, b] ta) (hs : starEach [a, b] X.env = [(false, eval a X.env), (false, eval b X.env)] := by rfl) (hs2 : starEach [b] X.env = [(false, eval b X.env)] := by rfl) :
    AI X tg (.Call (.Name "range" p) [a, b] [] pos) (aiRng2 ta) :=
  ⟨piImp (pi_range2 hg hm ha.pa hs hs2) fun σ H R ⟨α, h, RA, E, rs, rh, tk, ht, k⟩ => lowA.then rs rh tk ht fun v H1 xs h1 m1 r1 rh1 rs1 q1 => by
    cases r1 with
    | nil => exact q1.elim
    | cons r t => cases t with
      | nil => cases r <;> exact (show False from q1).elim
      | cons r' t => cases t with
        | cons _ _ => cases r <;> cases r' <;> exact (show False from q1).elim
        | nil => cases r with
          | int n => cases r' with
            | int m => exact ⟨n, m, rfl, q1.1, k _ _ H1 h1 m1 rh1 src_range q1.2⟩
            | _ => exact (show False from q1).elim
          | _ => cases r' <;> exact (show False from q1).elim⟩
/-- enumerate(xs) of a list -/
def aiEnum (t : ATA) : ATI := fun α h R E => t α h (fun xs h1 => match xs with
  | [.ref p] => ∃ xs, LstA h1 p xs ∧ R ⟨xs.length, fun i a => ∃ x, a = .tup [.int (i : Nat), x] ∧ xs[i]? = some x, fun h' => LstA h' p xs⟩ h1
  | _ => False) E
theorem ai_enum {e : Expr} {ta : ATA} {p pos tpos : Pos} {elts : List Expr} {kk : Nat} (hg : Gl X "enumerate") (hm : X.mg "enumerate" = none) (ha : AAs X [e] ta) (hs : starEach [e] X.env = [(false, eval e X.env)] := by rfl) :
    AI X (.Tuple elts kk tpos) (.Call (.Name "enumerate" p) [e] [] pos) (aiEnum ta) :=
  ⟨piImp (pi_enum hg hm ha.pa hs) fun σ H R ⟨α, h, RA, E, rs, rh, tk, ht, k⟩ => lowA.then rs rh tk ht fun v H1 xs h1 m1 r1 rh1 rs1 q1 => by
    cases r1 with
    | nil => exact q1.elim
    | cons r t => cases t with
      | cons _ _ => cases r <;> exact (show False from q1).elim
      | nil => cases r with
        | ref p =>
          obtain ⟨ys, e, q⟩ := (show ∃ ys, LstA h1 p ys ∧ RA ⟨ys.length, fun i a => ∃ x, a = .tup [.int (i : Nat), x] ∧ ys[i]? = some x, fun h' => LstA h' p ys⟩ h1 from q1)
          obtain ⟨vs, hq, rv⟩ := rh1.rd e
          exact ⟨p, vs, rfl, hq, k _ _ H1 h1 m1 rh1 src_enum q⟩
        | _ => exact (show False from q1).elim⟩
end

/-! ### for -/
def loopS (S : ASrc) (g : ATG) (tb : ATS) (D : AEnds) (α : ASt) (h : AH) : Prop := ∃ Pv : Nat → ASt → AH → Prop, Pv 0 α h ∧ (∀ i α h, i ≤ S.n → Pv i α h → S.stay h) ∧
  (∀ i x α h, i < S.n → S.item i x → Pv i α h → g x α h fun α2 h2 => tb { D with nx := Pv (i + 1), ct := Pv (i + 1), bk := D.nx } α2 h2) ∧ ∀ α h, Pv S.n α h → D.nx α h
def aFor (w : ATI) (g : ATG) (tb : ATS) : ATS := fun D α h => w α h (fun S h1 => loopS S g tb D α h1) fun c h1 => D.ex c α h1
theorem as_for {X : Cx} {tg iter : Expr} {body : List Stmt} {w : ATI} {is : List Nat} {g : ATG} {tb : ATS} {pos : Pos} (hp : PassesOwn (model X.prog X.w) X.A X.env X.xe) (hc : X.calm = true) (hi : AI X tg iter w) (hg : AG X tg is g) (hb : ASs X body tb)
    (hs : ∀ x, foldedSetIterable iter X.env x = pure x := by intro _; rfl) : AS X (.For tg iter body [] pos) (aFor w g tb) :=
  .of (ps_for hp hc hi.pi hg.pg hb.pss hs) fun D σ H ⟨α, h, DA, rs, rh, tk, ht, k⟩ => by
    refine ⟨α, h, _, _, rs, rh, tk.e α, ht, fun J S H1 h1 m1 rh1 ok q => ?_⟩
    obtain ⟨Pv, p0, stay, step, done⟩ := q
    refine ⟨fun i m σ' H' => m = S.n - i ∧ i ≤ S.n ∧ LN X.K H1 (Pv i) σ' H', ⟨S.n, by simp, Nat.zero_le _, α, h1, Mono.refl H1, rs.up m1, rh1, p0⟩, ?_⟩
    rintro i m σ' H' ⟨rfl, hi, α', h', m', rs', rh', pv⟩
    by_cases hlt : i < S.n
    · refine .inr ⟨ok.go i H' h' m' rh' (stay i α' h' hi pv) hlt, LN X.K H1 (Pv (i + 1)), fun σ2 H2 z => ⟨S.n - (i + 1), by omega, rfl, hlt, z⟩, fun x H2 y => ?_⟩
      obtain ⟨a, it, m2, ra, rh2⟩ := ok.yld i H' H2 h' x m' rh' (stay i α' h' hi pv) hlt y
      refine ⟨a, α', h', _, ra, rs'.up m2, rh2, step i a α' h' hlt it pv, fun σ3 H3 ⟨α3, h3, m3, rs3, rh3, q3⟩ _ => ?_⟩
      have mm : Mono H H3 := ((m1.trans m').trans m2).trans m3
      refine ⟨α3, h3, { DA with nx := Pv (i + 1), ct := Pv (i + 1), bk := DA.nx }, rs3, rh3, tk.up mm, q3, ?_⟩
      exact ⟨fun _ _ z => z.up ((m'.trans m2).trans m3), fun _ _ z => k.rt _ _ (z.up mm), fun _ _ z => k.nx _ _ (z.up mm), fun _ _ z => z.up ((m'.trans m2).trans m3)⟩
    · have e : i = S.n := by omega
      subst e
      exact .inl ⟨ok.stop S.n H' h' m' rh' (stay S.n α' h' hi pv) (Nat.le_refl _), k.nx _ _ ⟨α', h', m1.trans m', rs', rh', done α' h' pv⟩⟩

/-! ### while -/
def aWhile (c : ATT) (tb : ATS) : ATS := fun D α h => ∃ W : Nat → ASt → AH → Prop, (∃ m, W m α h) ∧ ∀ m α h, W m α h →
  c α h (fun b h1 => if b = true then tb { D with nx := fun α' h' => ∃ m', m' < m ∧ W m' α' h', ct := fun α' h' => ∃ m', m' < m ∧ W m' α' h', bk := D.nx } α h1 else D.nx α h1) fun c h1 => D.ex c α h1
theorem as_while {X : Cx} {c : Expr} {body : List Stmt} {tc : ATT} {tb : ATS} {pos : Pos} (hp : PassesOwn (model X.prog X.w) X.A X.env X.xe) (hc : AT X c tc) (hb : ASs X body tb) : AS X (.While c body [] pos) (aWhile tc tb) :=
  .of (ps_while hp hc.pt hb.pss) fun D σ H ⟨α, h, DA, rs, rh, tk, ⟨W, ⟨m0, w0⟩, step⟩, k⟩ => by
    refine ⟨fun m σ' H' => LN X.K H (W m) σ' H', ⟨m0, α, h, Mono.refl H, rs, rh, w0⟩, ?_⟩
    rintro m σ' H' ⟨α', h', m', rs', rh', w'⟩
    refine lowT.then rs' rh' ((tk.up m').e α') (step m α' h' w') fun b H1 h1 m1 rh1 rs1 q1 => ?_
    cases b with
    | true =>
      rw [if_pos rfl] at q1 ⊢
      refine ⟨LN X.K H (fun α' h' => ∃ m', m' < m ∧ W m' α' h'), fun σ2 H2 ⟨α2, h2, m2, rs2, rh2, n, hn, w2⟩ => ⟨n, hn, α2, h2, m2, rs2, rh2, w2⟩, α', h1, _, rs1, rh1, ?_, q1, ?_⟩
      · exact tk.up (m'.trans m1)
      · have mm : Mono H H1 := m'.trans m1
        exact ⟨fun _ _ z => z.up mm, fun _ _ z => k.rt _ _ (z.up mm), fun _ _ z => k.nx _ _ (z.up mm), fun _ _ z => z.up mm⟩
    | false =>
      rw [if_neg Bool.false_ne_true] at q1 ⊢
      exact k.nx _ _ ⟨α', h1, m'.trans m1, rs1, rh1, q1⟩

/-! ### comprehensions -/
def wipeA (α : ASt) : List Nat → ASt
  | [] => α
  | v :: vs => (wipeA α vs).set v none
theorem rel_wipe {K : Frg} {H : Hp} {α : ASt} {σ : L2.St} (r : RelS K H α σ) : ∀ vs : List Nat, RelS K H (wipeA α vs) (wipe σ vs)
  | [] => r
  | v :: vs => (rel_wipe r vs).gone v
theorem wipe_at (σ : L2.St) (j : Nat) : ∀ vs : List Nat, (wipe σ vs)[j]? = if j ∈ vs then (if j < σ.length then some none else none) else σ[j]?
  | [] => by simp [wipe]
  | v :: vs => by
    unfold wipe
    by_cases hv : v = j
    · subst hv
      rw [if_pos List.mem_cons_self]
      by_cases hl : v < σ.length
      · rw [if_pos hl, List.getElem?_set_self (by rw [wipe_length]; exact hl)]
      · rw [if_neg hl, List.getElem?_eq_none (by rw [List.length_set, wipe_length]; omega)]
    · rw [List.getElem?_set_ne hv, wipe_at σ j vs]
      by_cases hm : j ∈ vs
      · rw [if_pos hm, if_pos (List.mem_cons_of_mem _ hm)]
      · rw [if_neg hm, if_neg (fun z => (List.mem_cons.mp z).elim (fun e => hv e.symm) hm)]
theorem wipe_kept {σ σ2 : L2.St} {is vs : List Nat} (hk : Kept is (wipe σ vs) σ2) (hs : ∀ i ∈ is, i ∈ vs) : wipe σ2 vs = wipe σ vs := by
  have hl : σ2.length = σ.length := hk.1.trans (wipe_length σ vs)
  refine List.ext_getElem? fun j => ?_
  rw [wipe_at, wipe_at, hl]
  by_cases hm : j ∈ vs
  · rw [if_pos hm, if_pos hm]
  · rw [if_neg hm, if_neg hm, hk.2 j (fun z => hm (hs j z)), wipe_at, if_neg hm]
structure ATs (X : Cx) (ifs : List Expr) (t : ATT) : Prop where
  pts : PTs X ifs (lowT X t)
def aYes : ATT := fun _ h Q _ => Q true h
theorem ptsImp {X : Cx} {ifs : List Expr} {t t' : TT} (p : PTs X ifs t) (k : ∀ σ H Q, t' σ H Q → t σ H Q) : PTs X ifs t' := ⟨fun pins s σ H Q I h => p.run pins s σ H Q I (k _ _ _ h)⟩
theorem ats_nil {X : Cx} : ATs X [] aYes := ⟨ptsImp pts_nil fun σ H Q ⟨α, h, q, E, rs, rh, tk, ht, k⟩ => k _ _ ⟨h, Mono.refl H, rh, ht⟩⟩
theorem ats_one {X : Cx} {c : Expr} {t : ATT} (h : AT X c t) : ATs X [c] t := ⟨pts_one h.pt⟩
def lcS (S : ASrc) (g : ATG) (tt : ATT) (te : ATE) (vs : List Nat) (α : ASt) (h1 : AH) (D : Addr) (Q : AH → Prop) : Prop := ∃ Pv : Nat → AH → Prop, Pv 0 (updA h1 D (.lst [])) ∧ (∀ i h, i ≤ S.n → Pv i h → S.stay h) ∧
  (∀ i x h, i < S.n → S.item i x → Pv i h → g x (wipeA α vs) h fun α2 h2 => tt α2 h2 (fun b h3 => if b = true then te α2 h3 (fun y h4 => ∃ acc, h4 D = some (.lst acc) ∧ acc.length < sizeLine ∧ Pv (i + 1) (updA h4 D (.lst (acc ++ [y])))) AE0 else Pv (i + 1) h3) AE0) ∧
  ∀ h, Pv S.n h → Q h
def aLc (w : ATI) (g : ATG) (tt : ATT) (te : ATE) (vs : List Nat) : ATE := fun α h Q E => w α h (fun S h1 => ∀ D, h1 D = none → lcS S g tt te vs α h1 D fun h2 => Q (.ref D) h2) E
/-! in a block no exception leaves -/
def lowB (K : Frg) (t : ATE) : TE := fun σ H Qv => ∃ α h Q, RelS K H α σ ∧ RelH K H h ∧ t α h Q AE0 ∧ ∀ v H', LQ K H Q v H' → Qv v H'
def lowTB (K : Frg) (t : ATT) : TT := fun σ H Qv => ∃ α h Q, RelS K H α σ ∧ RelH K H h ∧ t α h Q AE0 ∧ ∀ v H', LB K H Q v H' → Qv v H'
theorem peImp {X : Cx} {e : Expr} {t t' : TE} (h : PE X e t) (k : ∀ σ H Q, t' σ H Q → t σ H Q) : PE X e t' := ⟨fun pins s σ H Q I q => h.run pins s σ H Q I (k _ _ _ q)⟩
theorem psImp {X : Cx} {e : Stmt} {t t' : TS} (h : PS X e t) (k : ∀ D σ H, t' D σ H → t D σ H) : PS X e t' := ⟨fun pins s σ H D I q => h.run pins s σ H D I (k _ _ _ q)⟩
theorem AE.blk {X : Cx} {e : Expr} {t : ATE} (a : AE X e t) : PE X e (lowB X.K t) := peImp a.pe fun σ H Q ⟨α, h, q, rs, rh, ht, k⟩ => ⟨α, h, q, AE0, rs, rh, TakesE.none, ht, k⟩
theorem ATs.blk {X : Cx} {ifs : List Expr} {t : ATT} (a : ATs X ifs t) : PTs X ifs (lowTB X.K t) := ptsImp a.pts fun σ H Q ⟨α, h, q, rs, rh, ht, k⟩ => ⟨α, h, q, AE0, rs, rh, TakesE.none, ht, k⟩
section
variable {X : Cx} {elt tg iter : Expr} {ifs : List Expr} {scope : Scope} {own : List (Str × Nat)} {pos : Pos} {w : ATI} {is : List Nat} {g : ATG} {tt : ATT} {te : ATE}
theorem low_lc (hs : ∀ i ∈ is, i ∈ own.map (·.2)) {σ : L2.St} {H : Hp} {Q : VK} (z : low X (aLc w g tt te (own.map (·.2))) σ H Q) : tLc (lowI X w) (lowG X is g) (lowTB X.K tt) (lowB X.K te) (own.map (·.2)) σ H Q := by
  obtain ⟨α, h, q, E, rs, rh, tk, ht, k⟩ := z
  refine ⟨α, h, _, E, rs, rh, tk, ht, fun J S H1 h1 m1 rh1 ok q => ?_⟩
  intro D hD
  obtain ⟨Pv, p0, stay, step, done⟩ := q D (rh1.free hD)
  refine ⟨fun i m H' => m = S.n - i ∧ i ≤ S.n ∧ ∃ h', Mono H1 H' ∧ RelH X.K H' h' ∧ Pv i h', ⟨S.n, by simp, Nat.zero_le _, _, Mono.new hD, rh1.new hD (.lst .nil), p0⟩, ?_⟩
  rintro i m H' ⟨rfl, hi, h', m', rh', pv⟩
  by_cases hlt : i < S.n
  · refine .inr ⟨ok.go i H' h' m' rh' (stay i h' hi pv) hlt, fun H2 => ∃ h2, Mono H1 H2 ∧ RelH X.K H2 h2 ∧ Pv (i + 1) h2, fun H2 z => ⟨S.n - (i + 1), by omega, rfl, hlt, z⟩, fun x H2 y => ?_⟩
    obtain ⟨a, it, m2, ra, rh2⟩ := ok.yld i H' H2 h' x m' rh' (stay i h' hi pv) hlt y
    refine ⟨a, wipeA α (own.map (·.2)), h', _, ra, rel_wipe (((rs.up m1).up m').up m2) _, rh2, step i a h' hlt it pv, fun σ3 H3 ⟨α3, h3, m3, rs3, rh3, q3⟩ kp => ⟨wipe_kept kp hs, ?_⟩⟩
    refine ⟨α3, h3, _, rs3, rh3, q3, fun b H4 ⟨h4, m4, rh4, q4⟩ => ?_⟩
    have mm : Mono H1 H4 := ((m'.trans m2).trans m3).trans m4
    cases b with
    | false =>
      rw [if_neg Bool.false_ne_true] at q4
      refine iteF ?_
      exact ⟨h4, mm, rh4, q4⟩
    | true =>
      rw [if_pos rfl] at q4
      refine iteT ?_
      refine ⟨α3, h4, _, rs3.up m4, rh4, q4, fun v H5 ⟨y, h5, m5, r5, rh5, q5⟩ => ?_⟩
      obtain ⟨acc, e, z, pv5⟩ := q5
      obtain ⟨vs, f, rv⟩ := rh5.lst e
      have mw : Mono H5 (upd H5 D (.lst (vs ++ [v]))) := Mono.wr f ns_lst
      exact ⟨vs, f, by rw [← rv.len]; exact z, _, (mm.trans m5).trans mw, rh5.wr f ns_lst (.lst (rv.app (.one r5))), pv5⟩
  · have e : i = S.n := by omega
    subst e
    exact .inl ⟨ok.stop S.n H' h' m' rh' (stay S.n h' hi pv) (Nat.le_refl _), k _ _ ⟨.ref D, h', m1.trans m', .ref D, rh', done h' pv⟩⟩
theorem ae_lc (hc : X.calm = true) (hN : X.N.Nodup) (hi : AI X tg iter w) (ok : BlkOk X.N X.env.scope scope own)
    (hg : ∀ (s : Shared) (H : Hp) (C : Addr) (cl : List (Str × Addr)) (fp : List Addr), AG (X.blk s H scope (compEnvC scope cl C X.env) fp) tg is g) (ht : ∀ (s : Shared) (H : Hp) (C : Addr) (cl : List (Str × Addr)) (fp : List Addr), ATs (X.blk s H scope (compEnvC scope cl C X.env) fp) ifs tt)
    (he : ∀ (s : Shared) (H : Hp) (C : Addr) (cl : List (Str × Addr)) (fp : List Addr), AE (X.blk s H scope (compEnvC scope cl C X.env) fp) elt te) (hsub : ∀ i ∈ is, i ∈ own.map (·.2)) (hs : ∀ x, foldedSetIterable iter X.env x = pure x := by intro _; rfl) :
    AE X (.ListComp elt [⟨tg, iter, ifs, 0⟩] scope pos) (aLc w g tt te (own.map (·.2))) :=
  .of (pe_lc hc hN hi.pi ok (fun s H C cl fp => (hg s H C cl fp).pg) (fun s H C cl fp => (ht s H C cl fp).blk) (fun s H C cl fp => (he s H C cl fp).blk) hs) fun σ H Q z => low_lc hsub z
/-- y = [..], y a local name -/
theorem as_setLc (i : Nat) {y : Str} {py : Pos} {spos : Pos} (hc : X.calm = true) (hN : X.N.Nodup) (hy : X.N[i]? = some y) (hyl : X.env.scope.names.lookup y = some .local)
    (hsw : swapsWith (.ListComp elt [⟨tg, iter, ifs, 0⟩] scope pos) (some (.Name y py)) spos.line X.env = pure true) (hi : AI X tg iter w) (ok : BlkOk X.N X.env.scope scope own)
    (hg : ∀ (s : Shared) (H : Hp) (C : Addr) (cl : List (Str × Addr)) (fp : List Addr), AG (X.blk s H scope (compEnvC scope cl C X.env) fp) tg is g) (ht : ∀ (s : Shared) (H : Hp) (C : Addr) (cl : List (Str × Addr)) (fp : List Addr), ATs (X.blk s H scope (compEnvC scope cl C X.env) fp) ifs tt)
    (he : ∀ (s : Shared) (H : Hp) (C : Addr) (cl : List (Str × Addr)) (fp : List Addr), AE (X.blk s H scope (compEnvC scope cl C X.env) fp) elt te) (hsub : ∀ i ∈ is, i ∈ own.map (·.2)) (hs : ∀ x, foldedSetIterable iter X.env x = pure x := by intro _; rfl) :
    AS X (.Assign [.Name y py] (.ListComp elt [⟨tg, iter, ifs, 0⟩] scope pos) spos) (aAsg (aLc w g tt te (own.map (·.2))) (agN i)) :=
  .of (ps_setLc (i := i) hc hN hy hyl hsw hi.pi ok (fun s H C cl fp => (hg s H C cl fp).pg) (fun s H C cl fp => (ht s H C cl fp).blk) (fun s H C cl fp => (he s H C cl fp).blk) hs) fun D σ H ⟨α, h, DA, rs, rh, tk, ht, k⟩ =>
    low_lc hsub ⟨α, h, _, _, rs, rh, tk.e α, ht, fun v H' ⟨a, h', m, r, rh', q⟩ => k.nx _ _ ⟨_, h', m, (rs.up m).set i r, rh', q⟩⟩
end

/-! ### defs -/
abbrev ASp := List A → AH → AVK → AXK → Prop
def LX (K : Frg) (H : Hp) (E : AXK) : XK := fun cls d H' => d = none ∧ ∃ h', Mono H H' ∧ RelH K H' h' ∧ E cls h'
def lowSp (K : Frg) (sp : ASp) : Sp := fun vs H Q E => ∃ as h QA EA, RelAs K H as vs ∧ RelH K H h ∧ sp as h QA EA ∧ (∀ v H', LQ K H QA v H' → Q v H') ∧ ∀ cls d H', LX K H EA cls d H' → E cls d H'
abbrev AFn (P : Program) (w : World) (K : Frg) (mg : Str → Option Value) (base : Heap) (k : Nat) (f : Addr) (fd : FuncData) (ps : List Str) (sp : ASp) : Prop := FnOk P w K mg base (L2.CX P w) k f fd ps (lowSp K sp)
def startA (N : List Str) (as : List A) : ASt := as.map some ++ List.replicate (N.length - as.length) none
theorem rel_start {K : Frg} {H : Hp} {N : List Str} {as : List A} {vs : List V} (r : RelAs K H as vs) : RelS K H (startA N as) (L2.start N vs) := by
  refine ⟨?_, fun i a e => ?_⟩
  · unfold startA L2.start
    rw [List.length_append, List.length_append, List.length_map, List.length_map, List.length_replicate, List.length_replicate, r.len]
  · unfold startA at e
    by_cases hi : i < as.length
    · rw [List.getElem?_append_left (by simpa using hi), List.getElem?_map] at e
      cases q : as[i]? with
      | none => rw [q] at e; cases e
      | some b =>
        rw [q] at e
        cases e
        obtain ⟨v, e', r'⟩ := r.get q
        refine ⟨v, ?_, r'⟩
        unfold L2.start
        rw [List.getElem?_append_left (by rw [List.length_map, ← r.len]; exact hi), List.getElem?_map, e']
        rfl
    · rw [List.getElem?_append_right (by simpa using hi), List.getElem?_replicate] at e
      split at e <;> cases e
theorem AFn.mono {P : Program} {w : World} {K : Frg} {mg : Str → Option Value} {base : Heap} {j k : Nat} {f : Addr} {fd : FuncData} {ps : List Str} {sp : ASp} (F : AFn P w K mg base j f fd ps sp) (h : j ≤ k) : AFn P w K mg base k f fd ps sp := FnOk.mono F h
theorem AFn.imp {P : Program} {w : World} {K : Frg} {mg : Str → Option Value} {base : Heap} {k : Nat} {f : Addr} {fd : FuncData} {ps : List Str} {sp sp' : ASp} (F : AFn P w K mg base k f fd ps sp) (h : ∀ as h Q E, sp' as h Q E → sp as h Q E) : AFn P w K mg base k f fd ps sp' :=
  FnOk.imp F fun vs H Q E ⟨as, h', QA, EA, r, rh, hs, kQ, kE⟩ => ⟨as, h', QA, EA, r, rh, h _ _ _ _ hs, kQ, kE⟩
/-- a def by its body's derivation and its reading -/
theorem fnA {P : Program} {w : World} {K : Frg} {mg : Str → Option Value} {base : Heap} {x qual : Str} {params : Arguments} {body : List Stmt} {scope : Scope} {dvs : List V} {kws : List (Str × V)} {f : Addr} {fd : FuncData} {N ps : List Str} {k : Nat} {sp : ASp} {t : ATS}
    (F : FunD K x qual params body scope dvs kws f fd) (S : FnScope N ps scope)
    (walk : ∀ (X : Cx), X.prog = P → X.w = w → (∃ (cdv : Value) (A : Around) (outer : List Env) (s : Shared) (H : Hp) (E : XK), X = cxOf (L2.CX P w) P w K mg base N qual scope f cdv A outer s H E) → Room k X.A → PassesOwn (model X.prog X.w) X.A X.env X.xe → ASs X body t)
    (len : ∀ as h Q E, sp as h Q E → as.length = ps.length)
    (read : ∀ as h Q E, sp as h Q E → t { nx := fun _ h' => Q .non h', rt := Q, ex := fun c _ h' => E c h' } (startA N as) h) : AFn P w K mg base (k + 1) f fd ps sp := by
  refine F.ok S (fun vs H Q E ⟨as, h, QA, EA, r, _, hs, _⟩ => by rw [← r.len]; exact len _ _ _ _ hs) fun cdv A outer s H vs Q E hr ⟨as, h, QA, EA, r, rh, hs, kQ, kE⟩ => ?_
  refine ⟨lowS _ t, (walk _ rfl rfl ⟨cdv, A, outer, s, H, E, rfl⟩ hr (passes_of rfl)).pss, startA N as, h, _, rel_start r, rh, ?_, read as h QA EA hs, ⟨fun σ' H' ⟨α', h', m, rs', rh', q⟩ => kQ _ _ ⟨.non, h', m, .non, rh', q⟩, kQ, fun _ _ ⟨_, _, _, _, _, q⟩ => q.elim, fun _ _ ⟨_, _, _, _, _, q⟩ => q.elim⟩⟩
  refine ⟨H, Mono.refl H, Takes.imp (takes_of rfl rfl rfl rfl) fun cls d σ H' ⟨ed, m, α', h', rs', rh', q⟩ => kE _ _ _ ⟨ed, h', m, rh', q⟩⟩
section
variable {X : Cx} {k : Nat} {f C : Addr} {fd : FuncData} {ps : List Str} {sp : ASp} {dvs : List V} {ds : List Value} {das : List A} {x m : Str} {p pos apos : Pos} {e o : Expr} {es : List Expr} {ta : ATE} {t : ATA}
theorem runA {pins : List (Addr × Obj)} {σ : L2.St} {H : Hp} {s : Shared} {α : ASt} {h : AH} {Q : AVK} {E : AXK} {us : List Value} {vs : List V} {as : List A} (F : AFn X.prog X.w X.K X.mg X.base k f fd ps sp) (hr : Room k X.A) (hb : Binds X.K fd ps ds) (hd : Vals dvs ds) (hda : ∀ H, RelAs X.K H das dvs)
    (I : Inv X pins σ H s) (rs : RelS X.K H α σ) (rh : RelH X.K H h) (tk : TakesE X H α E) (r : Vals vs us) (ra : RelAs X.K H as vs) (q : sp (as ++ das) h Q E) : wpAny (model X.prog X.w) X.A (call (.ref f) us) (EP X pins σ (LQ X.K H Q)) X.xe s := by
  have hsp : lowSp X.K sp (vs ++ dvs) H (LQ X.K H Q) (LX X.K H E) := ⟨as ++ das, h, Q, E, ra.app (hda H), rh, q, fun _ _ z => z, fun _ _ _ z => z⟩
  have r2 : Vals (vs ++ dvs) (us ++ ds) := r.append hd
  have hl : (us ++ ds).length = ps.length := by rw [← r2.length]; exact F.len _ _ _ _ hsp
  refine wpAny_call (codeAny_mono (F.run X.A X.stack s H ⟨us, []⟩ (us ++ ds) (vs ++ dvs) _ _ hr I.env0 (hb s us I.kIn hl) r2 hsp) fun r s' hq => ?_)
  cases r with
  | error e =>
    obtain ⟨Hb, mb, tk⟩ := tk
    exact tk e s' (XE.of_call I (fun cls d H' ⟨ed, h', m, rh', q⟩ => ⟨ed, mb.trans m, rs.up m, h', rh', q⟩) hq)
  | ok fl =>
    cases fl with
    | ret u => exact I.after hq
    | next => exact False.elim hq
    | brk => exact False.elim hq
    | cont => exact False.elim hq
def aCall (sp : ASp) (das : List A) (t : ATA) : ATE := fun α h Q E => t α h (fun vs h1 => sp (vs ++ das) h1 Q E) E
theorem ae_call (F : AFn X.prog X.w X.K X.mg X.base k f fd ps sp) (hr : Room k X.A) (hg : Gl X x) (hm : X.mg x = some (.ref f)) (hk : PySem.W.keepIn X.K (.ref f) = true) (hb : Binds X.K fd ps ds) (hd : Vals dvs ds) (hda : ∀ H, RelAs X.K H das dvs)
    (ha : AAs X (e :: es) t) (hdb : (x == ("__debug__" : Str)) = false := by decide) (he : starEach (e :: es) X.env = (false, eval e X.env) :: starEach es X.env := by rfl) (hpl : (backTo pos (starEach es X.env)).any (·.1) = false := by rfl) :
    AE X (.Call (.Name x p) (e :: es) [] pos) (aCall sp das t) := by
  refine ⟨fun pins s σ H α h Q E I rs rh tk ht => ?_⟩
  refine wpAny_Call_Name_kw (ld_glob I hg hm ?_ hdb)
  refine PySem.W.callWith_K (h₀ := X.base) I.ok.mod.kin hk (thn (ha.run pos pins s σ H α h _ E I rs rh tk ht) fun us s1 ⟨vs, H1, I1, r, as, h1, m1, ras, rh1, q⟩ => ⟨I1.kIn, ?_⟩) he hpl
  exact thn (runA F hr hb hd hda I1 (rs.up m1) rh1 (tk.up m1) r ras q) fun u s2 ⟨v, H2, I2, r2, q2⟩ => ⟨v, H2, I2, r2, q2.up m1⟩
theorem ae_call0 (F : AFn X.prog X.w X.K X.mg X.base k f fd ps sp) (hr : Room k X.A) (hg : Gl X x) (hm : X.mg x = some (.ref f)) (hk : PySem.W.keepIn X.K (.ref f) = true) (hb : Binds X.K fd ps ds) (hd : Vals dvs ds) (hda : ∀ H, RelAs X.K H das dvs)
    (hdb : (x == ("__debug__" : Str)) = false := by decide) : AE X (.Call (.Name x p) [] [] pos) (aCall sp das aNil) := by
  refine ⟨fun pins s σ H α h Q E I rs rh tk ht => ?_⟩
  refine wpAny_Call_Name_kw (ld_glob I hg hm ?_ hdb)
  exact PySem.W.callWith_K0 I.kIn hk (runA (us := []) (vs := []) (as := []) F hr hb hd hda I rs rh tk .nil .nil ht)
/-- o.m(..) of an own instance of the class at C -/
def aMeth (C : Addr) (m : Str) (sp : ASp) (das : List A) (ta : ATE) (t : ATA) : ATE := fun α h Q E => ta α h (fun x h1 => match x with
  | .ref p => ∃ fs, h1 p = some (.ins C fs) ∧ fs.lookup m = none ∧ t α h1 (fun vs h2 => sp (.ref p :: (vs ++ das)) h2 Q E) E
  | _ => False) E
theorem ae_meth {pl : Sem Bool} (he : AE X o ta) (c : Cls X.K C) (hm : Meth X.K C m f) (F : AFn X.prog X.w X.K X.mg X.base k f fd ps sp) (hr : Room k X.A) (hb : Binds X.K fd ps ds) (hd : Vals dvs ds) (hda : ∀ H, RelAs X.K H das dvs) (ha : AAs X (e :: es) t)
    (hst : starEach (e :: es) X.env = (false, eval e X.env) :: starEach es X.env := by rfl) (hpl : (backTo pos (starEach es X.env)).any (·.1) = false := by rfl)
    (ht : eval (.Call (.Attribute o m apos) (e :: es) [] pos) X.env = (do
      let ov ← eval o X.env
      standAt apos.atName
      let (f, first) ← holding [ov] (getMethod ov m pl)
      callWith pos f first (backTo pos (starEach (e :: es) X.env)) (backToKw pos (keywordEach [] X.env))) := by rfl) :
    AE X (.Call (.Attribute o m apos) (e :: es) [] pos) (aMeth C m sp das ta t) := by
  refine ⟨fun pins s σ H α h Q E I rs rh tk hh => ?_⟩
  refine PySem.W.methodCall_KW (pl := pl) (thn (he.run pins s σ H α h _ E I rs rh tk hh) fun u s1 ⟨x, H1, I1, rx, a, h1, m1, ra, rh1, q⟩ => ?_) ht
  cases ra with
  | ref a =>
    obtain ⟨fs, ea, l, q⟩ := (show ∃ fs, h1 a = some (.ins C fs) ∧ fs.lookup m = none ∧ t α h1 (fun vs h2 => sp (.ref a :: (vs ++ das)) h2 Q E) E from q)
    obtain ⟨dx, vs0, f1, rk⟩ := rh1.ins ea
    obtain rfl : u = Value.ref a := rx
    refine getmeth_ok I1 f1 c hm (rk.lookN l) ?_
    refine PySem.W.callWith_K (first := [.ref a]) (h₀ := X.base) I.ok.mod.kin hm.kp (thn (ha.run pos pins s1 σ H1 α h1 _ E I1 (rs.up m1) rh1 (tk.up m1) q) fun us s2 ⟨vs, H2, I2, r, as, h2, m2, ras, rh2, q2⟩ => ⟨I2.kIn, ?_⟩) hst hpl
    exact thn (runA (us := .ref a :: us) (vs := .ref a :: vs) (as := .ref a :: as) F hr hb hd hda I2 ((rs.up m1).up m2) rh2 ((tk.up m1).up m2) (.cons rfl r) (.cons (.ref a) ras) q2) fun u s3 ⟨v, H3, I3, r3, q3⟩ => ⟨v, H3, I3, r3, q3.up (m1.trans m2)⟩
  | _ => exact (show False from q).elim
theorem ae_meth0 {pl : Sem Bool} (he : AE X o ta) (c : Cls X.K C) (hm : Meth X.K C m f) (F : AFn X.prog X.w X.K X.mg X.base k f fd ps sp) (hr : Room k X.A) (hb : Binds X.K fd ps ds) (hd : Vals dvs ds) (hda : ∀ H, RelAs X.K H das dvs)
    (ht : eval (.Call (.Attribute o m apos) [] [] pos) X.env = (do
      let ov ← eval o X.env
      standAt apos.atName
      let (f, first) ← holding [ov] (getMethod ov m pl)
      callWith pos f first (backTo pos (starEach [] X.env)) (backToKw pos (keywordEach [] X.env))) := by rfl) :
    AE X (.Call (.Attribute o m apos) [] [] pos) (aMeth C m sp das ta aNil) := by
  refine ⟨fun pins s σ H α h Q E I rs rh tk hh => ?_⟩
  refine PySem.W.methodCall_KW (pl := pl) (thn (he.run pins s σ H α h _ E I rs rh tk hh) fun u s1 ⟨x, H1, I1, rx, a, h1, m1, ra, rh1, q⟩ => ?_) ht
  cases ra with
  | ref a =>
    obtain ⟨fs, ea, l, q⟩ := (show ∃ fs, h1 a = some (.ins C fs) ∧ fs.lookup m = none ∧ sp (.ref a :: ([] ++ das)) h1 Q E from q)
    obtain ⟨dx, vs0, f1, rk⟩ := rh1.ins ea
    obtain rfl : u = Value.ref a := rx
    refine getmeth_ok I1 f1 c hm (rk.lookN l) ?_
    exact PySem.W.callWith_K0 (first := [.ref a]) I1.kIn hm.kp (thn (runA (us := [.ref a]) (vs := [.ref a]) (as := [.ref a]) F hr hb hd hda I1 (rs.up m1) rh1 (tk.up m1) (.cons rfl .nil) (.one (.ref a)) q) fun u s3 ⟨v, H3, I3, r3, q3⟩ => ⟨v, H3, I3, r3, q3.up m1⟩)
  | _ => exact (show False from q).elim
/-- C(..) with an own __init__ -/
def aMake (C : Addr) (sp : ASp) (das : List A) (t : ATA) : ATE := fun α h Q E => t α h (fun vs h1 => ∀ x, h1 x = none → sp (.ref x :: (vs ++ das)) (updA h1 x (.ins C [])) (fun v h2 => match v with
  | .non => Q (.ref x) h2
  | _ => False) E) E
theorem make_runA {pins : List (Addr × Obj)} {σ : L2.St} {H : Hp} {s : Shared} {α : ASt} {h : AH} {Q : AVK} {E : AXK} {us : List Value} {vs : List V} {as : List A} (M : Mk X.K C f) (F : AFn X.prog X.w X.K X.mg X.base k f fd ps sp) (hr : Room (k + 1) X.A) (hb : Binds X.K fd ps ds) (hd : Vals dvs ds) (hda : ∀ H, RelAs X.K H das dvs)
    (I : Inv X pins σ H s) (rs : RelS X.K H α σ) (rh : RelH X.K H h) (tk : TakesE X H α E) (r : Vals vs us) (ra : RelAs X.K H as vs)
    (q : ∀ x, h x = none → sp (.ref x :: (as ++ das)) (updA h x (.ins C [])) (fun v h2 => match v with
      | .non => Q (.ref x) h2
      | _ => False) E) : wpAny (model X.prog X.w) X.A (call (.ref C) us) (EP X pins σ (LQ X.K H Q)) X.xe s := by
  have f1 : H (s.heap.objs.size + 1) = none := I.hok.fresh (Nat.le_succ _)
  have f2 : H s.heap.objs.size = none := I.hok.fresh (Nat.le_refl _)
  have ne : s.heap.objs.size ≠ s.heap.objs.size + 1 := Nat.ne_of_lt (Nat.lt_succ_self _)
  have I2 := Inv.made (C := C) I
  have f3 : (upd H s.heap.objs.size (.own (s.heap.objs.size + 1))) (s.heap.objs.size + 1) = none := by rw [upd_ne (Ne.symm ne)]; exact f1
  have m2 : Mono H (upd (upd H s.heap.objs.size (.own (s.heap.objs.size + 1))) (s.heap.objs.size + 1) (.ins C s.heap.objs.size [])) := (Mono.new f2).trans (Mono.new f3)
  have rh2 : RelH X.K (upd (upd H s.heap.objs.size (.own (s.heap.objs.size + 1))) (s.heap.objs.size + 1) (.ins C s.heap.objs.size [])) (updA h (s.heap.objs.size + 1) (.ins C [])) := (rh.skip f2).new f3 (.ins .nil)
  have hsp : lowSp X.K sp (V.ref (s.heap.objs.size + 1) :: (vs ++ dvs)) _ (LQ X.K _ _) (LX X.K _ E) := ⟨A.ref (s.heap.objs.size + 1) :: (as ++ das), _, _, E, .cons (.ref _) ((ra.up m2).app (hda _)), rh2, q (s.heap.objs.size + 1) (rh.free f1), fun _ _ z => z, fun _ _ _ z => z⟩
  have r2 : Vals (V.ref (s.heap.objs.size + 1) :: (vs ++ dvs)) (Value.ref (s.heap.objs.size + 1) :: (us ++ ds)) := .cons rfl (r.append hd)
  have hl : (Value.ref (s.heap.objs.size + 1) :: us ++ ds).length = ps.length := by
    have e := r2.length
    rw [F.len _ _ _ _ hsp] at e
    exact e.symm
  refine wpAny_call (make_map (f := f) I.kIn M.makes M.init (beq_iff_eq.mp M.fn) (codeAny_mono (F.run _ X.stack _ _ ⟨Value.ref (s.heap.objs.size + 1) :: us, []⟩ (Value.ref (s.heap.objs.size + 1) :: (us ++ ds)) _ _ _ (hr.make C us [])
    (I2.env0.make C us []) (hb _ (Value.ref (s.heap.objs.size + 1) :: us) I2.kIn hl) r2 hsp) fun r s' hq' => ?_))
  cases r with
  | error e =>
    obtain ⟨Hb, mb, tk⟩ := tk
    exact tk e s' (XE.of_call I2 (fun cls d H' ⟨ed, h', m, rh', q⟩ => ⟨ed, (mb.trans m2).trans m, (rs.up m2).up m, h', rh', q⟩) hq')
  | ok fl =>
    cases fl with
    | ret u =>
      obtain ⟨v, H', I3, rv, a, h', m3, ra3, rh3, q3⟩ := I2.after hq'
      cases ra3 with
      | non => exact ⟨rv, ⟨V.ref (s.heap.objs.size + 1), H', I3, rfl, .ref _, h', m2.trans m3, .ref _, rh3, q3⟩⟩
      | _ => exact (show False from q3).elim
    | next => exact False.elim hq'
    | brk => exact False.elim hq'
    | cont => exact False.elim hq'
theorem ae_make (M : Mk X.K C f) (F : AFn X.prog X.w X.K X.mg X.base k f fd ps sp) (hr : Room (k + 1) X.A) (hg : Gl X x) (hm : X.mg x = some (.ref C)) (hb : Binds X.K fd ps ds) (hd : Vals dvs ds) (hda : ∀ H, RelAs X.K H das dvs)
    (ha : AAs X (e :: es) t) (hdb : (x == ("__debug__" : Str)) = false := by decide) (he : starEach (e :: es) X.env = (false, eval e X.env) :: starEach es X.env := by rfl) (hpl : (backTo pos (starEach es X.env)).any (·.1) = false := by rfl) :
    AE X (.Call (.Name x p) (e :: es) [] pos) (aMake C sp das t) := by
  refine ⟨fun pins s σ H α h Q E I rs rh tk ht => ?_⟩
  refine wpAny_Call_Name_kw (ld_glob I hg hm ?_ hdb)
  refine PySem.W.callWith_K (h₀ := X.base) I.ok.mod.kin M.kp (thn (ha.run pos pins s σ H α h _ E I rs rh tk ht) fun us s1 ⟨vs, H1, I1, r, as, h1, m1, ras, rh1, q⟩ => ⟨I1.kIn, ?_⟩) he hpl
  exact thn (make_runA M F hr hb hd hda I1 (rs.up m1) rh1 (tk.up m1) r ras q) fun u s2 ⟨v, H2, I2, r2, q2⟩ => ⟨v, H2, I2, r2, q2.up m1⟩
theorem ae_make0 (M : Mk X.K C f) (F : AFn X.prog X.w X.K X.mg X.base k f fd ps sp) (hr : Room (k + 1) X.A) (hg : Gl X x) (hm : X.mg x = some (.ref C)) (hb : Binds X.K fd ps ds) (hd : Vals dvs ds) (hda : ∀ H, RelAs X.K H das dvs)
    (hdb : (x == ("__debug__" : Str)) = false := by decide) : AE X (.Call (.Name x p) [] [] pos) (aMake C sp das aNil) := by
  refine ⟨fun pins s σ H α h Q E I rs rh tk ht => ?_⟩
  refine wpAny_Call_Name_kw (ld_glob I hg hm ?_ hdb)
  exact PySem.W.callWith_K0 I.kIn M.kp (make_runA (us := []) (vs := []) (as := []) M F hr hb hd hda I rs rh tk .nil .nil ht)
end
end G
namespace G
open PySem PySem.Spec L2

/-! ### built-in functions and types, called -/
/-- the items of a list or a tuple -/
def seqA (x : A) (h : AH) (R : List A → Prop) : Prop := match x with
  | .ref p => ∃ xs, LstA h p xs ∧ R xs
  | .fls xs => R xs
  | x => asT x R
theorem seqA_inv {K : Frg} {H : Hp} {h : AH} {x : A} {v : V} {R : List A → Prop} (rh : RelH K H h) (r : RelA K H x v) (q : seqA x h R) : ∃ p vs xs, v = .ref p ∧ (SqL K H p vs ∨ SqT K H p vs) ∧ RelAs K H xs vs ∧ R xs := by
  cases r with
  | ref p =>
    obtain ⟨xs, e, q⟩ := (show ∃ xs, LstA h p xs ∧ R xs from q)
    obtain ⟨vs, e', rv⟩ := rh.rd e
    exact ⟨p, vs, xs, rfl, .inl e', rv, q⟩
  | @tup p xs vs e r => exact ⟨p, vs, xs, rfl, .inr e.sq, r, q⟩
  | @fls p xs vs e r => exact ⟨p, vs, xs, rfl, .inl e.sq, r, q⟩
  | @kt p ks e => exact ⟨p, _, _, rfl, .inr (SqT.of e), rel_keysV ks, q⟩
  | _ => exact (show False from q).elim
def one (R : A → AH → AVK → Prop) : ARs := fun as h Q => match as with
  | [x] => R x h Q
  | _ => False
theorem one_inv {K : Frg} {H : Hp} {h : AH} {as : List A} {vs : List V} {Q : AVK} {R : A → AH → AVK → Prop} (r : RelAs K H as vs) (q : one R as h Q) : ∃ x v, vs = [v] ∧ RelA K H x v ∧ R x h Q := by
  cases r with
  | nil => exact q.elim
  | cons r t => cases t with
    | nil => exact ⟨_, _, rfl, r, q⟩
    | cons _ _ => exact (show False from q).elim
def two (R : A → A → AH → AVK → Prop) : ARs := fun as h Q => match as with
  | [x, y] => R x y h Q
  | _ => False
theorem two_inv {K : Frg} {H : Hp} {h : AH} {as : List A} {vs : List V} {Q : AVK} {R : A → A → AH → AVK → Prop} (r : RelAs K H as vs) (q : two R as h Q) : ∃ x y v w, vs = [v, w] ∧ RelA K H x v ∧ RelA K H y w ∧ R x y h Q := by
  cases r with
  | nil => exact q.elim
  | cons r t => cases t with
    | nil => exact (show False from q).elim
    | cons r2 t => cases t with
      | nil => exact ⟨_, _, _, _, rfl, r, r2, q⟩
      | cons _ _ => exact (show False from q).elim
section
variable {K : Frg}
abbrev lenA : ARs := one fun x h Q => seqA x h fun xs => Q (.int xs.length) h
theorem o_len : OpN K (fun xs H Q => ∃ p ys, xs = [.ref p] ∧ (SqL K H p ys ∨ SqT K H p ys) ∧ Q (.int ys.length) H) lenA := fun H h vs as Q Qv r rh k q => by
  obtain ⟨x, v, rfl, rx, q⟩ := one_inv r q
  obtain ⟨p, vs, xs, rfl, e, rv, q⟩ := seqA_inv rh rx q
  exact ⟨p, vs, rfl, e, k _ _ ⟨_, h, Mono.refl H, .int _, rh, by rw [← rv.len]; exact q⟩⟩
def absA : ARs := one fun x h Q => match x with
  | .int i => Q (.int (if i < 0 then -i else i)) h
  | _ => False
theorem o_abs : OpN K (fun xs H Q => ∃ i, xs = [.int i] ∧ Q (.int (if i < 0 then -i else i)) H) absA := fun H h vs as Q Qv r rh k q => by
  obtain ⟨x, v, rfl, rx, q⟩ := one_inv r q
  cases rx with
  | int i => exact ⟨i, rfl, k _ _ ⟨_, h, Mono.refl H, .int _, rh, q⟩⟩
  | _ => exact (show False from q).elim
/-- int(x) of an int or a truth -/
def intA : ARs := one fun x h Q => match x with
  | .int i => Q (.int i) h
  | .bl b => Q (.int (if b then 1 else 0)) h
  | _ => False
theorem o_int : OpN K (fun xs H Q => (∃ i, xs = [.int i] ∧ Q (.int i) H) ∨ ∃ k, xs = [.bl k] ∧ Q (.int (if k then 1 else 0)) H) intA := fun H h vs as Q Qv r rh k q => by
  obtain ⟨x, v, rfl, rx, q⟩ := one_inv r q
  cases rx with
  | int i => exact .inl ⟨i, rfl, k _ _ ⟨_, h, Mono.refl H, .int _, rh, q⟩⟩
  | bl b => exact .inr ⟨b, rfl, k _ _ ⟨_, h, Mono.refl H, .int _, rh, q⟩⟩
  | _ => exact (show False from q).elim
/-- all(xs) of a list of truths -/
def blsA (as : List A) : List A := as
theorem rel_bls {H : Hp} : ∀ {bs : List Bool} {vs : List V}, RelAs K H (bs.map A.bl) vs → vs = bs.map V.bl
  | [], _, .nil => rfl
  | b :: bs, _, .cons r t => by cases r; rw [List.map_cons, rel_bls t]
theorem rel_ints {H : Hp} : ∀ {bs : List Int} {vs : List V}, RelAs K H (bs.map A.int) vs → vs = bs.map V.int
  | [], _, .nil => rfl
  | b :: bs, _, .cons r t => by cases r; rw [List.map_cons, rel_ints t]
def allA : ARs := one fun x h Q => match x with
  | .ref p => ∃ bs : List Bool, LstA h p (bs.map A.bl) ∧ Q (.bl (bs.all id)) h
  | .fls xs => ∃ bs : List Bool, xs = bs.map A.bl ∧ Q (.bl (bs.all id)) h
  | _ => False
theorem o_all : OpN K (rAll K) allA := fun H h vs as Q Qv r rh k q => by
  obtain ⟨x, v, rfl, rx, q⟩ := one_inv r q
  cases rx with
  | ref p =>
    obtain ⟨bs, e, q⟩ := (show ∃ bs : List Bool, LstA h p (bs.map A.bl) ∧ Q (.bl (bs.all id)) h from q)
    obtain ⟨vs, e', rv⟩ := rh.rd e
    have ev := rel_bls rv
    subst ev
    exact ⟨p, bs, rfl, e', k _ _ ⟨_, h, Mono.refl H, .bl _, rh, q⟩⟩
  | @fls p xs vs e rv =>
    obtain ⟨bs, e2, q2⟩ := (show ∃ bs : List Bool, xs = bs.map A.bl ∧ Q (.bl (bs.all id)) h from q)
    subst e2
    have ev := rel_bls rv
    subst ev
    exact ⟨p, bs, rfl, e.sq, k _ _ ⟨_, h, Mono.refl H, .bl _, rh, q2⟩⟩
  | _ => exact (show False from q).elim
/-- list(x), tuple(x) of a list or a tuple -/
abbrev listA : ARs := one fun x h Q => seqA x h fun xs => ∀ p, h p = none → Q (.ref p) (updA h p (.lst xs))
theorem o_list : OpN K (fun xs H Q => ∃ p ys, xs = [.ref p] ∧ (SqL K H p ys ∨ SqT K H p ys) ∧ ∀ l, H l = none → Q (.ref l) (upd H l (.lst ys))) listA := fun H h vs as Q Qv r rh k q => by
  obtain ⟨x, v, rfl, rx, q⟩ := one_inv r q
  obtain ⟨p, vs, xs, rfl, e, rv, q⟩ := seqA_inv rh rx q
  exact ⟨p, vs, rfl, e, fun l hl => k _ _ ⟨.ref l, _, Mono.new hl, .ref l, rh.new hl (.lst rv), q l (rh.free hl)⟩⟩
def tupleA : ARs := one fun x h Q => match x with
  | .ref p => ∃ xs, LstA h p xs ∧ Q (.tup xs) h
  | .tup xs => Q (.tup xs) h
  | .fls xs => Q (.tup xs) h
  | .kt ks => Q (.kt ks) h
  | _ => False
theorem o_tuple : OpN K (fun xs H Q => ∃ p ys, xs = [.ref p] ∧ ((SqL K H p ys ∧ ∀ l, H l = none → Q (.ref l) (upd H l (.tup ys))) ∨ (SqT K H p ys ∧ Q (.ref p) H))) tupleA := fun H h vs as Q Qv r rh k q => by
  obtain ⟨x, v, rfl, rx, q⟩ := one_inv r q
  cases rx with
  | ref p =>
    obtain ⟨xs, e, q⟩ := (show ∃ xs, LstA h p xs ∧ Q (.tup xs) h from q)
    obtain ⟨vs, e', rv⟩ := rh.rd e
    exact ⟨p, vs, rfl, .inl ⟨e', fun l hl => k _ _ ⟨_, h, Mono.new hl, .tup (.of upd_same) (rv.up (Mono.new hl)), rh.skip hl, q⟩⟩⟩
  | @tup p xs vs e rv => exact ⟨p, vs, rfl, .inr ⟨e.sq, k _ _ ⟨_, h, Mono.refl H, .tup e rv, rh, q⟩⟩⟩
  | @fls p xs vs e rv => exact ⟨p, vs, rfl, .inl ⟨e.sq, fun l hl => k _ _ ⟨_, h, Mono.new hl, .tup (.of upd_same) (rv.up (Mono.new hl)), rh.skip hl, q⟩⟩⟩
  | @kt p ks e => exact ⟨p, _, rfl, .inr ⟨SqT.of e, k _ _ ⟨_, h, Mono.refl H, .kt e, rh, q⟩⟩⟩
  | _ => exact (show False from q).elim

/-! ### isinstance -/
/-- an own class whose instances isinstance asks rightly -/
def InsCls (K : Frg) (C : Addr) : Prop := Cls K C ∧ PySem.W.findIn K (.ref C) "__class__" = some (some (.builtin "object.__class__")) ∧
  PySem.W.specialIn K (.builtin "object.__class__") "__get__" = some (some (.builtin "getset_descriptor.__get__")) ∧ PySem.W.takesIn K (.builtin "object.__class__") = some true ∧ PySem.W.mroIn K C (.type "object") = some true
def tyU (K : Frg) (x : A) (h : AH) (t : Value) : Prop := match x with
  | .non => t = .type "NoneType"
  | .bl _ => t = .type "bool"
  | .int _ => t = .type "int"
  | .str _ => t = .type "str"
  | .tup _ => t = .type "tuple"
  | .kt _ => t = .type "tuple"
  | .ref p => ((∃ xs, LstA h p xs) ∧ t = .type "list") ∨ (((∃ xs, h p = some (.dK xs)) ∨ ∃ xs, h p = some (.dT xs)) ∧ t = .type "dict") ∨ ∃ C fs, h p = some (.ins C fs) ∧ InsCls K C ∧ t = .ref C
  | .ty _ => False
  | .fls _ => t = .type "list"
theorem tyU_rel {H : Hp} {h : AH} {x : A} {v : V} {t : Value} (rh : RelH K H h) (r : RelA K H x v) (q : tyU K x h t) : TyX K H v t := by
  cases r with
  | non => cases (show t = _ from q); exact .base .non
  | bl b => cases (show t = _ from q); exact .base (.bl b)
  | int i => cases (show t = _ from q); exact .base (.int i)
  | str z => cases (show t = _ from q); exact .base (.str z)
  | kt e => cases (show t = _ from q); exact .base (.tup e)
  | tup e _ =>
    cases (show t = _ from q)
    rcases e with e | ⟨o, its, n, lk, c, _⟩
    · exact .base (.tup e)
    · exact .kTuple lk c
  | ty _ => exact (show False from q).elim
  | fls e _ =>
    cases (show t = _ from q)
    rcases e with ⟨o, e⟩ | ⟨o, its, n, e, c, _⟩
    · exact .base (.frz e)
    · exact .kList e c
  | ref p =>
    rcases q with ⟨⟨xs, e⟩, rfl⟩ | ⟨e, rfl⟩ | ⟨C, fs, e, c, rfl⟩
    · obtain ⟨vs, e', _⟩ := rh.lst e
      exact .base (.lst e')
    · rcases e with ⟨xs, e⟩ | ⟨xs, e⟩
      · obtain ⟨u, e', ro⟩ := rh p _ e
        cases ro
        exact .base (.dK e')
      · obtain ⟨u, e', ro⟩ := rh p _ e
        cases ro
        exact .base (.dT e')
    · obtain ⟨dx, vs, e', _⟩ := rh.ins e
      exact .base (.ins e' c.1 c.2.1 c.2.2.1 c.2.2.2.1 c.2.2.2.2)
/-- a class as a value -/
def clsU : A → Value
  | .ty n => .type n
  | .ref C => .ref C
  | _ => .none
def isCls : A → Bool
  | .ty _ => true
  | .ref _ => true
  | _ => false
theorem cls_rel {H : Hp} {c : A} {v : V} (r : RelA K H c v) (e : isCls c = true) : ClsV v (clsU c) := by
  cases r <;> first | exact .ty _ | exact .own _ | (simp [isCls] at e)
theorem clss_rel {H : Hp} : ∀ {cs : List A} {vs : List V}, RelAs K H cs vs → cs.all isCls = true → Paired ClsV vs (cs.map clsU)
  | _, _, .nil, _ => .nil
  | _, _, .cons r t, e => by
    rw [List.all_cons, Bool.and_eq_true] at e
    exact .cons (cls_rel r e.1) (clss_rel t e.2)
def isiA (K : Frg) : ARs := two fun x c h Q => match c with
  | .tup cs => cs.all isCls = true ∧ ∃ t b, tyU K x h t ∧ PySem.W.kitAny K t (cs.map clsU) = some b ∧ Q (.bl b) h
  | c => isCls c = true ∧ ∃ t b, tyU K x h t ∧ PySem.W.kitOne K t (clsU c) = some b ∧ Q (.bl b) h
def rIsiAll (K : Frg) : List V → Hp → VK → Prop := fun xs H Q => rIsi K xs H Q ∨ rIsiT K xs H Q ∨ rIsiK K xs H Q
theorem callr_isi {X : Cx} : CallR X (.builtin "isinstance") (rIsiAll X.K) := call_isi.or (call_isiT.or call_isiK)
theorem vals_cls {cs : List V} {us us' : List Value} (k : Paired ClsV cs us) (r : Vals cs us') : us' = us := ClsV.all k r
theorem o_isi : OpN K (rIsiAll K) (isiA K) := fun H h vs as Q Qv r rh k q => by
  obtain ⟨x, c, v, w, rfl, rx, rc, q⟩ := two_inv r q
  have gen : (isCls c = true ∧ ∃ t b, tyU K x h t ∧ PySem.W.kitOne K t (clsU c) = some b ∧ Q (.bl b) h) → rIsiAll K [v, w] H Qv := fun ⟨e, t, b, ty, kt, q⟩ =>
    .inl ⟨v, w, t, clsU c, b, rfl, cls_rel rc e, tyU_rel rh rx ty, kt, k _ _ ⟨_, h, Mono.refl H, .bl _, rh, q⟩⟩
  cases rc with
  | @tup p xs vs e rv =>
    obtain ⟨ec, t, b, ty, kt, q⟩ := (show xs.all isCls = true ∧ ∃ t b, tyU K x h t ∧ PySem.W.kitAny K t (xs.map clsU) = some b ∧ Q (.bl b) h from q)
    rcases e with e | ⟨o, its, n, lk, c, hd, hz, rvv⟩
    · exact .inr (.inl ⟨v, p, vs, t, _, b, rfl, e, clss_rel rv ec, tyU_rel rh rx ty, kt, k _ _ ⟨_, h, Mono.refl H, .bl _, rh, q⟩⟩)
    · have eu : its.toList = xs.map clsU := vals_cls (clss_rel rv ec) rvv
      obtain ⟨oc, od, oda, osl⟩ := o
      dsimp only at c hd
      subst c hd
      refine .inr (.inr ⟨v, p, od, xs.map clsU, n, osl, t, b, rfl, ?_, tyU_rel rh rx ty, kt, k _ _ ⟨_, h, Mono.refl H, .bl _, rh, q⟩⟩)
      rw [← eu]
      exact lk
  | _ => exact gen q
end

/-! ### slices -/
abbrev ATO := ASt → AH → (Option Int → AH → Prop) → AXK → Prop
def lowO (X : Cx) (t : ATO) : TO := fun σ H Qv => ∃ α h Q E, RelS X.K H α σ ∧ RelH X.K H h ∧ TakesE X H α E ∧ t α h Q E ∧ ∀ o H' h', Mono H H' → RelH X.K H' h' → Q o h' → Qv o H'
structure AOp (X : Cx) (e : Option Expr) (t : ATO) : Prop where
  po : PO X e (lowO X t)
theorem poImp {X : Cx} {e : Option Expr} {t t' : TO} (h : PO X e t) (k : ∀ σ H Q, t' σ H Q → t σ H Q) : PO X e t' := ⟨fun pins s σ H Q I q => h.run pins s σ H Q I (k _ _ _ q)⟩
def aNoPart : ATO := fun _ h Q _ => Q none h
def aPart (t : ATE) : ATO := fun α h Q E => t α h (fun x h1 => match x with
  | .int i => Q (some i) h1
  | _ => False) E
section
variable {X : Cx} {e lo hi : Expr} {pos p2 : Pos} {te : ATE} {tl th : ATO}
theorem ao_none : AOp X none aNoPart := ⟨poImp po_none fun σ H Q ⟨α, h, q, E, rs, rh, tk, ht, k⟩ => k _ H h (Mono.refl H) rh ht⟩
theorem ao_some (h : AE X e te) : AOp X (some e) (aPart te) := ⟨poImp (po_some h.pe) fun σ H Q ⟨α, h, q, E, rs, rh, tk, ht, k⟩ => low.then (H0 := H) rs rh tk ht fun v H1 x h1 m1 r1 rh1 rs1 q1 => by
  cases r1 with
  | int i => exact ⟨i, rfl, k _ _ h1 m1 rh1 q1⟩
  | _ => exact (show False from q1).elim⟩
def cutA (xs : List A) (lo hi : Option Int) : List A := (xs.drop (HT.sIx xs.length 0 lo)).take (HT.sIx xs.length xs.length hi - HT.sIx xs.length 0 lo)
theorem cut_rel {K : Frg} {H : Hp} {xs : List A} {vs : List V} (r : RelAs K H xs vs) (lo hi : Option Int) : RelAs K H (cutA xs lo hi) (cutV vs lo hi) := by
  unfold cutA cutV
  rw [r.len]
  exact (r.drop _).take _
def aSlL (te : ATE) (tl th : ATO) : ATE := fun α h Q E => te α h (fun x h1 => match x with
  | .ref p => tl α h1 (fun l h2 => th α h2 (fun u h3 => ∃ xs, LstA h3 p xs ∧ ∀ r, h3 r = none → Q (.ref r) (updA h3 r (.lst (cutA xs l u)))) E) E
  | .fls xs => tl α h1 (fun l h2 => th α h2 (fun u h3 => ∀ r, h3 r = none → Q (.ref r) (updA h3 r (.lst (cutA xs l u)))) E) E
  | _ => False) E
theorem ae_slL {lo hi : Option Expr} (he : AE X e te) (hl : AOp X lo tl) (hh : AOp X hi th) : AE X (.Subscript e (.Slice lo hi none p2) pos) (aSlL te tl th) :=
  .of (pe_slice sl_list he.pe hl.po hh.po) fun σ H Q ⟨α, h, q, E, rs, rh, tk, ht, k⟩ => low.then (H0 := H) rs rh tk ht fun v H1 x h1 m1 r1 rh1 rs1 q1 => by
    cases r1 with
    | ref p =>
      refine ⟨α, h1, _, E, rs1, rh1, tk.up m1, q1, fun l H2 h2 m2 rh2 q2 => ⟨α, h2, _, E, rs1.up m2, rh2, (tk.up m1).up m2, q2, fun u H3 h3 m3 rh3 q3 => ?_⟩⟩
      obtain ⟨xs, e, q⟩ := q3
      obtain ⟨vs, e', rv⟩ := rh3.rd e
      exact ⟨p, vs, rfl, e', fun r hr => k _ _ ⟨.ref r, _, ((m1.trans m2).trans m3).trans (Mono.new hr), .ref r, rh3.new hr (.lst (cut_rel rv l u)), q r (rh3.free hr)⟩⟩
    | @fls p xs vs eF rv =>
      refine ⟨α, h1, _, E, rs1, rh1, tk.up m1, q1, fun l H2 h2 m2 rh2 q2 => ⟨α, h2, _, E, rs1.up m2, rh2, (tk.up m1).up m2, q2, fun u H3 h3 m3 rh3 q3 => ?_⟩⟩
      exact ⟨p, vs, rfl, (eF.mono (m2.trans m3)).sq, fun r hr => k _ _ ⟨.ref r, _, ((m1.trans m2).trans m3).trans (Mono.new hr), .ref r, rh3.new hr (.lst (cut_rel (rv.up (m2.trans m3)) l u)), q3 r (rh3.free hr)⟩⟩
    | _ => exact (show False from q1).elim
/-- xs[::-1] -/
def aRev (te : ATE) : ATE := fun α h Q E => te α h (fun x h1 => match x with
  | .ref p => ∃ xs, LstA h1 p xs ∧ ∀ r, h1 r = none → Q (.ref r) (updA h1 r (.lst xs.reverse))
  | _ => False) E
theorem ae_rev {k : Nat} {p1 p2 p3 : Pos} (he : AE X e te) : AE X (.Subscript e (.Slice none none (some (.UnaryOp .USub (.Constant (.int 1) k p1) p2)) p3) pos) (aRev te) :=
  .of (pe_revL he.pe) fun σ H Q ⟨α, h, q, E, rs, rh, tk, ht, k⟩ => low.then (H0 := H) rs rh tk ht fun v H1 x h1 m1 r1 rh1 rs1 q1 => by
    cases r1 with
    | ref p =>
      obtain ⟨xs, e, q⟩ := (show ∃ xs, LstA h1 p xs ∧ ∀ r, h1 r = none → q (.ref r) (updA h1 r (.lst xs.reverse)) from q1)
      obtain ⟨vs, e', rv⟩ := rh1.rd e
      exact ⟨p, vs, rfl, e', fun r hr => k _ _ ⟨.ref r, _, m1.trans (Mono.new hr), .ref r, rh1.new hr (.lst rv.rev), q r (rh1.free hr)⟩⟩
    | _ => exact (show False from q1).elim
end

/-! ### methods of lists -/
abbrev ARm := A → List A → AH → AVK → Prop
def OpM (K : Frg) (r : V → List V → Hp → VK → Prop) (rA : ARm) : Prop := ∀ (H : Hp) (h : AH) (x : V) (a : A) (xs : List V) (as : List A) (Q : AVK) (Qv : VK), RelA K H a x → RelAs K H as xs → RelH K H h → (∀ v H', LQ K H Q v H' → Qv v H') → rA a as h Q → r x xs H Qv
def isLst (x : A) (h : AH) : Prop := match x with
  | .ref p => ∃ xs, LstA h p xs
  | _ => False
def aBmL (rA : ARm) (to : ATE) (t : ATA) : ATE := fun α h Q E => to α h (fun x h1 => isLst x h1 ∧ t α h1 (fun xs h2 => rA x xs h2 Q) E) E
section
variable {X : Cx} {o e : Expr} {es : List Expr} {to : ATE} {t : ATA} {name : Str} {apos cpos : Pos} {id : String} {r : V → List V → Hp → VK → Prop} {rA : ARm}
theorem isLst_rel {K : Frg} {H : Hp} {h : AH} {x : A} {v : V} (rh : RelH K H h) (r : RelA K H x v) (q : isLst x h) : tyV K "list" v H := by
  cases r with
  | ref p =>
    obtain ⟨xs, e⟩ := (show ∃ xs, LstA h p xs from q)
    obtain ⟨vs, e', _⟩ := rh.rd e
    exact .inl ⟨rfl, vs, e'⟩
  | _ => exact (show False from q).elim
theorem ae_bm (slot : Slot "list" name id) (hty : typeOf (.builtin id) = pure (.type "method_descriptor")) (hm : MtR X id r) (hr : OpM X.K r rA) (ho : AE X o to) (ha : AAs X (e :: es) t)
    (hbase : attributeBase o name X.env (eval o X.env) = eval o X.env := by rfl)
    (hfew : ((backTo cpos (starEach (e :: es) X.env)).all (fun x => !x.1) && (backToKw cpos (keywordEach [] X.env)).all (fun x => x.1.isSome)
      && decide ((e :: es).length + ([] : List Keyword).length + (if ([] : List Keyword).isEmpty then 0 else 1) < 30)) = true := by rfl)
    (hline : (apos.endLine == cpos.line) = true := by rfl) (hs : starEach (e :: es) X.env = (false, eval e X.env) :: starEach es X.env := by rfl) (hplain : (backTo cpos (starEach es X.env)).any (·.1) = false := by rfl) :
    AE X (.Call (.Attribute o name apos) (e :: es) [] cpos) (aBmL rA to t) := .of (pe_bm PySem.F.plainAttrs_list slot hty hm ho.pe ha.pa hbase hfew hline hs hplain) fun σ H Q ⟨α, h, q, E, rs, rh, tk, ht, k⟩ =>
  low.then (H0 := H) rs rh tk ht fun v H1 x h1 m1 r1 rh1 rs1 ⟨il, q1⟩ => ⟨isLst_rel rh1 r1 il, lowA.then rs1 rh1 (tk.up m1) q1 fun vs H2 xs h2 m2 r2 rh2 rs2 q2 => hr H2 h2 v x vs xs q Q (r1.up m2) r2 rh2 (fun z H' g => k _ _ (g.up (m1.trans m2))) q2⟩
theorem ae_bm0 (slot : Slot "list" name id) (hty : typeOf (.builtin id) = pure (.type "method_descriptor")) (hm : MtR X id r) (hr : OpM X.K r rA) (ho : AE X o to)
    (hbase : attributeBase o name X.env (eval o X.env) = eval o X.env := by rfl) (hline : (apos.endLine == cpos.line) = true := by rfl) : AE X (.Call (.Attribute o name apos) [] [] cpos) (aBmL rA to aNil) := .of (pe_bm0 PySem.F.plainAttrs_list slot hty hm ho.pe hbase hline) fun σ H Q ⟨α, h, q, E, rs, rh, tk, ht, k⟩ =>
  low.then (H0 := H) rs rh tk ht fun v H1 x h1 m1 r1 rh1 rs1 ⟨il, q1⟩ => ⟨isLst_rel rh1 r1 il, hr H1 h1 v x [] [] q Q r1 .nil rh1 (fun z H' g => k _ _ (g.up m1)) q1⟩
end
section
variable {K : Frg}
def appendA : ARm := fun x as h Q => match x, as with
  | .ref p, [y] => ∃ xs, h p = some (.lst xs) ∧ xs.length < sizeLine ∧ Q .non (updA h p (.lst (xs ++ [y])))
  | _, _ => False
theorem o_append : OpM K rAppend appendA := fun H h x a xs as Q Qv ra ras rh k q => by
  cases ra with
  | ref p => cases ras with
    | nil => exact (show False from q).elim
    | cons r1 t => cases t with
      | cons _ _ => exact (show False from q).elim
      | nil =>
        obtain ⟨ys, e, z, q⟩ := (show ∃ xs, h p = some (.lst xs) ∧ xs.length < sizeLine ∧ Q .non (updA h p (.lst (xs ++ [_]))) from q)
        obtain ⟨vs, f, rv⟩ := rh.lst e
        exact ⟨p, vs, _, rfl, rfl, f, by rw [← rv.len]; exact z, k _ _ ⟨.non, _, Mono.wr f ns_lst, .non, rh.wr f ns_lst (.lst (rv.app (.one r1))), q⟩⟩
  | _ => cases ras <;> exact (show False from q).elim
def reverseA : ARm := fun x as h Q => match x, as with
  | .ref p, [] => ∃ xs, h p = some (.lst xs) ∧ Q .non (updA h p (.lst xs.reverse))
  | _, _ => False
theorem o_reverse : OpM K rReverse reverseA := fun H h x a xs as Q Qv ra ras rh k q => by
  cases ra with
  | ref p => cases ras with
    | cons _ _ => exact (show False from q).elim
    | nil =>
      obtain ⟨ys, e, q⟩ := (show ∃ xs, h p = some (.lst xs) ∧ Q .non (updA h p (.lst xs.reverse)) from q)
      obtain ⟨vs, f, rv⟩ := rh.lst e
      exact ⟨p, vs, rfl, rfl, f, k _ _ ⟨.non, _, Mono.wr f ns_lst, .non, rh.wr f ns_lst (.lst rv.rev), q⟩⟩
  | _ => cases ras <;> exact (show False from q).elim
def clearA : ARm := fun x as h Q => match x, as with
  | .ref p, [] => ∃ xs, h p = some (.lst xs) ∧ Q .non (updA h p (.lst []))
  | _, _ => False
theorem o_clear : OpM K rClear clearA := fun H h x a xs as Q Qv ra ras rh k q => by
  cases ra with
  | ref p => cases ras with
    | cons _ _ => exact (show False from q).elim
    | nil =>
      obtain ⟨ys, e, q⟩ := (show ∃ xs, h p = some (.lst xs) ∧ Q .non (updA h p (.lst [])) from q)
      obtain ⟨vs, f, rv⟩ := rh.lst e
      exact ⟨p, vs, rfl, rfl, f, k _ _ ⟨.non, _, Mono.wr f ns_lst, .non, rh.wr f ns_lst (.lst .nil), q⟩⟩
  | _ => cases ras <;> exact (show False from q).elim
end

/-! ### raise, try -/
structure ExcK (K : Frg) (mg : Str → Option Value) (x : Str) (C : Addr) : Prop where
  q : PySem.W.excIn K C [.type "ValueError", .type "Exception", .type "BaseException", .type "object"] "ValueError.__new__" = true
  g : mg x = some (.ref C)
  kp : PySem.W.keepIn K (.ref C) = true
  b : PySem.W.subIn K (.ref C) (.type "BaseException") = some true
  t : PySem.W.typeIn K (.ref C) = some (.type "type")
def aRaise (C : Addr) : ATS := fun D α h => D.ex (.ref C) α h
theorem as_raise {X : Cx} {x m : Str} {C : Addr} {j : Nat} {p p2 pos pos' : Pos} (hc : X.calm = true) (T : ExcK X.K X.mg x C) (hg : Gl X x) (hdb : (x == ("__debug__" : Str)) = false := by decide) :
    AS X (.Raise (some (.Call (.Name x p) [.Constant (.str m) j p2] [] pos)) none pos') (aRaise C) :=
  ⟨fun pins s σ H α h D I rs rh ⟨Hb, mb, tk⟩ ht => (ps_raise hc tk (pmk_own PySem.F.excBase_ValueError T.q T.g T.kp (raises_own T.b T.t) hg hdb)).run pins s σ H _ I ⟨rfl, mb, α, h, rs, rh, ht⟩⟩
/-- the class of a caught exception: own, without a dict -/
def aTryOnly (K : Frg) (c : Value) (tb : ATS) (ts : Addr → Addr → ATS) : ATS := fun D α h => tb { D with ex := fun cls α' h' => ∃ b, PySem.W.exmOne K cls c = some b ∧
  (b = true → ∃ C, cls = .ref C ∧ ExcC K C ∧ ∀ a, h' a = none → ts a C { D with ex := fun _ _ _ => False } α' h') ∧ (b = false → D.ex cls α' h') } α h
def aTryAs (K : Frg) (c : Value) (i : Nat) (tb : ATS) (ts : Addr → Addr → ATS) : ATS := fun D α h => tb { D with ex := fun cls α' h' => ∃ b, PySem.W.exmOne K cls c = some b ∧
  (b = true → ∃ C, cls = .ref C ∧ ExcC K C ∧ ∀ a, h' a = none → ts a C { nx := fun α2 h2 => D.nx (α2.set i none) h2, rt := D.rt, bk := fun α2 h2 => D.bk (α2.set i none) h2, ct := fun α2 h2 => D.ct (α2.set i none) h2 } (α'.set i (some (.ref a))) h') ∧ (b = false → D.ex cls α' h') } α h
/-- a try body's reading, for any wish -/
def lowTry (X : Cx) (tb : ATS) (W : WX) : TS := fun D σ H => ∃ α h DA, RelS X.K H α σ ∧ RelH X.K H h ∧ tb DA α h ∧ (∀ cls d σ H', (d = none ∧ Mono H H' ∧ ∃ α h, RelS X.K H' α σ ∧ RelH X.K H' h ∧ DA.ex cls α h) → W cls d σ H') ∧ Reach X.K H DA D
theorem try_body {X : Cx} {body : List Stmt} {tb : ATS} (hb : ∀ (pn : List (Addr × Obj)) (xe : Value → Shared → Prop), PassesOwn (model X.prog X.w) X.A X.env xe → ASs (X.tr pn xe) body tb) :
    ∀ (W : WX) (pn : List (Addr × Obj)) (xe : Value → Shared → Prop), Takes (X.tr pn xe) W → PassesOwn (model X.prog X.w) X.A X.env xe → PSs (X.tr pn xe) body (lowTry X tb W) := fun W pn xe tk hp =>
  ⟨fun pins s σ H D I ⟨α, h, DA, rs, rh, ht, kW, k⟩ => thn ((hb pn xe hp).run pins s σ H α h DA I rs rh ⟨H, Mono.refl H, Takes.imp tk (kW)⟩ ht) fun f s' q => SP.imp q k.nx k.rt k.bk k.ct⟩
def lowSuite (X : Cx) (ts : Addr → Addr → ATS) (a : Addr) (cls : Value) (d : Option Addr) : TS := fun D σ H => ∃ C, cls = .ref C ∧ d = none ∧ ExcC X.K C ∧ ∃ α h DA, RelS X.K H α σ ∧ RelH X.K H h ∧ ts a C DA α h ∧ (∀ c α h, ¬ DA.ex c α h) ∧ Reach X.K H DA D
theorem try_suite {X : Cx} {b₀ : Stmt} {suite : List Stmt} {ts : Addr → Addr → ATS}
    (hsu : ∀ (a : Addr) (oe : Obj) (C : Addr) (pn : List (Addr × Obj)), ExcC X.K C → Zc (.ref C) none oe → (∃ vs, oe.data = .fields vs) → ASs (X.suite a ((a, oe) :: pn)) (b₀ :: suite) (ts a C)) :
    ∀ (a : Addr) (oe : Obj) (cls : Value) (d : Option Addr) (pn : List (Addr × Obj)), Zc cls d oe → (∃ vs, oe.data = .fields vs) → PSs (X.suite a ((a, oe) :: pn)) (b₀ :: suite) (lowSuite X ts a cls d) := fun a oe cls d pn hz hf =>
  ⟨fun pins s σ H D I ⟨C, e1, e2, ec, α, h, DA, rs, rh, ht, nx, k⟩ => by
    subst e1 e2
    refine thn ((hsu a oe C pn ec hz hf).run pins s σ H α h DA I rs rh ⟨H, Mono.refl H, fun u s' ⟨_, _, _, _, _, _, _, _, _, _, _, _, _, _, _, _, _, _, _, _, _, _, w⟩ => (nx _ _ _ w).elim⟩ ht) fun f s' q => SP.imp q k.nx k.rt k.bk k.ct⟩
section
variable {X : Cx} {x n : Str} {c : Value} {i : Nat} {body suite : List Stmt} {b₀ : Stmt} {np pos pos' : Pos} {tb : ATS} {ts : Addr → Addr → ATS}
theorem as_try_only (hs : X.stack = X.env :: X.outer) (hf : X.env.frame = some X.env.locals) (hc : Names X x c)
    (hb : ∀ (pn : List (Addr × Obj)) (xe : Value → Shared → Prop), PassesOwn (model X.prog X.w) X.A X.env xe → ASs (X.tr pn xe) body tb)
    (hsu : ∀ (a : Addr) (oe : Obj) (C : Addr) (pn : List (Addr × Obj)), ExcC X.K C → Zc (.ref C) none oe → (∃ vs, oe.data = .fields vs) → ASs (X.suite a ((a, oe) :: pn)) (b₀ :: suite) (ts a C)) :
    AS X (.Try body [.ExceptHandler (some (.Name x np)) none (b₀ :: suite) pos'] [] [] pos) (aTryOnly X.K c tb ts) :=
  ⟨fun pins s σ H α h D I rs rh ⟨Hb, mb, tk⟩ ht => (ps_try_only hs hf hc tk (try_body hb) (try_suite hsu)).run pins s σ H _ I ⟨α, h, _, rs, rh, ht, fun cls d σ' H' ⟨ed, m, α', h', rs', rh', b, eb, y, nn⟩ => by
    refine ⟨b, eb, fun e a ha => ?_, fun e => ⟨ed, mb.trans m, α', h', rs', rh', nn e⟩⟩
    obtain ⟨C, ec, xc, q⟩ := y e
    exact ⟨C, ec, ed, xc, α', h', _, rs', rh', q a (rh'.free ha), fun _ _ _ z => z, ⟨fun _ _ z => z.up m, fun _ _ z => z.up m, fun _ _ z => z.up m, fun _ _ z => z.up m⟩⟩, .self⟩⟩
theorem as_try_as (hs : X.stack = X.env :: X.outer) (hf : X.env.frame = some X.env.locals) (hN : X.N.Nodup) (hi : X.N[i]? = some n) (hln : X.env.kindOf n = some .local) (hc : Names X x c)
    (hb : ∀ (pn : List (Addr × Obj)) (xe : Value → Shared → Prop), PassesOwn (model X.prog X.w) X.A X.env xe → ASs (X.tr pn xe) body tb)
    (hsu : ∀ (a : Addr) (oe : Obj) (C : Addr) (pn : List (Addr × Obj)), ExcC X.K C → Zc (.ref C) none oe → (∃ vs, oe.data = .fields vs) → ASs (X.suite a ((a, oe) :: pn)) (b₀ :: suite) (ts a C)) :
    AS X (.Try body [.ExceptHandler (some (.Name x np)) (some n) (b₀ :: suite) pos'] [] [] pos) (aTryAs X.K c i tb ts) :=
  ⟨fun pins s σ H α h D I rs rh ⟨Hb, mb, tk⟩ ht => (ps_try_as (i := i) hs hf hN hi hln hc tk (try_body hb) (try_suite hsu)).run pins s σ H _ I ⟨α, h, _, rs, rh, ht, fun cls d σ' H' ⟨ed, m, α', h', rs', rh', b, eb, y, nn⟩ => by
    refine ⟨b, eb, fun e a ha => ?_, fun e => ⟨ed, mb.trans m, α', h', rs', rh', nn e⟩⟩
    obtain ⟨C, ec, xc, q⟩ := y e
    refine ⟨C, ec, ed, xc, α'.set i (some (.ref a)), h', _, rs'.set i (.ref a), rh', q a (rh'.free ha), fun _ _ _ z => z, ⟨fun σ2 H2 ⟨α2, h2, m2, rs2, rh2, q2⟩ => ?_, fun _ _ z => z.up m, fun σ2 H2 ⟨α2, h2, m2, rs2, rh2, q2⟩ => ?_, fun σ2 H2 ⟨α2, h2, m2, rs2, rh2, q2⟩ => ?_⟩⟩
    all_goals exact ⟨_, h2, m.trans m2, rs2.gone i, rh2, q2⟩, .self⟩⟩
/-! isinstance of the caught exception -/
def rIsEA (K : Frg) (D a : Addr) : List V → Hp → VK → Prop := fun xs H Q => rIsE K D a xs H Q ∨ ∃ (tp : Addr) (vs : List V) (us : List Value) (b : Bool), xs = [.ref a, .ref tp] ∧ TupAt K H tp vs ∧ Paired ClsV vs us ∧ PySem.W.kitAny K (.ref D) us = some b ∧ Q (.bl b) H
theorem call_isEA {X : Cx} {a D : Addr} {oe : Obj} {pn : List (Addr × Obj)} (C : ExcC X.K D) (hz : Zc (.ref D) none oe) (hf : ∃ vs, oe.data = .fields vs) : CallR (X.suite a ((a, oe) :: pn)) (.builtin "isinstance") (rIsEA X.K D a) := by
  intro pins s σ H xs us Q I r h
  rcases h with h | ⟨tp, vs, ws, b, rfl, hT, hP, e, q⟩
  · exact call_isE C hz hf pins s σ H xs us Q I r h
  · obtain ⟨u1, u2, rfl, r1, r2⟩ := vals2 r
    cases r1
    cases r2
    obtain ⟨hget, _⟩ := I.pin (a, oe) (List.mem_append.mpr (.inl List.mem_cons_self))
    obtain ⟨fs, hv⟩ := hf
    have J : PySem.W.InstAt s.heap a oe D none := by
      obtain ⟨oc, od, oda, osl⟩ := oe
      obtain ⟨h1, h2⟩ := hz
      dsimp only at h1 h2 hv
      subst h1 h2 hv
      exact ⟨hget, rfl, rfl, trivial⟩
    obtain ⟨its, rvv, ⟨o, ho, hcl, n, hd⟩, _⟩ := I.tuple hT.sq
    have eu : its = ws := vals_cls hP rvv
    subst eu
    obtain ⟨oc, od, oda, osl⟩ := o
    dsimp only at hcl hd
    subst hcl hd
    exact PySem.W.kia_tup (PySem.W.handS_kitx_exc C.hg C.hk C.hs C.hd C.ha C.hn C.ht C.hm) I.kIn J ho e (fun z => nomatch z) fun tk => ⟨.bl b, H, I.kept (t' := tk) fun _ _ z => z, rfl, q⟩
def isEA (K : Frg) (D a : Addr) : ARs := two fun x c h Q => match x, c with
  | .ref p, .tup cs => p = a ∧ cs.all isCls = true ∧ ∃ b, PySem.W.kitAny K (.ref D) (cs.map clsU) = some b ∧ Q (.bl b) h
  | .ref p, c => p = a ∧ isCls c = true ∧ ∃ b, PySem.W.kitOne K (.ref D) (clsU c) = some b ∧ Q (.bl b) h
  | _, _ => False
theorem o_isE {K : Frg} {D a : Addr} : OpN K (rIsEA K D a) (isEA K D a) := fun H h vs as Q Qv r rh k q => by
  obtain ⟨x, c, v, w, rfl, rx, rc, q⟩ := two_inv r q
  cases rx with
  | ref p =>
    have gen : (p = a ∧ isCls c = true ∧ ∃ b, PySem.W.kitOne K (.ref D) (clsU c) = some b ∧ Q (.bl b) h) → rIsEA K D a [.ref p, w] H Qv := fun ⟨e, ec, b, kt, q'⟩ => by
      subst e
      exact .inl ⟨w, clsU c, b, rfl, fun u ru => (cls_rel rc ec).eq ru, kt, k _ _ ⟨_, h, Mono.refl H, .bl _, rh, q'⟩⟩
    cases rc with
    | @tup tp xs vs e rv =>
      obtain ⟨rfl, ec, b, kt, q⟩ := (show p = a ∧ xs.all isCls = true ∧ ∃ b, PySem.W.kitAny K (.ref D) (xs.map clsU) = some b ∧ Q (.bl b) h from q)
      exact .inr ⟨tp, vs, _, b, rfl, e, clss_rel rv ec, kt, k _ _ ⟨_, h, Mono.refl H, .bl _, rh, q⟩⟩
    | _ => exact gen q
  | _ => cases rc <;> exact (show False from q).elim
end
end G
namespace G
open PySem PySem.Spec L2

/-! ### a < b < c -/
section
variable {X : Cx} {a b c : Expr} {pos : Pos} {ta tb tc : ATE} {r r' : R2} {rA rB : AR2} {op op' : CmpOp}
def aChn (rA rB : AR2) (ta tb tc : ATE) : ATE := fun α h Q E => ta α h (fun x h1 => tb α h1 (fun y h2 => rA x y h2 fun z h3 => asB z fun k => if k = true then tc α h3 (fun w h4 => rB y w h4 Q) E else Q (.bl false) h3) E) E
theorem low_chain (hr : Op2 X.K r rA) (hr' : Op2 X.K r' rB) {σ : L2.St} {H : Hp} {Qv : VK} (z : low X (aChn rA rB ta tb tc) σ H Qv) : tChain r r' (low X ta) (low X tb) (low X tc) σ H Qv := by
  obtain ⟨α, h, q, E, rs, rh, tk, ht, k⟩ := z
  refine low.then (H0 := H) rs rh tk ht fun v H1 x h1 m1 r1 rh1 rs1 q1 => low.then (H0 := H) rs1 rh1 (tk.up m1) q1 fun w H2 y h2 m2 r2 rh2 rs2 q2 => ?_
  refine hr H2 h2 v w x y _ _ (r1.up m2) r2 rh2 (fun z H3 ⟨za, h3, m3, r3, rh3, q3⟩ => ?_) q2
  obtain ⟨b, rfl, q4⟩ := bl_of r3 q3
  refine ⟨b, rfl, ?_⟩
  have mm := (m1.trans m2).trans m3
  cases b with
  | true =>
    rw [if_pos rfl] at q4
    exact iteT (low.then (H0 := H) (rs2.up m3) rh3 (tk.up mm) q4 fun u H4 w4 h4 m4 r4 rh4 rs4 q5 => hr' H4 h4 w u y w4 _ _ ((r2.up m3).up m4) r4 rh4 (fun z H5 g => k _ _ (g.up (mm.trans m4))) q5)
  | false =>
    rw [if_neg Bool.false_ne_true] at q4
    exact iteF (k _ _ ⟨_, h3, mm, .bl _, rh3, q4⟩)
theorem ae_chain (ho : OpR X (compareOp op) r) (ho' : OpR X (compareOp op') r') (hr : Op2 X.K r rA) (hr' : Op2 X.K r' rB) (ha : AE X a ta) (hb : AE X b tb) (hc : AE X c tc) (hm : lastMarks [op, op'] [b, c] = false := by rfl) :
    AE X (.Compare a [op, op'] [b, c] pos) (aChn rA rB ta tb tc) := .of (pe_chain ho ho' ha.pe hb.pe hc.pe hm) fun σ H Q z => low_chain hr hr' z
theorem at_chain (ho : OpR X (compareOp op) r) (ho' : OpR X (compareOp op') r') (hr : Op2 X.K r rA) (hr' : Op2 X.K r' rB) (ha : AE X a ta) (hb : AE X b tb) (hc : AE X c tc) (hm : lastMarks [op, op'] [b, c] = false := by rfl) :
    AT X (.Compare a [op, op'] [b, c] pos) (aTest (aChn rA rB ta tb tc)) := .of (pt_chain ho ho' ha.pe hb.pe hc.pe hm) fun σ H Q ⟨α, h, q, E, rs, rh, tk, ht, k⟩ => low_chain hr hr' ⟨α, h, _, E, rs, rh, tk, ht, fun v H' ⟨x, h', m, r1, rh', q1⟩ => by
  obtain ⟨b, e, q2⟩ := bl_of r1 q1
  exact ⟨b, e, k _ _ ⟨h', m, rh', q2⟩⟩⟩
end

/-! ### names of the module -/
section
variable {X : Cx} {x : Str} {pos : Pos}
theorem ae_gint {i : Int} (hg : Gl X x) (h : ∃ t, X.mg x = some (.int i t)) (hd : (x == ("__debug__" : Str)) = false := by decide) : AE X (.Name x pos) (aC (.int i)) := by
  obtain ⟨t, h⟩ := h
  exact ae_glob (v := .int i) hg h ⟨t, rfl⟩ (fun _ => .int i) hd
theorem ae_gref {C : Addr} (hg : Gl X x) (h : X.mg x = some (.ref C)) (hd : (x == ("__debug__" : Str)) = false := by decide) : AE X (.Name x pos) (aC (.ref C)) := ae_glob (v := .ref C) hg h rfl (fun _ => .ref C) hd
theorem ae_gval {p : Addr} {a : A} (hg : Gl X x) (h : X.mg x = some (.ref p)) (r : ∀ H, RelA X.K H a (.ref p)) (hd : (x == ("__debug__" : Str)) = false := by decide) : AE X (.Name x pos) (aC a) := ae_glob (v := .ref p) hg h rfl r hd
theorem ae_bty {n : String} (hg : Gl X x) (hm : X.mg x = none) (hv : bootBuiltins x = some (.type n)) (hn : x ≠ "__name__" := by decide) (hd : (x == ("__debug__" : Str)) = false := by decide) : AE X (.Name x pos) (aC (.ty n)) := ae_bltn (v := .ty n) hg hm hv rfl (fun _ => .ty n) hn hd
/-- {} -/
def aNewK : ATE := fun _ h Q _ => ∀ p, h p = none → Q (.ref p) (updA h p (.dK []))
def aNewT : ATE := fun _ h Q _ => ∀ p, h p = none → Q (.ref p) (updA h p (.dT []))
theorem ae_newK : AE X (.Dict [] [] pos) aNewK := .of pe_dnewK fun σ H Q ⟨α, h, q, E, rs, rh, tk, ht, k⟩ => fun p hp => k _ _ ⟨.ref p, _, Mono.new hp, .ref p, rh.new hp (.dK .nil), ht p (rh.free hp)⟩
theorem ae_newT : AE X (.Dict [] [] pos) aNewT := .of pe_dnewT fun σ H Q ⟨α, h, q, E, rs, rh, tk, ht, k⟩ => fun p hp => k _ _ ⟨.ref p, _, Mono.new hp, .ref p, rh.new hp (.dT .nil), ht p (rh.free hp)⟩
end

/-! ### defs -/
/-- the def at f keeps its promise -/
structure DefOk (P : Program) (w : World) (K : Frg) (mg : Str → Option Value) (base : Heap) (f : Addr) (k : Nat) (ps : List Str) (sp : ASp) : Prop where
  ex : ∃ fd, PySem.W.keepIn K (.ref f) = true ∧ Binds K fd ps [] ∧ AFn P w K mg base k f fd ps sp
section
variable {P : Program} {w : World} {K : Frg} {mg : Str → Option Value} {base : Heap} {x qual : Str} {params : Arguments} {body : List Stmt} {scope : Scope} {f : Addr} {N ps : List Str} {k : Nat} {sp : ASp} {t : ATS}
theorem defOk (F : ∃ fd, FunD K x qual params body scope [] [] f fd)
    (bind : ∀ (kV doc pm : Value) (an : Option Addr) (cdv ct : Value) (us : List Value), us.length = ps.length → bindArgs (PySem.W.fnOf x qual params body scope .none kV doc pm an cdv ct) ⟨us, []⟩ = pure (ps.zip us)) (S : FnScope N ps scope)
    (walk : ∀ (cdv : Value) (A : Around) (outer : List Env) (s : Shared) (H : Hp) (E : XK), Room k (cxOf (L2.CX P w) P w K mg base N qual scope f cdv A outer s H E).A →
      PassesOwn (model P w) (cxOf (L2.CX P w) P w K mg base N qual scope f cdv A outer s H E).A (cxOf (L2.CX P w) P w K mg base N qual scope f cdv A outer s H E).env (cxOf (L2.CX P w) P w K mg base N qual scope f cdv A outer s H E).xe →
      ASs (cxOf (L2.CX P w) P w K mg base N qual scope f cdv A outer s H E) body t)
    (len : ∀ as h Q E, sp as h Q E → as.length = ps.length)
    (read : ∀ as h Q E, sp as h Q E → t { nx := fun _ h' => Q .non h', rt := Q, ex := fun c _ h' => E c h' } (startA N as) h) : DefOk P w K mg base f (k + 1) ps sp := by
  obtain ⟨fd, F⟩ := F
  refine ⟨fd, F.kp, F.bindsN bind, fnA F S (fun X _ _ ⟨cdv, A, outer, s, H, E, e⟩ hr hp => ?_) len read⟩
  subst e
  exact walk cdv A outer s H E hr hp
theorem DefOk.mono {j : Nat} (F : DefOk P w K mg base f j ps sp) (h : j ≤ k) : DefOk P w K mg base f k ps sp := let ⟨fd, kp, b, F⟩ := F.ex; ⟨fd, kp, b, F.mono h⟩
theorem DefOk.imp {sp' : ASp} (F : DefOk P w K mg base f k ps sp) (h : ∀ as h Q E, sp' as h Q E → sp as h Q E) : DefOk P w K mg base f k ps sp' := let ⟨fd, kp, b, F⟩ := F.ex; ⟨fd, kp, b, F.imp h⟩
end
section
variable {X : Cx} {k : Nat} {f C : Addr} {ps : List Str} {sp : ASp} {x m : Str} {p pos apos : Pos} {e o : Expr} {es : List Expr} {ta : ATE} {t : ATA}
theorem c_call (F : DefOk X.prog X.w X.K X.mg X.base f k ps sp) (hr : Room k X.A) (hm : X.mg x = some (.ref f)) (ha : AAs X (e :: es) t) (hg : Gl X x := by rfl) (hdb : (x == ("__debug__" : Str)) = false := by decide) (he : starEach (e :: es) X.env = (false, eval e X.env) :: starEach es X.env := by rfl) (hpl : (backTo pos (starEach es X.env)).any (·.1) = false := by rfl) :
    AE X (.Call (.Name x p) (e :: es) [] pos) (aCall sp [] t) := by
  obtain ⟨fd, kp, b, F⟩ := F.ex
  exact ae_call F hr hg hm kp b .nil (fun _ => .nil) ha hdb he hpl
theorem c_call0 (F : DefOk X.prog X.w X.K X.mg X.base f k ps sp) (hr : Room k X.A) (hm : X.mg x = some (.ref f)) (hg : Gl X x := by rfl) (hdb : (x == ("__debug__" : Str)) = false := by decide) :
    AE X (.Call (.Name x p) [] [] pos) (aCall sp [] aNil) := by
  obtain ⟨fd, kp, b, F⟩ := F.ex
  exact ae_call0 F hr hg hm kp b .nil (fun _ => .nil) hdb
theorem c_meth {pl : Sem Bool} (he : AE X o ta) (c : Cls X.K C) (hm : Meth X.K C m f) (F : DefOk X.prog X.w X.K X.mg X.base f k ps sp) (hr : Room k X.A) (ha : AAs X (e :: es) t)
    (hst : starEach (e :: es) X.env = (false, eval e X.env) :: starEach es X.env := by rfl) (hpl : (backTo pos (starEach es X.env)).any (·.1) = false := by rfl)
    (ht : eval (.Call (.Attribute o m apos) (e :: es) [] pos) X.env = (do
      let ov ← eval o X.env
      standAt apos.atName
      let (f, first) ← holding [ov] (getMethod ov m pl)
      callWith pos f first (backTo pos (starEach (e :: es) X.env)) (backToKw pos (keywordEach [] X.env))) := by rfl) :
    AE X (.Call (.Attribute o m apos) (e :: es) [] pos) (aMeth C m sp [] ta t) := by
  obtain ⟨fd, kp, b, F⟩ := F.ex
  exact ae_meth he c hm F hr b .nil (fun _ => .nil) ha hst hpl ht
theorem c_meth0 {pl : Sem Bool} (he : AE X o ta) (c : Cls X.K C) (hm : Meth X.K C m f) (F : DefOk X.prog X.w X.K X.mg X.base f k ps sp) (hr : Room k X.A)
    (ht : eval (.Call (.Attribute o m apos) [] [] pos) X.env = (do
      let ov ← eval o X.env
      standAt apos.atName
      let (f, first) ← holding [ov] (getMethod ov m pl)
      callWith pos f first (backTo pos (starEach [] X.env)) (backToKw pos (keywordEach [] X.env))) := by rfl) :
    AE X (.Call (.Attribute o m apos) [] [] pos) (aMeth C m sp [] ta aNil) := by
  obtain ⟨fd, kp, b, F⟩ := F.ex
  exact ae_meth0 he c hm F hr b .nil (fun _ => .nil) ht
theorem c_make (M : Mk X.K C f) (F : DefOk X.prog X.w X.K X.mg X.base f k ps sp) (hr : Room (k + 1) X.A) (hm : X.mg x = some (.ref C)) (ha : AAs X (e :: es) t) (hg : Gl X x := by rfl) (hdb : (x == ("__debug__" : Str)) = false := by decide) (he : starEach (e :: es) X.env = (false, eval e X.env) :: starEach es X.env := by rfl) (hpl : (backTo pos (starEach es X.env)).any (·.1) = false := by rfl) :
    AE X (.Call (.Name x p) (e :: es) [] pos) (aMake C sp [] t) := by
  obtain ⟨fd, kp, b, F⟩ := F.ex
  exact ae_make M F hr hg hm b .nil (fun _ => .nil) ha hdb he hpl
theorem c_make0 (M : Mk X.K C f) (F : DefOk X.prog X.w X.K X.mg X.base f k ps sp) (hr : Room (k + 1) X.A) (hm : X.mg x = some (.ref C)) (hg : Gl X x := by rfl) (hdb : (x == ("__debug__" : Str)) = false := by decide) :
    AE X (.Call (.Name x p) [] [] pos) (aMake C sp [] aNil) := by
  obtain ⟨fd, kp, b, F⟩ := F.ex
  exact ae_make0 M F hr hg hm b .nil (fun _ => .nil) hdb
end

/-! ### tests whose answer hangs on the data -/
theorem ifd {c : Prop} [Decidable c] {x y : Prop} (h1 : c → x) (h2 : ¬ c → y) : if decide c = true then x else y := by
  by_cases h : c
  · rw [if_pos (decide_eq_true h)]; exact h1 h
  · rw [if_neg (by rw [decide_eq_false h]; exact Bool.false_ne_true)]; exact h2 h
theorem ifnd {c : Prop} [Decidable c] {x y : Prop} (h1 : ¬ c → x) (h2 : c → y) : if (!decide c) = true then x else y := by
  by_cases h : c
  · rw [if_neg (by rw [decide_eq_true h]; exact Bool.false_ne_true)]; exact h2 h
  · rw [if_pos (by rw [decide_eq_false h]; rfl)]; exact h1 h
theorem ifb {c : Bool} {x y : Prop} (h1 : c = true → x) (h2 : c = false → y) : if c = true then x else y := by
  cases c with
  | true => exact (if_pos rfl).mpr (h1 rfl)
  | false => exact (if_neg Bool.false_ne_true).mpr (h2 rfl)
theorem ifT {x y : Prop} (h : x) : if true = true then x else y := (if_pos rfl).mpr h
theorem ifF {x y : Prop} (h : y) : if false = true then x else y := (if_neg Bool.false_ne_true).mpr h
end G
namespace G
open PySem PySem.Spec L2

/-! ### the head's facts, each a Bool of the written part -/
abbrev AlG : Type := Bool × List He.FnW
def obsF (fb : List (Frg → Bool)) (fn : List He.DefD) (K : Frg) : AlG := ((fb.all fun f => f K) && fn.all fun d => d.ok K, fn.map fun d => He.fnW K d.at_)
def valG (fn : List He.DefD) : AlG := (true, fn.map He.DefD.val)
def SaysG (fb : List (Frg → Bool)) (fn : List He.DefD) (K : Frg) : Prop := obsF fb fn K = valG fn
def obsG (n : Nat) (fb : List (Frg → Bool)) (fn : List He.DefD) (g : Addr → Option Obj) : AlG := obsF fb fn (He.frG g (He.asD g n))
def hookG (n : Nat) (fb : List (Frg → Bool)) (fn : List He.DefD) : PySem.W.Hook where
  α := AlG
  obs := fun s => obsG n fb fn s.heap.get?
  val := fun _ => valG fn
  says := fun _ h => ∃ K : Frg, K.In h ∧ SaysG fb fn K
  of := fun _ _ e => ⟨_, He.frG_in, e⟩
  keeps := fun _ _ _ ⟨K, hK, c⟩ k => ⟨K, PySem.W.Frag.In.keeps hK k, c⟩
theorem obsG_eq {n : Nat} {fb : List (Frg → Bool)} {fn : List He.DefD} {g : Addr → Option Obj} {s : Shared} (h : ∀ a, g a = s.heap.get? a) : obsG n fb fn g = (hookG n fb fn).obs s := by
  have e : g = s.heap.get? := funext h
  rw [e] <;> rfl
section
variable {fb : List (Frg → Bool)} {fn : List He.DefD} {K : Frg}
theorem SaysG.fact (c : SaysG fb fn K) (i : Nat) {f : Frg → Bool} (h : fb[i]? = some f := by rfl) : f K = true := by
  have c1 := (He.ba (show ((fb.all fun f => f K) && fn.all fun d => d.ok K) = true from congrArg (fun z : AlG => z.1) c)).1
  exact List.all_eq_true.mp c1 f (List.mem_of_getElem? h)
theorem SaysG.def_ (c : SaysG fb fn K) (i : Nat) {d : He.DefD} (h : fn[i]? = some d := by rfl) : ∃ fd, FunD K d.name d.qual d.params d.body d.scope (d.dvs K) (d.kws K) (He.fAd K d.at_) fd := by
  have c2 := (He.ba (show ((fb.all fun f => f K) && fn.all fun d => d.ok K) = true from congrArg (fun z : AlG => z.1) c)).2
  have e : fn.map (fun d => He.fnW K d.at_) = fn.map He.DefD.val := congrArg (fun z : AlG => z.2) c
  have e2 : (fn.map fun d => He.fnW K d.at_)[i]? = (fn.map He.DefD.val)[i]? := by rw [e]
  rw [List.getElem?_map, List.getElem?_map, h] at e2
  exact He.DefD.funD (Option.some.inj e2) (List.all_eq_true.mp c2 d (List.mem_of_getElem? h))
end
/-- a tuple constant of the written part -/
def relAB (K : Frg) : Nat → A → Value → Bool
  | 0, _, _ => false
  | n + 1, a, u => match a, u with
    | .non, .none => true
    | .bl b, .bool c => b == c
    | .int i, .int j _ => decide (i = j)
    | .str x, .str y _ => decide (x = y)
    | .tup xs, .ref p => (match K.lookup p with
      | some ⟨.type c, _, .seq its _, _⟩ => decide (c = "tuple") && (decide (its.size ≤ sizeLine) && (decide (xs.length = its.size) && ((xs.zip its.toList).all fun q => relAB K n q.1 q.2)))
      | _ => false)
    | _, _ => false
theorem relAB_ok {K : Frg} : ∀ (n : Nat) (a : A) (u : Value), relAB K n a u = true → ∃ v, RelV v u ∧ ∀ H, RelA K H a v
  | 0, _, _, h => nomatch h
  | n + 1, a, u, h => by
    unfold relAB at h
    split at h
    · exact ⟨.non, rfl, fun _ => .non⟩
    · obtain rfl := eq_of_beq h
      exact ⟨.bl _, rfl, fun _ => .bl _⟩
    · obtain rfl := of_decide_eq_true h
      exact ⟨.int _, ⟨_, rfl⟩, fun _ => .int _⟩
    · obtain rfl := of_decide_eq_true h
      exact ⟨.str _, ⟨_, rfl⟩, fun _ => .str _⟩
    · rename_i xs p
      split at h
      · rename_i c d its m sl q
        obtain ⟨g1, h2⟩ := He.ba h
        obtain ⟨g2, h3⟩ := He.ba h2
        obtain ⟨g3, g4⟩ := He.ba h3
        have gl : xs.length = its.toList.length := by rw [of_decide_eq_true g3]; simp
        have all : ∀ (ys : List A) (us : List Value), ys.length = us.length → ((ys.zip us).all fun q => relAB K n q.1 q.2) = true → ∃ vs, Vals vs us ∧ ∀ H, RelAs K H ys vs := by
          intro ys
          induction ys with
          | nil =>
            intro us hl _
            cases us with
            | nil => exact ⟨[], .nil, fun _ => .nil⟩
            | cons _ _ => cases hl
          | cons y ys ih =>
            intro us hl ha
            cases us with
            | nil => cases hl
            | cons u us =>
              rw [List.zip_cons_cons, List.all_cons, Bool.and_eq_true] at ha
              obtain ⟨v, r, rA⟩ := relAB_ok n y u ha.1
              obtain ⟨vs, rs, rAs⟩ := ih us (Nat.succ.inj hl) ha.2
              exact ⟨v :: vs, .cons r rs, fun H => .cons (rA H) (rAs H)⟩
        obtain ⟨vs, rs, rAs⟩ := all xs its.toList gl g4
        exact ⟨.ref p, rfl, fun H => .tup (.inr ⟨_, its, m, q, congrArg Value.type (of_decide_eq_true g1), rfl, of_decide_eq_true g2, rs⟩) (rAs H)⟩
      · cases h
    · cases h
/-- a module's constant -/
def constB (K : Frg) (x : Str) (a : A) : Bool := match PySem.W.nsIn K mainGlobals x with
  | some (some u) => relAB K 8 a u
  | _ => false
theorem constB_ok {K : Frg} {h : Heap} {mg : Str → Option Value} (X : K.In h) (G : h.Ns mainGlobals mg) {x : Str} {a : A} (c : constB K x a = true) : ∃ u v, mg x = some u ∧ RelV v u ∧ ∀ H, RelA K H a v := by
  unfold constB at c
  cases e : PySem.W.nsIn K mainGlobals x with
  | none => rw [e] at c; cases c
  | some o =>
    cases o with
    | none => rw [e] at c; cases c
    | some u =>
      rw [e] at c
      obtain ⟨v, r, rA⟩ := relAB_ok 8 a u c
      exact ⟨u, v, PySem.W.mg_of X G e, r, rA⟩
theorem ae_gcon {X : Cx} {x : Str} {pos : Pos} {a : A} (hg : Gl X x) (h : ∃ u v, X.mg x = some u ∧ RelV v u ∧ ∀ H, RelA X.K H a v) (hd : (x == ("__debug__" : Str)) = false := by decide) : AE X (.Name x pos) (aC a) := by
  obtain ⟨u, v, h, r, rA⟩ := h
  exact ae_glob hg h r rA hd
/-! exceptions -/
def excCB (K : Frg) (D : Addr) : Bool := He.eqO (PySem.W.findIn K (.ref D) "__getattribute__") (some (some (.builtin "BaseException.__getattribute__"))) && (He.eqO (PySem.W.findIn K (.ref D) "__getattr__") (some none) &&
  (decide (PySem.W.subIn K (.ref D) (.type "BaseException") = some true) && (PySem.W.hasDictIn K D && (He.eqO (PySem.W.findIn K (.ref D) "__class__") (some (some (.builtin "object.__class__"))) &&
  (He.eqO (PySem.W.specialIn K (.builtin "object.__class__") "__get__") (some (some (.builtin "getset_descriptor.__get__"))) && (decide (PySem.W.takesIn K (.builtin "object.__class__") = some true) && decide (PySem.W.mroIn K D (.type "object") = some true)))))))
theorem excCB_ok {K : Frg} {D : Addr} (c : excCB K D = true) : ExcC K D := by
  obtain ⟨c1, c⟩ := He.ba c
  obtain ⟨c2, c⟩ := He.ba c
  obtain ⟨c3, c⟩ := He.ba c
  obtain ⟨c4, c⟩ := He.ba c
  obtain ⟨c5, c⟩ := He.ba c
  obtain ⟨c6, c⟩ := He.ba c
  obtain ⟨c7, c8⟩ := He.ba c
  exact ⟨He.eqO_ok c1, He.eqO_ok c2, of_decide_eq_true c3, c4, He.eqO_ok c5, He.eqO_ok c6, of_decide_eq_true c7, of_decide_eq_true c8⟩
theorem excK_ok {K : Frg} {h : Heap} {mg : Str → Option Value} (X : K.In h) (G : h.Ns mainGlobals mg) {x : Str} (c0 : (He.Fa.glo x).ok K = true) (c : (He.Fa.exc x).ok K = true) : ExcK K mg x (He.ga K x) := by
  obtain ⟨q, kp, b, t⟩ := He.exc_ok c
  exact ⟨q, He.glo_ok X G c0, kp, b, t⟩
def insCB (K : Frg) (x : Str) : Bool := (He.Fa.cls x).ok K && (He.eqO (PySem.W.findIn K (.ref (He.ga K x)) "__class__") (some (some (.builtin "object.__class__"))) &&
  (He.eqO (PySem.W.specialIn K (.builtin "object.__class__") "__get__") (some (some (.builtin "getset_descriptor.__get__"))) && (decide (PySem.W.takesIn K (.builtin "object.__class__") = some true) && decide (PySem.W.mroIn K (He.ga K x) (.type "object") = some true))))
theorem insC_ok {K : Frg} {x : Str} (c : insCB K x = true) : InsCls K (He.ga K x) := by
  obtain ⟨c1, c⟩ := He.ba c
  obtain ⟨c2, c⟩ := He.ba c
  obtain ⟨c3, c⟩ := He.ba c
  obtain ⟨c4, c5⟩ := He.ba c
  exact ⟨He.cls_ok c1, He.eqO_ok c2, He.eqO_ok c3, of_decide_eq_true c4, of_decide_eq_true c5⟩
def clsFB (K : Frg) (x f : Str) : Bool := (He.Fa.cls x).ok K && (He.Fa.noat x f).ok K
theorem clsF_ok {K : Frg} {x f : Str} (c : clsFB K x f = true) : ClsF K (He.ga K x) f := by
  obtain ⟨c1, c2⟩ := He.ba c
  exact ⟨He.cls_ok c1, He.noat_ok c2⟩
def exKB (K : Frg) (x : Str) : Bool := (He.Fa.glo x).ok K && (He.Fa.exc x).ok K
theorem exK_ok {K : Frg} {h : Heap} {mg : Str → Option Value} (X : K.In h) (G : h.Ns mainGlobals mg) {x : Str} (c : exKB K x = true) : ExcK K mg x (He.ga K x) := by
  obtain ⟨c1, c2⟩ := He.ba c
  exact excK_ok X G c1 c2
def exmB (K : Frg) (c d : Value) (b : Bool) : Bool := decide (PySem.W.exmOne K c d = some b)
theorem exmB_ok {K : Frg} {c d : Value} {b : Bool} (h : exmB K c d b = true) : PySem.W.exmOne K c d = some b := of_decide_eq_true h
def oneB (K : Frg) (c d : Value) (b : Bool) : Bool := decide (PySem.W.kitOne K c d = some b)
theorem oneB_ok {K : Frg} {c d : Value} {b : Bool} (h : oneB K c d b = true) : PySem.W.kitOne K c d = some b := of_decide_eq_true h
/-! the law's own end -/
theorem law_end {l : PySem.W.OpenLaw} {k : Nat} {q : Program} {loose : List Str} {XP : (Str → Option Value) → Heap → Prop} {YP : World → Heap → Prop} {d : DefRec} {sp : Frg → ASp}
    (hn : l.most = some 63) (hdf : d.params.defaults = []) (hr : Room k callerA)
    (F : ∀ (w : World) (mg : Str → Option Value) (fa : Addr) (h : Heap), YP w h → h.Ns mainGlobals mg → mg d.name = some (.ref fa) →
      ∃ (K : Frg) (fd : FuncData), K.In h ∧ (∀ (s : Shared) (u : Value), BindsTo s fd ⟨[u], []⟩ [("script", u)]) ∧
        (∀ (ns : List Int), ns.length ≤ 63 → (∀ z ∈ ns, Builtin.Int.intBits z ≤ 1048576) → sp K [.fls (ns.map A.int)] (fun _ => none) (fun v _ => v = .bl true) AE0) ∧
        ∀ base : Heap, K.In base → base.Ns mainGlobals mg → AFn l.prog w K mg base k fa fd ["script"] (sp K)) :
    PySem.W.WalkO q loose XP YP l.row.toRowW d [] (fun f vs => PySem.call f vs) := by
  refine Att.attach_callB hn hdf fun w s₀ s₁ mg mb fa o pm cd doc a vs ns Gr Y ho hd hcd hmg hobj hints hlen hbits hg => ?_
  obtain ⟨K, fd, KX, hb, hsp, hF⟩ := F w mg fa _ Y Gr.T.g hmg
  refine law_call KX Gr.T.g Gr.T.b Gr.T.builtins Gr.T.nolimit hg hobj hints (Nat.le_trans hlen (by decide)) hr hF hb (fun H hO hS => ?_) ?_
  · have fl : FlAt K H a (ns.map V.int) := by
      rcases hS with (e | e) | e
      · rcases hO a with z | ⟨ob, xs, z⟩
        · rw [e] at z; cases z
        · rw [e] at z; cases z
      · exact .inl e
      · exact .inr e
    have rl : ∀ zs : List Int, RelAs K H (zs.map A.int) (zs.map V.int) := by
      intro zs
      induction zs with
      | nil => exact .nil
      | cons z zs ih => exact .cons (.int z) ih
    refine ⟨[.fls (ns.map A.int)], fun _ => none, _, _, .one (.fls fl (rl ns)), (fun b u z => by cases (show none = some u from z)), hsp ns hlen hbits, ?_, ?_⟩
    · rintro v H' ⟨x, h', m, r, _, e⟩
      have e : x = .bl true := e
      subst e
      cases r
      rfl
    · rintro c dd H' ⟨_, h', m, _, z⟩
      exact z
  · intro H e s' ⟨_, _, _, _, _, _, _, _, _, _, _, _, z⟩
    exact z
end G
namespace G
open PySem PySem.Spec L2

/-! ### promises by the number of arguments -/
abbrev Sp0 := AH → AVK → AXK → Prop
abbrev Sp1 := A → Sp0
abbrev Sp2 := A → Sp1
abbrev Sp3 := A → Sp2
abbrev Sp4 := A → Sp3
abbrev Sp5 := A → Sp4
abbrev Sp6 := A → Sp5
def sp0 (R : Sp0) : ASp := fun as h Q E => match as with
  | [] => R h Q E
  | _ => False
def sp1 (R : Sp1) : ASp := fun as h Q E => match as with
  | [a] => R a h Q E
  | _ => False
def sp2 (R : Sp2) : ASp := fun as h Q E => match as with
  | [a, b] => R a b h Q E
  | _ => False
def sp3 (R : Sp3) : ASp := fun as h Q E => match as with
  | [a, b, c] => R a b c h Q E
  | _ => False
def sp4 (R : Sp4) : ASp := fun as h Q E => match as with
  | [a, b, c, d] => R a b c d h Q E
  | _ => False
def sp5 (R : Sp5) : ASp := fun as h Q E => match as with
  | [a, b, c, d, e] => R a b c d e h Q E
  | _ => False
def sp6 (R : Sp6) : ASp := fun as h Q E => match as with
  | [a, b, c, d, e, f] => R a b c d e f h Q E
  | _ => False
theorem sp0_in {R : Sp0} {T : List A → AH → AVK → AXK → Prop} (h : ∀ h Q E, R h Q E → T [] h Q E) : ∀ as h Q E, sp0 R as h Q E → T as h Q E := fun as g Q E q => match as, q with
  | [], q => h g Q E q
theorem sp1_in {R : Sp1} {T : List A → AH → AVK → AXK → Prop} (h : ∀ a h Q E, R a h Q E → T [a] h Q E) : ∀ as h Q E, sp1 R as h Q E → T as h Q E := fun as g Q E q => match as, q with
  | [a], q => h a g Q E q
theorem sp2_in {R : Sp2} {T : List A → AH → AVK → AXK → Prop} (h : ∀ a b h Q E, R a b h Q E → T [a, b] h Q E) : ∀ as h Q E, sp2 R as h Q E → T as h Q E := fun as g Q E q => match as, q with
  | [a, b], q => h a b g Q E q
theorem sp3_in {R : Sp3} {T : List A → AH → AVK → AXK → Prop} (h : ∀ a b c h Q E, R a b c h Q E → T [a, b, c] h Q E) : ∀ as h Q E, sp3 R as h Q E → T as h Q E := fun as g Q E q => match as, q with
  | [a, b, c], q => h a b c g Q E q
theorem sp4_in {R : Sp4} {T : List A → AH → AVK → AXK → Prop} (h : ∀ a b c d h Q E, R a b c d h Q E → T [a, b, c, d] h Q E) : ∀ as h Q E, sp4 R as h Q E → T as h Q E := fun as g Q E q => match as, q with
  | [a, b, c, d], q => h a b c d g Q E q
theorem sp5_in {R : Sp5} {T : List A → AH → AVK → AXK → Prop} (h : ∀ a b c d e h Q E, R a b c d e h Q E → T [a, b, c, d, e] h Q E) : ∀ as h Q E, sp5 R as h Q E → T as h Q E := fun as g Q E q => match as, q with
  | [a, b, c, d, e], q => h a b c d e g Q E q
theorem sp6_in {R : Sp6} {T : List A → AH → AVK → AXK → Prop} (h : ∀ a b c d e f h Q E, R a b c d e f h Q E → T [a, b, c, d, e, f] h Q E) : ∀ as h Q E, sp6 R as h Q E → T as h Q E := fun as g Q E q => match as, q with
  | [a, b, c, d, e, f], q => h a b c d e f g Q E q

/-! ### heaps that grow -/
/-- but at M all that stands stays -/
def Fx (M : Addr → Prop) (h h' : AH) : Prop := ∀ a o, ¬ M a → h a = some o → h' a = some o
abbrev Ext (h h' : AH) : Prop := ∀ a o, h a = some o → h' a = some o
section
variable {M : Addr → Prop} {h h1 h2 h3 : AH} {a p : Addr} {o : AO}
theorem Ext.refl (h : AH) : Ext h h := fun _ _ e => e
theorem Ext.trans (a : Ext h h1) (b : Ext h1 h2) : Ext h h2 := fun c o e => b c o (a c o e)
theorem Ext.new (e : h p = none) : Ext h (updA h p o) := fun c u z => by
  rw [updA_ne (fun q => by subst q; rw [e] at z; cases z)]; exact z
theorem Fx.refl (h : AH) : Fx M h h := fun _ _ _ e => e
theorem Fx.trans (a : Fx M h h1) (b : Fx M h1 h2) : Fx M h h2 := fun c o n e => b c o n (a c o n e)
theorem Ext.fx (a : Ext h h1) : Fx M h h1 := fun c o _ e => a c o e
theorem Fx.wr (m : M p) : Fx M h (updA h p o) := fun c u n z => by
  rw [updA_ne (fun q => n (by rw [q]; exact m))]; exact z
theorem Fx.new (e : h p = none) : Fx M h (updA h p o) := (Ext.new e).fx
theorem Fx.ext (f : Fx (fun _ => False) h h1) : Ext h h1 := fun c o e => f c o (fun z => z) e
theorem ne_none {p q : Addr} (e : h p = some o) (n : h q = none) : p ≠ q := fun z => by subst z; rw [e] at n; cases n
end

/-! ### isinstance of the plain kinds -/
theorem kit_refl {K : Frg} (t : Value) : PySem.W.kitOne K t t = some true := by
  unfold PySem.W.kitOne
  rw [if_pos (beq_iff_eq.mpr rfl)]
/-- the built-in kind of a value -/
def kindA (h : AH) : A → Option String
  | .non => some "NoneType"
  | .bl _ => some "bool"
  | .int _ => some "int"
  | .str _ => some "str"
  | .tup _ => some "tuple"
  | .kt _ => some "tuple"
  | .ref p => match h p with
    | some (.lst _) => some "list"
    | some (.dK _) => some "dict"
    | some (.dT _) => some "dict"
    | _ => none
  | .ty _ => none
  | .fls _ => some "list"
def kindIs (k c : String) : Bool := k == c || (k == "bool" && c == "int")
theorem kind_ty {K : Frg} {h : AH} {x : A} {k : String} (e : kindA h x = some k) : tyU K x h (.type k) := by
  cases x with
  | ref p =>
    simp only [kindA] at e
    cases q : h p with
    | none => rw [q] at e; cases e
    | some o =>
      rw [q] at e
      cases o with
      | lst xs => cases e; exact .inl ⟨⟨xs, q⟩, rfl⟩
      | dK xs => cases e; exact .inr (.inl ⟨.inl ⟨xs, q⟩, rfl⟩)
      | dT xs => cases e; exact .inr (.inl ⟨.inr ⟨xs, q⟩, rfl⟩)
      | _ => cases e
  | ty n => cases e
  | fls xs => cases e; rfl
  | _ => cases e; rfl
def kinds : List String := ["NoneType", "bool", "int", "str", "tuple", "list", "dict"]
def kindsC : List String := ["bool", "int", "str", "tuple", "list", "dict"]
theorem kit_all : (kinds.all fun k => kindsC.all fun c => decide (PySem.W.kitOne [] (.type k) (.type c) = some (kindIs k c))) = true := by decide +kernel
theorem kit_kind {K : Frg} {k c : String} (hk : k ∈ kinds) (hc : c ∈ kindsC) : PySem.W.kitOne K (.type k) (.type c) = some (kindIs k c) := by
  have e : PySem.W.kitOne K (.type k) (.type c) = PySem.W.kitOne [] (.type k) (.type c) := rfl
  rw [e]
  exact of_decide_eq_true (List.all_eq_true.mp (List.all_eq_true.mp kit_all k hk) c hc)
theorem kind_mem {h : AH} {x : A} {k : String} (e : kindA h x = some k) : k ∈ kinds := by
  cases x with
  | ref p =>
    simp only [kindA] at e
    cases q : h p with
    | none => rw [q] at e; cases e
    | some o =>
      rw [q] at e
      cases o <;> first | (cases e; done) | (cases e; decide)
  | ty n => cases e
  | fls xs => cases e; decide
  | _ => cases e; decide
/-- isinstance(x, T), isinstance(x, (T, U)) of a plain value -/
theorem isi_kind {K : Frg} {h : AH} {x : A} {k c : String} {Q : AVK} (e : kindA h x = some k) (q : Q (.bl (kindIs k c)) h) (hc : c ∈ kindsC := by decide) : isiA K [x, .ty c] h Q :=
  ⟨rfl, .type k, kindIs k c, kind_ty e, kit_kind (kind_mem e) hc, q⟩
theorem isi_kind2 {K : Frg} {h : AH} {x : A} {k c d : String} {Q : AVK} (e : kindA h x = some k) (q : Q (.bl (kindIs k c || kindIs k d)) h) (hc : c ∈ kindsC := by decide) (hd : d ∈ kindsC := by decide) : isiA K [x, .tup [.ty c, .ty d]] h Q := by
  refine ⟨rfl, .type k, _, kind_ty e, ?_, q⟩
  show PySem.W.kitAny K (.type k) [.type c, .type d] = _
  unfold PySem.W.kitAny PySem.W.kitAny PySem.W.kitAny
  rw [kit_kind (kind_mem e) hc, kit_kind (kind_mem e) hd]
  cases kindIs k c <;> cases kindIs k d <;> rfl
end G
namespace G
open PySem PySem.Spec L2
open Classical

/-! ### ghost heaps -/
noncomputable def hid (M : Addr → Prop) (h : AH) : AH := fun p => if M p then none else h p
noncomputable def nw (h h' : AH) : AH := fun p => if h p = none then h' p else none
section
variable {M M' : Addr → Prop} {h h' h'' h1 h2 : AH} {a p : Addr} {o : AO}
theorem hid_get (n : ¬ M p) : hid M h p = h p := if_neg n
theorem hid_some (e : hid M h p = some o) : ¬ M p ∧ h p = some o := by
  unfold hid at e
  split at e
  · cases e
  · exact ⟨‹_›, e⟩
theorem hid_of (n : ¬ M p) (e : h p = some o) : hid M h p = some o := by rw [hid_get n]; exact e
theorem hid_ext : Ext (hid M h) h := fun _ _ e => (hid_some e).2
theorem hid_sub (k : ∀ p, M' p → M p) : Ext (hid M h) (hid M' h) := fun p _ e => hid_of (fun z => (hid_some e).1 (k p z)) (hid_some e).2
theorem Fx.hd (f : Fx M h h') : Ext (hid M h) (hid M h') := fun p o e => hid_of (hid_some e).1 (f p o (hid_some e).1 (hid_some e).2)
theorem Fx.hdX (f : Fx M h h') : Ext (hid M h) h' := fun p o e => f p o (hid_some e).1 (hid_some e).2
theorem Fx.sub (f : Fx M h h') (k : ∀ p, M p → M' p) : Fx M' h h' := fun p o n e => f p o (fun z => n (k p z)) e
theorem Ext.hd (e : Ext h h') : Ext (hid M h) (hid M h') := fun p o z => hid_of (hid_some z).1 (e p o (hid_some z).2)
theorem nw_some (e : nw h h' p = some o) : h p = none ∧ h' p = some o := by
  unfold nw at e
  split at e
  · exact ⟨‹_›, e⟩
  · cases e
theorem nw_of (n : h p = none) (e : h' p = some o) : nw h h' p = some o := by unfold nw; rw [if_pos n]; exact e
theorem nw_ext : Ext (nw h h') h' := fun _ _ e => (nw_some e).2
theorem nw_up (e : Ext h' h'') : Ext (nw h h') (nw h h'') := fun _ _ z => nw_of (nw_some z).1 (e _ _ (nw_some z).2)
/-- what was new stays where only old things change -/
theorem nw_fx (f : Fx M h' h'') (k : ∀ p, M p → h p ≠ none) : Ext (nw h h') (nw h h'') := fun p o z => nw_of (nw_some z).1 (f p o (fun m => k p m (nw_some z).1) (nw_some z).2)
theorem nw_less (e : Ext h h1) : Ext (nw h1 h') (nw h h') := fun p o z => nw_of (by
  cases q : h p with
  | none => rfl
  | some u => have k := (nw_some z).1; rw [e p u q] at k; cases k) (nw_some z).2
theorem Ext.isN (e : Ext h h') (n : h' p = none) : h p = none := by
  cases q : h p with
  | none => rfl
  | some u => rw [e p u q] at n; cases n
/-- the parts of a heap that stand -/
theorem kindA_up (e : Ext h h') {x : A} {k : String} (q : kindA h x = some k) : kindA h' x = some k := by
  cases x with
  | ref p =>
    simp only [kindA] at q ⊢
    cases z : h p with
    | none => rw [z] at q; cases q
    | some o => rw [z] at q; rw [e p o z]; exact q
  | _ => exact q
/-- the items of a list or a tuple -/
def itA (h : AH) : A → Option (List A)
  | .ref p => match h p with
    | some (.lst xs) => some xs
    | _ => none
  | .tup xs => some xs
  | _ => none
theorem itA_up (e : Ext h h') {x : A} {xs : List A} (q : itA h x = some xs) : itA h' x = some xs := by
  cases x with
  | ref p =>
    simp only [itA] at q ⊢
    cases z : h p with
    | none => rw [z] at q; cases q
    | some o => rw [z] at q; rw [e p o z]; exact q
  | _ => exact q
theorem itA_ref {p : Addr} {xs : List A} : itA h (.ref p) = some xs ↔ h p = some (.lst xs) := by
  constructor
  · intro q
    simp only [itA] at q
    cases z : h p with
    | none => rw [z] at q; cases q
    | some o =>
      rw [z] at q
      cases o with
      | lst ys => cases q; rfl
      | _ => cases q
  · intro q
    simp only [itA]
    rw [q]
/-- where an item is asked: x is a list or a tuple -/
theorem seqA_it {x : A} {xs : List A} {R : List A → Prop} (q : itA h x = some xs) (r : R xs) : seqA x h R := by
  cases x with
  | ref p => exact ⟨xs, itA_ref.mp q, r⟩
  | tup ys => cases q; exact r
  | _ => cases q
theorem kind_it {x : A} {xs : List A} (q : itA h x = some xs) : (kindA h x = some "list" ∧ ∃ p, x = .ref p ∧ h p = some (.lst xs)) ∨ (kindA h x = some "tuple" ∧ x = .tup xs) := by
  cases x with
  | ref p =>
    have e := itA_ref.mp q
    exact .inl ⟨by simp only [kindA]; rw [e], p, rfl, e⟩
  | tup ys => cases q; exact .inr ⟨rfl, rfl⟩
  | _ => cases q
end

/-- a def whose promise promises nothing -/
theorem defOk0 {P : Program} {w : World} {K : Frg} {mg : Str → Option Value} {base : Heap} {x qual : Str} {params : Arguments} {body : List Stmt} {scope : Scope} {f : Addr} {N ps : List Str} {k : Nat} {sp : ASp}
    (F : ∃ fd, FunD K x qual params body scope [] [] f fd)
    (bind : ∀ (kV doc pm : Value) (an : Option Addr) (cdv ct : Value) (us : List Value), us.length = ps.length → bindArgs (PySem.W.fnOf x qual params body scope .none kV doc pm an cdv ct) ⟨us, []⟩ = pure (ps.zip us)) (S : FnScope N ps scope)
    (no : ∀ as h Q E, sp as h Q E → False) : DefOk P w K mg base f (k + 1) ps sp := by
  obtain ⟨fd, F⟩ := F
  exact ⟨fd, F.kp, F.bindsN bind, F.ok S (fun vs H Q E ⟨as, h, QA, EA, r, _, hs, _⟩ => (no _ _ _ _ hs).elim) fun cdv A outer s H vs Q E hr ⟨as, h, QA, EA, r, rh, hs, kQ, kE⟩ => (no _ _ _ _ hs).elim⟩
/-! ### loops -/
section
variable {h : AH} {α : ASt}
/-- a walk over a list or a tuple -/
theorem for_it {x : A} {xs : List A} {g : ATG} {tb : ATS} {D : AEnds} (Pv : Nat → ASt → AH → Prop) (q : itA h x = some xs) (p0 : Pv 0 α h) (stay : ∀ p, x = .ref p → ∀ i α h, i ≤ xs.length → Pv i α h → h p = some (.lst xs))
    (step : ∀ i (hi : i < xs.length) α h, Pv i α h → g xs[i] α h fun α2 h2 => tb { D with nx := Pv (i + 1), ct := Pv (i + 1), bk := D.nx } α2 h2) (done : ∀ α h, Pv xs.length α h → D.nx α h) :
    seqOf x h fun S => loopS S g tb D α h := by
  have st : ∀ i x' α h, i < xs.length → xs[i]? = some x' → Pv i α h → g x' α h fun α2 h2 => tb { D with nx := Pv (i + 1), ct := Pv (i + 1), bk := D.nx } α2 h2 := fun i x' α h hi e pv => by
    rw [List.getElem?_eq_getElem hi] at e
    cases e
    exact step i hi α h pv
  cases x with
  | ref p => exact ⟨xs, itA_ref.mp q, Pv, p0, fun i α h hi pv => stay p rfl i α h hi pv, st, done⟩
  | tup ys => cases q; exact ⟨Pv, p0, fun _ _ _ _ _ => trivial, st, done⟩
  | _ => cases q
theorem for_fls {xs : List A} {g : ATG} {tb : ATS} {D : AEnds} (Pv : Nat → ASt → AH → Prop) (p0 : Pv 0 α h)
    (step : ∀ i (hi : i < xs.length) α h, Pv i α h → g xs[i] α h fun α2 h2 => tb { D with nx := Pv (i + 1), ct := Pv (i + 1), bk := D.nx } α2 h2) (done : ∀ α h, Pv xs.length α h → D.nx α h) :
    seqOf (.fls xs) h fun S => loopS S g tb D α h :=
  ⟨Pv, p0, fun _ _ _ _ _ => trivial, fun i x' α h hi e pv => by
    have e : xs[i]? = some x' := e
    rw [List.getElem?_eq_getElem hi] at e
    cases e
    exact step i hi α h pv, done⟩
/-- a list comprehension without a test -/
theorem lcS_mk {S : ASrc} {g : ATG} {te : ATE} {vs : List Nat} {D : Addr} {Q : AH → Prop} (Pv : Nat → AH → Prop) (p0 : Pv 0 (updA h D (.lst []))) (stay : ∀ i h', i ≤ S.n → Pv i h' → S.stay h')
    (step : ∀ i x h', i < S.n → S.item i x → Pv i h' → g x (wipeA α vs) h' fun α2 h2 => te α2 h2 (fun y h4 => ∃ acc, h4 D = some (.lst acc) ∧ acc.length < sizeLine ∧ Pv (i + 1) (updA h4 D (.lst (acc ++ [y])))) AE0)
    (done : ∀ h', Pv S.n h' → Q h') : lcS S g aYes te vs α h D Q := ⟨Pv, p0, stay, step, done⟩
theorem lc_it {x : A} {xs : List A} {g : ATG} {te : ATE} {vs : List Nat} {Q : Addr → AH → Prop} (Pv : Addr → Nat → AH → Prop) (q : itA h x = some xs) (p0 : ∀ D, h D = none → Pv D 0 (updA h D (.lst [])))
    (stay : ∀ D, h D = none → ∀ p, x = .ref p → ∀ i h', i ≤ xs.length → Pv D i h' → h' p = some (.lst xs))
    (step : ∀ D, h D = none → ∀ i (hi : i < xs.length) h', Pv D i h' → g xs[i] (wipeA α vs) h' fun α2 h2 => te α2 h2 (fun y h4 => ∃ acc, h4 D = some (.lst acc) ∧ acc.length < sizeLine ∧ Pv D (i + 1) (updA h4 D (.lst (acc ++ [y])))) AE0)
    (done : ∀ D, h D = none → ∀ h', Pv D xs.length h' → Q D h') : seqOf x h fun S => ∀ D, h D = none → lcS S g aYes te vs α h D fun h2 => Q D h2 := by
  have st : ∀ D, h D = none → ∀ i x' h', i < xs.length → xs[i]? = some x' → Pv D i h' → g x' (wipeA α vs) h' fun α2 h2 => te α2 h2 (fun y h4 => ∃ acc, h4 D = some (.lst acc) ∧ acc.length < sizeLine ∧ Pv D (i + 1) (updA h4 D (.lst (acc ++ [y])))) AE0 := fun D hD i x' h' hi e pv => by
    rw [List.getElem?_eq_getElem hi] at e
    cases e
    exact step D hD i hi h' pv
  cases x with
  | ref p => exact ⟨xs, itA_ref.mp q, fun D hD => lcS_mk (Pv D) (p0 D hD) (fun i h' hi pv => stay D hD p rfl i h' hi pv) (st D hD) (done D hD)⟩
  | tup ys => cases q; exact fun D hD => lcS_mk (Pv D) (p0 D hD) (fun _ _ _ _ => trivial) (st D hD) (done D hD)
  | _ => cases q
end
end G
namespace G
open PySem PySem.Spec L2
theorem bits_lt {i : Int} (h : i.natAbs < 2 ^ 64) : Builtin.Int.intBits i ≤ 64 := by
  unfold Builtin.Int.intBits
  split
  · omega
  · have := PySem.Flt.log2_lt_of (k := 64) (by decide) h
    omega
theorem mul_r {i j : Int} (h : j.natAbs < 2 ^ 64) : IntMulOk i j := IntMulOk.of_right (bits_lt h)
theorem mul_l {i j : Int} (h : i.natAbs < 2 ^ 64) : IntMulOk i j := IntMulOk.of_left (bits_lt h)
section
variable {h : AH} {p : Addr} {xs : List A} {i : Int} {v : A} {Q : AVK}
theorem ix_ref (e : h p = some (.lst xs)) (a : atI xs i = some v) (q : Q v h) : ixA (.ref p) (.int i) h Q := ⟨xs, v, e, a, q⟩
theorem ix_tup (a : atI xs i = some v) (q : Q v h) : ixA (.tup xs) (.int i) h Q := by
  show (match atI xs i with
    | some v => Q v h
    | none => False)
  rw [a]
  exact q
theorem ix_it {x : A} (e : itA h x = some xs) (a : atI xs i = some v) (q : Q v h) : ixA x (.int i) h Q := by
  cases x with
  | ref p => exact ix_ref (itA_ref.mp e) a q
  | tup ys => cases e; exact ix_tup a q
  | _ => cases e
/-- a valid index -/
theorem ixN_of {n : Nat} {i : Int} (h0 : 0 ≤ i) (h : i < n) : ixN n i = some i.toNat := by
  unfold ixN
  rw [if_pos h0, if_pos h]
theorem atI_of {α : Type} {xs : List α} {i : Int} (h0 : 0 ≤ i) (h : i < xs.length) : atI xs i = some (xs[i.toNat]'(by omega)) := by
  unfold atI
  rw [ixN_of h0 h]
  simp
end
theorem takeS {α : Type} {xs : List α} {i : Nat} (h : i < xs.length) : xs.take (i + 1) = xs.take i ++ [xs[i]] := by
  rw [List.take_succ, List.getElem?_eq_getElem h]
  rfl
theorem Ext.wr {h h' : AH} {p : Addr} {o : AO} (n : h p = none) (e : Ext h h') : Ext h (updA h' p o) := fun a u z => by
  rw [updA_ne (fun q => by subst q; rw [n] at z; cases z)]
  exact e a u z
theorem Fx.wr' {M : Addr → Prop} {h h' : AH} {p : Addr} {o : AO} (m : M p ∨ h p = none) (e : Fx M h h') : Fx M h (updA h' p o) := fun a u n z => by
  rw [updA_ne (fun q => by
    subst q
    rcases m with m | m
    · exact n m
    · rw [m] at z; cases z)]
  exact e a u n z
theorem Paired.of_get {α β : Type} {F : α → β → Prop} : ∀ {l₁ : List α} {l₂ : List β}, l₁.length = l₂.length → (∀ i (h1 : i < l₁.length) (h2 : i < l₂.length), F l₁[i] l₂[i]) → Paired F l₁ l₂
  | [], [], _, _ => .nil
  | [], _ :: _, h, _ => nomatch h
  | _ :: _, [], h, _ => nomatch h
  | a :: as, b :: bs, h, k => .cons (k 0 (Nat.zero_lt_succ _) (Nat.zero_lt_succ _)) (Paired.of_get (Nat.succ.inj h) fun i h1 h2 => k (i + 1) (Nat.succ_lt_succ h1) (Nat.succ_lt_succ h2))
theorem Paired.get {α β : Type} {F : α → β → Prop} : ∀ {l₁ : List α} {l₂ : List β}, Paired F l₁ l₂ → ∀ i (h1 : i < l₁.length) (h2 : i < l₂.length), F l₁[i] l₂[i]
  | _, _, .nil, _, h, _ => absurd h (Nat.not_lt_zero _)
  | _, _, .cons r t, 0, _, _ => r
  | _, _, .cons r t, i + 1, h1, h2 => Paired.get t i (Nat.lt_of_succ_lt_succ h1) (Nat.lt_of_succ_lt_succ h2)
theorem Paired.choose {α β : Type} {F : α → β → Prop} : ∀ {l : List α}, (∀ i (h : i < l.length), ∃ b, F l[i] b) → ∃ l₂, Paired F l l₂
  | [], _ => ⟨[], .nil⟩
  | a :: as, h => by
    obtain ⟨b, hb⟩ := h 0 (Nat.zero_lt_succ _)
    obtain ⟨bs, hbs⟩ := Paired.choose (l := as) fun i hi => h (i + 1) (Nat.succ_lt_succ hi)
    exact ⟨b :: bs, .cons hb hbs⟩
theorem atI_cons {α : Type} {x : α} {l : List α} : atI (x :: l) 0 = some x := by
  rw [atI_of (by decide) (by simp)]
  rfl
theorem ixN_zero {n : Nat} : ixN (n + 1) 0 = some 0 := by rw [ixN_of (by decide) (by omega)]; rfl
theorem cd {i j : Int} (a : 0 < j := by decide) (b : j.natAbs.log2 < 9000 := by decide) : CDivW i j := ⟨a, b⟩
section
variable {h : AH} {α : ASt} {g : ATG} {tb : ATS} {D : AEnds}
theorem loop_enum {p : Addr} {xs : List A} (Pv : Nat → ASt → AH → Prop) (p0 : Pv 0 α h) (stay : ∀ i α h, i ≤ xs.length → Pv i α h → h p = some (.lst xs))
    (step : ∀ i (hi : i < xs.length) α h, Pv i α h → g (.tup [.int (i : Nat), xs[i]]) α h fun α2 h2 => tb { D with nx := Pv (i + 1), ct := Pv (i + 1), bk := D.nx } α2 h2) (done : ∀ α h, Pv xs.length α h → D.nx α h) :
    loopS ⟨xs.length, fun i a => ∃ x, a = .tup [.int (i : Nat), x] ∧ xs[i]? = some x, fun h' => LstA h' p xs⟩ g tb D α h :=
  ⟨Pv, p0, stay, fun i x α h hi it pv => by
    obtain ⟨x', rfl, e⟩ := (show ∃ x', x = .tup [.int (i : Nat), x'] ∧ xs[i]? = some x' from it)
    rw [List.getElem?_eq_getElem hi] at e
    cases e
    exact step i hi α h pv, done⟩
theorem loop_rng {n : Nat} {lo : Int} (Pv : Nat → ASt → AH → Prop) (p0 : Pv 0 α h)
    (step : ∀ i (hi : i < n) α h, Pv i α h → g (.int (lo + (i : Nat))) α h fun α2 h2 => tb { D with nx := Pv (i + 1), ct := Pv (i + 1), bk := D.nx } α2 h2) (done : ∀ α h, Pv n α h → D.nx α h) :
    loopS ⟨n, fun i a => a = .int (lo + (i : Nat)), fun _ => True⟩ g tb D α h :=
  ⟨Pv, p0, fun _ _ _ _ _ => trivial, fun i x α h hi it pv => by
    have e : x = .int (lo + (i : Nat)) := it
    subst e
    exact step i hi α h pv, done⟩
end
/-- the rest of a suite behind a cut -/
theorem seq_cut {t u : ATS} {D : AEnds} {α : ASt} {h : AH} (P : ASt → AH → Prop) (first : ∀ J : ASt → AH → Prop, (∀ α h, P α h → J α h) → t { D with nx := J } α h) (rest : ∀ α h, P α h → u D α h) : aSeq t u D α h := first (u D) rest
/-- lists of a range -/
theorem lc_rng {h : AH} {α : ASt} {g : ATG} {te : ATE} {vs : List Nat} {D : Addr} {Q : AH → Prop} {n : Nat} {lo : Int} (Pv : Nat → AH → Prop) (p0 : Pv 0 (updA h D (.lst [])))
    (step : ∀ i (hi : i < n) h', Pv i h' → g (.int (lo + (i : Nat))) (wipeA α vs) h' fun α2 h2 => te α2 h2 (fun y h4 => ∃ acc, h4 D = some (.lst acc) ∧ acc.length < sizeLine ∧ Pv (i + 1) (updA h4 D (.lst (acc ++ [y])))) AE0)
    (done : ∀ h', Pv n h' → Q h') : lcS ⟨n, fun i a => a = .int (lo + (i : Nat)), fun _ => True⟩ g aYes te vs α h D Q :=
  lcS_mk Pv p0 (fun _ _ _ _ => trivial) (fun i x h' hi it pv => by
    have e : x = .int (lo + (i : Nat)) := it
    subst e
    exact step i hi h' pv) done
end G
namespace G
open PySem PySem.Spec L2

/-! ### tables of values -/
section
variable {κ : Type} [DecidableEq κ]
def vl : List (κ × A) → κ → Option A
  | [], _ => none
  | p :: r, k => if p.1 = k then some p.2 else vl r k
def pt : List (κ × A) → κ → A → List (κ × A)
  | [], k, v => [(k, v)]
  | p :: r, k, v => if p.1 = k then (p.1, v) :: r else p :: pt r k v
def dr (kvs : List (κ × A)) (k : κ) : List (κ × A) := kvs.filter fun kv => decide (kv.1 ≠ k)
/-- no key twice -/
def NoTwice (kvs : List (κ × A)) : Prop := (kvs.map (·.1)).Nodup
theorem vl_pt (k j : κ) (v : A) : ∀ kvs : List (κ × A), vl (pt kvs k v) j = if j = k then some v else vl kvs j
  | [] => by
    by_cases h : k = j
    · simp [pt, vl, h]
    · simp [pt, vl, h, Ne.symm h]
  | p :: r => by
    unfold pt
    by_cases h1 : p.1 = k
    · rw [if_pos h1]
      by_cases h2 : j = k
      · subst h2; simp [vl, h1]
      · have : ¬ p.1 = j := fun e => h2 (by rw [← e, h1])
        simp [vl, this, h2]
    · rw [if_neg h1]
      by_cases h2 : p.1 = j
      · have : ¬ j = k := fun e => h1 (by rw [h2, e])
        simp [vl, h2, this]
      · simp only [vl, if_neg h2]
        exact vl_pt k j v r
theorem vl_dr (k j : κ) : ∀ kvs : List (κ × A), vl (dr kvs k) j = if j = k then none else vl kvs j
  | [] => by simp [dr, vl]
  | p :: r => by
    have ih := vl_dr k j r
    unfold dr at ih ⊢
    by_cases h1 : p.1 = k
    · rw [List.filter_cons_of_neg (by simp [h1])]
      rw [ih]
      by_cases h2 : j = k
      · simp [h2]
      · have : ¬ p.1 = j := fun e => h2 (by rw [← e, h1])
        simp [vl, h2, this]
    · rw [List.filter_cons_of_pos (by simp [h1])]
      by_cases h2 : p.1 = j
      · have : ¬ j = k := fun e => h1 (by rw [h2, e])
        simp [vl, h2, this]
      · simp only [vl, if_neg h2]
        exact ih
theorem vl_mem {k : κ} {v : A} : ∀ {kvs : List (κ × A)}, vl kvs k = some v → (k, v) ∈ kvs
  | [], e => nomatch e
  | p :: r, e => by
    unfold vl at e
    by_cases h : p.1 = k
    · rw [if_pos h] at e; cases e; subst h; exact List.mem_cons_self
    · rw [if_neg h] at e; exact List.mem_cons_of_mem _ (vl_mem e)
theorem pt_len (k : κ) (v : A) : ∀ kvs : List (κ × A), (pt kvs k v).length ≤ kvs.length + 1
  | [] => by simp [pt]
  | p :: r => by
    unfold pt
    split
    · simp
    · have := pt_len k v r; simp; exact this
theorem pt_keys (k : κ) (v : A) : ∀ (kvs : List (κ × A)), (pt kvs k v).map (·.1) = if k ∈ kvs.map (·.1) then kvs.map (·.1) else kvs.map (·.1) ++ [k]
  | [] => by simp [pt]
  | p :: r => by
    unfold pt
    by_cases h : p.1 = k
    · rw [if_pos h]; simp [h]
    · rw [if_neg h, List.map_cons, pt_keys k v r]
      have hk : ¬ k = p.1 := fun e => h e.symm
      by_cases h2 : k ∈ r.map (·.1)
      · rw [if_pos h2, if_pos (by rw [List.map_cons]; exact List.mem_cons_of_mem _ h2)]; rfl
      · rw [if_neg h2, if_neg (by rw [List.map_cons]; intro m; exact (List.mem_cons.mp m).elim hk h2)]; rfl
theorem dr_len (k : κ) (kvs : List (κ × A)) : (dr kvs k).length ≤ kvs.length := List.length_filter_le _ _
end
section
variable {κ : Type} [DecidableEq κ] {K : Frg} {H : Hp}
theorem vl_rel : ∀ {xs : List (κ × A)} {vs : List (κ × V)} (k : κ), RelK K H xs vs → (∀ a, vl xs k = some a → ∃ v, valV vs k = some v ∧ RelA K H a v) ∧ (vl xs k = none → valV vs k = none)
  | _, _, k, .nil => ⟨(fun a e => nomatch e), fun _ => rfl⟩
  | p :: xs, q :: vs, k, .cons r t => by
    obtain ⟨e1, r1⟩ := r
    obtain ⟨i1, i2⟩ := vl_rel k t
    unfold vl
    by_cases h : p.1 = k
    · rw [if_pos h]
      refine ⟨fun a e => ?_, (fun e => nomatch e)⟩
      cases e
      exact ⟨q.2, valV_pos (by rw [← e1]; exact h), r1⟩
    · rw [if_neg h]
      have hq : ¬ q.1 = k := by rw [← e1]; exact h
      exact ⟨fun a e => let ⟨v, e2, r2⟩ := i1 a e; ⟨v, by rw [valV_neg hq]; exact e2, r2⟩, fun e => by rw [valV_neg hq]; exact i2 e⟩
theorem vl_opt {xs : List (κ × A)} {vs : List (κ × V)} (k : κ) (r : RelK K H xs vs) : (vl xs k).isSome = (valV vs k).isSome := by
  obtain ⟨i1, i2⟩ := vl_rel k r
  cases e : vl xs k with
  | none => rw [i2 e]; rfl
  | some a => obtain ⟨v, e2, _⟩ := i1 a e; rw [e2]; rfl
theorem putK_cons_pos {p : κ × V} {r : List (κ × V)} {k : κ} {v : V} (h : p.1 = k) (n : ∀ q ∈ r, q.1 ≠ k) : putK (p :: r) k v = (p.1, v) :: r := by
  unfold putK
  rw [if_pos (by rw [List.any_cons, decide_eq_true h]; rfl), List.map_cons, if_pos h]
  congr 1
  have : ∀ l : List (κ × V), (∀ q ∈ l, q.1 ≠ k) → l.map (fun kv => if kv.1 = k then (kv.1, v) else kv) = l := fun l hl => by
    induction l with
    | nil => rfl
    | cons q l ih => rw [List.map_cons, if_neg (hl q List.mem_cons_self), ih fun q hq => hl q (List.mem_cons_of_mem _ hq)]
  exact this r n
theorem putK_cons_neg {p : κ × V} {r : List (κ × V)} {k : κ} {v : V} (h : ¬ p.1 = k) : putK (p :: r) k v = p :: putK r k v := by
  unfold putK
  rw [List.any_cons, decide_eq_false h, Bool.false_or]
  by_cases z : (r.any fun kv => decide (kv.1 = k)) = true
  · rw [if_pos z, if_pos z, List.map_cons, if_neg h]
  · rw [if_neg z, if_neg z]; rfl
/-- put, where no key stands twice -/
theorem pt_rel {a : A} {v : V} (k : κ) (r : RelA K H a v) : ∀ {xs : List (κ × A)} {vs : List (κ × V)}, NoTwice xs → RelK K H xs vs → RelK K H (pt xs k a) (putK vs k v)
  | _, _, _, .nil => by
    show RelK K H [(k, a)] (putK [] k v)
    exact .cons ⟨rfl, r⟩ .nil
  | p :: xs, q :: vs, nt, .cons r1 t => by
    unfold NoTwice at nt
    rw [List.map_cons, List.nodup_cons] at nt
    unfold pt
    by_cases h : p.1 = k
    · have hq : q.1 = k := by rw [← r1.1]; exact h
      have hn : ∀ z ∈ vs, z.1 ≠ k := fun z hz e => by
        have : ∀ {xs : List (κ × A)} {vs : List (κ × V)}, RelK K H xs vs → xs.map (·.1) = vs.map (·.1) := fun {xs vs} t => by
          induction t with
          | nil => rfl
          | cons a _ ih => rw [List.map_cons, List.map_cons, a.1, ih]
        apply nt.1
        rw [this t, h, ← e]
        exact List.mem_map.mpr ⟨z, hz, rfl⟩
      rw [if_pos h, putK_cons_pos hq hn]
      exact .cons ⟨r1.1, r⟩ t
    · have hq : ¬ q.1 = k := by rw [← r1.1]; exact h
      rw [if_neg h, putK_cons_neg hq]
      exact .cons r1 (pt_rel k r nt.2 t)
theorem dr_rel (k : κ) : ∀ {xs : List (κ × A)} {vs : List (κ × V)}, RelK K H xs vs → RelK K H (dr xs k) (dropK vs k)
  | _, _, .nil => .nil
  | p :: xs, q :: vs, .cons r t => by
    have ih := dr_rel k t
    unfold dr dropK at ih ⊢
    by_cases h : p.1 = k
    · rw [List.filter_cons_of_neg (by simp [h]), List.filter_cons_of_neg (by rw [← r.1]; simp [h])]; exact ih
    · rw [List.filter_cons_of_pos (by simp [h]), List.filter_cons_of_pos (by rw [← r.1]; simp [h])]; exact .cons r ih
theorem NoTwice.pt {xs : List (κ × A)} {k : κ} {v : A} (n : NoTwice xs) : NoTwice (pt xs k v) := by
  unfold NoTwice at n ⊢
  rw [pt_keys]
  split
  · exact n
  · rename_i h
    rw [List.nodup_append]
    exact ⟨n, by simp, fun a ha b hb e => h (by rw [List.mem_singleton.mp hb] at e; rw [← e]; exact ha)⟩
theorem NoTwice.dr {xs : List (κ × A)} {k : κ} (n : NoTwice xs) : NoTwice (dr xs k) := by
  unfold NoTwice G.dr at *
  exact List.Sublist.nodup (List.Sublist.map _ List.filter_sublist) n
theorem NoTwice.nil : NoTwice ([] : List (κ × A)) := List.nodup_nil
end

/-! ### dicts: read, asked, written -/
/-- what the dict x holds at the key y: none = not a dict and a key of it -/
def dgA (h : AH) (x y : A) : Option (Option A) := match x with
  | .ref p => match h p with
    | some (.dK kvs) => (keyA y).map fun k => vl kvs k
    | some (.lK kvs) => (keyA y).map fun k => vl kvs k
    | some (.dT kvs) => match y with
      | .kt k => some (vl kvs k)
      | _ => none
    | some (.lT kvs) => match y with
      | .kt k => some (vl kvs k)
      | _ => none
    | _ => none
  | _ => none
theorem RelO.dKi {K : Frg} {H : Hp} {kvs : List (Key × A)} {u : HO} (r : RelO K H (.dK kvs) u) : ∃ vs, u = .dK vs ∧ RelK K H kvs vs := by cases r; exact ⟨_, rfl, ‹_›⟩
theorem RelO.dTi {K : Frg} {H : Hp} {kvs : List (List Key × A)} {u : HO} (r : RelO K H (.dT kvs) u) : ∃ vs, u = .dT vs ∧ RelK K H kvs vs := by cases r; exact ⟨_, rfl, ‹_›⟩
theorem dg_rel {K : Frg} {H : Hp} {h : AH} {x y : A} {v w : V} {o : Option A} (rh : RelH K H h) (rx : RelA K H x v) (ry : RelA K H y w) (e : dgA h x y = some o) :
    ∃ p o', v = .ref p ∧ DGet H p w o' ∧ o.isSome = o'.isSome ∧ ∀ a, o = some a → ∃ u, o' = some u ∧ RelA K H a u := by
  cases rx with
  | ref p =>
    simp only [dgA] at e
    have fin : ∀ {κ : Type} [DecidableEq κ] {kvs : List (κ × A)} {vs : List (κ × V)} {k : κ}, RelK K H kvs vs → o = vl kvs k → o.isSome = (valV vs k).isSome ∧ ∀ a, o = some a → ∃ u, valV vs k = some u ∧ RelA K H a u := fun {κ _ kvs vs k} r eo => by
      subst eo
      exact ⟨vl_opt k r, fun a ea => (vl_rel k r).1 a ea⟩
    have key : ∀ {k : Key}, keyA y = some k → w = kV k := fun ek => keyA_rel ry ek
    cases q : h p with
    | none => rw [q] at e; cases e
    | some ob =>
      rw [q] at e
      obtain ⟨u, e', ro⟩ := rh p _ q
      cases ob with
      | dK kvs =>
        cases ro with
        | dK r =>
          cases ek : keyA y with
          | none => rw [ek] at e; cases e
          | some k =>
            rw [ek] at e
            cases e
            rw [key ek]
            obtain ⟨f1, f2⟩ := fin r rfl
            exact ⟨p, _, rfl, .inl ⟨_, k, .inl e', rfl, rfl⟩, f1, f2⟩
      | lK kvs =>
        cases ro with
        | lK r =>
          cases ek : keyA y with
          | none => rw [ek] at e; cases e
          | some k =>
            rw [ek] at e
            cases e
            rw [key ek]
            obtain ⟨f1, f2⟩ := fin r rfl
            exact ⟨p, _, rfl, .inl ⟨_, k, .inr ⟨_, e'⟩, rfl, rfl⟩, f1, f2⟩
      | dT kvs =>
        cases ro with
        | dT r =>
          cases ry with
          | kt ey =>
            cases e
            obtain ⟨f1, f2⟩ := fin r rfl
            exact ⟨p, _, rfl, .inr ⟨_, _, _, .inl e', rfl, ey, rfl⟩, f1, f2⟩
          | _ => cases e
      | lT kvs =>
        cases ro with
        | lT r =>
          cases ry with
          | kt ey =>
            cases e
            obtain ⟨f1, f2⟩ := fin r rfl
            exact ⟨p, _, rfl, .inr ⟨_, _, _, .inr ⟨_, e'⟩, rfl, ey, rfl⟩, f1, f2⟩
          | _ => cases e
      | _ => cases e
  | _ => cases e
section
variable {X : Cx} {o i e value : Expr} {pos pos' tpos : Pos} {td ty tv : ATE}
def aDGet (td ty : ATE) : ATE := fun α h Q E => td α h (fun x h1 => ty α h1 (fun y h2 => ∃ v, dgA h2 x y = some (some v) ∧ Q v h2) E) E
theorem ae_dget (hu : X.A.units + 1 < cLine) (ho : AE X o td) (hi : AE X i ty) (hs : NoSl i) : AE X (.Subscript o i pos) (aDGet td ty) := .of (pe_dget hu ho.pe hi.pe hs) fun σ H Qv ⟨α, h, q, E, rs, rh, tk, ht, k⟩ =>
  low.then (H0 := H) rs rh tk ht fun v H1 x h1 m1 r1 rh1 rs1 q1 => low.then (H0 := H) rs1 rh1 (tk.up m1) q1 fun w H2 y h2 m2 r2 rh2 rs2 ⟨z, ez, q2⟩ => by
    obtain ⟨p, o', e1, g, _, gs⟩ := dg_rel rh2 (r1.up m2) r2 ez
    obtain ⟨u, eu, ru⟩ := gs z rfl
    subst eu
    exact ⟨p, u, e1, g, k _ _ ⟨z, h2, m1.trans m2, ru, rh2, q2⟩⟩
def rDIn (neg : Bool) : R2 := fun y x H Q => ∃ a o, x = .ref a ∧ DGet H a y o ∧ Q (.bl (nb neg o.isSome)) H
theorem opr_din (hu : X.A.units + 1 < cLine) : OpR X (compareOp .In) (rDIn false) := fun pins s σ H y x iv u Q I ry rx ⟨a, ov, ex, g, q⟩ => by
  subst ex
  obtain rfl : u = Value.ref a := rx
  exact d_in hu I g ry fun s3 I3 => ⟨.bl ov.isSome, H, I3, rfl, q⟩
theorem opr_dnotin (hu : X.A.units + 1 < cLine) : OpR X (compareOp .NotIn) (rDIn true) := fun pins s σ H y x iv u Q I ry rx ⟨a, ov, ex, g, q⟩ => by
  subst ex
  obtain rfl : u = Value.ref a := rx
  exact d_notIn hu I g ry fun s3 I3 => ⟨.bl (!ov.isSome), H, I3, rfl, q⟩
def inDA (neg : Bool) : AR2 := fun y x h Q => ∃ o, dgA h x y = some o ∧ Q (.bl (nb neg o.isSome)) h
theorem o_din {K : Frg} (neg : Bool) : Op2 K (rDIn neg) (inDA neg) := fun H h y x b a Q Qv rb ra rh k ⟨o, eo, q⟩ => by
  obtain ⟨p, o', e1, g, es, _⟩ := dg_rel rh ra rb eo
  exact ⟨p, o', e1, g, k _ _ ⟨_, h, Mono.refl H, .bl _, rh, by rw [← es]; exact q⟩⟩
/-- the object behind x[y] = v -/
def dpA (h : AH) (x y v : A) (R : Addr → AO → Prop) : Prop := match x with
  | .ref p => match h p with
    | some (.dK kvs) => ∃ k, keyA y = some k ∧ NoTwice kvs ∧ kvs.length < sizeLine ∧ R p (.dK (pt kvs k v))
    | some (.dT kvs) => match y with
      | .kt k => NoTwice kvs ∧ kvs.length < sizeLine ∧ R p (.dT (pt kvs k v))
      | _ => False
    | _ => False
  | _ => False
theorem RelK.len {κ : Type} {K : Frg} {H : Hp} {xs : List (κ × A)} {vs : List (κ × V)} (r : RelK K H xs vs) : xs.length = vs.length := Paired.length r
theorem dp_rel {K : Frg} {H : Hp} {h : AH} {x y z : A} {v w u : V} {R : Addr → AO → Prop} (rh : RelH K H h) (rx : RelA K H x v) (ry : RelA K H y w) (rz : RelA K H z u) (e : dpA h x y z R) :
    ∃ p o H', v = .ref p ∧ DPut H p w u H' ∧ Mono H H' ∧ RelH K H' (updA h p o) ∧ R p o := by
  cases rx with
  | ref p =>
    simp only [dpA] at e
    cases q : h p with
    | none => rw [q] at e; exact e.elim
    | some ob =>
      rw [q] at e
      obtain ⟨u', e', ro⟩ := rh p _ q
      cases ob with
      | dK kvs =>
        obtain ⟨vs, rfl, r⟩ := ro.dKi
        obtain ⟨k, ek, nt, l, eR⟩ := (show ∃ k, keyA y = some k ∧ NoTwice kvs ∧ kvs.length < sizeLine ∧ R p (.dK (pt kvs k z)) from e)
        rw [keyA_rel ry ek]
        exact ⟨p, _, _, rfl, DPut.k e' (by rw [← RelK.len r]; exact l), Mono.wr e' ns_dK, rh.wr e' ns_dK (.dK (pt_rel k rz nt r)), eR⟩
      | dT kvs =>
        obtain ⟨vs, rfl, r⟩ := ro.dTi
        cases ry with
        | @kt b ks ey =>
          obtain ⟨nt, l, eR⟩ := (show NoTwice kvs ∧ kvs.length < sizeLine ∧ R p (.dT (pt kvs ks z)) from e)
          exact ⟨p, _, _, rfl, DPut.t e' ey (by rw [← RelK.len r]; exact l), Mono.wr e' ns_dT, rh.wr e' ns_dT (.dT (pt_rel ks rz nt r)), eR⟩
        | _ => exact (show False from e).elim
      | _ => exact (show False from e).elim
  | _ => exact (show False from e).elim
def aDPut (td ty tv : ATE) : ATS := fun D α h => tv α h (fun v h1 => td α h1 (fun x h2 => ty α h2 (fun y h3 => dpA h3 x y v fun p o => D.nx α (updA h3 p o)) fun c h3 => D.ex c α h3) fun c h3 => D.ex c α h3) fun c h3 => D.ex c α h3
theorem as_dput (hu : X.A.units + 1 < cLine) (ho : AE X o td) (hi : AE X i ty) (hv : AE X value tv) (hs : swapsWith value (some (.Subscript o i pos')) pos.line X.env = pure false) : AS X (.Assign [.Subscript o i pos'] value pos) (aDPut td ty tv) :=
  .of (ps_dput hu ho.pe hi.pe hv.pe hs) fun D σ H ⟨α, h, DA, rs, rh, tk, ht, k⟩ =>
    low.then (H0 := H) rs rh (tk.e α) ht fun v H1 x h1 m1 r1 rh1 rs1 q1 => low.then (H0 := H) rs1 rh1 ((tk.up m1).e α) q1 fun ov H2 y h2 m2 r2 rh2 rs2 q2 => low.then (H0 := H) rs2 rh2 ((tk.up (m1.trans m2)).e α) q2 fun iv H3 z h3 m3 r3 rh3 rs3 q3 => by
      obtain ⟨p, ob, H', e1, g, m4, rh4, q4⟩ := dp_rel rh3 (r2.up m3) r3 ((r1.up m2).up m3) q3
      exact ⟨p, H', e1, g, k.nx _ _ ⟨α, _, ((m1.trans m2).trans m3).trans m4, rs3.up m4, rh4, q4⟩⟩
/-- d[y] op= v -/
def aDAug (td ty tv : ATE) (rA : AR2) : ATS := fun D α h => td α h (fun x h1 => ty α h1 (fun y h2 => ∃ v, dgA h2 x y = some (some v) ∧ tv α h2 (fun y2 h3 => rA v y2 h3 fun z h4 => dpA h4 x y z fun p o => D.nx α (updA h4 p o)) fun c h3 => D.ex c α h3) fun c h3 => D.ex c α h3) fun c h3 => D.ex c α h3
theorem as_daug {op : Operator} {rd : V → V → Hp → VK → Prop} {rA : AR2} (hu : X.A.units + 1 < cLine) (ho : AE X o td) (hi : AE X i ty) (hv : AE X value tv) (hop : InOp X op rd) (hr : Op2 X.K rd rA)
    (ha : ∀ ov iv new, augStore i ov iv new = (do holding [new, ov, iv] (setItem ov iv new); release [new, ov, iv] []; pure .next) := by intro _ _ _; rfl) : AS X (.AugAssign (.Subscript o i tpos) op value pos) (aDAug td ty tv rA) :=
  .of (ps_daug hu ho.pe hi.pe hv.pe hop ha) fun D σ H ⟨α, h, DA, rs, rh, tk, ht, k⟩ =>
    low.then (H0 := H) rs rh (tk.e α) ht fun v H1 x h1 m1 r1 rh1 rs1 q1 => low.then (H0 := H) rs1 rh1 ((tk.up m1).e α) q1 fun w H2 y h2 m2 r2 rh2 rs2 ⟨z, ez, q2⟩ => by
      obtain ⟨p, o', e1, g, _, gs⟩ := dg_rel rh2 (r1.up m2) r2 ez
      obtain ⟨u, eu, ru⟩ := gs z rfl
      subst eu
      refine ⟨p, u, e1, g, low.then (H0 := H) rs2 rh2 ((tk.up (m1.trans m2)).e α) q2 fun w3 H3 y2 h3 m3 r3 rh3 rs3 q3 => hr H3 h3 u w3 z y2 _ _ (ru.up m3) r3 rh3 (fun w4 H4 ⟨z2, h4, m4, r4, rh4, q4⟩ => ?_) q3⟩
      obtain ⟨p', ob, H', e1', g', m5, rh5, q5⟩ := dp_rel rh4 (((r1.up m2).up m3).up m4) ((r2.up m3).up m4) r4 q4
      have : p' = p := by rw [e1] at e1'; injection e1' with e; exact e.symm
      subst this
      exact ⟨H', g', k.nx _ _ ⟨α, _, (((m1.trans m2).trans m3).trans m4).trans m5, (rs3.up m4).up m5, rh5, q5⟩⟩
/-- e.f op= v -/
def aFAug (K : Frg) (ta tv : ATE) (rA : AR2) (f : Str) : ATS := fun D α h => ta α h (fun x h1 => match x with
  | .ref p => ∃ C fs v, h1 p = some (.ins C fs) ∧ ClsF K C f ∧ fs.lookup f = some v ∧ tv α h1 (fun y h2 => rA v y h2 fun z h3 => ∃ fs', h3 p = some (.ins C fs') ∧ fs'.length < 1000 ∧ D.nx α (updA h3 p (.ins C (putFA f z fs')))) fun c h3 => D.ex c α h3
  | _ => False) fun c h3 => D.ex c α h3
theorem as_faug {f : Str} {op : Operator} {rd : V → V → Hp → VK → Prop} {rA : AR2} (ha : AE X o td) (hv : AE X value tv) (hop : InOp X op rd) (hr : Op2 X.K rd rA) : AS X (.AugAssign (.Attribute o f tpos) op value pos) (aFAug X.K td tv rA f) :=
  .of (ps_fldaug ha.pe hv.pe hop) fun D σ H ⟨α, h, DA, rs, rh, tk, ht, k⟩ => low.then (H0 := H) rs rh (tk.e α) ht fun v H1 x h1 m1 r1 rh1 rs1 q1 => by
    cases r1 with
    | ref p =>
      obtain ⟨C, fs, u, e1, c, l, q⟩ := (show ∃ C fs v, h1 p = some (.ins C fs) ∧ ClsF X.K C f ∧ fs.lookup f = some v ∧ tv α h1 (fun y h2 => rA v y h2 fun z h3 => ∃ fs', h3 p = some (.ins C fs') ∧ fs'.length < 1000 ∧ DA.nx α (updA h3 p (.ins C (putFA f z fs')))) _ from q1)
      obtain ⟨dx, vs, f1, rk⟩ := rh1.ins e1
      obtain ⟨w, l', rw'⟩ := rk.look l
      refine ⟨p, C, dx, vs, w, rfl, f1, c.1, c.2, l', low.then (H0 := H) rs1 rh1 ((tk.up m1).e α) q fun w3 H2 y2 h2 m2 r2 rh2 rs2 q2 => hr H2 h2 w w3 u y2 _ _ (rw'.up m2) r2 rh2 ?_ q2⟩
      rintro w4 H3 ⟨z2, h3, m3, r3, rh3, fs', e3, l3, q3⟩
      obtain ⟨dx', vs', f3, rk3⟩ := rh3.ins e3
      exact ⟨dx', vs', f3, by rw [← Paired.len rk3]; exact l3, k.nx _ _ ⟨α, _, ((m1.trans m2).trans m3).trans (Mono.wr f3 ns_ins), (rs2.up m3).up (Mono.wr f3 ns_ins), rh3.wr f3 ns_ins (.ins (RelK.putF r3 rk3)), q3⟩⟩
    | _ => exact (show False from q1).elim
end
theorem o_radd {K : Frg} : Op2 K L2.rAdd (iA0 fun i j => .int (i + j)) := fun H h x y a b Q Qv ra rb rh k q => by
  obtain ⟨i, j, rfl, rfl, q⟩ := iA0_inv ra rb q
  exact ⟨i, j, rfl, rfl, k _ _ ⟨_, h, Mono.refl H, .int _, rh, q⟩⟩
theorem o_rsub {K : Frg} : Op2 K L2.rSub (iA0 fun i j => .int (i - j)) := fun H h x y a b Q Qv ra rb rh k q => by
  obtain ⟨i, j, rfl, rfl, q⟩ := iA0_inv ra rb q
  exact ⟨i, j, rfl, rfl, k _ _ ⟨_, h, Mono.refl H, .int _, rh, q⟩⟩

/-! ### displays of dicts -/
def aPairs : List (ATE × ATE) → ASt → AH → (List (A × A) → AH → Prop) → AXK → Prop
  | [], _, h, Q, _ => Q [] h
  | (tk, tv) :: r, α, h, Q, E => tk α h (fun x h1 => tv α h1 (fun y h2 => aPairs r α h2 (fun ps h3 => Q ((x, y) :: ps) h3) E) E) E
abbrev RelPs (K : Frg) (H : Hp) : List (A × A) → List (V × V) → Prop := Paired fun p q => RelA K H p.1 q.1 ∧ RelA K H p.2 q.2
def lowPs (X : Cx) (l : List (ATE × ATE)) : List (TE × TE) := l.map fun p => (low X p.1, low X p.2)
theorem low_pairs {X : Cx} {α : ASt} {E : AXK} : ∀ (l : List (ATE × ATE)) {σ : L2.St} {H : Hp} {h : AH} {Q : List (A × A) → AH → Prop} {Qv : List (V × V) → Hp → Prop}, RelS X.K H α σ → RelH X.K H h → TakesE X H α E → aPairs l α h Q E →
    (∀ ps H' as h', Mono H H' → RelPs X.K H' as ps → RelH X.K H' h' → Q as h' → Qv ps H') → tPairs (lowPs X l) σ H Qv
  | [], σ, H, h, Q, Qv, rs, rh, tk, q, k => k [] H [] h (Mono.refl H) .nil rh q
  | (tk', tv) :: r, σ, H, h, Q, Qv, rs, rh, tk, q, k => low.then (H0 := H) rs rh tk q fun v H1 x h1 m1 r1 rh1 rs1 q1 => low.then (H0 := H) rs1 rh1 (tk.up m1) q1 fun w H2 y h2 m2 r2 rh2 rs2 q2 =>
    low_pairs r rs2 rh2 (tk.up (m1.trans m2)) q2 fun ps H3 as h3 m3 r3 rh3 q3 => k _ _ _ h3 ((m1.trans m2).trans m3) (.cons ⟨(r1.up m2).up m3, r2.up m3⟩ r3) rh3 q3
def keysP : List (A × A) → Option (List (Key × A))
  | [] => some []
  | (x, y) :: r => match keyA x, keysP r with
    | some k, some ks => some ((k, y) :: ks)
    | _, _ => none
theorem keysP_rel {K : Frg} {H : Hp} : ∀ {as : List (A × A)} {ps : List (V × V)} {ks : List (Key × A)}, RelPs K H as ps → keysP as = some ks → ∃ kvs : List (Key × V), ps = kvs.map (fun kv => (kV kv.1, kv.2)) ∧ RelK K H ks kvs
  | _, _, ks, .nil, e => by simp [keysP] at e; subst e; exact ⟨[], rfl, .nil⟩
  | (x, y) :: as, p :: ps, ks, .cons r t, e => by
    unfold keysP at e
    cases e1 : keyA x with
    | none => rw [e1] at e; simp at e
    | some k =>
      cases e2 : keysP as with
      | none => rw [e1, e2] at e; simp at e
      | some l =>
        rw [e1, e2] at e
        simp at e; subst e
        obtain ⟨kvs, e3, r3⟩ := keysP_rel t e2
        refine ⟨(k, p.2) :: kvs, ?_, .cons ⟨rfl, r.2⟩ r3⟩
        rw [List.map_cons, ← e3, ← keyA_rel r.1 e1]
def mgA (kvs : List (Key × A)) : List (Key × A) := kvs.foldl (fun acc kv => pt acc kv.1 kv.2) []
theorem mg_rel {K : Frg} {H : Hp} : ∀ {more : List (Key × A)} {rs : List (Key × V)} {kvs : List (Key × A)} {vs : List (Key × V)}, NoTwice kvs → RelK K H more rs → RelK K H kvs vs → RelK K H (more.foldl (fun acc kv => pt acc kv.1 kv.2) kvs) (mergeK vs rs)
  | [], _, kvs, vs, n, .nil, r => r
  | p :: more, q :: rs, kvs, vs, n, .cons r1 t, r => by
    have e : RelK K H (pt kvs p.1 p.2) (putK vs q.1 q.2) := by rw [← r1.1]; exact pt_rel _ r1.2 n r
    exact mg_rel (rs := rs) (kvs := pt kvs p.1 p.2) (vs := putK vs q.1 q.2) (NoTwice.pt n) t e
def aDisp (l : List (ATE × ATE)) : ATE := fun α h Q E => ∀ p, h p = none → aPairs l α (updA h p (.dK [])) (fun ps h2 => h2 p = some (.dK []) ∧ ps.length ≤ 15 ∧ match keysP ps with
  | some kvs => Q (.ref p) (updA h2 p (.dK (mgA kvs)))
  | none => False) E
structure APs (X : Cx) (pos : Pos) (keys : List (Option Expr)) (values : List Expr) (l : List (ATE × ATE)) : Prop where
  pps : PPs X pos keys values (lowPs X l)
theorem aps_nil {X : Cx} {pos : Pos} : APs X pos [] [] [] := ⟨pps_nil⟩
theorem aps_cons {X : Cx} {pos : Pos} {k v : Expr} {ks : List (Option Expr)} {vs : List Expr} {tk tv : ATE} {l : List (ATE × ATE)} (hk : AE X k tk) (hv : AE X v tv) (hr : APs X pos ks vs l) : APs X pos (some k :: ks) (v :: vs) ((tk, tv) :: l) := ⟨pps_cons hk.pe hv.pe hr.pps⟩
theorem ae_disp {X : Cx} {pos : Pos} {keys : List (Option Expr)} {values : List Expr} {l : List (ATE × ATE)} (h : APs X pos keys values l) (hall : keys.all (·.isSome) = true := by rfl) (hl : keys.length = values.length := by rfl) (h0 : keys ≠ [] := by simp)
    (h15 : keys.length ≤ 15 := by decide) : AE X (.Dict keys values pos) (aDisp l) := .of (pe_disp h.pps hall hl h0 h15) fun σ H Qv ⟨α, h, q, E, rs, rh, tk, ht, k⟩ => fun p hp =>
  low_pairs l (rs.up (Mono.new hp)) (rh.new hp (.dK .nil)) (tk.up (Mono.new hp)) (ht p (rh.free hp)) fun ps H2 as h2 m2 r2 rh2 ⟨e2, l2, q2⟩ => by
    obtain ⟨u, e3, ro⟩ := rh2 p _ e2
    obtain ⟨vs, rfl, r3⟩ := ro.dKi
    cases r3
    cases ek : keysP as with
    | none => rw [ek] at q2; exact q2.elim
    | some ks =>
      rw [ek] at q2
      obtain ⟨kvs, e4, r4⟩ := keysP_rel r2 ek
      refine ⟨e3, kvs, e4, ?_, k _ _ ⟨.ref p, _, ((Mono.new hp).trans m2).trans (Mono.wr e3 ns_dK), .ref p, rh2.wr e3 ns_dK (.dK (mg_rel NoTwice.nil r4 .nil)), q2⟩⟩
      have : ps.length = as.length := (Paired.length r2).symm
      rw [e4, List.length_map] at this
      omega

/-! ### more methods: insert, pop, a dict's pop; max, min -/
section
variable {K : Frg}
def insertA : ARm := fun x as h Q => match x, as with
  | .ref p, [.int i, y] => ∃ xs, h p = some (.lst xs) ∧ xs.length < sizeLine ∧ (0 ≤ i ∧ i < 2 ^ 63) ∧ Q .non (updA h p (.lst (xs.take i.toNat ++ [y] ++ xs.drop i.toNat)))
  | _, _ => False
theorem o_insert : OpM K (fun x vs H Q => ∃ (l : Addr) (xs : List V) (i : Int) (y : V), x = .ref l ∧ vs = [.int i, y] ∧ H l = some (.lst xs) ∧ xs.length < sizeLine ∧ 0 ≤ i ∧ i < 2 ^ 63 ∧
    Q .non (upd H l (.lst (xs.take i.toNat ++ [y] ++ xs.drop i.toNat)))) insertA := fun H h x a xs as Q Qv ra ras rh k q => by
  cases ra with
  | ref p => cases ras with
    | nil => exact (show False from q).elim
    | cons r1 t => cases t with
      | nil => cases r1 <;> exact (show False from q).elim
      | cons r2 t => cases t with
        | cons _ _ => cases r1 <;> exact (show False from q).elim
        | nil => cases r1 with
          | int i =>
            obtain ⟨ys, e, z, ⟨i0, i1⟩, q⟩ := (show ∃ xs, h p = some (.lst xs) ∧ xs.length < sizeLine ∧ (0 ≤ i ∧ i < 2 ^ 63) ∧ Q .non (updA h p (.lst (xs.take i.toNat ++ [_] ++ xs.drop i.toNat))) from q)
            obtain ⟨vs, f, rv⟩ := rh.lst e
            exact ⟨p, vs, i, _, rfl, rfl, f, by rw [← rv.len]; exact z, i0, i1, k _ _ ⟨.non, _, Mono.wr f ns_lst, .non, rh.wr f ns_lst (.lst (((rv.take _).app (.one r2)).app (rv.drop _))), q⟩⟩
          | _ => exact (show False from q).elim
  | _ => cases ras with
    | nil => exact (show False from q).elim
    | cons r1 t => cases t with
      | nil => cases r1 <;> exact (show False from q).elim
      | cons r2 t => cases r1 <;> cases t <;> exact (show False from q).elim
def popAtA : ARm := fun x as h Q => match x, as with
  | .ref p, [.int i] => ∃ xs j y, h p = some (.lst xs) ∧ (-(2 ^ 63) ≤ i ∧ i < 2 ^ 63) ∧ seqIndex? i xs.length = some j ∧ xs[j]? = some y ∧ Q y (updA h p (.lst (xs.eraseIdx j)))
  | _, _ => False
theorem o_popAt : OpM K rPopAt popAtA := fun H h x a xs as Q Qv ra ras rh k q => by
  cases ra with
  | ref p => cases ras with
    | nil => exact (show False from q).elim
    | cons r1 t => cases t with
      | cons _ _ => cases r1 <;> exact (show False from q).elim
      | nil => cases r1 with
        | int i =>
          obtain ⟨ys, j, y, e, ⟨i0, i1⟩, ej, ey, q⟩ := (show ∃ xs j y, h p = some (.lst xs) ∧ (-(2 ^ 63) ≤ i ∧ i < 2 ^ 63) ∧ seqIndex? i xs.length = some j ∧ xs[j]? = some y ∧ Q y (updA h p (.lst (xs.eraseIdx j))) from q)
          obtain ⟨vs, f, rv⟩ := rh.lst e
          obtain ⟨w, ew, rw'⟩ := rv.get ey
          exact ⟨p, vs, i, j, w, rfl, rfl, f, i0, i1, by rw [← rv.len]; exact ej, ew, k _ _ ⟨y, _, Mono.wr f ns_lst, rw'.up (Mono.wr f ns_lst), rh.wr f ns_lst (.lst (rv.erase j)), q⟩⟩
        | _ => exact (show False from q).elim
  | _ => cases ras with
    | nil => exact (show False from q).elim
    | cons r1 t => cases r1 <;> cases t <;> exact (show False from q).elim
/-- a dict's methods -/
def isDct (x : A) (h : AH) : Prop := match x with
  | .ref p => (∃ xs, h p = some (.dK xs)) ∨ ∃ xs, h p = some (.dT xs)
  | _ => False
theorem isDct_rel {H : Hp} {h : AH} {x : A} {v : V} (rh : RelH K H h) (r : RelA K H x v) (q : isDct x h) : tyV K "dict" v H := by
  cases r with
  | ref p =>
    rcases (show (∃ xs, h p = some (.dK xs)) ∨ ∃ xs, h p = some (.dT xs) from q) with ⟨xs, e⟩ | ⟨xs, e⟩
    · obtain ⟨u, e', ro⟩ := rh p _ e
      obtain ⟨vs, rfl, _⟩ := ro.dKi
      exact .inr (.inr (.inl ⟨rfl, .inl ⟨vs, e'⟩⟩))
    · obtain ⟨u, e', ro⟩ := rh p _ e
      obtain ⟨vs, rfl, _⟩ := ro.dTi
      exact .inr (.inr (.inl ⟨rfl, .inr ⟨vs, e'⟩⟩))
  | _ => exact (show False from q).elim
def dpopA : ARm := fun x as h Q => match x, as with
  | .ref p, [.kt k, d] => ∃ kvs, h p = some (.dT kvs) ∧ match vl kvs k with
    | some v => Q v (updA h p (.dT (dr kvs k)))
    | none => Q d h
  | _, _ => False
theorem o_dpop : OpM K L2.DX.rPopT dpopA := fun H h x a xs as Q Qv ra ras rh k q => by
  cases ra with
  | ref p => cases ras with
    | nil => exact (show False from q).elim
    | cons r1 t => cases t with
      | nil => cases r1 <;> exact (show False from q).elim
      | cons r2 t => cases t with
        | cons _ _ => cases r1 <;> exact (show False from q).elim
        | nil => cases r1 with
          | @kt b ks eb =>
            obtain ⟨kvs, e, q⟩ := (show ∃ kvs, h p = some (.dT kvs) ∧ match vl kvs ks with
              | some v => Q v (updA h p (.dT (dr kvs ks)))
              | none => Q _ h from q)
            obtain ⟨u, e', ro⟩ := rh p _ e
            obtain ⟨vs, rfl, r⟩ := ro.dTi
            obtain ⟨i1, i2⟩ := vl_rel ks r
            refine ⟨p, vs, ks, b, _, rfl, rfl, e', eb, fun v ev => ?_, fun ev => ?_⟩
            · cases el : vl kvs ks with
              | none => rw [i2 el] at ev; cases ev
              | some a =>
                rw [el] at q
                obtain ⟨w, ew, rw'⟩ := i1 a el
                rw [ew] at ev
                cases ev
                exact k _ _ ⟨a, _, Mono.wr e' ns_dT, rw'.up (Mono.wr e' ns_dT), rh.wr e' ns_dT (.dT (dr_rel ks r)), q⟩
            · cases el : vl kvs ks with
              | some a =>
                obtain ⟨w, ew, _⟩ := i1 a el
                rw [ew] at ev
                cases ev
              | none =>
                rw [el] at q
                exact k _ _ ⟨_, h, Mono.refl H, r2, rh, q⟩
          | _ => exact (show False from q).elim
  | _ => cases ras with
    | nil => exact (show False from q).elim
    | cons r1 t => cases t with
      | nil => cases r1 <;> exact (show False from q).elim
      | cons r2 t => cases r1 <;> cases t <;> exact (show False from q).elim
def maxA : ARs := two fun x y h Q => match x, y with
  | .int i, .int j => Q (.int (if j > i then j else i)) h
  | _, _ => False
def minA : ARs := two fun x y h Q => match x, y with
  | .int i, .int j => Q (.int (if j < i then j else i)) h
  | _, _ => False
theorem o_max : OpN K (fun xs H Q => ∃ i j, xs = [.int i, .int j] ∧ Q (.int (if j > i then j else i)) H) maxA := fun H h vs as Q Qv r rh k q => by
  obtain ⟨x, y, v, w, rfl, rx, ry, q⟩ := two_inv r q
  cases rx with
  | int i => cases ry with
    | int j => exact ⟨i, j, rfl, k _ _ ⟨_, h, Mono.refl H, .int _, rh, q⟩⟩
    | _ => exact (show False from q).elim
  | _ => cases ry <;> exact (show False from q).elim
theorem o_min : OpN K (fun xs H Q => ∃ i j, xs = [.int i, .int j] ∧ Q (.int (if j < i then j else i)) H) minA := fun H h vs as Q Qv r rh k q => by
  obtain ⟨x, y, v, w, rfl, rx, ry, q⟩ := two_inv r q
  cases rx with
  | int i => cases ry with
    | int j => exact ⟨i, j, rfl, k _ _ ⟨_, h, Mono.refl H, .int _, rh, q⟩⟩
    | _ => exact (show False from q).elim
  | _ => cases ry <;> exact (show False from q).elim
end
def aBmD (rA : ARm) (to : ATE) (t : ATA) : ATE := fun α h Q E => to α h (fun x h1 => isDct x h1 ∧ t α h1 (fun xs h2 => rA x xs h2 Q) E) E
section
variable {X : Cx} {o e : Expr} {es : List Expr} {to : ATE} {t : ATA} {name : Str} {apos cpos : Pos} {id : String} {r : V → List V → Hp → VK → Prop} {rA : ARm}
theorem ae_bmD (slot : Slot "dict" name id) (hty : typeOf (.builtin id) = pure (.type "method_descriptor")) (hm : MtR X id r) (hr : OpM X.K r rA) (ho : AE X o to) (ha : AAs X (e :: es) t)
    (hbase : attributeBase o name X.env (eval o X.env) = eval o X.env := by rfl)
    (hfew : ((backTo cpos (starEach (e :: es) X.env)).all (fun x => !x.1) && (backToKw cpos (keywordEach [] X.env)).all (fun x => x.1.isSome)
      && decide ((e :: es).length + ([] : List Keyword).length + (if ([] : List Keyword).isEmpty then 0 else 1) < 30)) = true := by rfl)
    (hline : (apos.endLine == cpos.line) = true := by rfl) (hs : starEach (e :: es) X.env = (false, eval e X.env) :: starEach es X.env := by rfl) (hplain : (backTo cpos (starEach es X.env)).any (·.1) = false := by rfl) :
    AE X (.Call (.Attribute o name apos) (e :: es) [] cpos) (aBmD rA to t) := .of (pe_bm PySem.F.plainAttrs_dict slot hty hm ho.pe ha.pa hbase hfew hline hs hplain) fun σ H Q ⟨α, h, q, E, rs, rh, tk, ht, k⟩ =>
  low.then (H0 := H) rs rh tk ht fun v H1 x h1 m1 r1 rh1 rs1 ⟨il, q1⟩ => ⟨isDct_rel rh1 r1 il, lowA.then rs1 rh1 (tk.up m1) q1 fun vs H2 xs h2 m2 r2 rh2 rs2 q2 => hr H2 h2 v x vs xs q Q (r1.up m2) r2 rh2 (fun z H' g => k _ _ (g.up (m1.trans m2))) q2⟩
end
end G
namespace G
open PySem PySem.Spec L2

/-! ### fractions -/
def fr (q : Rat) : A := .tup [.int q.num, .int q.den]
theorem gcd_fmod (a b : Int) : Int.gcd b (a.fmod b) = Int.gcd a b := by rw [Int.fmod_def, Int.gcd_sub_mul_left_right, Int.gcd_comm]
theorem fmod_pos {i m : Int} (h : 0 < m) : 0 ≤ i.fmod m ∧ i.fmod m < m := ⟨Int.fmod_nonneg_of_pos i h, Int.fmod_lt_of_pos i h⟩
theorem fmod_small (a : Int) {b : Int} (hb : b ≠ 0) : (a.fmod b).natAbs < b.natAbs := by
  by_cases h : 0 < b
  · have := fmod_pos (i := a) h
    omega
  · have e := Int.neg_fmod_neg (-a) (-b)
    rw [Int.neg_neg, Int.neg_neg] at e
    have := fmod_pos (i := -a) (m := -b) (by omega)
    rw [e]
    omega
section
variable {t b : Int}
theorem gcd_pos (hb : b ≠ 0) : 0 < (Int.gcd t b : Int) := by
  have : Int.gcd t b ≠ 0 := fun e => hb (Int.gcd_eq_zero_iff.mp e).2
  omega
theorem gcd_le (hb : b ≠ 0) : Int.gcd t b ≤ b.natAbs := Int.gcd_le_natAbs_right t hb
theorem made_pos (hb : 0 < b) : t / (Int.gcd t b : Int) = (Rat.divInt t b).num ∧ b / (Int.gcd t b : Int) = ((Rat.divInt t b).den : Int) := by
  rw [Rat.num_divInt, Rat.den_divInt, if_neg (by omega), Int.sign_eq_one_of_pos hb, Int.one_mul, Int.gcd_comm b t]
  refine ⟨rfl, ?_⟩
  rw [Int.natCast_ediv]
  congr 1
  omega
theorem made_neg (hb : b < 0) : t.fdiv (-(Int.gcd t b : Int)) = (Rat.divInt t b).num ∧ b.fdiv (-(Int.gcd t b : Int)) = ((Rat.divInt t b).den : Int) := by
  have hg := gcd_pos (t := t) (by omega : b ≠ 0)
  rw [Rat.num_divInt, Rat.den_divInt, if_neg (by omega), Int.sign_eq_neg_one_of_neg hb, Int.gcd_comm b t]
  have d1 := Int.gcd_dvd_left t b
  have d2 := Int.gcd_dvd_right t b
  rw [Int.fdiv_neg (by omega), Int.fdiv_neg (by omega), if_pos d1, if_pos d2, Int.fdiv_eq_ediv_of_dvd d1, Int.fdiv_eq_ediv_of_dvd d2]
  refine ⟨?_, ?_⟩
  · rw [Int.neg_one_mul, Int.neg_ediv_of_dvd d1]
  · rw [Int.natCast_ediv, ← Int.neg_ediv_of_dvd d2]
    congr 1
    omega
end
theorem fr_add (p q : Rat) : Rat.divInt (p.num * q.den + q.num * p.den) (p.den * q.den) = p + q := by
  have hp : (p.den : Int) ≠ 0 := by have := p.den_nz; omega
  have hq : (q.den : Int) ≠ 0 := by have := q.den_nz; omega
  rw [← Rat.divInt_add_divInt _ _ hp hq, Rat.num_divInt_den, Rat.num_divInt_den]
theorem fr_mul (p q : Rat) : Rat.divInt (p.num * q.num) (p.den * q.den) = p * q := by
  rw [← Rat.divInt_mul_divInt, Rat.num_divInt_den, Rat.num_divInt_den]
theorem den_pos (q : Rat) : 0 < (q.den : Int) := by have := q.den_pos; omega
theorem fr_inj {p q : Rat} (e : fr p = fr q) : p = q := by
  unfold fr at e
  injection e with e
  injection e with e1 e
  injection e1 with e1
  injection e with e2 _
  injection e2 with e2
  exact Rat.ext e1 (by omega)
/-! sizes -/
def Sz (n : Nat) (q : Rat) : Prop := q.num.natAbs < 2 ^ n ∧ q.den < 2 ^ n
theorem Sz.mono {n m : Nat} {q : Rat} (h : Sz n q) (k : n ≤ m) : Sz m q := ⟨Nat.lt_of_lt_of_le h.1 (Nat.pow_le_pow_right (by decide) k), Nat.lt_of_lt_of_le h.2 (Nat.pow_le_pow_right (by decide) k)⟩
theorem bits_le {i : Int} {n : Nat} (h : i.natAbs < 2 ^ n) : Builtin.Int.intBits i ≤ n := by
  unfold Builtin.Int.intBits
  split
  · omega
  · rename_i z
    have hi : i.natAbs ≠ 0 := by
      intro e
      exact z (by rw [beq_iff_eq]; omega)
    have := (Nat.log2_lt hi).mpr h
    omega
theorem mul_bits {i j : Int} {n m : Nat} (hi : i.natAbs < 2 ^ n) (hj : j.natAbs < 2 ^ m) (h : n + m ≤ 134217728) : IntMulOk i j := by
  have h1 := bits_le hi
  have h2 := bits_le hj
  have e : bitsLine = 134217728 := by decide
  unfold IntMulOk
  intro z
  rw [Bool.and_eq_true] at z
  have z2 := z.2
  unfold Builtin.Int.intTooBig at z2
  have z3 := of_decide_eq_true z2
  rw [e] at z3
  omega
theorem log2_small {n k : Nat} (h : n < 2 ^ k) (hk : k ≤ 9000) : n.log2 < 9000 := by
  by_cases z : n = 0
  · subst z; decide
  · exact Nat.lt_of_lt_of_le ((Nat.log2_lt z).mpr h) hk
theorem abs_mul_lt {i j : Int} {n m : Nat} (hi : i.natAbs < 2 ^ n) (hj : j.natAbs < 2 ^ m) : (i * j).natAbs < 2 ^ (n + m) := by
  rw [Int.natAbs_mul, Nat.pow_add]
  exact Nat.mul_lt_mul'' hi hj
theorem divInt_size {t b : Int} {n : Nat} (ht : t.natAbs < 2 ^ n) (hb : b.natAbs < 2 ^ n) (h0 : b ≠ 0) : Sz n (Rat.divInt t b) := by
  refine ⟨?_, ?_⟩
  · rw [Rat.num_divInt]
    refine Nat.lt_of_le_of_lt ?_ ht
    refine Nat.le_trans (Int.natAbs_ediv_le_natAbs _ _) ?_
    rw [Int.natAbs_mul]
    have : b.sign.natAbs ≤ 1 := by rw [Int.natAbs_sign_of_ne_zero h0]; exact Nat.le_refl 1
    calc b.sign.natAbs * t.natAbs ≤ 1 * t.natAbs := Nat.mul_le_mul_right _ this
      _ = t.natAbs := Nat.one_mul _
  · rw [Rat.den_divInt, if_neg h0]
    exact Nat.lt_of_le_of_lt (Nat.div_le_self _ _) hb
theorem Sz.mul {n m : Nat} {p q : Rat} (hp : Sz n p) (hq : Sz m q) : Sz (n + m) (p * q) := by
  rw [← fr_mul]
  refine divInt_size (abs_mul_lt hp.1 hq.1) ?_ (by have := p.den_nz; have := q.den_nz; simp; omega)
  exact abs_mul_lt (i := (p.den : Int)) (j := (q.den : Int)) (by simpa using hp.2) (by simpa using hq.2)
theorem Sz.add {n m : Nat} {p q : Rat} (hp : Sz n p) (hq : Sz m q) : Sz (n + m + 1) (p + q) := by
  rw [← fr_add]
  have a1 := abs_mul_lt (j := (q.den : Int)) hp.1 (by simpa using hq.2)
  have a2 := abs_mul_lt (j := (p.den : Int)) hq.1 (by simpa using hp.2)
  have a3 := abs_mul_lt (i := (p.den : Int)) (j := (q.den : Int)) (n := n) (m := m) (by simpa using hp.2) (by simpa using hq.2)
  rw [Nat.add_comm m n] at a2
  have e : 2 ^ (n + m + 1) = 2 ^ (n + m) + 2 ^ (n + m) := by rw [Nat.pow_succ]; omega
  refine divInt_size ?_ ?_ (by have := p.den_nz; have := q.den_nz; simp; omega)
  · rw [e]
    have := Int.natAbs_add_le (p.num * q.den) (q.num * p.den)
    omega
  · rw [e]; omega
end G
namespace G
open PySem PySem.Spec L2
section
variable {h : AH} {α : ASt}
/-- a comprehension whose items are known: the i-th is F i; only new objects are made -/
theorem lc_map {x : A} {xs : List A} {g : ATG} {te : ATE} {vs : List Nat} {Q : Addr → AH → Prop} (F : Nat → A) (q : itA h x = some xs) (sz : xs.length ≤ 1000)
    (step : ∀ i (hi : i < xs.length) h' (C : A → AH → Prop), Ext h h' → (∀ h4, Ext h' h4 → C (F i) h4) → g xs[i] (wipeA α vs) h' fun α2 h2 => te α2 h2 C AE0)
    (done : ∀ D h', h D = none → Ext h h' → h' D = some (.lst ((List.range xs.length).map F)) → Q D h') : seqOf x h fun S => ∀ D, h D = none → lcS S g aYes te vs α h D fun h2 => Q D h2 := by
  refine lc_it (fun D i h' => Ext h h' ∧ h' D = some (.lst ((List.range i).map F))) q (fun D hD => ⟨Ext.new hD, updA_same⟩) (fun D hD p e i h' _ pv => by subst e; exact pv.1 _ _ (itA_ref.mp q)) (fun D hD i hi h' pv => ?_) fun D hD h' pv => done D h' hD pv.1 pv.2
  obtain ⟨ex, eD⟩ := pv
  refine step i hi h' _ ex fun h4 e4 => ⟨_, e4 _ _ eD, ?_, Ext.wr hD (ex.trans e4), ?_⟩
  · rw [List.length_map, List.length_range]
    exact Nat.lt_of_lt_of_le (by omega : i < 1000) (by decide)
  · rw [updA_same, List.range_succ, List.map_append]
    rfl
theorem lc_rmap {n : Nat} {g : ATG} {te : ATE} {vs : List Nat} {D : Addr} {Q : AH → Prop} (F : Nat → A) (sz : n ≤ 1000) (hD : h D = none)
    (step : ∀ i (hi : i < n) h' (C : A → AH → Prop), Ext h h' → (∀ h4, Ext h' h4 → C (F i) h4) → g (.int (0 + (i : Nat))) (wipeA α vs) h' fun α2 h2 => te α2 h2 C AE0)
    (done : ∀ h', Ext h h' → h' D = some (.lst ((List.range n).map F)) → Q h') : lcS ⟨n, fun i a => a = .int (0 + (i : Nat)), fun _ => True⟩ g aYes te vs α h D Q := by
  refine lc_rng (fun i h' => Ext h h' ∧ h' D = some (.lst ((List.range i).map F))) ⟨Ext.new hD, updA_same⟩ (fun i hi h' pv => ?_) fun h' pv => done h' pv.1 pv.2
  obtain ⟨ex, eD⟩ := pv
  refine step i hi h' _ ex fun h4 e4 => ⟨_, e4 _ _ eD, ?_, Ext.wr hD (ex.trans e4), ?_⟩
  · rw [List.length_map, List.length_range]
    exact Nat.lt_of_lt_of_le (by omega : i < 1000) (by decide)
  · rw [updA_same, List.range_succ, List.map_append]
    rfl
/-- a comprehension with a test that no item passes -/
theorem lc_none {x : A} {xs : List A} {g : ATG} {tt : ATT} {te : ATE} {vs : List Nat} {Q : Addr → AH → Prop} (q : itA h x = some xs)
    (step : ∀ i (hi : i < xs.length) h' (C : ASt → Bool → AH → Prop), Ext h h' → (∀ α2, C α2 false h') → g xs[i] (wipeA α vs) h' fun α2 h2 => tt α2 h2 (C α2) AE0)
    (done : ∀ D h', h D = none → Ext h h' → h' D = some (.lst []) → Q D h') : seqOf x h fun S => ∀ D, h D = none → lcS S g tt te vs α h D fun h2 => Q D h2 := by
  have st : ∀ D, h D = none → ∀ i x' h', i < xs.length → xs[i]? = some x' → (Ext h h' ∧ h' D = some (.lst [])) → g x' (wipeA α vs) h' fun α2 h2 => tt α2 h2 (fun b h3 => if b = true then te α2 h3 (fun y h4 => ∃ acc, h4 D = some (.lst acc) ∧ acc.length < sizeLine ∧ (Ext h (updA h4 D (.lst (acc ++ [y]))) ∧ updA h4 D (.lst (acc ++ [y])) D = some (.lst []))) AE0 else (Ext h h3 ∧ h3 D = some (.lst []))) AE0 := fun D hD i x' h' hi e pv => by
    rw [List.getElem?_eq_getElem hi] at e
    cases e
    exact step i hi h' (fun α2 b h3 => if b = true then te α2 h3 (fun y h4 => ∃ acc, h4 D = some (.lst acc) ∧ acc.length < sizeLine ∧ (Ext h (updA h4 D (.lst (acc ++ [y]))) ∧ updA h4 D (.lst (acc ++ [y])) D = some (.lst []))) AE0 else (Ext h h3 ∧ h3 D = some (.lst []))) pv.1 fun α2 => ifF pv
  cases x with
  | ref p => exact ⟨xs, itA_ref.mp q, fun D hD => ⟨fun _ h' => Ext h h' ∧ h' D = some (.lst []), ⟨Ext.new hD, updA_same⟩, fun i h' hi pv => pv.1 _ _ (itA_ref.mp q), st D hD, fun h' pv => done D h' hD pv.1 pv.2⟩⟩
  | tup ys => cases q; exact fun D hD => ⟨fun _ h' => Ext h h' ∧ h' D = some (.lst []), ⟨Ext.new hD, updA_same⟩, fun _ _ _ _ => trivial, st D hD, fun h' pv => done D h' hD pv.1 pv.2⟩
  | _ => cases q
end
theorem getD_at {α : Type} {l : List α} {i : Nat} (d : α) (h : i < l.length) : l.getD i d = l[i] := by simp [h]
theorem range_map_get {α β : Type} (f : α → β) (d : α) (l : List α) : (List.range l.length).map (fun i => f (l.getD i d)) = l.map f := by
  refine List.ext_getElem (by simp) fun i h1 h2 => ?_
  simp at h1
  simp [h1]
end G
namespace G
open PySem PySem.Spec L2

/-! ### pure values as data -/
def datK : Key → PyData
  | .inl i => .int i
  | .inr x => .str x
mutual
def datP : A → PyData
  | .bl b => .bool b
  | .int i => .int i
  | .str x => .str x
  | .tup xs => .tuple (datPs xs)
  | .kt ks => .tuple (ks.map datK)
  | .fls xs => .list (datPs xs)
  | _ => .none
def datPs : List A → List PyData
  | [] => []
  | x :: xs => datP x :: datPs xs
end
/-- a pure value of at most so many levels -/
inductive Pu : Nat → A → Prop
  | non {n} : Pu n .non
  | bl {n} (b : Bool) : Pu n (.bl b)
  | int {n} (i : Int) : Pu n (.int i)
  | str {n} {x : Str} (h : PyData.strOk x = true) : Pu n (.str x)
  | tup {n} {xs : List A} (h : ∀ x ∈ xs, Pu n x) : Pu (n + 1) (.tup xs)
  | fls {n} {xs : List A} (h : ∀ x ∈ xs, Pu n x) : Pu (n + 1) (.fls xs)
  | ki {n} (ks : List Int) : Pu (n + 1) (.kt (ks.map Sum.inl))
theorem datPs_mem : ∀ {xs : List A} {d : PyData}, d ∈ datPs xs → ∃ x ∈ xs, datP x = d
  | [], d, h => by simp [datPs] at h
  | x :: xs, d, h => by
    unfold datPs at h
    rcases List.mem_cons.mp h with h | h
    · exact ⟨x, by simp, h.symm⟩
    · obtain ⟨y, hy, e⟩ := datPs_mem h
      exact ⟨y, List.mem_cons_of_mem _ hy, e⟩
theorem layAll : ∀ {ds : List PyData}, (∀ d ∈ ds, PyData.canLay0 d = true) → PyData.canLayAll0 ds = true
  | [], _ => by simp [PyData.canLayAll0]
  | d :: ds, h => by
    unfold PyData.canLayAll0
    rw [h d (by simp), layAll fun e he => h e (List.mem_cons_of_mem _ he)]
    rfl
theorem depAll {n : Nat} : ∀ {ds : List PyData}, (∀ d ∈ ds, PyData.depth d ≤ n) → PyData.depthAll ds ≤ n
  | [], _ => by simp [PyData.depthAll]
  | d :: ds, h => by
    unfold PyData.depthAll
    have h1 := h d (by simp)
    have h2 := depAll fun e he => h e (List.mem_cons_of_mem _ he)
    omega
theorem Pu.data {h : AH} {n : Nat} {x : A} (p : Pu n x) : DatA h x (datP x) ∧ PyData.canLay0 (datP x) = true ∧ PyData.depth (datP x) ≤ n := by
  have all : ∀ (n : Nat) (xs : List A), (∀ x ∈ xs, DatA h x (datP x) ∧ PyData.canLay0 (datP x) = true ∧ PyData.depth (datP x) ≤ n) → DatAs h xs (datPs xs) ∧ PyData.canLayAll0 (datPs xs) = true ∧ PyData.depthAll (datPs xs) ≤ n := fun n xs k => by
    refine ⟨?_, layAll fun d hd => ?_, depAll fun d hd => ?_⟩
    · induction xs with
      | nil => exact .nil
      | cons y ys ih =>
        unfold datPs
        exact .cons (k y (by simp)).1 (ih fun z hz => k z (List.mem_cons_of_mem _ hz))
    · obtain ⟨y, hy, e⟩ := datPs_mem hd
      rw [← e]; exact (k y hy).2.1
    · obtain ⟨y, hy, e⟩ := datPs_mem hd
      rw [← e]; exact (k y hy).2.2
  induction p with
  | non => exact ⟨.non, by simp [datP, PyData.canLay0], by simp [datP, PyData.depth]⟩
  | bl b => exact ⟨.bl b, by simp [datP, PyData.canLay0], by simp [datP, PyData.depth]⟩
  | int i => exact ⟨.int i, by simp [datP, PyData.canLay0], by simp [datP, PyData.depth]⟩
  | @str n x e => exact ⟨.str x, by simp [datP, PyData.canLay0, e], by simp [datP, PyData.depth]⟩
  | @tup n xs k ih =>
    obtain ⟨a, b, c⟩ := all n xs ih
    unfold datP
    refine ⟨.tup a, ?_, ?_⟩
    · unfold PyData.canLay0; exact b
    · unfold PyData.depth; omega
  | @fls n xs k ih =>
    obtain ⟨a, b, c⟩ := all n xs ih
    unfold datP
    refine ⟨.fls a, ?_, ?_⟩
    · unfold PyData.canLay0; exact b
    · unfold PyData.depth; omega
  | @ki n ks =>
    unfold datP
    refine ⟨.kt ?_, ?_, ?_⟩
    · induction ks with
      | nil => exact .nil
      | cons k ks ih => exact .cons (.int k) ih
    · unfold PyData.canLay0
      refine layAll fun d hd => ?_
      simp at hd
      obtain ⟨a, _, e⟩ := hd
      subst e
      simp [datK, PyData.canLay0]
    · unfold PyData.depth
      have : PyData.depthAll ((ks.map Sum.inl).map datK) ≤ 0 := depAll fun d hd => by
        simp at hd
        obtain ⟨a, _, e⟩ := hd
        subst e
        simp [datK, PyData.depth]
      omega
theorem Pu.shaped {n : Nat} {x : A} (p : Pu n x) (hn : n ≤ 64) : SeqAt.shaped (datP x) = true := by
  obtain ⟨_, b, c⟩ := p.data (h := fun _ => none)
  unfold SeqAt.shaped
  rw [b, decide_eq_true (Nat.le_trans c hn)]
  rfl
theorem Pu.mono {n m : Nat} {x : A} (p : Pu n x) (h : n ≤ m) : Pu m x := by
  induction p generalizing m with
  | non => exact .non
  | bl b => exact .bl b
  | int i => exact .int i
  | str e => exact .str e
  | tup k ih => obtain ⟨m, rfl⟩ := Nat.exists_eq_add_of_lt h; rw [show _ + m + 1 = (_ + m) + 1 from rfl]; exact .tup fun x hx => ih x hx (by omega)
  | fls k ih => obtain ⟨m, rfl⟩ := Nat.exists_eq_add_of_lt h; rw [show _ + m + 1 = (_ + m) + 1 from rfl]; exact .fls fun x hx => ih x hx (by omega)
  | ki ks => obtain ⟨m, rfl⟩ := Nat.exists_eq_add_of_lt h; rw [show _ + m + 1 = (_ + m) + 1 from rfl]; exact .ki ks
/-- == of pure values -/
def eqP (x y : A) : Bool := PyData.eqv (datP x) (datP y)
def eqPs (xs ys : List A) : Bool := PyData.eqvAll (datPs xs) (datPs ys)
theorem eqA_pu {neg : Bool} {n : Nat} {x y : A} {h : AH} {Q : AVK} (p : Pu n x) (p' : Pu n y) (q : Q (.bl (nb neg (eqP x y))) h) (hn : n ≤ 64 := by decide) : eqA neg x y h Q := by
  have gen : ((∃ d e, DatA h x d ∧ DatA h y e ∧ SeqAt.shaped d = true ∧ SeqAt.shaped e = true ∧ Q (.bl (nb neg (PyData.eqv d e))) h) ∨
      ∃ p q xs ys, x = .ref p ∧ y = .ref q ∧ LstA h p xs ∧ LstA h q ys ∧ xs.length ≠ ys.length ∧ Q (.bl neg) h) ∨ ∃ n, n ≤ 60 ∧ SamR h (SamA h n) x y ∧ Q (.bl (!neg)) h :=
    .inl (.inl ⟨_, _, p.data.1, p'.data.1, p.shaped hn, p'.shaped hn, q⟩)
  unfold eqA
  cases x <;> cases y <;> try exact gen
  · rename_i a b
    have e : eqP (.int a) (.int b) = (a == b) := by unfold eqP datP PyData.eqv; rfl
    rw [e] at q
    exact q
  · rename_i a b
    have e : eqP (.str a) (.str b) = (a == b) := by unfold eqP datP PyData.eqv; rfl
    rw [e] at q
    have e2 : (a == b) = decide (a = b) := by
      by_cases c : a = b
      · subst c; simp
      · rw [decide_eq_false c]; exact beq_eq_false_iff_ne.mpr c
    rw [e2] at q
    exact q
section
theorem eqP_int {i j : Int} : eqP (.int i) (.int j) = decide (i = j) := by unfold eqP datP PyData.eqv; by_cases c : i = j <;> simp [c]
theorem eqP_bl {i j : Bool} : eqP (.bl i) (.bl j) = (i == j) := by unfold eqP datP PyData.eqv; rfl
theorem eqP_str {a b : Str} : eqP (.str a) (.str b) = decide (a = b) := by
  unfold eqP datP PyData.eqv
  by_cases c : a = b
  · subst c; simp
  · rw [decide_eq_false c]; exact beq_eq_false_iff_ne.mpr c
theorem eqP_tup {xs ys : List A} : eqP (.tup xs) (.tup ys) = eqPs xs ys := by unfold eqP eqPs; simp only [datP, PyData.eqv]
theorem eqP_fls {xs ys : List A} : eqP (.fls xs) (.fls ys) = eqPs xs ys := by unfold eqP eqPs; simp only [datP, PyData.eqv]
theorem eqPs_nil : eqPs [] [] = true := by unfold eqPs; simp only [datPs, PyData.eqvAll]
theorem eqPs_cons {x y : A} {xs ys : List A} : eqPs (x :: xs) (y :: ys) = (eqP x y && eqPs xs ys) := by unfold eqPs eqP; simp only [datPs, PyData.eqvAll]
theorem eqPs_nc {y : A} {ys : List A} : eqPs [] (y :: ys) = false := by unfold eqPs; simp only [datPs, PyData.eqvAll]
theorem eqPs_cn {y : A} {ys : List A} : eqPs (y :: ys) [] = false := by unfold eqPs; simp only [datPs, PyData.eqvAll]
theorem eqPs_self : ∀ {xs : List A}, (∀ x ∈ xs, eqP x x = true) → eqPs xs xs = true
  | [], _ => eqPs_nil
  | x :: xs, h => by rw [eqPs_cons, h x (by simp), eqPs_self fun y hy => h y (List.mem_cons_of_mem _ hy)]; rfl
theorem Pu.self {n : Nat} {x : A} (p : Pu n x) : eqP x x = true := by
  induction p with
  | non => unfold eqP datP PyData.eqv; rfl
  | bl b => rw [eqP_bl]; simp
  | int i => rw [eqP_int]; simp
  | str e => rw [eqP_str]; simp
  | tup k ih => rw [eqP_tup]; exact eqPs_self ih
  | fls k ih => rw [eqP_fls]; exact eqPs_self ih
  | ki ks =>
    unfold eqP datP
    unfold PyData.eqv
    induction ks with
    | nil => simp [PyData.eqvAll]
    | cons k ks ih => simpa [PyData.eqvAll, datK, PyData.eqv] using ih
/-- of an encoding: == is = -/
theorem eqPs_map {α : Type} {f : α → A} {P : α → Prop} (hf : ∀ a b, P a → P b → (eqP (f a) (f b) = true ↔ a = b)) : ∀ {l m : List α}, (∀ a ∈ l, P a) → (∀ a ∈ m, P a) → (eqPs (l.map f) (m.map f) = true ↔ l = m)
  | [], [], _, _ => by simp [eqPs_nil]
  | [], _ :: _, _, _ => by simp [eqPs_nc]
  | _ :: _, [], _, _ => by simp [eqPs_cn]
  | a :: l, b :: m, h1, h2 => by
    rw [List.map_cons, List.map_cons, eqPs_cons, Bool.and_eq_true, hf a b (h1 a (by simp)) (h2 b (by simp)), eqPs_map hf (fun x hx => h1 x (List.mem_cons_of_mem _ hx)) (fun x hx => h2 x (List.mem_cons_of_mem _ hx))]
    simp
theorem eqP_fr {p q : Rat} : eqP (fr p) (fr q) = decide (p = q) := by
  unfold fr
  rw [eqP_tup, eqPs_cons, eqPs_cons, eqPs_nil, eqP_int, eqP_int, Bool.and_true]
  by_cases c : p = q
  · subst c; simp
  · rw [decide_eq_false c]
    by_cases a : p.num = q.num
    · have b : ¬ (p.den : Int) = q.den := fun b => c (Rat.ext a (by omega))
      simp [b]
    · simp [a]
theorem pu_fr {n : Nat} {q : Rat} : Pu (n + 1) (fr q) := .tup fun x hx => by
  simp at hx
  rcases hx with rfl | rfl
  · exact .int _
  · exact .int _
end

/-! ### a list of one's own becomes a value -/
def delA (h : AH) (p : Addr) : AH := fun b => if b = p then none else h b
theorem delA_upd {h : AH} {p : Addr} {o : AO} (e : h p = none) : delA (updA h p o) p = h := by
  funext b
  unfold delA updA
  by_cases c : b = p
  · subst c; simp [e]
  · simp [c]
theorem delA_ext {h h' : AH} {p : Addr} (e : Ext h h') (n : h p = none) : Ext h (delA h' p) := fun a o q => by
  unfold delA
  rw [if_neg (fun c => by subst c; rw [n] at q; cases q)]
  exact e a o q
theorem RelH.frz {K : Frg} {H : Hp} {h : AH} {p : Addr} {vs : List V} {od : Obj} (rh : RelH K H h) (e : H p = some (.lst vs)) : RelH K (upd H p (.frz od (.lst vs))) (delA h p) := fun a o q => by
  unfold delA at q
  split at q
  · cases q
  · rename_i ne
    obtain ⟨u, e', r⟩ := rh a o q
    exact ⟨u, by rw [upd_ne ne]; exact e', r.up (Mono.wr e ns_lst)⟩
def fzQ (Q : AVK) : AVK := fun x h => match x with
  | .ref p => ∃ xs, h p = some (.lst xs) ∧ Q (.fls xs) (delA h p)
  | _ => False
def aFz (t : ATE) : ATE := fun α h Q E => t α h (fzQ Q) E
theorem ae_fz {X : Cx} {e : Expr} {t : ATE} (a : AE X e t) : AE X e (aFz t) := ⟨fun pins s σ H α h Q E I rs rh tk ht => thn (a.run pins s σ H α h (fzQ Q) E I rs rh tk ht) fun u s' ⟨v, H', I', rv, x, h', m, r, rh', q⟩ => by
  cases r with
  | ref p =>
    obtain ⟨xs, e, q⟩ := (show ∃ xs, h' p = some (.lst xs) ∧ Q (.fls xs) (delA h' p) from q)
    obtain ⟨vs, e', rs'⟩ := rh'.lst e
    obtain ⟨od, I2⟩ := I'.lock e' trivial
    exact ⟨.ref p, _, I2, rv, .fls xs, _, m.trans (Mono.wr e' ns_lst), .fls (.inl ⟨od, upd_same⟩) (rs'.up (Mono.wr e' ns_lst)), rh'.frz e', q⟩
  | _ => exact q.elim⟩
/-- the end of an expression that lays a new list, for its items -/
def LQF (K : Frg) (H : Hp) (Q : AVK) : VK := fun v H' => LQ K H Q v H' ∨ ∃ p vs xs h1, v = .ref p ∧ H' p = some (.lst vs) ∧ Mono H H' ∧ RelAs K H' xs vs ∧ RelH K H' h1 ∧ h1 p = none ∧ Q (.fls xs) h1
theorem AE.ofF {X : Cx} {e : Expr} {t : ATE} {t' : TE} (p : PE X e t')
    (k : ∀ σ H Qv α h Q E, RelS X.K H α σ → RelH X.K H h → TakesE X H α E → t α h Q E → (∀ v H', LQF X.K H Q v H' → Qv v H') → t' σ H Qv) : AE X e t :=
  ⟨fun pins s σ H α h Q E I rs rh tk ht => thn (p.run pins s σ H (LQF X.K H Q) I (k _ _ _ _ _ _ _ rs rh tk ht fun _ _ z => z)) fun u s' ⟨v, H', I', rv, q⟩ => by
    rcases q with q | ⟨p, vs, xs, h1, rfl, e', m, rx, rh1, n1, q⟩
    · exact ⟨v, H', I', rv, q⟩
    · obtain ⟨od, I2⟩ := I'.lock e' trivial
      have mw : Mono H' (upd H' p (.frz od (.lst vs))) := Mono.wr e' ns_lst
      refine ⟨.ref p, _, I2, rv, .fls xs, h1, m.trans mw, .fls (.inl ⟨od, upd_same⟩) (rx.up mw), fun a o z => ?_, q⟩
      have ne : a ≠ p := fun c => by subst c; rw [n1] at z; cases z
      obtain ⟨w, e2, r⟩ := rh1 a o z
      exact ⟨w, by rw [upd_ne ne]; exact e2, r.up mw⟩⟩
theorem LQF.new {K : Frg} {H H1 : Hp} {Q : AVK} {h1 : AH} {p : Addr} {xs : List A} {vs : List V} (m : Mono H H1) (r : RelAs K H1 xs vs) (rh : RelH K H1 h1) (hp : H1 p = none) (q : Q (.fls xs) h1) : LQF K H Q (.ref p) (upd H1 p (.lst vs)) :=
  .inr ⟨p, vs, xs, h1, rfl, upd_same, m.trans (Mono.new hp), r.up (Mono.new (o := .lst vs) hp), rh.skip hp, rh.free hp, q⟩
section
variable {X : Cx} {e a b : Expr} {es : List Expr} {pos p2 : Pos} {te ta tb : ATE} {tr : ATA} {tl th : ATO}
/-- [..] -/
def aLstF (t : ATA) : ATE := fun α h Q E => t α h (fun xs h1 => xs.length ≤ sizeLine ∧ Q (.fls xs) h1) E
theorem ae_lstF (p : AAs X es tr) : AE X (.List es pos) (aLstF tr) := AE.ofF (pe_lst p.pa) fun σ H Qv α h Q E rs rh tk ht k =>
  lowA.then rs rh tk ht fun vs H1 xs h1 m1 r1 rh1 _ ⟨z, q1⟩ => ⟨by rw [← r1.len]; exact z, fun p hp => k _ _ (LQF.new m1 r1 rh1 hp q1)⟩
/-- xs[lo:hi] of a list or a tuple -/
def aSlF (te : ATE) (tl th : ATO) : ATE := fun α h Q E => te α h (fun x h1 => match x with
  | .ref p => tl α h1 (fun l h2 => th α h2 (fun u h3 => ∃ xs, LstA h3 p xs ∧ Q (.fls (cutA xs l u)) h3) E) E
  | .fls xs => tl α h1 (fun l h2 => th α h2 (fun u h3 => Q (.fls (cutA xs l u)) h3) E) E
  | .tup xs => tl α h1 (fun l h2 => th α h2 (fun u h3 => Q (.tup (cutA xs l u)) h3) E) E
  | _ => False) E
theorem cut_whole {xs : List A} {lo hi : Option Int} (h : HT.sIx xs.length 0 lo = 0 ∧ HT.sIx xs.length xs.length hi = xs.length) : cutA xs lo hi = xs := by
  unfold cutA
  rw [h.1, h.2]
  simp
theorem ae_slF {lo hi : Option Expr} (he : AE X e te) (hl : AOp X lo tl) (hh : AOp X hi th) : AE X (.Subscript e (.Slice lo hi none p2) pos) (aSlF te tl th) :=
  AE.ofF (pe_slice (sl_list.or sl_tupA) he.pe hl.po hh.po) fun σ H Q α h q E rs rh tk ht k => low.then (H0 := H) rs rh tk ht fun v H1 x h1 m1 r1 rh1 rs1 q1 => by
    cases r1 with
    | ref p =>
      refine ⟨α, h1, _, E, rs1, rh1, tk.up m1, q1, fun l H2 h2 m2 rh2 q2 => ?_⟩
      refine ⟨α, h2, _, E, rs1.up m2, rh2, (tk.up m1).up m2, q2, fun u H3 h3 m3 rh3 ⟨xs, e, q3⟩ => ?_⟩
      obtain ⟨vs, e', r⟩ := rh3.rd e
      exact .inl ⟨p, vs, rfl, e', fun r' hr => k _ _ (LQF.new ((m1.trans m2).trans m3) (cut_rel r l u) rh3 hr q3)⟩
    | @fls p xs vs eF rv =>
      refine ⟨α, h1, _, E, rs1, rh1, tk.up m1, q1, fun l H2 h2 m2 rh2 q2 => ?_⟩
      refine ⟨α, h2, _, E, rs1.up m2, rh2, (tk.up m1).up m2, q2, fun u H3 h3 m3 rh3 q3 => ?_⟩
      exact .inl ⟨p, vs, rfl, ((eF.mono m2).mono m3).sq, fun r' hr => k _ _ (LQF.new ((m1.trans m2).trans m3) (cut_rel ((rv.up m2).up m3) l u) rh3 hr q3)⟩
    | @tup p xs vs eT rv =>
      refine ⟨α, h1, _, E, rs1, rh1, tk.up m1, q1, fun l H2 h2 m2 rh2 q2 => ?_⟩
      refine ⟨α, h2, _, E, rs1.up m2, rh2, (tk.up m1).up m2, q2, fun u H3 h3 m3 rh3 q3 => ?_⟩
      have r3 := (rv.up m2).up m3
      have e3 : TupAt X.K H3 p vs := (eT.mono m2).mono m3
      have mm := (m1.trans m2).trans m3
      refine .inr ⟨p, vs, rfl, e3.sq, fun w => ?_, fun _ r' hr => ?_⟩
      · rw [← r3.len] at w
        have q3 : q (.tup (cutA xs l u)) h3 := q3
        rw [cut_whole w] at q3
        exact k _ _ (.inl ⟨_, h3, mm, .tup e3 r3, rh3, q3⟩)
      · exact k _ _ (.inl ⟨_, h3, mm.trans (Mono.new hr), .tup (.of upd_same) ((cut_rel r3 l u).up (Mono.new hr)), rh3.skip hr, q3⟩)
    | _ => exact (show False from q1).elim
/-- xs[::-1] -/
def aRevF (te : ATE) : ATE := fun α h Q E => te α h (fun x h1 => match x with
  | .ref p => ∃ xs, LstA h1 p xs ∧ Q (.fls xs.reverse) h1
  | .fls xs => Q (.fls xs.reverse) h1
  | _ => False) E
theorem ae_revF {k : Nat} {p1 p2 p3 : Pos} (he : AE X e te) : AE X (.Subscript e (.Slice none none (some (.UnaryOp .USub (.Constant (.int 1) k p1) p2)) p3) pos) (aRevF te) :=
  AE.ofF (pe_revL he.pe) fun σ H Q α h q E rs rh tk ht k => low.then (H0 := H) rs rh tk ht fun v H1 x h1 m1 r1 rh1 rs1 q1 => by
    cases r1 with
    | ref p =>
      obtain ⟨xs, e, q⟩ := (show ∃ xs, LstA h1 p xs ∧ q (.fls xs.reverse) h1 from q1)
      obtain ⟨vs, e', r⟩ := rh1.rd e
      exact ⟨p, vs, rfl, e', fun r' hr => k _ _ (LQF.new m1 r.rev rh1 hr q)⟩
    | @fls p xs vs eF rv => exact ⟨p, vs, rfl, eF.sq, fun r' hr => k _ _ (LQF.new m1 rv.rev rh1 hr q1)⟩
    | _ => exact (show False from q1).elim
end
end G
namespace G
open PySem PySem.Spec L2

/-! ### list + list, list * n, list(x), of any lists; the new list is a value -/
def rCatL (K : Frg) : R2 := fun x y H Q => ∃ l b xs zs, x = .ref l ∧ y = .ref b ∧ SqL K H l xs ∧ SqL K H b zs ∧ xs.length + zs.length ≤ sizeLine ∧ ∀ p, H p = none → Q (.ref p) (upd H p (.lst (xs ++ zs)))
theorem op_catL {X : Cx} : OpR X (binaryOp .Add) (rCatL X.K) := by
  intro pins s σ H x y v u Q I rx ry h
  obtain ⟨l, b, xs, zs, rfl, rfl, hH, hB, hz, q⟩ := h
  cases rx
  cases ry
  obtain ⟨its, r, ⟨⟨c1, d1, t1, sl1⟩, n, ho, hc, hd, hs⟩, z1⟩ := I.list hH
  obtain ⟨its2, r2, ⟨⟨c2, d2, t2, sl2⟩, n2, ho2, hc2, hd2, hs2⟩, z2⟩ := I.list hB
  simp only at hc hd hs hc2 hd2 hs2
  subst hc hd hs hc2 hd2 hs2
  have hl : xs.length = its.length := r.length
  have hl2 : zs.length = its2.length := r2.length
  have e : its.toArray ++ its2.toArray = (its ++ its2).toArray := by simp
  refine PySem.concat_meets ⟨_, ho, rfl⟩ ⟨_, ho2, rfl⟩ noFill_list_add seq_list_add PySem.F.slot_list_add PySem.F.entry_list_add (PySem.F.args_list_add_2 _ _) (PyProof.Rows.list_addW l b its.toArray its2.toArray n n2 _ _ sl1 sl2 (by simp; omega)) ⟨ho, ho2, ?_⟩
  rw [e]
  exact ⟨.ref _, _, I.lnew (t' := s.toks) (r.append r2) (by rw [List.length_append]; omega), rfl, q _ I.fresh⟩
/-- the items of a list -/
def lstI (h : AH) : A → Option (List A)
  | .ref p => match h p with
    | some (.lst xs) => some xs
    | _ => none
  | .fls xs => some xs
  | _ => none
theorem lstI_rel {K : Frg} {H : Hp} {h : AH} {x : A} {v : V} {xs : List A} (rh : RelH K H h) (r : RelA K H x v) (e : lstI h x = some xs) : ∃ p vs, v = .ref p ∧ SqL K H p vs ∧ RelAs K H xs vs := by
  cases r with
  | ref p =>
    simp only [lstI] at e
    cases q : h p with
    | none => rw [q] at e; cases e
    | some o =>
      rw [q] at e
      cases o with
      | lst ys =>
        cases e
        obtain ⟨vs, e', r'⟩ := rh.rd q
        exact ⟨p, vs, rfl, e', r'⟩
      | _ => cases e
  | fls e' r' => cases e; exact ⟨_, _, rfl, e'.sq, r'⟩
  | _ => cases e
theorem lstI_ref {h : AH} {p : Addr} {xs : List A} (e : h p = some (.lst xs)) : lstI h (.ref p) = some xs := by simp only [lstI]; rw [e]
section
variable {X : Cx} {a b e : Expr} {es : List Expr} {pos p lp cp : Pos} {ta tb te : ATE} {tr : ATA} {x : Str}
/-- + ; of lists: a new list, as a value -/
def addF : AR2 := fun x y h Q => match x, y with
  | .int i, .int j => Q (.int (i + j)) h
  | .str a, .str b => a.length + b.length ≤ sizeLine ∧ Q (.str (a ++ b)) h
  | .tup xs, .tup ys => xs.length + ys.length ≤ sizeLine ∧ Q (.tup (xs ++ ys)) h
  | .fls xs, .fls ys => xs.length + ys.length ≤ sizeLine ∧ Q (.fls (xs ++ ys)) h
  | x, y => ∃ xs ys, lstI h x = some xs ∧ lstI h y = some ys ∧ xs.length + ys.length ≤ sizeLine ∧ Q (.fls (xs ++ ys)) h
def rAddL (K : Frg) : R2 := fun x y H Q => rI0 (fun i j => .int (i + j)) x y H Q ∨ (∃ i j, x = V.str i ∧ y = V.str j ∧ i.length + j.length ≤ sizeLine ∧ Q (.str (i ++ j)) H) ∨ rCatA K x y H Q ∨ rCatL K x y H Q
theorem opr_addL {X : Cx} : OpR X (binaryOp .Add) (rAddL X.K) := op_add.or (op_add_str.or (op_catA.or op_catL))
theorem addF_rel {K : Frg} {H0 H : Hp} {h : AH} {x y : V} {a b : A} {Q : AVK} {Qv : VK} (m : Mono H0 H) (ra : RelA K H a x) (rb : RelA K H b y) (rh : RelH K H h) (k : ∀ v H', LQF K H0 Q v H' → Qv v H') (q : addF a b h Q) : rAddL K x y H Qv := by
  have gen : (∃ xs ys, lstI h a = some xs ∧ lstI h b = some ys ∧ xs.length + ys.length ≤ sizeLine ∧ Q (.fls (xs ++ ys)) h) → rAddL K x y H Qv := fun ⟨xs, ys, e1, e2, z, q⟩ => by
    obtain ⟨p1, vs, rfl, f1, r1⟩ := lstI_rel rh ra e1
    obtain ⟨p2, ws, rfl, f2, r2⟩ := lstI_rel rh rb e2
    exact .inr (.inr (.inr ⟨p1, p2, vs, ws, rfl, rfl, f1, f2, by rw [← r1.len, ← r2.len]; exact z, fun r hr => k _ _ (LQF.new m (r1.app r2) rh hr q)⟩))
  cases ra with
  | int i => cases rb with
    | int j => exact .inl ⟨i, j, rfl, rfl, k _ _ (.inl ⟨_, h, m, .int _, rh, q⟩)⟩
    | _ => exact gen q
  | str i => cases rb with
    | str j =>
      obtain ⟨z, q⟩ := (show i.length + j.length ≤ sizeLine ∧ Q (.str (i ++ j)) h from q)
      exact .inr (.inl ⟨i, j, rfl, rfl, z, k _ _ (.inl ⟨_, h, m, .str _, rh, q⟩)⟩)
    | _ => exact gen q
  | @tup p xs vs e1 r1 => cases rb with
    | @tup p2 ys ws e2 r2 =>
      obtain ⟨z, q⟩ := (show xs.length + ys.length ≤ sizeLine ∧ Q (.tup (xs ++ ys)) h from q)
      have l1 := r1.len
      have l2 := r2.len
      refine .inr (.inr (.inl ⟨p, p2, vs, ws, rfl, rfl, e1.sq, e2.sq, by rw [← l1, ← l2]; exact z, fun z => ?_, fun _ z => ?_, fun _ _ p3 hp => ?_⟩))
      · subst z
        cases r1
        exact k _ _ (.inl ⟨_, h, m, .tup e2 r2, rh, q⟩)
      · subst z
        cases r2
        rw [List.append_nil] at q
        exact k _ _ (.inl ⟨_, h, m, .tup e1 r1, rh, q⟩)
      · exact k _ _ (.inl ⟨_, h, m.trans (Mono.new hp), .tup (.of upd_same) ((r1.app r2).up (Mono.new hp)), rh.skip hp, q⟩)
    | _ => exact gen q
  | @fls p xs vs e1 r1 => cases rb with
    | @fls p2 ys ws e2 r2 =>
      obtain ⟨z, q⟩ := (show xs.length + ys.length ≤ sizeLine ∧ Q (.fls (xs ++ ys)) h from q)
      exact gen ⟨xs, ys, rfl, rfl, z, q⟩
    | _ => exact gen q
  | _ => exact gen q
def aAddF (ta tb : ATE) : ATE := fun α h Q E => ta α h (fun x h1 => tb α h1 (fun y h2 => addF x y h2 Q) E) E
theorem ae_addF (ha : AE X a ta) (hb : AE X b tb) : AE X (.BinOp a .Add b pos) (aAddF ta tb) :=
  AE.ofF (pe_op opr_addL ha.pe hb.pe) fun σ H Qv α h q E rs rh tk ht k => low.then (H0 := H) rs rh tk ht fun v H1 x h1 m1 r1 rh1 rs1 q1 => low.then (H0 := H) rs1 rh1 (tk.up m1) q1 fun w H2 y h2 m2 r2 rh2 rs2 q2 =>
    addF_rel (m1.trans m2) (r1.up m2) r2 rh2 k q2
/-- [..] * n, n written -/
def aRepF (n : Int) (t : ATA) : ATE := fun α h Q E => t α h (fun xs h1 => (-(2 ^ 63) ≤ n ∧ n < 2 ^ 63 ∧ xs.length * n.toNat ≤ sizeLine ∧ xs.length ≤ sizeLine) ∧ Q (.fls (List.replicate n.toNat xs).flatten) h1) E
theorem ae_repF {n : Int} {j : Nat} (p : AAs X es tr) : AE X (.BinOp (.List es lp) .Mult (.Constant (.int n) j cp) pos) (aRepF n tr) :=
  AE.ofF (pe_op op_rep (pe_lst p.pa) pe_int) fun σ H Qv α h Q E rs rh tk ht k => lowA.then rs rh tk ht fun vs H1 xs h1 m1 r1 rh1 _ ⟨⟨z1, z2, z3, z4⟩, q1⟩ => ⟨by rw [← r1.len]; exact z4, fun p hp =>
    ⟨p, n, vs, rfl, rfl, upd_same, z1, z2, by rw [← r1.len]; exact z3, fun r hr => k _ _ (LQF.new (m1.trans (Mono.new hp)) ((r1.up (Mono.new hp)).rep _) (rh1.skip hp) hr q1)⟩⟩
/-- list(x) as a value -/
def aListF (t : ATA) : ATE := fun α h Q E => t α h (fun xs h1 => match xs with
  | [x] => seqA x h1 fun ys => Q (.fls ys) h1
  | _ => False) E
theorem ae_listF (hg : Gl X "list") (hm : X.mg "list" = none) (ha : AAs X [e] tr)
    (he : starEach [e] X.env = (false, eval e X.env) :: starEach [] X.env := by rfl) (hpl : (backTo pos (starEach [] X.env)).any (·.1) = false := by rfl) : AE X (.Call (.Name "list" p) [e] [] pos) (aListF tr) :=
  AE.ofF (pe_callTy call_list_of hg hm (by decide +kernel) ha.pa (by decide) (by decide) he hpl) fun σ H Qv α h Q E rs rh tk ht k => lowA.then rs rh tk ht fun vs H1 xs h1 m1 r1 rh1 _ q1 => by
    cases r1 with
    | nil => exact q1.elim
    | cons r t => cases t with
      | cons _ _ => exact q1.elim
      | nil =>
        obtain ⟨p, vs, xs, e1, f, rx, q⟩ := seqA_inv rh1 r q1
        subst e1
        exact ⟨p, vs, rfl, f, fun l hl => k _ _ (LQF.new m1 rx rh1 hl q)⟩
end

/-! ### in: a list of data -/
def inPA (neg : Bool) : AR2 := fun x y h Q => ∃ xs, lstI h y = some xs ∧ (Pu 20 x ∧ ∀ z ∈ xs, Pu 20 z) ∧ Q (.bl (nb neg (xs.any fun z => eqP z x))) h
def rInDs (K : Frg) (neg : Bool) : R2 := fun x y H Q => ∃ d ds, Dp K H x d ∧ Dp K H y (.list ds) ∧ SeqAt.shaped d = true ∧ SeqAt.shaped (.list ds) = true ∧ Q (.bl (nb neg (ds.any fun z => PyData.eqv z d))) H
theorem opr_inP {X : Cx} (hu : X.A.units + 65 < cLine) : OpR X (compareOp .In) (rInDs X.K false) := op_inD hu
theorem opr_notinP {X : Cx} (hu : X.A.units + 65 < cLine) : OpR X (compareOp .NotIn) (rInDs X.K true) := op_notInD hu
theorem datPs_any {p : PyData → Bool} : ∀ {xs : List A}, (datPs xs).any p = xs.any fun z => p (datP z)
  | [] => by simp [datPs]
  | x :: xs => by unfold datPs; rw [List.any_cons, List.any_cons, datPs_any]
theorem o_inP {K : Frg} (neg : Bool) : Op2 K (rInDs K neg) (inPA neg) := fun H h x y a b Q Qv ra rb rh k ⟨xs, e, ⟨p1, p2⟩, q⟩ => by
  have pf : Pu 21 (.fls xs) := .fls p2
  have sh := pf.shaped (by decide)
  have e2 : datP (.fls xs) = .list (datPs xs) := by unfold datP; rfl
  rw [e2] at sh
  have dl : DatA h b (.list (datPs xs)) := by
    have dd := (pf.data (h := h)).1
    rw [e2] at dd
    cases dd with
    | fls dd =>
      cases b with
      | ref p =>
        simp only [lstI] at e
        cases z : h p with
        | none => rw [z] at e; cases e
        | some o =>
          rw [z] at e
          cases o with
          | lst ys => cases e; exact .lst z dd
          | _ => cases e
      | fls ys => cases e; exact .fls dd
      | _ => cases e
  refine ⟨datP a, datPs xs, DatA.dp rh _ _ _ p1.data.1 ra, DatA.dp rh _ _ _ dl rb, p1.shaped (by decide), sh, k _ _ ⟨_, h, Mono.refl H, .bl _, rh, ?_⟩⟩
  rw [datPs_any]
  exact q

/-! ### sum, max of a list -/
section
variable {K : Frg}
def intsOf (h : AH) (x : A) (R : List Int → Prop) : Prop := ∃ ns : List Int, lstI h x = some (ns.map A.int) ∧ R ns
def sumA : ARs := one fun x h Q => intsOf h x fun ns => Q (.int ns.sum) h
theorem o_sum : OpN K (rSum K) sumA := fun H h vs as Q Qv r rh k q => by
  obtain ⟨x, v, rfl, rx, ns, e, q⟩ := one_inv r q
  obtain ⟨p, vs, rfl, f, rv⟩ := lstI_rel rh rx e
  have ev := rel_ints rv
  subst ev
  exact ⟨p, ns, rfl, f, k _ _ ⟨_, h, Mono.refl H, .int _, rh, q⟩⟩
def maxL : ARs := one fun x h Q => intsOf h x fun ns => 0 < ns.length ∧ ∀ m, m ∈ ns → (∀ y, y ∈ ns → y ≤ m) → Q (.int m) h
theorem o_maxL : OpN K (rMax K) maxL := fun H h vs as Q Qv r rh k q => by
  obtain ⟨x, v, rfl, rx, ns, e, q0, q⟩ := one_inv r q
  obtain ⟨p, vs, rfl, f, rv⟩ := lstI_rel rh rx e
  have ev := rel_ints rv
  subst ev
  exact ⟨p, ns, rfl, f, q0, fun m h1 h2 => k _ _ ⟨_, h, Mono.refl H, .int _, rh, q m h1 h2⟩⟩
end

/-! ### a class without __init__ -/
structure MkP (K : Frg) (C : Addr) : Prop where
  makes : PySem.W.makesIn K C = true
  init : PySem.W.findIn K (.ref C) "__init__" = some (some (.builtin "object.__init__"))
  kp : PySem.W.keepIn K (.ref C) = true
  top : PySem.W.mroIn K C (.type "object") = some true
def mkPB (K : Frg) (x : Str) : Bool := PySem.W.makesIn K (He.ga K x) && (He.eqO (PySem.W.findIn K (.ref (He.ga K x)) "__init__") (some (some (.builtin "object.__init__"))) && (PySem.W.keepIn K (.ref (He.ga K x)) && decide (PySem.W.mroIn K (He.ga K x) (.type "object") = some true)))
theorem mkP_ok {K : Frg} {x : Str} (c : mkPB K x = true) : MkP K (He.ga K x) := by
  obtain ⟨c1, c⟩ := He.ba c
  obtain ⟨c2, c⟩ := He.ba c
  obtain ⟨c3, c4⟩ := He.ba c
  exact ⟨c1, He.eqO_ok c2, c3, of_decide_eq_true c4⟩
def aMakeP (C : Addr) : ATE := fun _ h Q _ => ∀ x, h x = none → Q (.ref x) (updA h x (.ins C []))
theorem ae_makeP {X : Cx} {C : Addr} {x : Str} {p pos : Pos} (M : MkP X.K C) (hm : X.mg x = some (.ref C)) (hg : Gl X x := by rfl) (hdb : (x == ("__debug__" : Str)) = false := by decide) : AE X (.Call (.Name x p) [] [] pos) (aMakeP C) := by
  refine ⟨fun pins s σ H α h Q E I rs rh tk ht => ?_⟩
  refine wpAny_Call_Name_kw (ld_glob I hg hm ?_ hdb)
  have f1 : H (s.heap.objs.size + 1) = none := I.hok.fresh (Nat.le_succ _)
  have f2 : H s.heap.objs.size = none := I.hok.fresh (Nat.le_refl _)
  have ne : s.heap.objs.size ≠ s.heap.objs.size + 1 := Nat.ne_of_lt (Nat.lt_succ_self _)
  have I2 := Inv.made (C := C) I
  have f3 : (upd H s.heap.objs.size (.own (s.heap.objs.size + 1))) (s.heap.objs.size + 1) = none := by rw [upd_ne (Ne.symm ne)]; exact f1
  have m2 : Mono H (upd (upd H s.heap.objs.size (.own (s.heap.objs.size + 1))) (s.heap.objs.size + 1) (.ins C s.heap.objs.size [])) := (Mono.new f2).trans (Mono.new f3)
  have rh2 : RelH X.K (upd (upd H s.heap.objs.size (.own (s.heap.objs.size + 1))) (s.heap.objs.size + 1) (.ins C s.heap.objs.size [])) (updA h (s.heap.objs.size + 1) (.ins C [])) := (rh.skip f2).new f3 (.ins .nil)
  refine PySem.W.callWith_K0 I.kIn M.kp (wpAny_call (make_map0 I.kIn M.makes M.init (fun self => PySem.W.Looks.of_pure (PySem.W.oi_bind _)) ?_))
  have ho : ((s.heap.push PySem.W.emptyDict).push (PySem.W.instObj C s.heap.objs.size)).get? (s.heap.objs.size + 1) = some (PySem.W.instObj C s.heap.objs.size) := by
    have := Heap.get?_push_size (s.heap.push PySem.W.emptyDict) (o := PySem.W.instObj C s.heap.objs.size) rfl
    rw [Heap.size_push] at this
    exact this
  have t2 : PySem.W.Looks (model X.prog X.w) ((s.heap.push PySem.W.emptyDict).push (PySem.W.instObj C s.heap.objs.size)) (isInstance (.ref (s.heap.objs.size + 1)) (.type "object")) true := (NwA.type_at ho rfl).andThen (PySem.W.looks_mroIn I2.kIn M.top)
  refine codeAny_call_builtin PySem.W.oi_plain PySem.W.entry_oi (@PySem.W.check_slot (model X.prog X.w) _ _ _ "object.__init__" "object" "__init__" (.ref (s.heap.objs.size + 1)) [] [] _ PySem.W.oi_kind PySem.W.oi_split t2 (NwA.oi_args_any _ _ _) ?_)
  rw [PySem.W.oi_run]
  exact wpAny_pure ⟨rfl, .ref (s.heap.objs.size + 1), _, I2, rfl, .ref (s.heap.objs.size + 1), _, m2, .ref _, rh2, ht _ (rh.free f1)⟩

/-! ### o.m(..) where the class of o is one of several -/
/-- what a method of one of the classes promises -/
structure DynOk (X : Cx) (m : Str) (T : List (Addr × ASp)) : Prop where
  at_ : ∀ c ∈ T, Cls X.K c.1 ∧ ∃ f ps k, Meth X.K c.1 m f ∧ Room k X.A ∧ DefOk X.prog X.w X.K X.mg X.base f k ps c.2
theorem dyn_nil {X : Cx} {m : Str} : DynOk X m [] := ⟨fun _ h => nomatch h⟩
theorem dyn_cons {X : Cx} {m : Str} {C f : Addr} {sp : ASp} {T : List (Addr × ASp)} {ps : List Str} {k : Nat} (c : Cls X.K C) (hm : Meth X.K C m f) (hr : Room k X.A) (F : DefOk X.prog X.w X.K X.mg X.base f k ps sp) (r : DynOk X m T) : DynOk X m ((C, sp) :: T) :=
  ⟨fun z hz => by
    rcases List.mem_cons.mp hz with rfl | hz
    · exact ⟨c, f, ps, k, hm, hr, F⟩
    · exact r.at_ z hz⟩
/-- the promise of the receiver's class -/
def spOf (T : List (Addr × ASp)) (C : Addr) (R : ASp → Prop) : Prop := ∃ sp, (C, sp) ∈ T ∧ R sp
def aDyn (T : List (Addr × ASp)) (m : Str) (ta : ATE) (t : ATA) : ATE := fun α h Q E => ta α h (fun x h1 => match x with
  | .ref p => ∃ C fs, h1 p = some (.ins C fs) ∧ fs.lookup m = none ∧ spOf T C fun sp => t α h1 (fun vs h2 => sp (.ref p :: vs) h2 Q E) E
  | _ => False) E
section
variable {X : Cx} {e o : Expr} {es : List Expr} {pos apos : Pos} {ta : ATE} {t : ATA} {m : Str} {T : List (Addr × ASp)}
theorem c_dyn {pl : Sem Bool} (he : AE X o ta) (D : DynOk X m T) (ha : AAs X (e :: es) t)
    (hst : starEach (e :: es) X.env = (false, eval e X.env) :: starEach es X.env := by rfl) (hpl : (backTo pos (starEach es X.env)).any (·.1) = false := by rfl)
    (ht : eval (.Call (.Attribute o m apos) (e :: es) [] pos) X.env = (do
      let ov ← eval o X.env
      standAt apos.atName
      let (f, first) ← holding [ov] (getMethod ov m pl)
      callWith pos f first (backTo pos (starEach (e :: es) X.env)) (backToKw pos (keywordEach [] X.env))) := by rfl) :
    AE X (.Call (.Attribute o m apos) (e :: es) [] pos) (aDyn T m ta t) := by
  refine ⟨fun pins s σ H α h Q E I rs rh tk hh => ?_⟩
  refine PySem.W.methodCall_KW (pl := pl) (thn (he.run pins s σ H α h _ E I rs rh tk hh) fun u s1 ⟨x, H1, I1, rx, a, h1, m1, ra, rh1, q⟩ => ?_) ht
  cases ra with
  | ref a =>
    obtain ⟨C, fs, ea, l, sp, hsp, q⟩ := (show ∃ C fs, h1 a = some (.ins C fs) ∧ fs.lookup m = none ∧ spOf T C fun sp => t α h1 (fun vs h2 => sp (.ref a :: vs) h2 Q E) E from q)
    obtain ⟨c, f, ps, k, hm, hr, F⟩ := D.at_ _ hsp
    obtain ⟨fd, kp, hb, F⟩ := F.ex
    obtain ⟨dx, vs0, f1, rk⟩ := rh1.ins ea
    obtain rfl : u = Value.ref a := rx
    refine getmeth_ok I1 f1 c hm (rk.lookN l) ?_
    refine PySem.W.callWith_K (first := [.ref a]) (h₀ := X.base) I.ok.mod.kin hm.kp (thn (ha.run pos pins s1 σ H1 α h1 _ E I1 (rs.up m1) rh1 (tk.up m1) q) fun us s2 ⟨vs, H2, I2, r, as, h2, m2, ras, rh2, q2⟩ => ⟨I2.kIn, ?_⟩) hst hpl
    exact thn (runA (us := .ref a :: us) (vs := .ref a :: vs) (as := .ref a :: as) (das := []) F hr hb .nil (fun _ => .nil) I2 ((rs.up m1).up m2) rh2 ((tk.up m1).up m2) (.cons rfl r) (.cons (.ref a) ras) (by rw [List.append_nil]; exact q2)) fun u s3 ⟨v, H3, I3, r3, q3⟩ => ⟨v, H3, I3, r3, q3.up (m1.trans m2)⟩
  | _ => exact (show False from q).elim
theorem c_dyn0 {pl : Sem Bool} (he : AE X o ta) (D : DynOk X m T)
    (ht : eval (.Call (.Attribute o m apos) [] [] pos) X.env = (do
      let ov ← eval o X.env
      standAt apos.atName
      let (f, first) ← holding [ov] (getMethod ov m pl)
      callWith pos f first (backTo pos (starEach [] X.env)) (backToKw pos (keywordEach [] X.env))) := by rfl) :
    AE X (.Call (.Attribute o m apos) [] [] pos) (aDyn T m ta aNil) := by
  refine ⟨fun pins s σ H α h Q E I rs rh tk hh => ?_⟩
  refine PySem.W.methodCall_KW (pl := pl) (thn (he.run pins s σ H α h _ E I rs rh tk hh) fun u s1 ⟨x, H1, I1, rx, a, h1, m1, ra, rh1, q⟩ => ?_) ht
  cases ra with
  | ref a =>
    obtain ⟨C, fs, ea, l, sp, hsp, q⟩ := (show ∃ C fs, h1 a = some (.ins C fs) ∧ fs.lookup m = none ∧ spOf T C fun sp => sp [.ref a] h1 Q E from q)
    obtain ⟨c, f, ps, k, hm, hr, F⟩ := D.at_ _ hsp
    obtain ⟨fd, kp, hb, F⟩ := F.ex
    obtain ⟨dx, vs0, f1, rk⟩ := rh1.ins ea
    obtain rfl : u = Value.ref a := rx
    refine getmeth_ok I1 f1 c hm (rk.lookN l) ?_
    exact PySem.W.callWith_K0 (first := [.ref a]) I1.kIn hm.kp (thn (runA (us := [.ref a]) (vs := [.ref a]) (as := [.ref a]) (das := []) F hr hb .nil (fun _ => .nil) I1 (rs.up m1) rh1 (tk.up m1) (.cons rfl .nil) (.one (.ref a)) q) fun u s3 ⟨v, H3, I3, r3, q3⟩ => ⟨v, H3, I3, r3, q3.up m1⟩)
  | _ => exact (show False from q).elim
end

/-! ### C.m(o, ..): a def read off its class -/
structure ClsFn (K : Frg) (C : Addr) (m : Str) (f : Addr) : Prop where
  r : ClX.CRead K C (.type "type")
  v : ClX.CVal K C (.type "type") m (.ref f) (.ref f)
  kp : PySem.W.keepIn K (.ref f) = true
def clsFnB (K : Frg) (C : Addr) (m : Str) (f : Addr) : Bool := PySem.W.readsIn K C (.type "type") && (He.eqO (PySem.W.specialIn K (.ref C) "__getattribute__") (some (some (.builtin "type.__getattribute__"))) && (PySem.W.keepIn K (.ref f) && match PySem.W.findCls K (.ref C) (.type "type") m with
  | some (.val u) => decide (u = .ref f)
  | _ => false))
theorem clsFn_ok {K : Frg} {C f : Addr} {m : Str} (c : clsFnB K C m f = true) : ClsFn K C m f := by
  obtain ⟨c1, c⟩ := He.ba c
  obtain ⟨c2, c⟩ := He.ba c
  obtain ⟨c3, c4⟩ := He.ba c
  refine ⟨⟨c1, He.eqO_ok c2⟩, ⟨?_, rfl⟩, c3⟩
  split at c4
  · rename_i u e
    rw [e, of_decide_eq_true c4]
  · cases c4
def aClsFn (C : Addr) (sp : ASp) (t : ATA) : ATE := fun α h Q E => t α h (fun vs h1 => sp vs h1 Q E) E
theorem c_clsfn {X : Cx} {C f : Addr} {x m : Str} {k : Nat} {ps : List Str} {sp : ASp} {p pos apos : Pos} {e : Expr} {es : List Expr} {t : ATA} {pl : Sem Bool} (hgm : X.mg x = some (.ref C)) (c : ClsFn X.K C m f) (F : DefOk X.prog X.w X.K X.mg X.base f k ps sp) (hr : Room k X.A) (ha : AAs X (e :: es) t) (hg : Gl X x := by rfl) (hdb : (x == ("__debug__" : Str)) = false := by decide)
    (hst : starEach (e :: es) X.env = (false, eval e X.env) :: starEach es X.env := by rfl) (hpl : (backTo pos (starEach es X.env)).any (·.1) = false := by rfl)
    (ht : eval (.Call (.Attribute (.Name x p) m apos) (e :: es) [] pos) X.env = (do
      let ov ← eval (.Name x p) X.env
      standAt apos.atName
      let (f, first) ← holding [ov] (getMethod ov m pl)
      callWith pos f first (backTo pos (starEach (e :: es) X.env)) (backToKw pos (keywordEach [] X.env))) := by rfl) :
    AE X (.Call (.Attribute (.Name x p) m apos) (e :: es) [] pos) (aClsFn C sp t) := by
  refine ⟨fun pins s σ H α h Q E I rs rh tk hh => ?_⟩
  have he : AE X (.Name x p) (aC (.ref C)) := ae_gref hg hgm hdb
  refine PySem.W.methodCall_KW (pl := pl) (thn (he.run pins s σ H α h (fun a h' => a = .ref C ∧ h' = h) E I rs rh tk ⟨rfl, rfl⟩) fun u s1 ⟨x, H1, I1, rx, a, h1, m1, ra, rh1, q⟩ => ?_) ht
  obtain ⟨rfl, rfl⟩ := q
  cases ra
  obtain rfl : u = Value.ref C := rx
  obtain ⟨fd, kp, hb, F⟩ := F.ex
  refine PySem.W.method_cls I1.kIn c.r.ga (ClX.getcval_ok I1 c.r c.v fun s2 I2 => ?_)
  refine PySem.W.callWith_K (first := []) (h₀ := X.base) I.ok.mod.kin c.kp (thn (ha.run pos pins s2 σ H1 α h1 _ E I2 (rs.up m1) rh1 (tk.up m1) hh) fun us s3 ⟨vs, H2, I3, r, as, h2, m2, ras, rh2, q2⟩ => ⟨I3.kIn, ?_⟩) hst hpl
  exact thn (runA (us := us) (vs := vs) (as := as) (das := []) F hr hb .nil (fun _ => .nil) I3 ((rs.up m1).up m2) rh2 ((tk.up m1).up m2) r ras (by rw [List.append_nil]; exact q2)) fun u s3 ⟨v, H3, I3, r3, q3⟩ => ⟨v, H3, I3, r3, q3.up (m1.trans m2)⟩
end G
namespace G
open PySem PySem.Spec L2

theorem updA_updA {h : AH} {p : Addr} {o o' : AO} : updA (updA h p o) p o' = updA h p o' := by
  funext b
  unfold updA
  by_cases c : b = p <;> simp [c]
theorem updA_comm {h : AH} {p q : Addr} {o o' : AO} (n : p ≠ q) : updA (updA h p o) q o' = updA (updA h q o') p o := by
  funext b
  unfold updA
  by_cases c : b = q
  · subst c; simp [Ne.symm n]
  · simp [c]
theorem updA_id {h : AH} {p : Addr} {o : AO} (e : h p = some o) : updA h p o = h := by
  funext b
  unfold updA
  by_cases c : b = p
  · subst c; simp [e]
  · simp [c]
theorem szL {n : Nat} (h : n ≤ 16777216) : n ≤ sizeLine := h
theorem ltL {n : Nat} (h : n < 16777216) : n < sizeLine := h

/-! ### comprehensions whose list is a value -/
/-- the items that are walked -/
def itF (h : AH) : A → Option (List A)
  | .ref p => match h p with
    | some (.lst xs) => some xs
    | _ => none
  | .tup xs => some xs
  | .fls xs => some xs
  | _ => none
theorem itF_ref {h : AH} {p : Addr} {xs : List A} (e : h p = some (.lst xs)) : itF h (.ref p) = some xs := by simp only [itF]; rw [e]
theorem itF_inv {h : AH} {p : Addr} {xs : List A} (q : itF h (.ref p) = some xs) : h p = some (.lst xs) := by
  simp only [itF] at q
  cases z : h p with
  | none => rw [z] at q; cases q
  | some o =>
    rw [z] at q
    cases o with
    | lst ys => cases q; rfl
    | _ => cases q
section
variable {h : AH} {α : ASt} {x : A} {xs : List A} {g : ATG} {tt : ATT} {te : ATE} {vs : List Nat} {Q : AVK}
theorem seqOf_mk {R : ASrc → Prop} (q : itF h x = some xs) (r : ∀ st : AH → Prop, (∀ h', Ext h h' → st h') → R ⟨xs.length, fun i a => xs[i]? = some a, st⟩) : seqOf x h R := by
  cases x with
  | ref p => exact ⟨xs, itF_inv q, r _ fun h' e => e _ _ (itF_inv q)⟩
  | tup ys => cases q; exact r _ fun _ _ => trivial
  | fls ys => cases q; exact r _ fun _ _ => trivial
  | _ => cases q
theorem lcF_if (p : A → Bool) (f : A → A) (q : itF h x = some xs) (sz : xs.length ≤ 1000000)
    (step : ∀ y ∈ xs, ∀ h' (C : A → AH → Prop) (N : AH → Prop), Ext h h' → (p y = true → C (f y) h') → (p y = false → N h') → g y (wipeA α vs) h' fun α2 h2 => tt α2 h2 (fun b h3 => if b = true then te α2 h3 C AE0 else N h3) AE0)
    (done : Q (.fls ((xs.filter p).map f)) h) : seqOf x h fun S => ∀ D, h D = none → lcS S g tt te vs α h D fun h2 => fzQ Q (.ref D) h2 := by
  refine seqOf_mk q fun st hst D hD => ⟨fun i h' => h' = updA h D (.lst (((xs.take i).filter p).map f)), rfl, fun i h' _ e => by subst e; exact hst _ (Ext.new hD), fun i y h' hi e pv => ?_, fun h' pv => ?_⟩
  · have hi : i < xs.length := hi
    have e : xs[i]? = some y := e
    rw [List.getElem?_eq_getElem hi] at e
    cases e
    subst pv
    have tk : xs.take (i + 1) = xs.take i ++ [xs[i]] := takeS hi
    refine step xs[i] (List.getElem_mem hi) _ _ _ (Ext.new hD) (fun hp => ⟨_, updA_same, ?_, ?_⟩) fun hp => ?_
    · rw [List.length_map]
      have := List.length_filter_le p (xs.take i)
      rw [List.length_take] at this
      exact ltL (by omega)
    · show updA (updA h D _) D _ = _
      rw [updA_updA, tk, List.filter_append, List.map_append, List.filter_cons, if_pos hp, List.filter_nil, List.map_cons, List.map_nil]
    · show updA h D _ = updA h D _
      rw [tk, List.filter_append, List.filter_cons, if_neg (by rw [hp]; exact Bool.false_ne_true), List.filter_nil, List.append_nil]
  · have pv : h' = updA h D (.lst (((xs.take xs.length).filter p).map f)) := pv
    subst pv
    rw [List.take_length]
    exact ⟨_, updA_same, by rw [delA_upd hD]; exact done⟩
theorem lcF_it (f : A → A) (q : itF h x = some xs) (sz : xs.length ≤ 1000000)
    (step : ∀ y ∈ xs, ∀ h' (C : A → AH → Prop), Ext h h' → C (f y) h' → g y (wipeA α vs) h' fun α2 h2 => te α2 h2 C AE0)
    (done : Q (.fls (xs.map f)) h) : seqOf x h fun S => ∀ D, h D = none → lcS S g aYes te vs α h D fun h2 => fzQ Q (.ref D) h2 :=
  lcF_if (fun _ => true) f q sz (fun y hy h' C N e c _ => step y hy h' C e (c rfl)) (by rw [List.filter_eq_self.mpr (fun _ _ => rfl)]; exact done)
theorem lcF_rng {n : Nat} {lo : Int} {D : Addr} (f : Int → A) (hD : h D = none) (sz : n ≤ 1000000)
    (step : ∀ i : Nat, i < n → ∀ h' (C : A → AH → Prop), Ext h h' → C (f (lo + (i : Nat))) h' → g (.int (lo + (i : Nat))) (wipeA α vs) h' fun α2 h2 => te α2 h2 C AE0)
    (done : Q (.fls ((List.range n).map fun i => f (lo + (i : Nat)))) h) : lcS ⟨n, fun i a => a = .int (lo + (i : Nat)), fun _ => True⟩ g aYes te vs α h D fun h2 => fzQ Q (.ref D) h2 := by
  refine lc_rng (fun i h' => h' = updA h D (.lst ((List.range i).map fun i => f (lo + (i : Nat))))) rfl (fun i hi h' pv => ?_) fun h' pv => ?_
  · subst pv
    refine step i hi _ _ (Ext.new hD) ⟨_, updA_same, ?_, ?_⟩
    · rw [List.length_map, List.length_range]
      exact ltL (by omega)
    · rw [updA_updA, List.range_succ, List.map_append]
      rfl
  · subst pv
    exact ⟨_, updA_same, by rw [delA_upd hD]; exact done⟩
/-- a body that writes: the list that is made stands by itself -/
theorem lcM_rng {n : Nat} {lo : Int} {D : Addr} (Pv : Nat → List A → AH → Prop) (hD : h D = none) (sz : n ≤ 1000000) (p0 : Pv 0 [] h)
    (step : ∀ i : Nat, i < n → ∀ acc h0 (C : A → AH → Prop), h0 D = none → acc.length = i → Pv i acc h0 → (∀ y h1, h1 D = none → Pv (i + 1) (acc ++ [y]) h1 → C y (updA h1 D (.lst acc))) → g (.int (lo + (i : Nat))) (wipeA α vs) (updA h0 D (.lst acc)) fun α2 h2 => te α2 h2 C AE0)
    (done : ∀ acc h1, acc.length = n → Pv n acc h1 → Q (.fls acc) h1) : lcS ⟨n, fun i a => a = .int (lo + (i : Nat)), fun _ => True⟩ g aYes te vs α h D fun h2 => fzQ Q (.ref D) h2 := by
  refine lc_rng (fun i h' => ∃ acc h0, h' = updA h0 D (.lst acc) ∧ h0 D = none ∧ acc.length = i ∧ Pv i acc h0) ⟨[], h, rfl, hD, rfl, p0⟩ (fun i hi h' pv => ?_) fun h' pv => ?_
  · obtain ⟨acc, h0, rfl, n0, la, pv⟩ := pv
    refine step i hi acc h0 _ n0 la pv fun y h1 n1 pv1 => ⟨acc, updA_same, ltL (by omega), acc ++ [y], h1, updA_updA, n1, by simp [la], pv1⟩
  · obtain ⟨acc, h0, rfl, n0, la, pv⟩ := pv
    exact ⟨_, updA_same, by rw [delA_upd n0]; exact done acc h0 la pv⟩
theorem lcM_it (Pv : Nat → List A → AH → Prop) (q : itF h x = some xs) (sz : xs.length ≤ 1000000) (keep : ∀ p, x = .ref p → ∀ i acc h0, Pv i acc h0 → h0 p = some (.lst xs)) (p0 : Pv 0 [] h)
    (step : ∀ i (hi : i < xs.length) D acc h0 (C : A → AH → Prop), h0 D = none → acc.length = i → Pv i acc h0 → (∀ y h1, h1 D = none → Pv (i + 1) (acc ++ [y]) h1 → C y (updA h1 D (.lst acc))) → g xs[i] (wipeA α vs) (updA h0 D (.lst acc)) fun α2 h2 => te α2 h2 C AE0)
    (done : ∀ acc h1, acc.length = xs.length → Pv xs.length acc h1 → Q (.fls acc) h1) : seqOf x h fun S => ∀ D, h D = none → lcS S g aYes te vs α h D fun h2 => fzQ Q (.ref D) h2 := by
  have main : ∀ st : AH → Prop, (∀ h0 D acc, h0 D = none → (∃ i, Pv i acc h0) → st (updA h0 D (.lst acc))) → ∀ D, h D = none → lcS ⟨xs.length, fun i a => xs[i]? = some a, st⟩ g aYes te vs α h D fun h2 => fzQ Q (.ref D) h2 := fun st hst D hD => by
    refine lcS_mk (fun i h' => ∃ acc h0, h' = updA h0 D (.lst acc) ∧ h0 D = none ∧ acc.length = i ∧ Pv i acc h0) ⟨[], h, rfl, hD, rfl, p0⟩ (fun i h' hi pv => ?_) (fun i y h' hi e pv => ?_) fun h' pv => ?_
    · obtain ⟨acc, h0, rfl, n0, la, pv⟩ := pv
      exact hst h0 D acc n0 ⟨i, pv⟩
    · have hi : i < xs.length := hi
      have e : xs[i]? = some y := e
      rw [List.getElem?_eq_getElem hi] at e
      cases e
      obtain ⟨acc, h0, rfl, n0, la, pv⟩ := pv
      exact step i hi D acc h0 _ n0 la pv fun y h1 n1 pv1 => ⟨acc, updA_same, ltL (by omega), acc ++ [y], h1, updA_updA, n1, by simp [la], pv1⟩
    · obtain ⟨acc, h0, rfl, n0, la, pv⟩ := pv
      exact ⟨_, updA_same, by rw [delA_upd n0]; exact done acc h0 la pv⟩
  cases x with
  | ref p => exact ⟨xs, itF_inv q, main _ fun h0 D acc n0 ⟨i, pv⟩ => by
      have k := keep p rfl i acc h0 pv
      show updA h0 D _ p = _
      rw [updA_ne (ne_none k n0)]
      exact k⟩
  | tup ys => cases q; exact main _ fun _ _ _ _ _ => trivial
  | fls ys => cases q; exact main _ fun _ _ _ _ _ => trivial
  | _ => cases q
/-- for over items -/
theorem forF {tb : ATS} {D : AEnds} (Pv : Nat → ASt → AH → Prop) (q : itF h x = some xs) (p0 : Pv 0 α h) (stay : ∀ p, x = .ref p → ∀ i α h, i ≤ xs.length → Pv i α h → h p = some (.lst xs))
    (step : ∀ i (hi : i < xs.length) α h, Pv i α h → g xs[i] α h fun α2 h2 => tb { D with nx := Pv (i + 1), ct := Pv (i + 1), bk := D.nx } α2 h2) (done : ∀ α h, Pv xs.length α h → D.nx α h) :
    seqOf x h fun S => loopS S g tb D α h := by
  have st : ∀ i x' α h, i < xs.length → xs[i]? = some x' → Pv i α h → g x' α h fun α2 h2 => tb { D with nx := Pv (i + 1), ct := Pv (i + 1), bk := D.nx } α2 h2 := fun i x' α h hi e pv => by
    rw [List.getElem?_eq_getElem hi] at e
    cases e
    exact step i hi α h pv
  cases x with
  | ref p => exact ⟨xs, itF_inv q, Pv, p0, fun i α h hi pv => stay p rfl i α h hi pv, st, done⟩
  | tup ys => cases q; exact ⟨Pv, p0, fun _ _ _ _ _ => trivial, st, done⟩
  | fls ys => cases q; exact ⟨Pv, p0, fun _ _ _ _ _ => trivial, st, done⟩
  | _ => cases q
end

/-! ### what a def tells: of its own new things as much as is wanted -/
def sub (Q : AVK) : AVK := fun v h => ∃ h2, Ext h2 h ∧ Q v h2
def subE (E : AXK) : AXK := fun c h => ∃ h2, Ext h2 h ∧ E c h2
theorem sub_i {Q : AVK} {v : A} {h : AH} (q : Q v h) : sub Q v h := ⟨h, Ext.refl h, q⟩
theorem subE_i {E : AXK} {c : Value} {h : AH} (q : E c h) : subE E c h := ⟨h, Ext.refl h, q⟩
theorem RelH.ext {K : Frg} {H : Hp} {h h2 : AH} (r : RelH K H h) (e : Ext h2 h) : RelH K H h2 := r.sub e
theorem fnA2 {P : Program} {w : World} {K : Frg} {mg : Str → Option Value} {base : Heap} {x qual : Str} {params : Arguments} {body : List Stmt} {scope : Scope} {dvs : List V} {kws : List (Str × V)} {f : Addr} {fd : FuncData} {N ps : List Str} {k : Nat} {sp : ASp} {t : ATS}
    (F : FunD K x qual params body scope dvs kws f fd) (S : FnScope N ps scope)
    (walk : ∀ (X : Cx), X.prog = P → X.w = w → (∃ (cdv : Value) (A : Around) (outer : List Env) (s : Shared) (H : Hp) (E : XK), X = cxOf (L2.CX P w) P w K mg base N qual scope f cdv A outer s H E) → Room k X.A → PassesOwn (model X.prog X.w) X.A X.env X.xe → ASs X body t)
    (len : ∀ as h Q E, sp as h Q E → as.length = ps.length)
    (read : ∀ as h Q E, sp as h Q E → t { nx := fun _ h' => sub Q .non h', rt := sub Q, ex := fun c _ h' => subE E c h' } (startA N as) h) : AFn P w K mg base (k + 1) f fd ps sp := by
  refine F.ok S (fun vs H Q E ⟨as, h, QA, EA, r, _, hs, _⟩ => by rw [← r.len]; exact len _ _ _ _ hs) fun cdv A outer s H vs Q E hr ⟨as, h, QA, EA, r, rh, hs, kQ, kE⟩ => ?_
  refine ⟨lowS _ t, (walk _ rfl rfl ⟨cdv, A, outer, s, H, E, rfl⟩ hr (passes_of rfl)).pss, startA N as, h, _, rel_start r, rh, ?_, read as h QA EA hs, ⟨fun σ' H' ⟨α', h', m, rs', rh', h2, e, q⟩ => kQ _ _ ⟨.non, h2, m, .non, rh'.ext e, q⟩, fun v H' ⟨a, h', m, ra, rh', h2, e, q⟩ => kQ _ _ ⟨a, h2, m, ra, rh'.ext e, q⟩, fun _ _ ⟨_, _, _, _, _, q⟩ => q.elim, fun _ _ ⟨_, _, _, _, _, q⟩ => q.elim⟩⟩
  refine ⟨H, Mono.refl H, Takes.imp (takes_of rfl rfl rfl rfl) fun cls d σ H' ⟨ed, m, α', h', rs', rh', h2, e, q⟩ => kE _ _ _ ⟨ed, h2, m, rh'.ext e, q⟩⟩
theorem defOk2 {P : Program} {w : World} {K : Frg} {mg : Str → Option Value} {base : Heap} {x qual : Str} {params : Arguments} {body : List Stmt} {scope : Scope} {f : Addr} {N ps : List Str} {k : Nat} {sp : ASp} {t : ATS}
    (F : ∃ fd, FunD K x qual params body scope [] [] f fd)
    (bind : ∀ (kV doc pm : Value) (an : Option Addr) (cdv ct : Value) (us : List Value), us.length = ps.length → bindArgs (PySem.W.fnOf x qual params body scope .none kV doc pm an cdv ct) ⟨us, []⟩ = pure (ps.zip us)) (S : FnScope N ps scope)
    (walk : ∀ (cdv : Value) (A : Around) (outer : List Env) (s : Shared) (H : Hp) (E : XK), Room k (cxOf (L2.CX P w) P w K mg base N qual scope f cdv A outer s H E).A →
      PassesOwn (model P w) (cxOf (L2.CX P w) P w K mg base N qual scope f cdv A outer s H E).A (cxOf (L2.CX P w) P w K mg base N qual scope f cdv A outer s H E).env (cxOf (L2.CX P w) P w K mg base N qual scope f cdv A outer s H E).xe →
      ASs (cxOf (L2.CX P w) P w K mg base N qual scope f cdv A outer s H E) body t)
    (len : ∀ as h Q E, sp as h Q E → as.length = ps.length)
    (read : ∀ as h Q E, sp as h Q E → t { nx := fun _ h' => sub Q .non h', rt := sub Q, ex := fun c _ h' => subE E c h' } (startA N as) h) : DefOk P w K mg base f (k + 1) ps sp := by
  obtain ⟨fd, F⟩ := F
  refine ⟨fd, F.kp, F.bindsN bind, fnA2 F S (fun X _ _ ⟨cdv, A, outer, s, H, E, e⟩ hr hp => ?_) len read⟩
  subst e
  exact walk cdv A outer s H E hr hp
theorem hu65 {A : Around} {k : Nat} (r : Room k A) : A.units + 65 < cLine := by have := r.un; omega
/-- y = [..] as a value, y a local name -/
theorem as_setLcF {X : Cx} {elt tg iter : Expr} {ifs : List Expr} {scope : Scope} {own : List (Str × Nat)} {pos : Pos} {w : ATI} {is : List Nat} {g : ATG} {tt : ATT} {te : ATE} (i : Nat) {y : Str} {py : Pos} {spos : Pos} (hc : X.calm = true) (hN : X.N.Nodup) (hy : X.N[i]? = some y) (hyl : X.env.scope.names.lookup y = some .local)
    (hsw : swapsWith (.ListComp elt [⟨tg, iter, ifs, 0⟩] scope pos) (some (.Name y py)) spos.line X.env = pure true) (hi : AI X tg iter w) (ok : BlkOk X.N X.env.scope scope own)
    (hg : ∀ (s : Shared) (H : Hp) (C : Addr) (cl : List (Str × Addr)) (fp : List Addr), AG (X.blk s H scope (compEnvC scope cl C X.env) fp) tg is g) (ht : ∀ (s : Shared) (H : Hp) (C : Addr) (cl : List (Str × Addr)) (fp : List Addr), ATs (X.blk s H scope (compEnvC scope cl C X.env) fp) ifs tt)
    (he : ∀ (s : Shared) (H : Hp) (C : Addr) (cl : List (Str × Addr)) (fp : List Addr), AE (X.blk s H scope (compEnvC scope cl C X.env) fp) elt te) (hsub : ∀ i ∈ is, i ∈ own.map (·.2)) (hs : ∀ x, foldedSetIterable iter X.env x = pure x := by intro _; rfl) :
    AS X (.Assign [.Name y py] (.ListComp elt [⟨tg, iter, ifs, 0⟩] scope pos) spos) (aAsg (aFz (aLc w g tt te (own.map (·.2)))) (agN i)) := by
  refine ⟨fun pins s σ H α h D I rs rh tk ht0 => ?_⟩
  have ps : PS X (.Assign [.Name y py] (.ListComp elt [⟨tg, iter, ifs, 0⟩] scope pos) spos) (tAsg (tLc (lowI X w) (lowG X is g) (lowTB X.K tt) (lowB X.K te) (own.map (·.2))) (gName i)) := ps_setLc (i := i) hc hN hy hyl hsw hi.pi ok (fun s H C cl fp => (hg s H C cl fp).pg) (fun s H C cl fp => (ht s H C cl fp).blk) (fun s H C cl fp => (he s H C cl fp).blk) hs
  refine thn (ps.run pins s σ H { nx := fun σ' H' => ∃ p vs xs h1, σ' = σ.set i (some (.ref p)) ∧ H' p = some (.lst vs) ∧ Mono H H' ∧ RelAs X.K H' xs vs ∧ RelH X.K H' h1 ∧ D.nx (α.set i (some (.fls xs))) (delA h1 p), rt := fun _ _ => False, bk := fun _ _ => False, ct := fun _ _ => False } I
    (low_lc hsub ⟨α, h, _, _, rs, rh, tk.e α, ht0, fun v H' ⟨a, h', m, r, rh', q⟩ => ?_⟩)) fun f s' q => ?_
  · cases r with
    | ref p =>
      obtain ⟨xs, e, q⟩ := (show ∃ xs, h' p = some (.lst xs) ∧ D.nx (α.set i (some (.fls xs))) (delA h' p) from q)
      obtain ⟨vs, e', rv⟩ := rh'.lst e
      exact ⟨p, vs, xs, h', rfl, e', m, rv, rh', q⟩
    | _ => exact (show False from q).elim
  · cases f with
    | next =>
      obtain ⟨σ', H', I', p, vs, xs, h1, e1, e2, m, rv, rh1, q⟩ := q
      subst e1
      obtain ⟨od, I2⟩ := I'.lock e2 trivial
      have mw : Mono H' (upd H' p (.frz od (.lst vs))) := Mono.wr e2 ns_lst
      exact ⟨_, _, I2, _, _, m.trans mw, (rs.up (m.trans mw)).set i (.fls (.inl ⟨od, upd_same⟩) (rv.up mw)), rh1.frz e2, q⟩
    | brk => obtain ⟨_, _, _, z⟩ := q; exact z.elim
    | cont => obtain ⟨_, _, _, z⟩ := q; exact z.elim
    | ret u => obtain ⟨_, _, _, _, _, z⟩ := q; exact z.elim
def methFB (K : Frg) (C : Addr) (m : Str) (f : Addr) : Bool := He.eqO (PySem.W.findIn K (.ref C) m) (some (some (.ref f))) && (PySem.W.isFn K (.ref f) && PySem.W.keepIn K (.ref f))
theorem methF_ok {K : Frg} {C f : Addr} {m : Str} (c : methFB K C m f = true) : Meth K C m f := by
  obtain ⟨c1, c⟩ := He.ba c
  obtain ⟨c2, c3⟩ := He.ba c
  exact ⟨He.eqO_ok c1, c2, c3⟩
/-- == of lists of pure values -/
theorem eqA_lst {neg : Bool} {n : Nat} {x y : A} {xs ys : List A} {h : AH} {Q : AVK} (e1 : lstI h x = some xs) (e2 : lstI h y = some ys) (p : ∀ z ∈ xs, Pu n z) (p' : ∀ z ∈ ys, Pu n z) (q : Q (.bl (nb neg (eqPs xs ys))) h) (hn : n < 64 := by decide) : eqA neg x y h Q := by
  have da : ∀ {x : A} {xs : List A}, lstI h x = some xs → (∀ z ∈ xs, Pu n z) → DatA h x (.list (datPs xs)) := fun {x xs} e p => by
    have d := (Pu.fls p).data (h := h) |>.1
    unfold datP at d
    cases d with
    | fls d =>
      cases x with
      | ref r =>
        simp only [lstI] at e
        cases z : h r with
        | none => rw [z] at e; cases e
        | some o =>
          rw [z] at e
          cases o with
          | lst ys => cases e; exact .lst z d
          | _ => cases e
      | fls ys => cases e; exact .fls d
      | _ => cases e
  have sh : ∀ {xs : List A}, (∀ z ∈ xs, Pu n z) → SeqAt.shaped (.list (datPs xs)) = true := fun {xs} p => by
    have := (Pu.fls p).shaped hn
    unfold datP at this
    exact this
  have q' : Q (.bl (nb neg (PyData.eqv (.list (datPs xs)) (.list (datPs ys))))) h := by
    unfold PyData.eqv
    exact q
  have gen : ((∃ d e, DatA h x d ∧ DatA h y e ∧ SeqAt.shaped d = true ∧ SeqAt.shaped e = true ∧ Q (.bl (nb neg (PyData.eqv d e))) h) ∨
      ∃ p q xs ys, x = .ref p ∧ y = .ref q ∧ LstA h p xs ∧ LstA h q ys ∧ xs.length ≠ ys.length ∧ Q (.bl neg) h) ∨ ∃ n, n ≤ 60 ∧ SamR h (SamA h n) x y ∧ Q (.bl (!neg)) h :=
    .inl (.inl ⟨_, _, da e1 p, da e2 p', sh p, sh p', q'⟩)
  unfold eqA
  cases x <;> cases y <;> first | exact gen | cases e1
theorem Sz.sub {n m : Nat} {p q : Rat} (hp : Sz n p) (hq : Sz m q) : Sz (n + m + 1) (p - q) := by
  rw [Rat.sub_eq_add_neg]
  refine hp.add ⟨?_, ?_⟩
  · rw [Rat.neg_num, Int.natAbs_neg]; exact hq.1
  · rw [Rat.neg_den]; exact hq.2
theorem eqS {neg : Bool} {a b : Str} {h : AH} {Q : AVK} (q : Q (.bl (nb neg (decide (a = b)))) h) : eqA neg (.str a) (.str b) h Q := q
theorem eqI {neg : Bool} {a b : Int} {h : AH} {Q : AVK} (q : Q (.bl (nb neg (decide (a = b)))) h) : eqA neg (.int a) (.int b) h Q := q
theorem dg_K {h : AH} {p : Addr} {kvs : List (Key × A)} {y : A} {k : Key} (e : h p = some (.dK kvs)) (ek : keyA y = some k) : dgA h (.ref p) y = some (vl kvs k) := by
  simp only [dgA, e, ek]; rfl
theorem dg_lK {h : AH} {p : Addr} {kvs : List (Key × A)} {y : A} {k : Key} (e : h p = some (.lK kvs)) (ek : keyA y = some k) : dgA h (.ref p) y = some (vl kvs k) := by
  simp only [dgA, e, ek]; rfl
theorem dg_T {h : AH} {p : Addr} {kvs : List (List Key × A)} {k : List Key} (e : h p = some (.dT kvs)) : dgA h (.ref p) (.kt k) = some (vl kvs k) := by
  simp only [dgA, e]
theorem dg_lT {h : AH} {p : Addr} {kvs : List (List Key × A)} {k : List Key} (e : h p = some (.lT kvs)) : dgA h (.ref p) (.kt k) = some (vl kvs k) := by
  simp only [dgA, e]
theorem dp_K {h : AH} {p : Addr} {kvs : List (Key × A)} {y v : A} {k : Key} {R : Addr → AO → Prop} (e : h p = some (.dK kvs)) (ek : keyA y = some k) (n : NoTwice kvs) (l : kvs.length < sizeLine) (r : R p (.dK (pt kvs k v))) : dpA h (.ref p) y v R := by
  simp only [dpA, e]; exact ⟨k, ek, n, l, r⟩
theorem dp_T {h : AH} {p : Addr} {kvs : List (List Key × A)} {v : A} {k : List Key} {R : Addr → AO → Prop} (e : h p = some (.dT kvs)) (n : NoTwice kvs) (l : kvs.length < sizeLine) (r : R p (.dT (pt kvs k v))) : dpA h (.ref p) (.kt k) v R := by
  simp only [dpA, e]; exact ⟨n, l, r⟩
theorem addF_i {i j : Int} {h : AH} {Q : AVK} : addF (.int i) (.int j) h Q = Q (.int (i + j)) h := rfl
theorem addF_s {i j : Str} {h : AH} {Q : AVK} : addF (.str i) (.str j) h Q = (i.length + j.length ≤ sizeLine ∧ Q (.str (i ++ j)) h) := rfl
theorem addF_t {i j : List A} {h : AH} {Q : AVK} : addF (.tup i) (.tup j) h Q = (i.length + j.length ≤ sizeLine ∧ Q (.tup (i ++ j)) h) := rfl
theorem addF_l {i j : List A} {h : AH} {Q : AVK} : addF (.fls i) (.fls j) h Q = (i.length + j.length ≤ sizeLine ∧ Q (.fls (i ++ j)) h) := rfl
theorem addF_r {p : Addr} {j xs : List A} {h : AH} {Q : AVK} (e : h p = some (.lst xs)) (q : xs.length + j.length ≤ sizeLine ∧ Q (.fls (xs ++ j)) h) : addF (.ref p) (.fls j) h Q := ⟨xs, j, lstI_ref e, rfl, q⟩
theorem ix_fls {xs : List A} {i : Int} {v : A} {h : AH} {Q : AVK} (a : atI xs i = some v) (q : Q v h) : ixA (.fls xs) (.int i) h Q := by
  show (match atI xs i with
    | some v => Q v h
    | none => False)
  rw [a]
  exact q
theorem atI_get {α : Type} {xs : List α} {i : Int} {j : Nat} {v : α} (e : i = (j : Int)) (k : xs[j]? = some v) : atI xs i = some v := by
  subst e
  have hj : j < xs.length := by
    by_cases c : j < xs.length
    · exact c
    · rw [List.getElem?_eq_none (by omega)] at k; cases k
  rw [atI_of (by omega) (by omega)]
  simp only [Int.toNat_natCast]
  rw [List.getElem?_eq_getElem hj] at k
  exact k
/-- comprehensions over encoded items -/
theorem lcR_mapif {β : Type} {h : AH} {α : ASt} {x : A} {l : List β} {e : β → A} {g : ATG} {tt : ATT} {te : ATE} {vs : List Nat} {Q : Addr → AH → Prop} (p : β → Bool) (f : β → A) (q : itF h x = some (l.map e)) (sz : l.length ≤ 1000000)
    (step : ∀ y ∈ l, ∀ h' (C : A → AH → Prop) (N : AH → Prop), Ext h h' → (p y = true → C (f y) h') → (p y = false → N h') → g (e y) (wipeA α vs) h' fun α2 h2 => tt α2 h2 (fun b h3 => if b = true then te α2 h3 C AE0 else N h3) AE0)
    (done : ∀ D, h D = none → Q D (updA h D (.lst ((l.filter p).map f)))) : seqOf x h fun S => ∀ D, h D = none → lcS S g tt te vs α h D fun h2 => Q D h2 := by
  refine seqOf_mk q fun st hst D hD => ⟨fun i h' => h' = updA h D (.lst (((l.take i).filter p).map f)), rfl, fun i h' _ e => by subst e; exact hst _ (Ext.new hD), fun i y h' hi ey pv => ?_, fun h' pv => ?_⟩
  · have hi' : i < (l.map e).length := hi
    have ey : (l.map e)[i]? = some y := ey
    rw [List.getElem?_eq_getElem hi'] at ey
    cases ey
    rw [List.length_map] at hi'
    rw [List.getElem_map]
    subst pv
    have tk : l.take (i + 1) = l.take i ++ [l[i]] := takeS hi'
    refine step l[i] (List.getElem_mem hi') _ _ _ (Ext.new hD) (fun hp => ⟨_, updA_same, ?_, ?_⟩) fun hp => ?_
    · rw [List.length_map]
      have := List.length_filter_le p (l.take i)
      rw [List.length_take] at this
      exact ltL (by omega)
    · show updA (updA h D _) D _ = _
      rw [updA_updA, tk, List.filter_append, List.map_append, List.filter_cons, if_pos hp, List.filter_nil, List.map_cons, List.map_nil]
    · show updA h D _ = updA h D _
      rw [tk, List.filter_append, List.filter_cons, if_neg (by rw [hp]; exact Bool.false_ne_true), List.filter_nil, List.append_nil]
  · have pv : h' = updA h D (.lst (((l.take (l.map e).length).filter p).map f)) := pv
    subst pv
    rw [List.length_map, List.take_length]
    exact done D hD
theorem lcF_mapif {β : Type} {h : AH} {α : ASt} {x : A} {l : List β} {e : β → A} {g : ATG} {tt : ATT} {te : ATE} {vs : List Nat} {Q : AVK} (p : β → Bool) (f : β → A) (q : itF h x = some (l.map e)) (sz : l.length ≤ 1000000)
    (step : ∀ y ∈ l, ∀ h' (C : A → AH → Prop) (N : AH → Prop), Ext h h' → (p y = true → C (f y) h') → (p y = false → N h') → g (e y) (wipeA α vs) h' fun α2 h2 => tt α2 h2 (fun b h3 => if b = true then te α2 h3 C AE0 else N h3) AE0)
    (done : Q (.fls ((l.filter p).map f)) h) : seqOf x h fun S => ∀ D, h D = none → lcS S g tt te vs α h D fun h2 => fzQ Q (.ref D) h2 :=
  lcR_mapif (Q := fun D h2 => fzQ Q (.ref D) h2) p f q sz step fun D hD => ⟨_, updA_same, by rw [delA_upd hD]; exact done⟩
theorem lcF_map {β : Type} {h : AH} {α : ASt} {x : A} {l : List β} {e : β → A} {g : ATG} {te : ATE} {vs : List Nat} {Q : AVK} (f : β → A) (q : itF h x = some (l.map e)) (sz : l.length ≤ 1000000)
    (step : ∀ y ∈ l, ∀ h' (C : A → AH → Prop), Ext h h' → C (f y) h' → g (e y) (wipeA α vs) h' fun α2 h2 => te α2 h2 C AE0)
    (done : Q (.fls (l.map f)) h) : seqOf x h fun S => ∀ D, h D = none → lcS S g aYes te vs α h D fun h2 => fzQ Q (.ref D) h2 :=
  lcF_mapif (fun _ => true) f q sz (fun y hy h' C N e c _ => step y hy h' C e (c rfl)) (by rw [List.filter_eq_self.mpr (fun _ _ => rfl)]; exact done)
theorem lcR_map {β : Type} {h : AH} {α : ASt} {x : A} {l : List β} {e : β → A} {g : ATG} {te : ATE} {vs : List Nat} {Q : Addr → AH → Prop} (f : β → A) (q : itF h x = some (l.map e)) (sz : l.length ≤ 1000000)
    (step : ∀ y ∈ l, ∀ h' (C : A → AH → Prop), Ext h h' → C (f y) h' → g (e y) (wipeA α vs) h' fun α2 h2 => te α2 h2 C AE0)
    (done : ∀ D, h D = none → Q D (updA h D (.lst (l.map f)))) : seqOf x h fun S => ∀ D, h D = none → lcS S g aYes te vs α h D fun h2 => Q D h2 :=
  lcR_mapif (fun _ => true) f q sz (fun y hy h' C N e c _ => step y hy h' C e (c rfl)) (fun D hD => by rw [List.filter_eq_self.mpr (fun _ _ => rfl)]; exact done D hD)
end G
namespace G
open PySem PySem.Spec L2
/-! ### several except clauses -/
def hdsQ (K : Frg) (D : AEnds) : List (Value × (Addr → Addr → ATS)) → AX
  | [] => D.ex
  | (c, ts) :: r => fun cls α h => ∃ b, PySem.W.exmOne K cls c = some b ∧ (b = true → ∃ C, cls = .ref C ∧ ExcC K C ∧ ∀ a, h a = none → ts a C { D with ex := fun _ _ _ => False } α h) ∧ (b = false → hdsQ K D r cls α h)
def aTryMany (K : Frg) (l : List (Value × (Addr → Addr → ATS))) (tb : ATS) : ATS := fun D α h => tb { D with ex := hdsQ K D l } α h
def lowHds (X : Cx) (l : List (Value × (Addr → Addr → ATS))) : List (Value × (Addr → Value → Option Addr → TS)) := l.map fun p => (p.1, lowSuite X p.2)
structure AHds (X : Cx) (hds : List ExceptHandler) (l : List (Value × (Addr → Addr → ATS))) : Prop where
  ok : HdsOk X hds (lowHds X l)
theorem ahd_nil {X : Cx} : AHds X [] [] := ⟨.nil⟩
theorem ahd_cons {X : Cx} {x : Str} {c : Value} {ts : Addr → Addr → ATS} {b₀ : Stmt} {suite : List Stmt} {np pos' : Pos} {hds : List ExceptHandler} {l : List (Value × (Addr → Addr → ATS))} (hc : Names X x c)
    (hsu : ∀ (a : Addr) (oe : Obj) (C : Addr) (pn : List (Addr × Obj)), ExcC X.K C → Zc (.ref C) none oe → (∃ vs, oe.data = .fields vs) → ASs (X.suite a ((a, oe) :: pn)) (b₀ :: suite) (ts a C)) (r : AHds X hds l) :
    AHds X (.ExceptHandler (some (.Name x np)) none (b₀ :: suite) pos' :: hds) ((c, ts) :: l) := ⟨.cons hc (try_suite hsu) r.ok⟩
theorem hds_wish {X : Cx} {H H' Hb : Hp} {DA : AEnds} {D : Ends} {cls : Value} {σ : L2.St} {α : ASt} {h : AH} (m : Mono H H') (mb : Mono Hb H) (rs : RelS X.K H' α σ) (rh : RelH X.K H' h) (k : Reach X.K H DA D) :
    ∀ l : List (Value × (Addr → Addr → ATS)), hdsQ X.K DA l cls α h → wMany X.K (fun cls d σ H' => d = none ∧ Mono Hb H' ∧ ∃ α h, RelS X.K H' α σ ∧ RelH X.K H' h ∧ DA.ex cls α h) D (lowHds X l) cls none σ H'
  | [], q => ⟨rfl, mb.trans m, α, h, rs, rh, q⟩
  | (c, ts) :: l, q => by
    obtain ⟨b, eb, y, n⟩ := q
    refine ⟨b, eb, fun e a ha => ?_, fun e => hds_wish m mb rs rh k l (n e)⟩
    obtain ⟨C, ec, xc, q⟩ := y e
    exact ⟨C, ec, rfl, xc, α, h, _, rs, rh, q a (rh.free ha), fun _ _ _ z => z, ⟨fun _ _ z => k.nx _ _ (z.up m), fun _ _ z => k.rt _ _ (z.up m), fun _ _ z => k.bk _ _ (z.up m), fun _ _ z => k.ct _ _ (z.up m)⟩⟩
theorem as_try_many {X : Cx} {body : List Stmt} {h₀ : ExceptHandler} {hds : List ExceptHandler} {l : List (Value × (Addr → Addr → ATS))} {pos : Pos} {tb : ATS} (hs : X.stack = X.env :: X.outer) (hf : X.env.frame = some X.env.locals)
    (hb : ∀ (pn : List (Addr × Obj)) (xe : Value → Shared → Prop), PassesOwn (model X.prog X.w) X.A X.env xe → ASs (X.tr pn xe) body tb) (hh : AHds X (h₀ :: hds) l) :
    AS X (.Try body (h₀ :: hds) [] [] pos) (aTryMany X.K l tb) :=
  ⟨fun pins s σ H α h D I rs rh ⟨Hb, mb, tk⟩ ht => (ps_try_many hs hf tk (try_body hb) hh.ok).run pins s σ H _ I ⟨α, h, { D with ex := hdsQ X.K D l }, rs, rh, ht, fun cls d σ' H' ⟨ed, m, α', h', rs', rh', q⟩ => by
    subst ed
    exact hds_wish m mb rs' rh' .self l q, .self⟩⟩
end G
namespace GL
open PySem PySem.Spec L2 G
def top (i : Nat) : Stmt := PySem.Challenge.pw_glazehall_k25_whole_small_things_again.main.body.getD i (.Pass ⟨0, 0, 0, 0⟩)
abbrev s_divisor : Stmt := top 7
abbrev s_made : Stmt := top 8
abbrev s_plus : Stmt := top 9
abbrev s_minus : Stmt := top 10
abbrev s_times : Stmt := top 11
abbrev s_less : Stmt := top 12
abbrev s_is_sixteenth : Stmt := top 15
abbrev s_shade : Stmt := top 16
abbrev s_is_shade : Stmt := top 17
abbrev s_grounds : Stmt := top 21
abbrev s_laid : Stmt := top 22
abbrev s_behind : Stmt := top 23
abbrev s_mixed : Stmt := top 24
abbrev s_parted : Stmt := top 25
abbrev s_stays : Stmt := top 26
abbrev s_shade_or_none : Stmt := top 28
abbrev s_Manner_found : Stmt := inClass (top 29) 2
abbrev s_Over_word : Stmt := inClass (top 30) 0
abbrev s_Over_rule : Stmt := inClass (top 30) 1
abbrev s_Under_word : Stmt := inClass (top 31) 0
abbrev s_Under_rule : Stmt := inClass (top 31) 1
abbrev s_Screen_word : Stmt := inClass (top 32) 0
abbrev s_Screen_rule : Stmt := inClass (top 32) 1
abbrev s_Times_word : Stmt := inClass (top 33) 0
abbrev s_Times_rule : Stmt := inClass (top 33) 1
abbrev s_Atop_word : Stmt := inClass (top 34) 0
abbrev s_Atop_rule : Stmt := inClass (top 34) 1
abbrev s_Atop_found : Stmt := inClass (top 34) 2
abbrev s_manner_of : Stmt := top 35
abbrev s_weakened : Stmt := top 36
abbrev s_adjusted : Stmt := top 37
abbrev s_law_well : Stmt := top 40
abbrev s_law_draw : Stmt := top 41
abbrev s_law_made : Stmt := top 42
abbrev s_law_plus : Stmt := top 43
abbrev s_law_less : Stmt := top 44
abbrev s_law_times : Stmt := top 45
abbrev s_law_is_shade : Stmt := top 46
abbrev s_law_laid : Stmt := top 47
abbrev s_law_behind : Stmt := top 48
abbrev s_law_mixed : Stmt := top 49
abbrev s_law_manner : Stmt := top 50
abbrev s_law_fraction : Stmt := top 51
abbrev s_law_source : Stmt := top 52
abbrev s_law_word : Stmt := top 53
abbrev s_law_rule : Stmt := top 54
abbrev s_law_thing : Stmt := top 55
abbrev s_law_args : Stmt := top 56
abbrev s_law_answer : Stmt := top 57
abbrev s_law_answer_more : Stmt := top 58
abbrev s_law_asked : Stmt := top 59
abbrev s_law_refusal : Stmt := top 60
abbrev s_law_grounds : Stmt := top 61
abbrev s_law_sum_due : Stmt := top 62
abbrev s_law_due : Stmt := top 63
abbrev s_law_right : Stmt := top 64
abbrev s_law : Stmt := top 65
def d_divisor : He.DefD := ⟨("divisor", none), "divisor", "divisor", defArgs s_divisor, defBody s_divisor, defScope s_divisor, [], []⟩
def d_made : He.DefD := ⟨("made", none), "made", "made", defArgs s_made, defBody s_made, defScope s_made, [], []⟩
def d_plus : He.DefD := ⟨("plus", none), "plus", "plus", defArgs s_plus, defBody s_plus, defScope s_plus, [], []⟩
def d_minus : He.DefD := ⟨("minus", none), "minus", "minus", defArgs s_minus, defBody s_minus, defScope s_minus, [], []⟩
def d_times : He.DefD := ⟨("times", none), "times", "times", defArgs s_times, defBody s_times, defScope s_times, [], []⟩
def d_less : He.DefD := ⟨("less", none), "less", "less", defArgs s_less, defBody s_less, defScope s_less, [], []⟩
def d_is_sixteenth : He.DefD := ⟨("is_sixteenth", none), "is_sixteenth", "is_sixteenth", defArgs s_is_sixteenth, defBody s_is_sixteenth, defScope s_is_sixteenth, [], []⟩
def d_shade : He.DefD := ⟨("shade", none), "shade", "shade", defArgs s_shade, defBody s_shade, defScope s_shade, [], []⟩
def d_is_shade : He.DefD := ⟨("is_shade", none), "is_shade", "is_shade", defArgs s_is_shade, defBody s_is_shade, defScope s_is_shade, [], []⟩
def d_grounds : He.DefD := ⟨("grounds", none), "grounds", "grounds", defArgs s_grounds, defBody s_grounds, defScope s_grounds, [], []⟩
def d_laid : He.DefD := ⟨("laid", none), "laid", "laid", defArgs s_laid, defBody s_laid, defScope s_laid, [], []⟩
def d_behind : He.DefD := ⟨("behind", none), "behind", "behind", defArgs s_behind, defBody s_behind, defScope s_behind, [], []⟩
def d_mixed : He.DefD := ⟨("mixed", none), "mixed", "mixed", defArgs s_mixed, defBody s_mixed, defScope s_mixed, [], []⟩
def d_parted : He.DefD := ⟨("parted", none), "parted", "parted", defArgs s_parted, defBody s_parted, defScope s_parted, [], []⟩
def d_stays : He.DefD := ⟨("stays", none), "stays", "stays", defArgs s_stays, defBody s_stays, defScope s_stays, [], []⟩
def d_shade_or_none : He.DefD := ⟨("shade_or_none", none), "shade_or_none", "shade_or_none", defArgs s_shade_or_none, defBody s_shade_or_none, defScope s_shade_or_none, [], []⟩
def d_Manner_found : He.DefD := ⟨("Manner", some "found"), "found", "Manner.found", defArgs s_Manner_found, defBody s_Manner_found, defScope s_Manner_found, [], []⟩
def d_Over_word : He.DefD := ⟨("Over", some "word"), "word", "Over.word", defArgs s_Over_word, defBody s_Over_word, defScope s_Over_word, [], []⟩
def d_Over_rule : He.DefD := ⟨("Over", some "rule"), "rule", "Over.rule", defArgs s_Over_rule, defBody s_Over_rule, defScope s_Over_rule, [], []⟩
def d_Under_word : He.DefD := ⟨("Under", some "word"), "word", "Under.word", defArgs s_Under_word, defBody s_Under_word, defScope s_Under_word, [], []⟩
def d_Under_rule : He.DefD := ⟨("Under", some "rule"), "rule", "Under.rule", defArgs s_Under_rule, defBody s_Under_rule, defScope s_Under_rule, [], []⟩
def d_Screen_word : He.DefD := ⟨("Screen", some "word"), "word", "Screen.word", defArgs s_Screen_word, defBody s_Screen_word, defScope s_Screen_word, [], []⟩
def d_Screen_rule : He.DefD := ⟨("Screen", some "rule"), "rule", "Screen.rule", defArgs s_Screen_rule, defBody s_Screen_rule, defScope s_Screen_rule, [], []⟩
def d_Times_word : He.DefD := ⟨("Times", some "word"), "word", "Times.word", defArgs s_Times_word, defBody s_Times_word, defScope s_Times_word, [], []⟩
def d_Times_rule : He.DefD := ⟨("Times", some "rule"), "rule", "Times.rule", defArgs s_Times_rule, defBody s_Times_rule, defScope s_Times_rule, [], []⟩
def d_Atop_word : He.DefD := ⟨("Atop", some "word"), "word", "Atop.word", defArgs s_Atop_word, defBody s_Atop_word, defScope s_Atop_word, [], []⟩
def d_Atop_rule : He.DefD := ⟨("Atop", some "rule"), "rule", "Atop.rule", defArgs s_Atop_rule, defBody s_Atop_rule, defScope s_Atop_rule, [], []⟩
def d_Atop_found : He.DefD := ⟨("Atop", some "found"), "found", "Atop.found", defArgs s_Atop_found, defBody s_Atop_found, defScope s_Atop_found, [], []⟩
def d_manner_of : He.DefD := ⟨("manner_of", none), "manner_of", "manner_of", defArgs s_manner_of, defBody s_manner_of, defScope s_manner_of, [], []⟩
def d_weakened : He.DefD := ⟨("weakened", none), "weakened", "weakened", defArgs s_weakened, defBody s_weakened, defScope s_weakened, [], []⟩
def d_adjusted : He.DefD := ⟨("adjusted", none), "adjusted", "adjusted", defArgs s_adjusted, defBody s_adjusted, defScope s_adjusted, [], []⟩
def d_law_well : He.DefD := ⟨("_law_well", none), "_law_well", "_law_well", defArgs s_law_well, defBody s_law_well, defScope s_law_well, [], []⟩
def d_law_draw : He.DefD := ⟨("_law_draw", none), "_law_draw", "_law_draw", defArgs s_law_draw, defBody s_law_draw, defScope s_law_draw, [], []⟩
def d_law_made : He.DefD := ⟨("_law_made", none), "_law_made", "_law_made", defArgs s_law_made, defBody s_law_made, defScope s_law_made, [], []⟩
def d_law_plus : He.DefD := ⟨("_law_plus", none), "_law_plus", "_law_plus", defArgs s_law_plus, defBody s_law_plus, defScope s_law_plus, [], []⟩
def d_law_less : He.DefD := ⟨("_law_less", none), "_law_less", "_law_less", defArgs s_law_less, defBody s_law_less, defScope s_law_less, [], []⟩
def d_law_times : He.DefD := ⟨("_law_times", none), "_law_times", "_law_times", defArgs s_law_times, defBody s_law_times, defScope s_law_times, [], []⟩
def d_law_is_shade : He.DefD := ⟨("_law_is_shade", none), "_law_is_shade", "_law_is_shade", defArgs s_law_is_shade, defBody s_law_is_shade, defScope s_law_is_shade, [], []⟩
def d_law_laid : He.DefD := ⟨("_law_laid", none), "_law_laid", "_law_laid", defArgs s_law_laid, defBody s_law_laid, defScope s_law_laid, [], []⟩
def d_law_behind : He.DefD := ⟨("_law_behind", none), "_law_behind", "_law_behind", defArgs s_law_behind, defBody s_law_behind, defScope s_law_behind, [], []⟩
def d_law_mixed : He.DefD := ⟨("_law_mixed", none), "_law_mixed", "_law_mixed", defArgs s_law_mixed, defBody s_law_mixed, defScope s_law_mixed, [], []⟩
def d_law_manner : He.DefD := ⟨("_law_manner", none), "_law_manner", "_law_manner", defArgs s_law_manner, defBody s_law_manner, defScope s_law_manner, [], []⟩
def d_law_fraction : He.DefD := ⟨("_law_fraction", none), "_law_fraction", "_law_fraction", defArgs s_law_fraction, defBody s_law_fraction, defScope s_law_fraction, [], []⟩
def d_law_source : He.DefD := ⟨("_law_source", none), "_law_source", "_law_source", defArgs s_law_source, defBody s_law_source, defScope s_law_source, [], []⟩
def d_law_word : He.DefD := ⟨("_law_word", none), "_law_word", "_law_word", defArgs s_law_word, defBody s_law_word, defScope s_law_word, [], []⟩
def d_law_rule : He.DefD := ⟨("_law_rule", none), "_law_rule", "_law_rule", defArgs s_law_rule, defBody s_law_rule, defScope s_law_rule, [], []⟩
def d_law_thing : He.DefD := ⟨("_law_thing", none), "_law_thing", "_law_thing", defArgs s_law_thing, defBody s_law_thing, defScope s_law_thing, [], []⟩
def d_law_args : He.DefD := ⟨("_law_args", none), "_law_args", "_law_args", defArgs s_law_args, defBody s_law_args, defScope s_law_args, [], []⟩
def d_law_answer : He.DefD := ⟨("_law_answer", none), "_law_answer", "_law_answer", defArgs s_law_answer, defBody s_law_answer, defScope s_law_answer, [], []⟩
def d_law_answer_more : He.DefD := ⟨("_law_answer_more", none), "_law_answer_more", "_law_answer_more", defArgs s_law_answer_more, defBody s_law_answer_more, defScope s_law_answer_more, [], []⟩
def d_law_asked : He.DefD := ⟨("_law_asked", none), "_law_asked", "_law_asked", defArgs s_law_asked, defBody s_law_asked, defScope s_law_asked, [], []⟩
def d_law_refusal : He.DefD := ⟨("_law_refusal", none), "_law_refusal", "_law_refusal", defArgs s_law_refusal, defBody s_law_refusal, defScope s_law_refusal, [], []⟩
def d_law_grounds : He.DefD := ⟨("_law_grounds", none), "_law_grounds", "_law_grounds", defArgs s_law_grounds, defBody s_law_grounds, defScope s_law_grounds, [], []⟩
def d_law_sum_due : He.DefD := ⟨("_law_sum_due", none), "_law_sum_due", "_law_sum_due", defArgs s_law_sum_due, defBody s_law_sum_due, defScope s_law_sum_due, [], []⟩
def d_law_due : He.DefD := ⟨("_law_due", none), "_law_due", "_law_due", defArgs s_law_due, defBody s_law_due, defScope s_law_due, [], []⟩
def d_law_right : He.DefD := ⟨("_law_right", none), "_law_right", "_law_right", defArgs s_law_right, defBody s_law_right, defScope s_law_right, [], []⟩
def d_law : He.DefD := ⟨("law", none), "law", "law", defArgs s_law, defBody s_law, defScope s_law, [], []⟩
abbrev N_divisor : List Str := ["one", "other"]
abbrev a_divisor : List Str := ["one", "other"]
theorem sc_divisor : FnScope N_divisor a_divisor (defScope s_divisor) := ⟨rfl, rfl, rfl, by decide +kernel, rfl, by decide +kernel, by decide +kernel⟩
abbrev N_made : List Str := ["top", "bottom", "share"]
abbrev a_made : List Str := ["top", "bottom"]
theorem sc_made : FnScope N_made a_made (defScope s_made) := ⟨rfl, rfl, rfl, by decide +kernel, rfl, by decide +kernel, by decide +kernel⟩
abbrev N_plus : List Str := ["one", "other"]
abbrev a_plus : List Str := ["one", "other"]
theorem sc_plus : FnScope N_plus a_plus (defScope s_plus) := ⟨rfl, rfl, rfl, by decide +kernel, rfl, by decide +kernel, by decide +kernel⟩
abbrev N_minus : List Str := ["one", "other"]
abbrev a_minus : List Str := ["one", "other"]
theorem sc_minus : FnScope N_minus a_minus (defScope s_minus) := ⟨rfl, rfl, rfl, by decide +kernel, rfl, by decide +kernel, by decide +kernel⟩
abbrev N_times : List Str := ["one", "other"]
abbrev a_times : List Str := ["one", "other"]
theorem sc_times : FnScope N_times a_times (defScope s_times) := ⟨rfl, rfl, rfl, by decide +kernel, rfl, by decide +kernel, by decide +kernel⟩
abbrev N_less : List Str := ["one", "other"]
abbrev a_less : List Str := ["one", "other"]
theorem sc_less : FnScope N_less a_less (defScope s_less) := ⟨rfl, rfl, rfl, by decide +kernel, rfl, by decide +kernel, by decide +kernel⟩
abbrev N_is_sixteenth : List Str := ["number"]
abbrev a_is_sixteenth : List Str := ["number"]
theorem sc_is_sixteenth : FnScope N_is_sixteenth a_is_sixteenth (defScope s_is_sixteenth) := ⟨rfl, rfl, rfl, by decide +kernel, rfl, by decide +kernel, by decide +kernel⟩
abbrev N_shade : List Str := ["colour", "thickness"]
abbrev a_shade : List Str := ["colour", "thickness"]
theorem sc_shade : FnScope N_shade a_shade (defScope s_shade) := ⟨rfl, rfl, rfl, by decide +kernel, rfl, by decide +kernel, by decide +kernel⟩
abbrev N_is_shade : List Str := ["value", "colour", "thickness"]
abbrev a_is_shade : List Str := ["value"]
theorem sc_is_shade : FnScope N_is_shade a_is_shade (defScope s_is_shade) := ⟨rfl, rfl, rfl, by decide +kernel, rfl, by decide +kernel, by decide +kernel⟩
abbrev N_grounds : List Str := []
abbrev a_grounds : List Str := []
theorem sc_grounds : FnScope N_grounds a_grounds (defScope s_grounds) := ⟨rfl, rfl, rfl, by decide +kernel, rfl, by decide +kernel, by decide +kernel⟩
abbrev N_laid : List Str := ["rule", "value", "g", "p", "a", "q", "b", "colour"]
abbrev a_laid : List Str := ["rule", "value"]
theorem sc_laid : FnScope N_laid a_laid (defScope s_laid) := ⟨rfl, rfl, rfl, by decide +kernel, rfl, by decide +kernel, by decide +kernel⟩
abbrev N_behind : List Str := ["first", "second", "g", "p", "a", "q", "b", "gain", "part", "more", "wide", "high"]
abbrev a_behind : List Str := ["first", "second"]
theorem sc_behind : FnScope N_behind a_behind (defScope s_behind) := ⟨rfl, rfl, rfl, by decide +kernel, rfl, by decide +kernel, by decide +kernel⟩
abbrev N_mixed : List Str := ["rule", "share", "rest", "g", "p", "a", "q", "b", "gain", "wide"]
abbrev a_mixed : List Str := ["rule", "share"]
theorem sc_mixed : FnScope N_mixed a_mixed (defScope s_mixed) := ⟨rfl, rfl, rfl, by decide +kernel, rfl, by decide +kernel, by decide +kernel⟩
abbrev N_parted : List Str := ["one", "other", "ground"]
abbrev a_parted : List Str := ["one", "other"]
theorem sc_parted : FnScope N_parted a_parted (defScope s_parted) := ⟨rfl, rfl, rfl, by decide +kernel, rfl, by decide +kernel, by decide +kernel⟩
abbrev N_stays : List Str := ["rule", "ground"]
abbrev a_stays : List Str := ["rule"]
theorem sc_stays : FnScope N_stays a_stays (defScope s_stays) := ⟨rfl, rfl, rfl, by decide +kernel, rfl, by decide +kernel, by decide +kernel⟩
abbrev N_shade_or_none : List Str := ["colour", "thickness"]
abbrev a_shade_or_none : List Str := ["colour", "thickness"]
theorem sc_shade_or_none : FnScope N_shade_or_none a_shade_or_none (defScope s_shade_or_none) := ⟨rfl, rfl, rfl, by decide +kernel, rfl, by decide +kernel, by decide +kernel⟩
abbrev N_Manner_found : List Str := ["self", "rule"]
abbrev a_Manner_found : List Str := ["self", "rule"]
theorem sc_Manner_found : FnScope N_Manner_found a_Manner_found (defScope s_Manner_found) := ⟨rfl, rfl, rfl, by decide +kernel, rfl, by decide +kernel, by decide +kernel⟩
abbrev N_Over_word : List Str := ["self"]
abbrev a_Over_word : List Str := ["self"]
theorem sc_Over_word : FnScope N_Over_word a_Over_word (defScope s_Over_word) := ⟨rfl, rfl, rfl, by decide +kernel, rfl, by decide +kernel, by decide +kernel⟩
abbrev N_Over_rule : List Str := ["self", "source", "rest"]
abbrev a_Over_rule : List Str := ["self", "source"]
theorem sc_Over_rule : FnScope N_Over_rule a_Over_rule (defScope s_Over_rule) := ⟨rfl, rfl, rfl, by decide +kernel, rfl, by decide +kernel, by decide +kernel⟩
abbrev N_Under_word : List Str := ["self"]
abbrev a_Under_word : List Str := ["self"]
theorem sc_Under_word : FnScope N_Under_word a_Under_word (defScope s_Under_word) := ⟨rfl, rfl, rfl, by decide +kernel, rfl, by decide +kernel, by decide +kernel⟩
abbrev N_Under_rule : List Str := ["self", "source"]
abbrev a_Under_rule : List Str := ["self", "source"]
theorem sc_Under_rule : FnScope N_Under_rule a_Under_rule (defScope s_Under_rule) := ⟨rfl, rfl, rfl, by decide +kernel, rfl, by decide +kernel, by decide +kernel⟩
abbrev N_Screen_word : List Str := ["self"]
abbrev a_Screen_word : List Str := ["self"]
theorem sc_Screen_word : FnScope N_Screen_word a_Screen_word (defScope s_Screen_word) := ⟨rfl, rfl, rfl, by decide +kernel, rfl, by decide +kernel, by decide +kernel⟩
abbrev N_Screen_rule : List Str := ["self", "source"]
abbrev a_Screen_rule : List Str := ["self", "source"]
theorem sc_Screen_rule : FnScope N_Screen_rule a_Screen_rule (defScope s_Screen_rule) := ⟨rfl, rfl, rfl, by decide +kernel, rfl, by decide +kernel, by decide +kernel⟩
abbrev N_Times_word : List Str := ["self"]
abbrev a_Times_word : List Str := ["self"]
theorem sc_Times_word : FnScope N_Times_word a_Times_word (defScope s_Times_word) := ⟨rfl, rfl, rfl, by decide +kernel, rfl, by decide +kernel, by decide +kernel⟩
abbrev N_Times_rule : List Str := ["self", "source", "rest"]
abbrev a_Times_rule : List Str := ["self", "source"]
theorem sc_Times_rule : FnScope N_Times_rule a_Times_rule (defScope s_Times_rule) := ⟨rfl, rfl, rfl, by decide +kernel, rfl, by decide +kernel, by decide +kernel⟩
abbrev N_Atop_word : List Str := ["self"]
abbrev a_Atop_word : List Str := ["self"]
theorem sc_Atop_word : FnScope N_Atop_word a_Atop_word (defScope s_Atop_word) := ⟨rfl, rfl, rfl, by decide +kernel, rfl, by decide +kernel, by decide +kernel⟩
abbrev N_Atop_rule : List Str := ["self", "source"]
abbrev a_Atop_rule : List Str := ["self", "source"]
theorem sc_Atop_rule : FnScope N_Atop_rule a_Atop_rule (defScope s_Atop_rule) := ⟨rfl, rfl, rfl, by decide +kernel, rfl, by decide +kernel, by decide +kernel⟩
abbrev N_Atop_found : List Str := ["self", "rule"]
abbrev a_Atop_found : List Str := ["self", "rule"]
theorem sc_Atop_found : FnScope N_Atop_found a_Atop_found (defScope s_Atop_found) := ⟨rfl, rfl, rfl, by decide +kernel, rfl, by decide +kernel, by decide +kernel⟩
abbrev N_manner_of : List Str := ["word", "manner"]
abbrev a_manner_of : List Str := ["word"]
theorem sc_manner_of : FnScope N_manner_of a_manner_of (defScope s_manner_of) := ⟨rfl, rfl, rfl, by decide +kernel, rfl, by decide +kernel, by decide +kernel⟩
abbrev N_weakened : List Str := ["source", "m"]
abbrev a_weakened : List Str := ["source", "m"]
theorem sc_weakened : FnScope N_weakened a_weakened (defScope s_weakened) := ⟨rfl, rfl, rfl, by decide +kernel, rfl, by decide +kernel, by decide +kernel⟩
abbrev N_adjusted : List Str := ["gain", "lift"]
abbrev a_adjusted : List Str := ["gain", "lift"]
theorem sc_adjusted : FnScope N_adjusted a_adjusted (defScope s_adjusted) := ⟨rfl, rfl, rfl, by decide +kernel, rfl, by decide +kernel, by decide +kernel⟩
abbrev N_law_well : List Str := ["cell"]
abbrev a_law_well : List Str := ["cell"]
theorem sc_law_well : FnScope N_law_well a_law_well (defScope s_law_well) := ⟨rfl, rfl, rfl, by decide +kernel, rfl, by decide +kernel, by decide +kernel⟩
abbrev N_law_draw : List Str := ["well", "many", "found", "number"]
abbrev a_law_draw : List Str := ["well", "many"]
theorem sc_law_draw : FnScope N_law_draw a_law_draw (defScope s_law_draw) := ⟨rfl, rfl, rfl, by decide +kernel, rfl, by decide +kernel, by decide +kernel⟩
abbrev N_law_made : List Str := ["top", "bottom", "left", "right"]
abbrev a_law_made : List Str := ["top", "bottom"]
theorem sc_law_made : FnScope N_law_made a_law_made (defScope s_law_made) := ⟨rfl, rfl, rfl, by decide +kernel, rfl, by decide +kernel, by decide +kernel⟩
abbrev N_law_plus : List Str := ["one", "other"]
abbrev a_law_plus : List Str := ["one", "other"]
theorem sc_law_plus : FnScope N_law_plus a_law_plus (defScope s_law_plus) := ⟨rfl, rfl, rfl, by decide +kernel, rfl, by decide +kernel, by decide +kernel⟩
abbrev N_law_less : List Str := ["one", "other"]
abbrev a_law_less : List Str := ["one", "other"]
theorem sc_law_less : FnScope N_law_less a_law_less (defScope s_law_less) := ⟨rfl, rfl, rfl, by decide +kernel, rfl, by decide +kernel, by decide +kernel⟩
abbrev N_law_times : List Str := ["one", "other"]
abbrev a_law_times : List Str := ["one", "other"]
theorem sc_law_times : FnScope N_law_times a_law_times (defScope s_law_times) := ⟨rfl, rfl, rfl, by decide +kernel, rfl, by decide +kernel, by decide +kernel⟩
abbrev N_law_is_shade : List Str := ["value", "colour", "thick"]
abbrev a_law_is_shade : List Str := ["value"]
theorem sc_law_is_shade : FnScope N_law_is_shade a_law_is_shade (defScope s_law_is_shade) := ⟨rfl, rfl, rfl, by decide +kernel, rfl, by decide +kernel, by decide +kernel⟩
abbrev N_law_laid : List Str := ["rule", "value", "g", "p", "a", "q", "b", "colour"]
abbrev a_law_laid : List Str := ["rule", "value"]
theorem sc_law_laid : FnScope N_law_laid a_law_laid (defScope s_law_laid) := ⟨rfl, rfl, rfl, by decide +kernel, rfl, by decide +kernel, by decide +kernel⟩
abbrev N_law_behind : List Str := ["first", "second", "g", "p", "a", "q", "b", "gain", "part", "more", "wide", "high", "colour", "start"]
abbrev a_law_behind : List Str := ["first", "second"]
theorem sc_law_behind : FnScope N_law_behind a_law_behind (defScope s_law_behind) := ⟨rfl, rfl, rfl, by decide +kernel, rfl, by decide +kernel, by decide +kernel⟩
abbrev N_law_mixed : List Str := ["rule", "share", "rest", "found", "part"]
abbrev a_law_mixed : List Str := ["rule", "share"]
theorem sc_law_mixed : FnScope N_law_mixed a_law_mixed (defScope s_law_mixed) := ⟨rfl, rfl, rfl, by decide +kernel, rfl, by decide +kernel, by decide +kernel⟩
abbrev N_law_manner : List Str := ["word", "source", "s", "u", "rest"]
abbrev a_law_manner : List Str := ["word", "source"]
theorem sc_law_manner : FnScope N_law_manner a_law_manner (defScope s_law_manner) := ⟨rfl, rfl, rfl, by decide +kernel, rfl, by decide +kernel, by decide +kernel⟩
abbrev N_law_fraction : List Str := ["well", "top", "some"]
abbrev a_law_fraction : List Str := ["well"]
theorem sc_law_fraction : FnScope N_law_fraction a_law_fraction (defScope s_law_fraction) := ⟨rfl, rfl, rfl, by decide +kernel, rfl, by decide +kernel, by decide +kernel⟩
abbrev N_law_source : List Str := ["well", "thick"]
abbrev a_law_source : List Str := ["well"]
theorem sc_law_source : FnScope N_law_source a_law_source (defScope s_law_source) := ⟨rfl, rfl, rfl, by decide +kernel, rfl, by decide +kernel, by decide +kernel⟩
abbrev N_law_word : List Str := ["well"]
abbrev a_law_word : List Str := ["well"]
theorem sc_law_word : FnScope N_law_word a_law_word (defScope s_law_word) := ⟨rfl, rfl, rfl, by decide +kernel, rfl, by decide +kernel, by decide +kernel⟩
abbrev N_law_rule : List Str := ["well", "k"]
abbrev a_law_rule : List Str := ["well"]
theorem sc_law_rule : FnScope N_law_rule a_law_rule (defScope s_law_rule) := ⟨rfl, rfl, rfl, by decide +kernel, rfl, by decide +kernel, by decide +kernel⟩
abbrev N_law_thing : List Str := ["well"]
abbrev a_law_thing : List Str := ["well"]
theorem sc_law_thing : FnScope N_law_thing a_law_thing (defScope s_law_thing) := ⟨rfl, rfl, rfl, by decide +kernel, rfl, by decide +kernel, by decide +kernel⟩
abbrev N_law_args : List Str := ["well", "kind", "one", "words", "other"]
abbrev a_law_args : List Str := ["well", "kind"]
theorem sc_law_args : FnScope N_law_args a_law_args (defScope s_law_args) := ⟨rfl, rfl, rfl, by decide +kernel, rfl, by decide +kernel, by decide +kernel⟩
abbrev N_law_answer : List Str := ["kind", "args"]
abbrev a_law_answer : List Str := ["kind", "args"]
theorem sc_law_answer : FnScope N_law_answer a_law_answer (defScope s_law_answer) := ⟨rfl, rfl, rfl, by decide +kernel, rfl, by decide +kernel, by decide +kernel⟩
abbrev N_law_answer_more : List Str := ["kind", "args", "manner"]
abbrev a_law_answer_more : List Str := ["kind", "args"]
theorem sc_law_answer_more : FnScope N_law_answer_more a_law_answer_more (defScope s_law_answer_more) := ⟨rfl, rfl, rfl, by decide +kernel, rfl, by decide +kernel, by decide +kernel⟩
abbrev N_law_asked : List Str := ["kind", "args", "found", "told"]
abbrev a_law_asked : List Str := ["kind", "args"]
theorem sc_law_asked : FnScope N_law_asked a_law_asked (defScope s_law_asked) := ⟨rfl, rfl, rfl, by decide +kernel, rfl, by decide +kernel, by decide +kernel⟩
abbrev N_law_refusal : List Str := ["kind", "args", "good", "thing"]
abbrev a_law_refusal : List Str := ["kind", "args"]
theorem sc_law_refusal : FnScope N_law_refusal a_law_refusal (defScope s_law_refusal) := ⟨rfl, rfl, rfl, by decide +kernel, rfl, by decide +kernel, by decide +kernel⟩
abbrev N_law_grounds : List Str := []
abbrev a_law_grounds : List Str := []
theorem sc_law_grounds : FnScope N_law_grounds a_law_grounds (defScope s_law_grounds) := ⟨rfl, rfl, rfl, by decide +kernel, rfl, by decide +kernel, by decide +kernel⟩
abbrev N_law_sum_due : List Str := ["kind", "args"]
abbrev a_law_sum_due : List Str := ["kind", "args"]
theorem sc_law_sum_due : FnScope N_law_sum_due a_law_sum_due (defScope s_law_sum_due) := ⟨rfl, rfl, rfl, by decide +kernel, rfl, by decide +kernel, by decide +kernel⟩
abbrev N_law_due : List Str := ["kind", "args", "some", "g", "p", "a", "q", "b", "value", "one"]
abbrev a_law_due : List Str := ["kind", "args"]
theorem sc_law_due : FnScope N_law_due a_law_due (defScope s_law_due) := ⟨rfl, rfl, rfl, by decide +kernel, rfl, by decide +kernel, by decide +kernel⟩
abbrev N_law_right : List Str := ["kind", "args", "found", "word", "due"]
abbrev a_law_right : List Str := ["kind", "args"]
theorem sc_law_right : FnScope N_law_right a_law_right (defScope s_law_right) := ⟨rfl, rfl, rfl, by decide +kernel, rfl, by decide +kernel, by decide +kernel⟩
abbrev N_law : List Str := ["script", "kinds", "asked", "cell", "well", "kind", "other", "some", "k", "args"]
abbrev a_law : List Str := ["script"]
theorem sc_law : FnScope N_law a_law (defScope s_law) := ⟨rfl, rfl, rfl, by decide +kernel, rfl, by decide +kernel, by decide +kernel⟩
abbrev c_HallError (K : Frg) : Addr := He.ga K "HallError"
abbrev c_NoFraction (K : Frg) : Addr := He.ga K "NoFraction"
abbrev c_NoShade (K : Frg) : Addr := He.ga K "NoShade"
abbrev c_NoManner (K : Frg) : Addr := He.ga K "NoManner"
abbrev c_NoGain (K : Frg) : Addr := He.ga K "NoGain"
abbrev c_Manner (K : Frg) : Addr := He.ga K "Manner"
abbrev c_Over (K : Frg) : Addr := He.ga K "Over"
abbrev c_Under (K : Frg) : Addr := He.ga K "Under"
abbrev c_Screen (K : Frg) : Addr := He.ga K "Screen"
abbrev c_Times (K : Frg) : Addr := He.ga K "Times"
abbrev c_Atop (K : Frg) : Addr := He.ga K "Atop"
abbrev f_divisor (K : Frg) : Addr := He.fAd K d_divisor.at_
abbrev f_made (K : Frg) : Addr := He.fAd K d_made.at_
abbrev f_plus (K : Frg) : Addr := He.fAd K d_plus.at_
abbrev f_minus (K : Frg) : Addr := He.fAd K d_minus.at_
abbrev f_times (K : Frg) : Addr := He.fAd K d_times.at_
abbrev f_less (K : Frg) : Addr := He.fAd K d_less.at_
abbrev f_is_sixteenth (K : Frg) : Addr := He.fAd K d_is_sixteenth.at_
abbrev f_shade (K : Frg) : Addr := He.fAd K d_shade.at_
abbrev f_is_shade (K : Frg) : Addr := He.fAd K d_is_shade.at_
abbrev f_grounds (K : Frg) : Addr := He.fAd K d_grounds.at_
abbrev f_laid (K : Frg) : Addr := He.fAd K d_laid.at_
abbrev f_behind (K : Frg) : Addr := He.fAd K d_behind.at_
abbrev f_mixed (K : Frg) : Addr := He.fAd K d_mixed.at_
abbrev f_parted (K : Frg) : Addr := He.fAd K d_parted.at_
abbrev f_stays (K : Frg) : Addr := He.fAd K d_stays.at_
abbrev f_shade_or_none (K : Frg) : Addr := He.fAd K d_shade_or_none.at_
abbrev f_Manner_found (K : Frg) : Addr := He.fAd K d_Manner_found.at_
abbrev f_Over_word (K : Frg) : Addr := He.fAd K d_Over_word.at_
abbrev f_Over_rule (K : Frg) : Addr := He.fAd K d_Over_rule.at_
abbrev f_Under_word (K : Frg) : Addr := He.fAd K d_Under_word.at_
abbrev f_Under_rule (K : Frg) : Addr := He.fAd K d_Under_rule.at_
abbrev f_Screen_word (K : Frg) : Addr := He.fAd K d_Screen_word.at_
abbrev f_Screen_rule (K : Frg) : Addr := He.fAd K d_Screen_rule.at_
abbrev f_Times_word (K : Frg) : Addr := He.fAd K d_Times_word.at_
abbrev f_Times_rule (K : Frg) : Addr := He.fAd K d_Times_rule.at_
abbrev f_Atop_word (K : Frg) : Addr := He.fAd K d_Atop_word.at_
abbrev f_Atop_rule (K : Frg) : Addr := He.fAd K d_Atop_rule.at_
abbrev f_Atop_found (K : Frg) : Addr := He.fAd K d_Atop_found.at_
abbrev f_manner_of (K : Frg) : Addr := He.fAd K d_manner_of.at_
abbrev f_weakened (K : Frg) : Addr := He.fAd K d_weakened.at_
abbrev f_adjusted (K : Frg) : Addr := He.fAd K d_adjusted.at_
abbrev f_law_well (K : Frg) : Addr := He.fAd K d_law_well.at_
abbrev f_law_draw (K : Frg) : Addr := He.fAd K d_law_draw.at_
abbrev f_law_made (K : Frg) : Addr := He.fAd K d_law_made.at_
abbrev f_law_plus (K : Frg) : Addr := He.fAd K d_law_plus.at_
abbrev f_law_less (K : Frg) : Addr := He.fAd K d_law_less.at_
abbrev f_law_times (K : Frg) : Addr := He.fAd K d_law_times.at_
abbrev f_law_is_shade (K : Frg) : Addr := He.fAd K d_law_is_shade.at_
abbrev f_law_laid (K : Frg) : Addr := He.fAd K d_law_laid.at_
abbrev f_law_behind (K : Frg) : Addr := He.fAd K d_law_behind.at_
abbrev f_law_mixed (K : Frg) : Addr := He.fAd K d_law_mixed.at_
abbrev f_law_manner (K : Frg) : Addr := He.fAd K d_law_manner.at_
abbrev f_law_fraction (K : Frg) : Addr := He.fAd K d_law_fraction.at_
abbrev f_law_source (K : Frg) : Addr := He.fAd K d_law_source.at_
abbrev f_law_word (K : Frg) : Addr := He.fAd K d_law_word.at_
abbrev f_law_rule (K : Frg) : Addr := He.fAd K d_law_rule.at_
abbrev f_law_thing (K : Frg) : Addr := He.fAd K d_law_thing.at_
abbrev f_law_args (K : Frg) : Addr := He.fAd K d_law_args.at_
abbrev f_law_answer (K : Frg) : Addr := He.fAd K d_law_answer.at_
abbrev f_law_answer_more (K : Frg) : Addr := He.fAd K d_law_answer_more.at_
abbrev f_law_asked (K : Frg) : Addr := He.fAd K d_law_asked.at_
abbrev f_law_refusal (K : Frg) : Addr := He.fAd K d_law_refusal.at_
abbrev f_law_grounds (K : Frg) : Addr := He.fAd K d_law_grounds.at_
abbrev f_law_sum_due (K : Frg) : Addr := He.fAd K d_law_sum_due.at_
abbrev f_law_due (K : Frg) : Addr := He.fAd K d_law_due.at_
abbrev f_law_right (K : Frg) : Addr := He.fAd K d_law_right.at_
abbrev f_law (K : Frg) : Addr := He.fAd K d_law.at_
def v_ZERO : A := .tup [.int 0, .int 1]
def v_ONE : A := .tup [.int 1, .int 1]
def fb0 : List (Frg → Bool) := [(fun K => excCB K (c_NoManner K)),
  (fun K => excCB K (c_NoFraction K)),
  (fun K => excCB K (c_NoShade K)),
  (fun K => excCB K (c_NoGain K)),
  (fun K => (He.Fa.cls "Over").ok K),
  (fun K => methFB K (c_Over K) "found" (f_Manner_found K)),
  (fun K => (He.Fa.meth "Over" "word").ok K),
  (fun K => (He.Fa.meth "Over" "rule").ok K),
  (fun K => mkPB K "Over"),
  (fun K => (He.Fa.cls "Under").ok K),
  (fun K => methFB K (c_Under K) "found" (f_Manner_found K)),
  (fun K => (He.Fa.meth "Under" "word").ok K),
  (fun K => (He.Fa.meth "Under" "rule").ok K),
  (fun K => mkPB K "Under"),
  (fun K => (He.Fa.cls "Screen").ok K),
  (fun K => methFB K (c_Screen K) "found" (f_Manner_found K)),
  (fun K => (He.Fa.meth "Screen" "word").ok K),
  (fun K => (He.Fa.meth "Screen" "rule").ok K),
  (fun K => mkPB K "Screen"),
  (fun K => (He.Fa.cls "Times").ok K),
  (fun K => methFB K (c_Times K) "found" (f_Manner_found K)),
  (fun K => (He.Fa.meth "Times" "word").ok K),
  (fun K => (He.Fa.meth "Times" "rule").ok K),
  (fun K => mkPB K "Times"),
  (fun K => (He.Fa.cls "Atop").ok K),
  (fun K => (He.Fa.meth "Atop" "found").ok K),
  (fun K => (He.Fa.meth "Atop" "word").ok K),
  (fun K => (He.Fa.meth "Atop" "rule").ok K),
  (fun K => mkPB K "Atop"),
  (fun K => exmB K (.ref (c_NoManner K)) (.ref (c_NoFraction K)) false),
  (fun K => exmB K (.ref (c_NoManner K)) (.ref (c_NoShade K)) false),
  (fun K => exmB K (.ref (c_NoManner K)) (.ref (c_NoManner K)) true),
  (fun K => exmB K (.ref (c_NoManner K)) (.ref (c_NoGain K)) false),
  (fun K => exmB K (.ref (c_NoFraction K)) (.ref (c_NoFraction K)) true),
  (fun K => exmB K (.ref (c_NoFraction K)) (.ref (c_NoShade K)) false),
  (fun K => exmB K (.ref (c_NoFraction K)) (.ref (c_NoManner K)) false),
  (fun K => exmB K (.ref (c_NoFraction K)) (.ref (c_NoGain K)) false),
  (fun K => exmB K (.ref (c_NoShade K)) (.ref (c_NoFraction K)) false),
  (fun K => exmB K (.ref (c_NoShade K)) (.ref (c_NoShade K)) true),
  (fun K => exmB K (.ref (c_NoShade K)) (.ref (c_NoManner K)) false)]
def fb1 : List (Frg → Bool) := [(fun K => exmB K (.ref (c_NoShade K)) (.ref (c_NoGain K)) false),
  (fun K => exmB K (.ref (c_NoGain K)) (.ref (c_NoFraction K)) false),
  (fun K => exmB K (.ref (c_NoGain K)) (.ref (c_NoShade K)) false),
  (fun K => exmB K (.ref (c_NoGain K)) (.ref (c_NoManner K)) false),
  (fun K => exmB K (.ref (c_NoGain K)) (.ref (c_NoGain K)) true),
  (fun K => (He.Fa.glo "divisor").ok K),
  (fun K => (He.Fa.glo "made").ok K),
  (fun K => (He.Fa.glo "plus").ok K),
  (fun K => (He.Fa.glo "minus").ok K),
  (fun K => (He.Fa.glo "times").ok K),
  (fun K => (He.Fa.glo "less").ok K),
  (fun K => (He.Fa.glo "is_sixteenth").ok K),
  (fun K => (He.Fa.glo "shade").ok K),
  (fun K => (He.Fa.glo "is_shade").ok K),
  (fun K => (He.Fa.glo "grounds").ok K),
  (fun K => (He.Fa.glo "laid").ok K),
  (fun K => (He.Fa.glo "behind").ok K),
  (fun K => (He.Fa.glo "mixed").ok K),
  (fun K => (He.Fa.glo "parted").ok K),
  (fun K => (He.Fa.glo "stays").ok K),
  (fun K => (He.Fa.glo "shade_or_none").ok K),
  (fun K => (He.Fa.glo "manner_of").ok K),
  (fun K => (He.Fa.glo "weakened").ok K),
  (fun K => (He.Fa.glo "adjusted").ok K),
  (fun K => (He.Fa.glo "_law_well").ok K),
  (fun K => (He.Fa.glo "_law_draw").ok K),
  (fun K => (He.Fa.glo "_law_made").ok K),
  (fun K => (He.Fa.glo "_law_plus").ok K),
  (fun K => (He.Fa.glo "_law_less").ok K),
  (fun K => (He.Fa.glo "_law_times").ok K),
  (fun K => (He.Fa.glo "_law_is_shade").ok K),
  (fun K => (He.Fa.glo "_law_laid").ok K),
  (fun K => (He.Fa.glo "_law_behind").ok K),
  (fun K => (He.Fa.glo "_law_mixed").ok K),
  (fun K => (He.Fa.glo "_law_manner").ok K),
  (fun K => (He.Fa.glo "_law_fraction").ok K),
  (fun K => (He.Fa.glo "_law_source").ok K),
  (fun K => (He.Fa.glo "_law_word").ok K),
  (fun K => (He.Fa.glo "_law_rule").ok K),
  (fun K => (He.Fa.glo "_law_thing").ok K)]
def fb2 : List (Frg → Bool) := [(fun K => (He.Fa.glo "_law_args").ok K),
  (fun K => (He.Fa.glo "_law_answer").ok K),
  (fun K => (He.Fa.glo "_law_answer_more").ok K),
  (fun K => (He.Fa.glo "_law_asked").ok K),
  (fun K => (He.Fa.glo "_law_refusal").ok K),
  (fun K => (He.Fa.glo "_law_grounds").ok K),
  (fun K => (He.Fa.glo "_law_sum_due").ok K),
  (fun K => (He.Fa.glo "_law_due").ok K),
  (fun K => (He.Fa.glo "_law_right").ok K),
  (fun K => (He.Fa.glo "law").ok K),
  (fun K => (He.Fa.glo "NoFraction").ok K),
  (fun K => (He.Fa.glo "NoShade").ok K),
  (fun K => (He.Fa.glo "NoManner").ok K),
  (fun K => (He.Fa.glo "NoGain").ok K),
  (fun K => (He.Fa.glo "Over").ok K),
  (fun K => (He.Fa.glo "Under").ok K),
  (fun K => (He.Fa.glo "Screen").ok K),
  (fun K => (He.Fa.glo "Times").ok K),
  (fun K => (He.Fa.glo "Atop").ok K),
  (fun K => (He.Fa.free "abs").ok K),
  (fun K => (He.Fa.free "all").ok K),
  (fun K => (He.Fa.free "bool").ok K),
  (fun K => (He.Fa.free "int").ok K),
  (fun K => (He.Fa.free "isinstance").ok K),
  (fun K => (He.Fa.free "list").ok K),
  (fun K => (He.Fa.free "range").ok K),
  (fun K => (He.Fa.free "tuple").ok K),
  (fun K => (He.Fa.int "FULL" 16).ok K),
  (fun K => constB K "ZERO" v_ZERO),
  (fun K => constB K "ONE" v_ONE),
  (fun K => exKB K "NoManner"),
  (fun K => exKB K "NoFraction"),
  (fun K => exKB K "NoShade"),
  (fun K => exKB K "NoGain")]
def fb : List (Frg → Bool) := fb0 ++ fb1 ++ fb2
def fn0 : List He.DefD := [d_divisor, d_made, d_plus, d_minus, d_times, d_less, d_is_sixteenth, d_shade, d_is_shade, d_grounds, d_laid, d_behind, d_mixed, d_parted, d_stays, d_shade_or_none, d_Manner_found, d_Over_word, d_Over_rule, d_Under_word]
def fn1 : List He.DefD := [d_Under_rule, d_Screen_word, d_Screen_rule, d_Times_word, d_Times_rule, d_Atop_word, d_Atop_rule, d_Atop_found, d_manner_of, d_weakened, d_adjusted, d_law_well, d_law_draw, d_law_made, d_law_plus, d_law_less, d_law_times, d_law_is_shade, d_law_laid, d_law_behind]
def fn2 : List He.DefD := [d_law_mixed, d_law_manner, d_law_fraction, d_law_source, d_law_word, d_law_rule, d_law_thing, d_law_args, d_law_answer, d_law_answer_more, d_law_asked, d_law_refusal, d_law_grounds, d_law_sum_due, d_law_due, d_law_right, d_law]
def fn : List He.DefD := fn0 ++ fn1 ++ fn2
structure TK (K : Frg) : Prop where
  e_NoManner : ExcC K (c_NoManner K)
  e_NoFraction : ExcC K (c_NoFraction K)
  e_NoShade : ExcC K (c_NoShade K)
  e_NoGain : ExcC K (c_NoGain K)
  cl_Over : Cls K (c_Over K)
  m_Over_found : Meth K (c_Over K) "found" (f_Manner_found K)
  m_Over_word : Meth K (c_Over K) "word" (f_Over_word K)
  m_Over_rule : Meth K (c_Over K) "rule" (f_Over_rule K)
  kp_Over : MkP K (c_Over K)
  cl_Under : Cls K (c_Under K)
  m_Under_found : Meth K (c_Under K) "found" (f_Manner_found K)
  m_Under_word : Meth K (c_Under K) "word" (f_Under_word K)
  m_Under_rule : Meth K (c_Under K) "rule" (f_Under_rule K)
  kp_Under : MkP K (c_Under K)
  cl_Screen : Cls K (c_Screen K)
  m_Screen_found : Meth K (c_Screen K) "found" (f_Manner_found K)
  m_Screen_word : Meth K (c_Screen K) "word" (f_Screen_word K)
  m_Screen_rule : Meth K (c_Screen K) "rule" (f_Screen_rule K)
  kp_Screen : MkP K (c_Screen K)
  cl_Times : Cls K (c_Times K)
  m_Times_found : Meth K (c_Times K) "found" (f_Manner_found K)
  m_Times_word : Meth K (c_Times K) "word" (f_Times_word K)
  m_Times_rule : Meth K (c_Times K) "rule" (f_Times_rule K)
  kp_Times : MkP K (c_Times K)
  cl_Atop : Cls K (c_Atop K)
  m_Atop_found : Meth K (c_Atop K) "found" (f_Atop_found K)
  m_Atop_word : Meth K (c_Atop K) "word" (f_Atop_word K)
  m_Atop_rule : Meth K (c_Atop K) "rule" (f_Atop_rule K)
  kp_Atop : MkP K (c_Atop K)
  em_NoManner_NoFraction : PySem.W.exmOne K (.ref (c_NoManner K)) (.ref (c_NoFraction K)) = some false
  em_NoManner_NoShade : PySem.W.exmOne K (.ref (c_NoManner K)) (.ref (c_NoShade K)) = some false
  em_NoManner_NoManner : PySem.W.exmOne K (.ref (c_NoManner K)) (.ref (c_NoManner K)) = some true
  em_NoManner_NoGain : PySem.W.exmOne K (.ref (c_NoManner K)) (.ref (c_NoGain K)) = some false
  em_NoFraction_NoFraction : PySem.W.exmOne K (.ref (c_NoFraction K)) (.ref (c_NoFraction K)) = some true
  em_NoFraction_NoShade : PySem.W.exmOne K (.ref (c_NoFraction K)) (.ref (c_NoShade K)) = some false
  em_NoFraction_NoManner : PySem.W.exmOne K (.ref (c_NoFraction K)) (.ref (c_NoManner K)) = some false
  em_NoFraction_NoGain : PySem.W.exmOne K (.ref (c_NoFraction K)) (.ref (c_NoGain K)) = some false
  em_NoShade_NoFraction : PySem.W.exmOne K (.ref (c_NoShade K)) (.ref (c_NoFraction K)) = some false
  em_NoShade_NoShade : PySem.W.exmOne K (.ref (c_NoShade K)) (.ref (c_NoShade K)) = some true
  em_NoShade_NoManner : PySem.W.exmOne K (.ref (c_NoShade K)) (.ref (c_NoManner K)) = some false
  em_NoShade_NoGain : PySem.W.exmOne K (.ref (c_NoShade K)) (.ref (c_NoGain K)) = some false
  em_NoGain_NoFraction : PySem.W.exmOne K (.ref (c_NoGain K)) (.ref (c_NoFraction K)) = some false
  em_NoGain_NoShade : PySem.W.exmOne K (.ref (c_NoGain K)) (.ref (c_NoShade K)) = some false
  em_NoGain_NoManner : PySem.W.exmOne K (.ref (c_NoGain K)) (.ref (c_NoManner K)) = some false
  em_NoGain_NoGain : PySem.W.exmOne K (.ref (c_NoGain K)) (.ref (c_NoGain K)) = some true
structure Txt (K : Frg) (mg : Str → Option Value) : Prop extends TK K where
  g_divisor : mg "divisor" = some (.ref (f_divisor K))
  g_made : mg "made" = some (.ref (f_made K))
  g_plus : mg "plus" = some (.ref (f_plus K))
  g_minus : mg "minus" = some (.ref (f_minus K))
  g_times : mg "times" = some (.ref (f_times K))
  g_less : mg "less" = some (.ref (f_less K))
  g_is_sixteenth : mg "is_sixteenth" = some (.ref (f_is_sixteenth K))
  g_shade : mg "shade" = some (.ref (f_shade K))
  g_is_shade : mg "is_shade" = some (.ref (f_is_shade K))
  g_grounds : mg "grounds" = some (.ref (f_grounds K))
  g_laid : mg "laid" = some (.ref (f_laid K))
  g_behind : mg "behind" = some (.ref (f_behind K))
  g_mixed : mg "mixed" = some (.ref (f_mixed K))
  g_parted : mg "parted" = some (.ref (f_parted K))
  g_stays : mg "stays" = some (.ref (f_stays K))
  g_shade_or_none : mg "shade_or_none" = some (.ref (f_shade_or_none K))
  g_manner_of : mg "manner_of" = some (.ref (f_manner_of K))
  g_weakened : mg "weakened" = some (.ref (f_weakened K))
  g_adjusted : mg "adjusted" = some (.ref (f_adjusted K))
  g__law_well : mg "_law_well" = some (.ref (f_law_well K))
  g__law_draw : mg "_law_draw" = some (.ref (f_law_draw K))
  g__law_made : mg "_law_made" = some (.ref (f_law_made K))
  g__law_plus : mg "_law_plus" = some (.ref (f_law_plus K))
  g__law_less : mg "_law_less" = some (.ref (f_law_less K))
  g__law_times : mg "_law_times" = some (.ref (f_law_times K))
  g__law_is_shade : mg "_law_is_shade" = some (.ref (f_law_is_shade K))
  g__law_laid : mg "_law_laid" = some (.ref (f_law_laid K))
  g__law_behind : mg "_law_behind" = some (.ref (f_law_behind K))
  g__law_mixed : mg "_law_mixed" = some (.ref (f_law_mixed K))
  g__law_manner : mg "_law_manner" = some (.ref (f_law_manner K))
  g__law_fraction : mg "_law_fraction" = some (.ref (f_law_fraction K))
  g__law_source : mg "_law_source" = some (.ref (f_law_source K))
  g__law_word : mg "_law_word" = some (.ref (f_law_word K))
  g__law_rule : mg "_law_rule" = some (.ref (f_law_rule K))
  g__law_thing : mg "_law_thing" = some (.ref (f_law_thing K))
  g__law_args : mg "_law_args" = some (.ref (f_law_args K))
  g__law_answer : mg "_law_answer" = some (.ref (f_law_answer K))
  g__law_answer_more : mg "_law_answer_more" = some (.ref (f_law_answer_more K))
  g__law_asked : mg "_law_asked" = some (.ref (f_law_asked K))
  g__law_refusal : mg "_law_refusal" = some (.ref (f_law_refusal K))
  g__law_grounds : mg "_law_grounds" = some (.ref (f_law_grounds K))
  g__law_sum_due : mg "_law_sum_due" = some (.ref (f_law_sum_due K))
  g__law_due : mg "_law_due" = some (.ref (f_law_due K))
  g__law_right : mg "_law_right" = some (.ref (f_law_right K))
  g_law : mg "law" = some (.ref (f_law K))
  g_NoFraction : mg "NoFraction" = some (.ref (c_NoFraction K))
  g_NoShade : mg "NoShade" = some (.ref (c_NoShade K))
  g_NoManner : mg "NoManner" = some (.ref (c_NoManner K))
  g_NoGain : mg "NoGain" = some (.ref (c_NoGain K))
  g_Over : mg "Over" = some (.ref (c_Over K))
  g_Under : mg "Under" = some (.ref (c_Under K))
  g_Screen : mg "Screen" = some (.ref (c_Screen K))
  g_Times : mg "Times" = some (.ref (c_Times K))
  g_Atop : mg "Atop" = some (.ref (c_Atop K))
  n_abs : mg "abs" = none
  n_all : mg "all" = none
  n_bool : mg "bool" = none
  n_int : mg "int" = none
  n_isinstance : mg "isinstance" = none
  n_list : mg "list" = none
  n_range : mg "range" = none
  n_tuple : mg "tuple" = none
  c_FULL : ∃ t, mg "FULL" = some (.int 16 t)
  v_ZERO : ∃ u v, mg "ZERO" = some u ∧ RelV v u ∧ ∀ H, RelA K H v_ZERO v
  v_ONE : ∃ u v, mg "ONE" = some u ∧ RelV v u ∧ ∀ H, RelA K H v_ONE v
  x_NoManner : ExcK K mg "NoManner" (c_NoManner K)
  x_NoFraction : ExcK K mg "NoFraction" (c_NoFraction K)
  x_NoShade : ExcK K mg "NoShade" (c_NoShade K)
  x_NoGain : ExcK K mg "NoGain" (c_NoGain K)
theorem fact {K : Frg} (c : SaysG fb fn K) (i : Nat) {f : Frg → Bool} (h : fb[i]? = some f := by rfl) : f K = true := c.fact i h
theorem tk {K : Frg} (c : SaysG fb fn K) : TK K := {
  e_NoManner := excCB_ok (fact c 0 (f := (fun K => excCB K (c_NoManner K))))
  e_NoFraction := excCB_ok (fact c 1 (f := (fun K => excCB K (c_NoFraction K))))
  e_NoShade := excCB_ok (fact c 2 (f := (fun K => excCB K (c_NoShade K))))
  e_NoGain := excCB_ok (fact c 3 (f := (fun K => excCB K (c_NoGain K))))
  cl_Over := He.cls_ok (fact c 4 (f := (fun K => (He.Fa.cls "Over").ok K)))
  m_Over_found := methF_ok (fact c 5 (f := (fun K => methFB K (c_Over K) "found" (f_Manner_found K))))
  m_Over_word := He.meth_ok (fact c 6 (f := (fun K => (He.Fa.meth "Over" "word").ok K)))
  m_Over_rule := He.meth_ok (fact c 7 (f := (fun K => (He.Fa.meth "Over" "rule").ok K)))
  kp_Over := mkP_ok (fact c 8 (f := (fun K => mkPB K "Over")))
  cl_Under := He.cls_ok (fact c 9 (f := (fun K => (He.Fa.cls "Under").ok K)))
  m_Under_found := methF_ok (fact c 10 (f := (fun K => methFB K (c_Under K) "found" (f_Manner_found K))))
  m_Under_word := He.meth_ok (fact c 11 (f := (fun K => (He.Fa.meth "Under" "word").ok K)))
  m_Under_rule := He.meth_ok (fact c 12 (f := (fun K => (He.Fa.meth "Under" "rule").ok K)))
  kp_Under := mkP_ok (fact c 13 (f := (fun K => mkPB K "Under")))
  cl_Screen := He.cls_ok (fact c 14 (f := (fun K => (He.Fa.cls "Screen").ok K)))
  m_Screen_found := methF_ok (fact c 15 (f := (fun K => methFB K (c_Screen K) "found" (f_Manner_found K))))
  m_Screen_word := He.meth_ok (fact c 16 (f := (fun K => (He.Fa.meth "Screen" "word").ok K)))
  m_Screen_rule := He.meth_ok (fact c 17 (f := (fun K => (He.Fa.meth "Screen" "rule").ok K)))
  kp_Screen := mkP_ok (fact c 18 (f := (fun K => mkPB K "Screen")))
  cl_Times := He.cls_ok (fact c 19 (f := (fun K => (He.Fa.cls "Times").ok K)))
  m_Times_found := methF_ok (fact c 20 (f := (fun K => methFB K (c_Times K) "found" (f_Manner_found K))))
  m_Times_word := He.meth_ok (fact c 21 (f := (fun K => (He.Fa.meth "Times" "word").ok K)))
  m_Times_rule := He.meth_ok (fact c 22 (f := (fun K => (He.Fa.meth "Times" "rule").ok K)))
  kp_Times := mkP_ok (fact c 23 (f := (fun K => mkPB K "Times")))
  cl_Atop := He.cls_ok (fact c 24 (f := (fun K => (He.Fa.cls "Atop").ok K)))
  m_Atop_found := He.meth_ok (fact c 25 (f := (fun K => (He.Fa.meth "Atop" "found").ok K)))
  m_Atop_word := He.meth_ok (fact c 26 (f := (fun K => (He.Fa.meth "Atop" "word").ok K)))
  m_Atop_rule := He.meth_ok (fact c 27 (f := (fun K => (He.Fa.meth "Atop" "rule").ok K)))
  kp_Atop := mkP_ok (fact c 28 (f := (fun K => mkPB K "Atop")))
  em_NoManner_NoFraction := exmB_ok (fact c 29 (f := (fun K => exmB K (.ref (c_NoManner K)) (.ref (c_NoFraction K)) false)))
  em_NoManner_NoShade := exmB_ok (fact c 30 (f := (fun K => exmB K (.ref (c_NoManner K)) (.ref (c_NoShade K)) false)))
  em_NoManner_NoManner := exmB_ok (fact c 31 (f := (fun K => exmB K (.ref (c_NoManner K)) (.ref (c_NoManner K)) true)))
  em_NoManner_NoGain := exmB_ok (fact c 32 (f := (fun K => exmB K (.ref (c_NoManner K)) (.ref (c_NoGain K)) false)))
  em_NoFraction_NoFraction := exmB_ok (fact c 33 (f := (fun K => exmB K (.ref (c_NoFraction K)) (.ref (c_NoFraction K)) true)))
  em_NoFraction_NoShade := exmB_ok (fact c 34 (f := (fun K => exmB K (.ref (c_NoFraction K)) (.ref (c_NoShade K)) false)))
  em_NoFraction_NoManner := exmB_ok (fact c 35 (f := (fun K => exmB K (.ref (c_NoFraction K)) (.ref (c_NoManner K)) false)))
  em_NoFraction_NoGain := exmB_ok (fact c 36 (f := (fun K => exmB K (.ref (c_NoFraction K)) (.ref (c_NoGain K)) false)))
  em_NoShade_NoFraction := exmB_ok (fact c 37 (f := (fun K => exmB K (.ref (c_NoShade K)) (.ref (c_NoFraction K)) false)))
  em_NoShade_NoShade := exmB_ok (fact c 38 (f := (fun K => exmB K (.ref (c_NoShade K)) (.ref (c_NoShade K)) true)))
  em_NoShade_NoManner := exmB_ok (fact c 39 (f := (fun K => exmB K (.ref (c_NoShade K)) (.ref (c_NoManner K)) false)))
  em_NoShade_NoGain := exmB_ok (fact c 40 (f := (fun K => exmB K (.ref (c_NoShade K)) (.ref (c_NoGain K)) false)))
  em_NoGain_NoFraction := exmB_ok (fact c 41 (f := (fun K => exmB K (.ref (c_NoGain K)) (.ref (c_NoFraction K)) false)))
  em_NoGain_NoShade := exmB_ok (fact c 42 (f := (fun K => exmB K (.ref (c_NoGain K)) (.ref (c_NoShade K)) false)))
  em_NoGain_NoManner := exmB_ok (fact c 43 (f := (fun K => exmB K (.ref (c_NoGain K)) (.ref (c_NoManner K)) false)))
  em_NoGain_NoGain := exmB_ok (fact c 44 (f := (fun K => exmB K (.ref (c_NoGain K)) (.ref (c_NoGain K)) true)))
  }
theorem txt {K : Frg} {h : Heap} {mg : Str → Option Value} (X : K.In h) (Gm : h.Ns mainGlobals mg) (c : SaysG fb fn K) : Txt K mg := { tk c with
  g_divisor := He.glo_ok X Gm (fact c 45 (f := (fun K => (He.Fa.glo "divisor").ok K)))
  g_made := He.glo_ok X Gm (fact c 46 (f := (fun K => (He.Fa.glo "made").ok K)))
  g_plus := He.glo_ok X Gm (fact c 47 (f := (fun K => (He.Fa.glo "plus").ok K)))
  g_minus := He.glo_ok X Gm (fact c 48 (f := (fun K => (He.Fa.glo "minus").ok K)))
  g_times := He.glo_ok X Gm (fact c 49 (f := (fun K => (He.Fa.glo "times").ok K)))
  g_less := He.glo_ok X Gm (fact c 50 (f := (fun K => (He.Fa.glo "less").ok K)))
  g_is_sixteenth := He.glo_ok X Gm (fact c 51 (f := (fun K => (He.Fa.glo "is_sixteenth").ok K)))
  g_shade := He.glo_ok X Gm (fact c 52 (f := (fun K => (He.Fa.glo "shade").ok K)))
  g_is_shade := He.glo_ok X Gm (fact c 53 (f := (fun K => (He.Fa.glo "is_shade").ok K)))
  g_grounds := He.glo_ok X Gm (fact c 54 (f := (fun K => (He.Fa.glo "grounds").ok K)))
  g_laid := He.glo_ok X Gm (fact c 55 (f := (fun K => (He.Fa.glo "laid").ok K)))
  g_behind := He.glo_ok X Gm (fact c 56 (f := (fun K => (He.Fa.glo "behind").ok K)))
  g_mixed := He.glo_ok X Gm (fact c 57 (f := (fun K => (He.Fa.glo "mixed").ok K)))
  g_parted := He.glo_ok X Gm (fact c 58 (f := (fun K => (He.Fa.glo "parted").ok K)))
  g_stays := He.glo_ok X Gm (fact c 59 (f := (fun K => (He.Fa.glo "stays").ok K)))
  g_shade_or_none := He.glo_ok X Gm (fact c 60 (f := (fun K => (He.Fa.glo "shade_or_none").ok K)))
  g_manner_of := He.glo_ok X Gm (fact c 61 (f := (fun K => (He.Fa.glo "manner_of").ok K)))
  g_weakened := He.glo_ok X Gm (fact c 62 (f := (fun K => (He.Fa.glo "weakened").ok K)))
  g_adjusted := He.glo_ok X Gm (fact c 63 (f := (fun K => (He.Fa.glo "adjusted").ok K)))
  g__law_well := He.glo_ok X Gm (fact c 64 (f := (fun K => (He.Fa.glo "_law_well").ok K)))
  g__law_draw := He.glo_ok X Gm (fact c 65 (f := (fun K => (He.Fa.glo "_law_draw").ok K)))
  g__law_made := He.glo_ok X Gm (fact c 66 (f := (fun K => (He.Fa.glo "_law_made").ok K)))
  g__law_plus := He.glo_ok X Gm (fact c 67 (f := (fun K => (He.Fa.glo "_law_plus").ok K)))
  g__law_less := He.glo_ok X Gm (fact c 68 (f := (fun K => (He.Fa.glo "_law_less").ok K)))
  g__law_times := He.glo_ok X Gm (fact c 69 (f := (fun K => (He.Fa.glo "_law_times").ok K)))
  g__law_is_shade := He.glo_ok X Gm (fact c 70 (f := (fun K => (He.Fa.glo "_law_is_shade").ok K)))
  g__law_laid := He.glo_ok X Gm (fact c 71 (f := (fun K => (He.Fa.glo "_law_laid").ok K)))
  g__law_behind := He.glo_ok X Gm (fact c 72 (f := (fun K => (He.Fa.glo "_law_behind").ok K)))
  g__law_mixed := He.glo_ok X Gm (fact c 73 (f := (fun K => (He.Fa.glo "_law_mixed").ok K)))
  g__law_manner := He.glo_ok X Gm (fact c 74 (f := (fun K => (He.Fa.glo "_law_manner").ok K)))
  g__law_fraction := He.glo_ok X Gm (fact c 75 (f := (fun K => (He.Fa.glo "_law_fraction").ok K)))
  g__law_source := He.glo_ok X Gm (fact c 76 (f := (fun K => (He.Fa.glo "_law_source").ok K)))
  g__law_word := He.glo_ok X Gm (fact c 77 (f := (fun K => (He.Fa.glo "_law_word").ok K)))
  g__law_rule := He.glo_ok X Gm (fact c 78 (f := (fun K => (He.Fa.glo "_law_rule").ok K)))
  g__law_thing := He.glo_ok X Gm (fact c 79 (f := (fun K => (He.Fa.glo "_law_thing").ok K)))
  g__law_args := He.glo_ok X Gm (fact c 80 (f := (fun K => (He.Fa.glo "_law_args").ok K)))
  g__law_answer := He.glo_ok X Gm (fact c 81 (f := (fun K => (He.Fa.glo "_law_answer").ok K)))
  g__law_answer_more := He.glo_ok X Gm (fact c 82 (f := (fun K => (He.Fa.glo "_law_answer_more").ok K)))
  g__law_asked := He.glo_ok X Gm (fact c 83 (f := (fun K => (He.Fa.glo "_law_asked").ok K)))
  g__law_refusal := He.glo_ok X Gm (fact c 84 (f := (fun K => (He.Fa.glo "_law_refusal").ok K)))
  g__law_grounds := He.glo_ok X Gm (fact c 85 (f := (fun K => (He.Fa.glo "_law_grounds").ok K)))
  g__law_sum_due := He.glo_ok X Gm (fact c 86 (f := (fun K => (He.Fa.glo "_law_sum_due").ok K)))
  g__law_due := He.glo_ok X Gm (fact c 87 (f := (fun K => (He.Fa.glo "_law_due").ok K)))
  g__law_right := He.glo_ok X Gm (fact c 88 (f := (fun K => (He.Fa.glo "_law_right").ok K)))
  g_law := He.glo_ok X Gm (fact c 89 (f := (fun K => (He.Fa.glo "law").ok K)))
  g_NoFraction := He.glo_ok X Gm (fact c 90 (f := (fun K => (He.Fa.glo "NoFraction").ok K)))
  g_NoShade := He.glo_ok X Gm (fact c 91 (f := (fun K => (He.Fa.glo "NoShade").ok K)))
  g_NoManner := He.glo_ok X Gm (fact c 92 (f := (fun K => (He.Fa.glo "NoManner").ok K)))
  g_NoGain := He.glo_ok X Gm (fact c 93 (f := (fun K => (He.Fa.glo "NoGain").ok K)))
  g_Over := He.glo_ok X Gm (fact c 94 (f := (fun K => (He.Fa.glo "Over").ok K)))
  g_Under := He.glo_ok X Gm (fact c 95 (f := (fun K => (He.Fa.glo "Under").ok K)))
  g_Screen := He.glo_ok X Gm (fact c 96 (f := (fun K => (He.Fa.glo "Screen").ok K)))
  g_Times := He.glo_ok X Gm (fact c 97 (f := (fun K => (He.Fa.glo "Times").ok K)))
  g_Atop := He.glo_ok X Gm (fact c 98 (f := (fun K => (He.Fa.glo "Atop").ok K)))
  n_abs := He.free_ok X Gm (fact c 99 (f := (fun K => (He.Fa.free "abs").ok K)))
  n_all := He.free_ok X Gm (fact c 100 (f := (fun K => (He.Fa.free "all").ok K)))
  n_bool := He.free_ok X Gm (fact c 101 (f := (fun K => (He.Fa.free "bool").ok K)))
  n_int := He.free_ok X Gm (fact c 102 (f := (fun K => (He.Fa.free "int").ok K)))
  n_isinstance := He.free_ok X Gm (fact c 103 (f := (fun K => (He.Fa.free "isinstance").ok K)))
  n_list := He.free_ok X Gm (fact c 104 (f := (fun K => (He.Fa.free "list").ok K)))
  n_range := He.free_ok X Gm (fact c 105 (f := (fun K => (He.Fa.free "range").ok K)))
  n_tuple := He.free_ok X Gm (fact c 106 (f := (fun K => (He.Fa.free "tuple").ok K)))
  c_FULL := He.int_ok X Gm (fact c 107 (f := (fun K => (He.Fa.int "FULL" 16).ok K)))
  v_ZERO := constB_ok X Gm (fact c 108 (f := (fun K => constB K "ZERO" v_ZERO)))
  v_ONE := constB_ok X Gm (fact c 109 (f := (fun K => constB K "ONE" v_ONE)))
  x_NoManner := exK_ok X Gm (fact c 110 (f := (fun K => exKB K "NoManner")))
  x_NoFraction := exK_ok X Gm (fact c 111 (f := (fun K => exKB K "NoFraction")))
  x_NoShade := exK_ok X Gm (fact c 112 (f := (fun K => exKB K "NoShade")))
  x_NoGain := exK_ok X Gm (fact c 113 (f := (fun K => exKB K "NoGain")))
  }
end GL
namespace GL
open PySem PySem.Spec L2 G
local macro_rules | `(tactic| ac_rfl) => `(tactic| try dsimp only [nb, aRet, aRetN, aSeq, aIfS, aNext, aBreak, aCont, aDrop, aAsg, aPar, aAug, aSetL, aSetF, aFld, aVar, aC, aNil, aCons, aTup, aLst, a1, a2, aN, aAndV, aOrV, aNotV, aIf, aAnd, aOr, aNot, aTest, aChn, aCall, aMeth, aMake, aBmL, aRaise, aTryOnly, aTryAs, aFor, aiSeq, aiRng1, aiRng2, aiEnum, agN, agNil, agCons, agTup, aSlL, aRev, aNoPart, aPart, aNewK, aNewT, aLc, aWhile, asB, asT, iA, iA0, subA, modA, modP, divP, divA, powA, ltA, leA, gtA, geA, addA, mulA, negA, lenA, absA, intA, allA, listA, tupleA, one, two, sp0, sp1, sp2, sp3, sp4, sp5, sp6, appendA, reverseA, clearA, wipeA, putFA, aFz, aLstF, aSlF, aRevF, aAddF, addF_i, addF_s, addF_t, addF_l, aRepF, aListF, aMakeP, aDyn, aClsFn, sumA, maxL, insertA, popAtA, aDGet, aDPut, aDAug, aFAug, aBmD, maxA, minA, List.getElem?_cons_zero, List.getElem?_cons_succ, List.set_cons_zero, List.set_cons_succ, List.cons_append, List.nil_append, List.append_nil])
local macro_rules | `(tactic| nofun) => `(tactic| try dsimp only [nb, aRet, aRetN, aNext, aBreak, aCont, aDrop, aAsg, aPar, aAug, aSetL, aSetF, aFld, aVar, aC, aNil, aCons, aTup, aLst, a1, a2, aN, aAndV, aOrV, aNotV, aIf, aAnd, aOr, aNot, aTest, aChn, aCall, aMeth, aMake, aBmL, aRaise, aTryOnly, aTryAs, aiSeq, aiRng1, aiRng2, aiEnum, agN, agNil, agCons, agTup, aSlL, aRev, aNoPart, aPart, aNewK, aNewT, aLc, asB, asT, iA, iA0, subA, modA, modP, divP, divA, powA, ltA, leA, gtA, geA, addA, mulA, negA, lenA, absA, intA, allA, listA, tupleA, one, two, sp0, sp1, sp2, sp3, sp4, sp5, sp6, appendA, reverseA, clearA, wipeA, putFA, aFz, aLstF, aSlF, aRevF, aAddF, addF_i, addF_s, addF_t, addF_l, aRepF, aListF, aMakeP, aDyn, aClsFn, sumA, maxL, insertA, popAtA, aDGet, aDPut, aDAug, aFAug, aBmD, maxA, minA, List.getElem?_cons_zero, List.getElem?_cons_succ, List.set_cons_zero, List.set_cons_succ, List.cons_append, List.nil_append, List.append_nil])
/-- a well: a list of three ints; h' is h but for the well w -/
def W3 (c : List A) : Prop := ∃ a b d : Int, c = [.int a, .int b, .int d]
def WellAt (h : AH) (w : Addr) : Prop := ∃ c, W3 c ∧ h w = some (.lst c)
def WS (w : Addr) (h h' : AH) : Prop := ∃ c, W3 c ∧ h' = updA h w (.lst c)
theorem WS.trans {w : Addr} {h h1 h2 : AH} (a : WS w h h1) (b : WS w h1 h2) : WS w h h2 := by
  obtain ⟨c, _, rfl⟩ := a
  obtain ⟨d, k, rfl⟩ := b
  exact ⟨d, k, updA_updA⟩
theorem WS.at {w : Addr} {h h1 : AH} (a : WS w h h1) : WellAt h1 w := by
  obtain ⟨c, k, rfl⟩ := a
  exact ⟨c, k, updA_same⟩
theorem WS.ne {w p : Addr} {h h1 : AH} (a : WS w h h1) (n : p ≠ w) : h1 p = h p := by
  obtain ⟨c, k, rfl⟩ := a
  exact updA_ne n
theorem WS.refl {w : Addr} {h : AH} (a : WellAt h w) : WS w h h := by
  obtain ⟨c, k, e⟩ := a
  exact ⟨c, k, (updA_id e).symm⟩
theorem WellAt.ne {w p : Addr} {h : AH} (a : WellAt h w) (n : h p = none) : p ≠ w := fun z => by subst z; obtain ⟨_, _, e⟩ := a; rw [n] at e; cases e
theorem WellAt.up {w p : Addr} {h : AH} {o : AO} (a : WellAt h w) (n : w ≠ p) : WellAt (updA h p o) w := by
  obtain ⟨c, k, e⟩ := a
  exact ⟨c, k, (updA_ne n).trans e⟩
/-- a new thing ahead of the draw stands behind it -/
theorem WS.comm {w p : Addr} {h h1 : AH} {o : AO} (n : p ≠ w) (a : WS w (updA h p o) h1) : ∃ h2, WS w h h2 ∧ h1 = updA h2 p o := by
  obtain ⟨c, k, rfl⟩ := a
  exact ⟨_, ⟨c, k, rfl⟩, updA_comm n⟩
def R_law_well (_ : Frg) : Sp1 := fun x h Q _ => ∃ i, x = .int i ∧ ∀ w c, h w = none → W3 c → Q (.ref w) (updA h w (.lst c))
def R_law_draw (_ : Frg) : Sp2 := fun x y h Q _ => ∃ (w : Addr) (m : Int), x = .ref w ∧ y = .int m ∧ 0 < m ∧ m.natAbs.log2 < 9000 ∧ WellAt h w ∧ ∀ (r : Int) h', 0 ≤ r → r < m → WS w h h' → Q (.int r) h'

def R_divisor (_ : Frg) : Sp2 := fun x y h Q _ => ∃ a b : Int, x = .int a ∧ y = .int b ∧ Q (.int (Int.gcd a b)) h
def R_made (K : Frg) : Sp2 := fun x y h Q E => ∃ t b : Int, x = .int t ∧ y = .int b ∧ (b = 0 → E (.ref (c_NoFraction K)) h) ∧ (b ≠ 0 → b.natAbs.log2 < 9000 ∧ Q (fr (Rat.divInt t b)) h)
def R_plus (_ : Frg) : Sp2 := fun x y h Q _ => ∃ p q : Rat, x = fr p ∧ y = fr q ∧ Sz 4000 p ∧ Sz 4000 q ∧ Q (fr (p + q)) h
def R_minus (_ : Frg) : Sp2 := fun x y h Q _ => ∃ p q : Rat, x = fr p ∧ y = fr q ∧ Sz 4000 p ∧ Sz 4000 q ∧ Q (fr (p - q)) h
def R_times (_ : Frg) : Sp2 := fun x y h Q _ => ∃ p q : Rat, x = fr p ∧ y = fr q ∧ Sz 4000 p ∧ Sz 4000 q ∧ Q (fr (p * q)) h
theorem fr_sub (p q : Rat) : Rat.divInt (p.num * q.den - q.num * p.den) (p.den * q.den) = p - q := by
  have e := fr_add p (-q)
  rw [Rat.neg_num, Rat.neg_den, Int.neg_mul, ← Int.sub_eq_add_neg, ← Rat.sub_eq_add_neg] at e
  exact e

abbrev sp_divisor (K : Frg) : ASp := sp2 (R_divisor K)
abbrev sp_made (K : Frg) : ASp := sp2 (R_made K)
abbrev sp_plus (K : Frg) : ASp := sp2 (R_plus K)
abbrev sp_minus (K : Frg) : ASp := sp2 (R_minus K)
abbrev sp_times (K : Frg) : ASp := sp2 (R_times K)
abbrev sp_law_well (K : Frg) : ASp := sp1 (R_law_well K)
abbrev sp_law_draw (K : Frg) : ASp := sp2 (R_law_draw K)
def t_divisor (K : Frg) : ATS := (aSeq (aWhile (aTest (a2 (eqA true) (aVar 1) (aC (.int 0))))
  (aPar 0 1 (aCons (aVar 1) (aCons (a2 modA (aVar 0) (aVar 1)) aNil))))
  (aRet (aN absA (aCons (aVar 0) aNil))))
def t_made (K : Frg) : ATS := (aSeq (aIfS (aTest (a2 (eqA false) (aVar 1) (aC (.int 0))))
  (aRaise (c_NoFraction K))
  aNext)
  (aSeq (aAsg (aCall (sp_divisor K) [] (aCons (aVar 0) (aCons (aVar 1) aNil))) (agN 2))
  (aSeq (aIfS (aTest (a2 ltA (aVar 1) (aC (.int 0))))
  (aAsg (a1 negA (aVar 2)) (agN 2))
  aNext)
  (aRet (aTup (aCons (a2 divA (aVar 0) (aVar 2)) (aCons (a2 divA (aVar 1) (aVar 2)) aNil)))))))
def t_plus (K : Frg) : ATS := (aRet (aCall (sp_made K) [] (aCons (aAddF (a2 mulA (a2 ixA (aVar 0) (aC (.int 0))) (a2 ixA (aVar 1) (aC (.int 1)))) (a2 mulA (a2 ixA (aVar 1) (aC (.int 0))) (a2 ixA (aVar 0) (aC (.int 1))))) (aCons (a2 mulA (a2 ixA (aVar 0) (aC (.int 1))) (a2 ixA (aVar 1) (aC (.int 1)))) aNil))))
def t_minus (K : Frg) : ATS := (aRet (aCall (sp_made K) [] (aCons (a2 subA (a2 mulA (a2 ixA (aVar 0) (aC (.int 0))) (a2 ixA (aVar 1) (aC (.int 1)))) (a2 mulA (a2 ixA (aVar 1) (aC (.int 0))) (a2 ixA (aVar 0) (aC (.int 1))))) (aCons (a2 mulA (a2 ixA (aVar 0) (aC (.int 1))) (a2 ixA (aVar 1) (aC (.int 1)))) aNil))))
def t_times (K : Frg) : ATS := (aRet (aCall (sp_made K) [] (aCons (a2 mulA (a2 ixA (aVar 0) (aC (.int 0))) (a2 ixA (aVar 1) (aC (.int 0)))) (aCons (a2 mulA (a2 ixA (aVar 0) (aC (.int 1))) (a2 ixA (aVar 1) (aC (.int 1)))) aNil))))
def t_law_well (K : Frg) : ATS := (aRet (aLst (aCons (a2 mulA (aVar 0) (aN intA (aCons (a2 geA (aVar 0) (a2 powA (aC (.int 10)) (aC (.int 18)))) aNil))) (aCons (a2 modP (aVar 0) (aC (.int 2147483647))) (aCons (aC (.int 0)) aNil)))))
def t_law_draw (K : Frg) : ATS := (aSeq (aIfS (aTest (a2 gtA (a2 ixA (aVar 0) (aC (.int 0))) (aC (.int 0))))
  (aSeq (aAsg (a2 modA (a2 ixA (aVar 0) (aC (.int 0))) (aVar 1)) (agN 2))
  (aSeq (aSetL (aVar 0) (aC (.int 0)) (a2 divA (a2 ixA (aVar 0) (aC (.int 0))) (aVar 1)))
  (aRet (aVar 2))))
  aNext)
  (aSeq (aSetL (aVar 0) (aC (.int 2)) (aAddF (a2 ixA (aVar 0) (aC (.int 2))) (aC (.int 1))))
  (aSeq (aAsg (a2 modP (a2 mulA (aAddF (aAddF (a2 ixA (aVar 0) (aC (.int 1))) (a2 mulA (aC (.int 7919)) (a2 ixA (aVar 0) (aC (.int 2))))) (aC (.int 1))) (aC (.int 48271))) (aC (.int 2147483647))) (agN 3))
  (aSeq (aAsg (a2 modP (a2 mulA (aVar 3) (aAddF (a2 divP (aVar 3) (aC (.int 1009))) (aC (.int 69621)))) (aC (.int 2147483647))) (agN 3))
  (aRet (a2 modA (a2 modP (a2 mulA (aVar 3) (aAddF (a2 divP (aVar 3) (aC (.int 2003))) (aC (.int 40692)))) (aC (.int 2147483399))) (aVar 1)))))))

theorem rd_law_well {K : Frg} (T : TK K) {x0 : A} {h : AH} {Q : AVK} {E : AXK} (hR : R_law_well K x0 h Q E) : t_law_well K { nx := fun _ h' => sub Q .non h', rt := sub Q, ex := fun c _ h' => subE E c h' } [some x0] h := by
  obtain ⟨i, rfl, q⟩ := hR
  unfold t_law_well
  ac_rfl
  refine ⟨⟨by decide, by decide, by decide⟩, mul_r ?_, by decide, (by simp; decide), fun p hp => sub_i (q p _ hp ⟨_, _, _, rfl⟩)⟩
  split <;> decide
theorem rd_law_draw {K : Frg} (T : TK K) {x0 x1 : A} {h : AH} {Q : AVK} {E : AXK} (hR : R_law_draw K x0 x1 h Q E) : t_law_draw K { nx := fun _ h' => sub Q .non h', rt := sub Q, ex := fun c _ h' => subE E c h' } [some x0, some x1, none, none] h := by
  obtain ⟨w, m, rfl, rfl, hm, hl, ⟨_, ⟨a, b, c, rfl⟩, hw⟩, q⟩ := hR
  unfold t_law_draw
  ac_rfl
  refine ix_ref hw rfl ?_
  ac_rfl
  refine ifd (fun h1 => ?_) fun h1 => ?_
  · refine ix_ref hw rfl ?_
    ac_rfl
    refine ⟨by omega, ix_ref hw rfl ?_⟩
    ac_rfl
    refine .inl ⟨⟨hm, hl⟩, _, _, hw, rfl, ?_⟩
    exact sub_i (q _ _ (fmod_pos hm).1 (fmod_pos hm).2 ⟨_, ⟨_, _, _, rfl⟩, rfl⟩)
  · refine ix_ref hw rfl ?_
    ac_rfl
    refine ⟨_, _, hw, rfl, ix_ref updA_same rfl (ix_ref updA_same rfl ?_)⟩
    ac_rfl
    have e : ∀ z : Int, 0 ≤ z % 2147483647 ∧ z % 2147483647 < 2147483647 := fun z => ⟨Int.emod_nonneg _ (by decide), Int.emod_lt_of_pos _ (by decide)⟩
    refine ⟨mul_l (by decide), mul_r (by decide), by decide, ⟨by decide, by decide⟩, mul_l ?_, by decide, ⟨by decide, by decide⟩, mul_l ?_, by decide, by omega, ?_⟩
    · have := e ((b + 7919 * (c + 1) + 1) * 48271)
      omega
    · have := e ((b + 7919 * (c + 1) + 1) * 48271 % 2147483647 * ((b + 7919 * (c + 1) + 1) * 48271 % 2147483647 / 1009 + 69621))
      omega
    · exact sub_i (q _ _ (fmod_pos hm).1 (fmod_pos hm).2 ⟨_, ⟨_, _, _, rfl⟩, rfl⟩)

theorem rd_divisor {K : Frg} (T : TK K) {x0 x1 : A} {h : AH} {Q : AVK} {E : AXK} (hR : R_divisor K x0 x1 h Q E) : t_divisor K { nx := fun _ h' => sub Q .non h', rt := sub Q, ex := fun c _ h' => subE E c h' } [some x0, some x1] h := by
  obtain ⟨a, b, rfl, rfl, q⟩ := hR
  unfold t_divisor
  refine seq_cut (fun α h' => ∃ c : Int, α = [some (.int c), some (.int 0)] ∧ c.natAbs = Int.gcd a b ∧ h = h') (fun J hJ => ?_) fun α h' pv => ?_
  · refine ⟨fun m α h' => ∃ c d : Int, α = [some (.int c), some (.int d)] ∧ Int.gcd c d = Int.gcd a b ∧ d.natAbs = m ∧ h' = h, ⟨_, a, b, rfl, rfl, rfl, rfl⟩, fun m α h' pv => ?_⟩
    obtain ⟨c, d, rfl, e, rfl, rfl⟩ := pv
    (ac_rfl; (try dsimp only [eqA]); ac_rfl)
    refine ifnd (fun hd => ⟨hd, _, fmod_small c hd, d, _, rfl, by rw [gcd_fmod]; exact e, rfl, rfl⟩) fun hd => ?_
    subst hd
    rw [Int.gcd_zero_right] at e
    exact hJ _ _ ⟨c, rfl, e, rfl⟩
  · obtain ⟨c, rfl, e, rfl⟩ := pv
    ac_rfl
    have : (if c < 0 then -c else c) = (Int.gcd a b : Int) := by rw [← e]; split <;> omega
    rw [this]
    exact sub_i q
theorem rd_made {K : Frg} (T : TK K) {x0 x1 : A} {h : AH} {Q : AVK} {E : AXK} (hR : R_made K x0 x1 h Q E) : t_made K { nx := fun _ h' => sub Q .non h', rt := sub Q, ex := fun c _ h' => subE E c h' } [some x0, some x1, none] h := by
  obtain ⟨t, b, rfl, rfl, q0, q1⟩ := hR
  unfold t_made
  refine seq_cut (fun α h' => α = [some (.int t), some (.int b), none] ∧ h' = h ∧ b ≠ 0) (fun J hJ => ?_) fun α h' pv => ?_
  · dsimp only [aIfS]
    (nofun; (try dsimp only [eqA]); nofun)
    refine ifd (fun hb => subE_i (q0 hb)) fun hb => hJ _ _ ⟨rfl, rfl, hb⟩
  obtain ⟨rfl, rfl, hb⟩ := pv
  have hq := (q1 hb).2
  have hg := gcd_pos (t := t) hb
  have hl : (Int.gcd t b).log2 < 9000 := by
    refine Nat.lt_of_le_of_lt ?_ (q1 hb).1
    have : b.natAbs ≠ 0 := by omega
    rw [Nat.le_log2 this]
    exact Nat.le_trans (Nat.log2_self_le (by omega)) (gcd_le hb)
  (ac_rfl; (try dsimp only [R_divisor, eqA]); ac_rfl)
  refine ⟨t, b, rfl, rfl, ?_⟩
  refine ifd (fun hn => ?_) fun hn => ?_
  · have e := made_neg (t := t) hn
    refine .inr ⟨⟨by omega, by simpa using hl⟩, .inr ⟨⟨by omega, by simpa using hl⟩, by simp; decide, ?_⟩⟩
    rw [e.1, e.2]
    exact sub_i hq
  · have e := made_pos (t := t) (by omega : 0 < b)
    refine .inl ⟨⟨hg, by simpa using hl⟩, .inl ⟨⟨hg, by simpa using hl⟩, by simp; decide, ?_⟩⟩
    rw [e.1, e.2]
    exact sub_i hq
theorem rd_plus {K : Frg} (T : TK K) {x0 x1 : A} {h : AH} {Q : AVK} {E : AXK} (hR : R_plus K x0 x1 h Q E) : t_plus K { nx := fun _ h' => sub Q .non h', rt := sub Q, ex := fun c _ h' => subE E c h' } [some x0, some x1] h := by
  obtain ⟨p, q, rfl, rfl, hp, hq, k⟩ := hR
  unfold t_plus
  (ac_rfl; (try dsimp only [R_made, fr]); ac_rfl)
  have l := log2_small (Nat.lt_of_lt_of_le (abs_mul_lt (i := (p.den : Int)) (j := (q.den : Int)) (n := 4000) (m := 4000) (by simpa using hp.2) (by simpa using hq.2)) (Nat.le_refl _)) (by decide)
  have hpd : ((p.den : Int)).natAbs < 2 ^ 4000 := by simpa using hp.2
  have hqd : ((q.den : Int)).natAbs < 2 ^ 4000 := by simpa using hq.2
  refine ix_tup rfl (ix_tup rfl ⟨mul_bits hp.1 hqd (by decide), ix_tup rfl (ix_tup rfl ⟨mul_bits hq.1 hpd (by decide), ix_tup rfl (ix_tup rfl ⟨mul_bits hpd hqd (by decide), _, _, rfl, rfl, fun z => ?_, fun z => ⟨l, ?_⟩⟩)⟩)⟩)
  · exact absurd z (Int.mul_ne_zero (by have := den_pos p; omega) (by have := den_pos q; omega))
  · rw [fr_add]; exact sub_i k
theorem rd_minus {K : Frg} (T : TK K) {x0 x1 : A} {h : AH} {Q : AVK} {E : AXK} (hR : R_minus K x0 x1 h Q E) : t_minus K { nx := fun _ h' => sub Q .non h', rt := sub Q, ex := fun c _ h' => subE E c h' } [some x0, some x1] h := by
  obtain ⟨p, q, rfl, rfl, hp, hq, k⟩ := hR
  unfold t_minus
  (ac_rfl; (try dsimp only [R_made, fr]); ac_rfl)
  have l := log2_small (Nat.lt_of_lt_of_le (abs_mul_lt (i := (p.den : Int)) (j := (q.den : Int)) (n := 4000) (m := 4000) (by simpa using hp.2) (by simpa using hq.2)) (Nat.le_refl _)) (by decide)
  have hpd : ((p.den : Int)).natAbs < 2 ^ 4000 := by simpa using hp.2
  have hqd : ((q.den : Int)).natAbs < 2 ^ 4000 := by simpa using hq.2
  refine ix_tup rfl (ix_tup rfl ⟨mul_bits hp.1 hqd (by decide), ix_tup rfl (ix_tup rfl ⟨mul_bits hq.1 hpd (by decide), ix_tup rfl (ix_tup rfl ⟨mul_bits hpd hqd (by decide), _, _, rfl, rfl, fun z => ?_, fun z => ⟨l, ?_⟩⟩)⟩)⟩)
  · exact absurd z (Int.mul_ne_zero (by have := den_pos p; omega) (by have := den_pos q; omega))
  · rw [fr_sub]; exact sub_i k
theorem rd_times {K : Frg} (T : TK K) {x0 x1 : A} {h : AH} {Q : AVK} {E : AXK} (hR : R_times K x0 x1 h Q E) : t_times K { nx := fun _ h' => sub Q .non h', rt := sub Q, ex := fun c _ h' => subE E c h' } [some x0, some x1] h := by
  obtain ⟨p, q, rfl, rfl, hp, hq, k⟩ := hR
  unfold t_times
  (ac_rfl; (try dsimp only [R_made, fr]); ac_rfl)
  have l := log2_small (Nat.lt_of_lt_of_le (abs_mul_lt (i := (p.den : Int)) (j := (q.den : Int)) (n := 4000) (m := 4000) (by simpa using hp.2) (by simpa using hq.2)) (Nat.le_refl _)) (by decide)
  have hpd : ((p.den : Int)).natAbs < 2 ^ 4000 := by simpa using hp.2
  have hqd : ((q.den : Int)).natAbs < 2 ^ 4000 := by simpa using hq.2
  refine ix_tup rfl (ix_tup rfl ⟨mul_bits hp.1 hq.1 (by decide), ix_tup rfl (ix_tup rfl ⟨mul_bits hpd hqd (by decide), _, _, rfl, rfl, fun z => ?_, fun z => ⟨l, ?_⟩⟩)⟩)
  · exact absurd z (Int.mul_ne_zero (by have := den_pos p; omega) (by have := den_pos q; omega))
  · rw [fr_mul]; exact sub_i k

end GL
namespace GL
open PySem PySem.Spec L2 G
local macro_rules | `(tactic| ac_rfl) => `(tactic| try dsimp only [nb, aRet, aRetN, aSeq, aIfS, aNext, aBreak, aCont, aDrop, aAsg, aPar, aAug, aSetL, aSetF, aFld, aVar, aC, aNil, aCons, aTup, aLst, a1, a2, aN, aAndV, aOrV, aNotV, aIf, aAnd, aOr, aNot, aTest, aChn, aCall, aMeth, aMake, aBmL, aRaise, aTryOnly, aTryAs, aFor, aiSeq, aiRng1, aiRng2, aiEnum, agN, agNil, agCons, agTup, aSlL, aRev, aNoPart, aPart, aNewK, aNewT, aLc, aWhile, asB, asT, iA, iA0, subA, modA, modP, divP, divA, powA, ltA, leA, gtA, geA, addA, mulA, negA, lenA, absA, intA, allA, listA, tupleA, one, two, sp0, sp1, sp2, sp3, sp4, sp5, sp6, appendA, reverseA, clearA, wipeA, putFA, aFz, aLstF, aSlF, aRevF, aAddF, addF_i, addF_s, addF_t, addF_l, aRepF, aListF, aMakeP, aDyn, aClsFn, sumA, maxL, insertA, popAtA, aDGet, aDPut, aDAug, aFAug, aBmD, maxA, minA, List.getElem?_cons_zero, List.getElem?_cons_succ, List.set_cons_zero, List.set_cons_succ, List.cons_append, List.nil_append, List.append_nil])
local macro_rules | `(tactic| nofun) => `(tactic| try dsimp only [nb, aRet, aRetN, aNext, aBreak, aCont, aDrop, aAsg, aPar, aAug, aSetL, aSetF, aFld, aVar, aC, aNil, aCons, aTup, aLst, a1, a2, aN, aAndV, aOrV, aNotV, aIf, aAnd, aOr, aNot, aTest, aChn, aCall, aMeth, aMake, aBmL, aRaise, aTryOnly, aTryAs, aiSeq, aiRng1, aiRng2, aiEnum, agN, agNil, agCons, agTup, aSlL, aRev, aNoPart, aPart, aNewK, aNewT, aLc, asB, asT, iA, iA0, subA, modA, modP, divP, divA, powA, ltA, leA, gtA, geA, addA, mulA, negA, lenA, absA, intA, allA, listA, tupleA, one, two, sp0, sp1, sp2, sp3, sp4, sp5, sp6, appendA, reverseA, clearA, wipeA, putFA, aFz, aLstF, aSlF, aRevF, aAddF, addF_i, addF_s, addF_t, addF_l, aRepF, aListF, aMakeP, aDyn, aClsFn, sumA, maxL, insertA, popAtA, aDGet, aDPut, aDAug, aFAug, aBmD, maxA, minA, List.getElem?_cons_zero, List.getElem?_cons_succ, List.set_cons_zero, List.set_cons_succ, List.cons_append, List.nil_append, List.append_nil])
structure Rul where
  g : Rat
  p : Rat
  a : Rat
  q : Rat
  b : Rat
  deriving DecidableEq
theorem Rul.ext' {r s : Rul} (h1 : r.g = s.g) (h2 : r.p = s.p) (h3 : r.a = s.a) (h4 : r.q = s.q) (h5 : r.b = s.b) : r = s := by
  cases r; cases s; simp only at h1 h2 h3 h4 h5; subst h1 h2 h3 h4 h5; rfl
def rulA (r : Rul) : A := .tup [fr r.g, fr r.p, fr r.a, fr r.q, fr r.b]
def comp (r s : Rul) : Rul := ⟨s.g * r.g, s.g * r.p + s.p * r.q, (s.g * r.a + s.p * r.b) + s.a, s.q * r.q, s.q * r.b + s.b⟩
def idR : Rul := ⟨1, 0, 0, 1, 0⟩
theorem comp_assoc (r s t : Rul) : comp (comp r s) t = comp r (comp s t) := by
  apply Rul.ext' <;> simp only [comp] <;> grind
theorem comp_id (r : Rul) : comp idR r = r := by
  apply Rul.ext' <;> simp only [comp, idR] <;> grind
theorem id_comp (r : Rul) : comp r idR = r := by
  apply Rul.ext' <;> simp only [comp, idR] <;> grind
def prodR (l : List Rul) : Rul := l.foldl comp idR
theorem foldl_comp (l : List Rul) : ∀ r : Rul, l.foldl comp r = comp r (prodR l) := by
  induction l with
  | nil => intro r; exact (id_comp r).symm
  | cons s l ih =>
    intro r
    unfold prodR
    rw [List.foldl_cons, List.foldl_cons, ih (comp r s), ih (comp idR s), comp_id, comp_assoc]
theorem prodR_append (l m : List Rul) : prodR (l ++ m) = comp (prodR l) (prodR m) := by
  unfold prodR
  rw [List.foldl_append, foldl_comp]
  rfl
theorem prodR_one (r : Rul) : prodR [r] = r := comp_id r
theorem rul_same {h : AH} {n : Nat} (r : Rul) : SamR h (SamA h (n + 2)) (rulA r) (rulA r) := by
  have f : ∀ x : Rat, SamA h (n + 2) (fr x) (fr x) := fun x => .inr (.inr (.inr ⟨_, _, rfl, rfl, .cons (.inl ⟨rfl, rfl⟩) (.cons (.inl ⟨rfl, rfl⟩) .nil)⟩))
  exact .inr ⟨_, _, rfl, rfl, .cons (f _) (.cons (f _) (.cons (f _) (.cons (f _) (.cons (f _) .nil))))⟩
theorem rulA_inj {r s : Rul} (e : rulA r = rulA s) : r = s := by
  unfold rulA at e
  injection e with e
  simp only [List.cons.injEq, and_true] at e
  obtain ⟨e1, e2, e3, e4, e5⟩ := e
  exact Rul.ext' (fr_inj e1) (fr_inj e2) (fr_inj e3) (fr_inj e4) (fr_inj e5)
def RSz (n : Nat) (r : Rul) : Prop := Sz n r.g ∧ Sz n r.p ∧ Sz n r.a ∧ Sz n r.q ∧ Sz n r.b
/-- rules over 16 ^ m -/
structure IRul where
  g : Int
  p : Int
  a : Int
  q : Int
  b : Int
def mkR (d : Int) (i : IRul) : Rul := ⟨Rat.divInt i.g d, Rat.divInt i.p d, Rat.divInt i.a d, Rat.divInt i.q d, Rat.divInt i.b d⟩
def compI (d : Int) (r s : IRul) : IRul := ⟨s.g * r.g, s.g * r.p + s.p * r.q, s.g * r.a + s.p * r.b + s.a * d, s.q * r.q, s.q * r.b + s.b * d⟩
theorem divInt_add {x y d : Int} (h : d ≠ 0) : Rat.divInt x d + Rat.divInt y d = Rat.divInt (x + y) d := by
  rw [Rat.divInt_eq_div, Rat.divInt_eq_div, Rat.divInt_eq_div, Rat.intCast_add]
  grind
theorem divInt_scale {x d e : Int} (h : e ≠ 0) : Rat.divInt x d = Rat.divInt (x * e) (e * d) := by
  rw [Int.mul_comm x e]
  exact (Rat.divInt_mul_left h).symm
theorem comp_mkR {d e : Int} (hd : d ≠ 0) (he : e ≠ 0) (r s : IRul) : comp (mkR d r) (mkR e s) = mkR (d * e) (compI d r s) := by
  have hde : e * d ≠ 0 := Int.mul_ne_zero he hd
  rw [Int.mul_comm d e]
  apply Rul.ext' <;> simp only [comp, mkR, compI]
  · rw [Rat.divInt_mul_divInt]
  · rw [Rat.divInt_mul_divInt, Rat.divInt_mul_divInt, divInt_add hde]
  · rw [Rat.divInt_mul_divInt, Rat.divInt_mul_divInt, divInt_add hde, divInt_scale (x := s.a) hd, Int.mul_comm d e, divInt_add hde]
  · rw [Rat.divInt_mul_divInt]
  · rw [Rat.divInt_mul_divInt, divInt_scale (x := s.b) hd, Int.mul_comm d e, divInt_add hde]
def NB (m : Nat) (x : Int) : Prop := 4 * x.natAbs ≤ 64 ^ m
def INB (m : Nat) (i : IRul) : Prop := NB m i.g ∧ NB m i.p ∧ NB m i.a ∧ NB m i.q ∧ NB m i.b
theorem nb_mul {m n : Nat} {x y : Int} (hx : NB m x) (hy : NB n y) : 16 * (x * y).natAbs ≤ 64 ^ (m + n) := by
  unfold NB at hx hy
  rw [Int.natAbs_mul, Nat.pow_add]
  have := Nat.mul_le_mul hx hy
  have e : 4 * x.natAbs * (4 * y.natAbs) = 16 * (x.natAbs * y.natAbs) := by grind
  omega
theorem nb_scale {m n : Nat} {x : Int} (hm : 1 ≤ m) (hx : NB n x) : 16 * (x * (16 ^ m : Int)).natAbs ≤ 64 ^ (m + n) := by
  unfold NB at hx
  have e1 : ((16 ^ m : Int)).natAbs = 16 ^ m := by rw [Int.natAbs_pow]; rfl
  rw [Int.natAbs_mul, e1, Nat.pow_add]
  have h4 : 4 * 16 ^ m ≤ 64 ^ m := by
    have : (64 : Nat) ^ m = 4 ^ m * 16 ^ m := by rw [← Nat.mul_pow]
    rw [this]
    refine Nat.mul_le_mul_right _ ?_
    calc 4 = 4 ^ 1 := rfl
      _ ≤ 4 ^ m := Nat.pow_le_pow_right (by decide) hm
  have := Nat.mul_le_mul h4 hx
  have e : 4 * 16 ^ m * (4 * x.natAbs) = 16 * (x.natAbs * 16 ^ m) := by grind
  omega
theorem compI_nb {m n : Nat} {r s : IRul} (hm : 1 ≤ m) (hr : INB m r) (hs : INB n s) : INB (m + n) (compI (16 ^ m) r s) := by
  obtain ⟨r1, r2, r3, r4, r5⟩ := hr
  obtain ⟨s1, s2, s3, s4, s5⟩ := hs
  have c : ∀ {x y : Int}, NB n x → NB m y → 16 * (x * y).natAbs ≤ 64 ^ (m + n) := fun hx hy => by rw [Nat.add_comm m n]; exact nb_mul hx hy
  have a1 := c s1 r1
  have a2 := c s1 r2
  have a3 := c s2 r4
  have a4 := c s1 r3
  have a5 := c s2 r5
  have a6 := nb_scale hm s3
  have a7 := c s4 r4
  have a8 := c s4 r5
  have a9 := nb_scale hm s5
  unfold INB NB compI
  simp only
  refine ⟨by omega, ?_, ?_, by omega, ?_⟩
  · have := Int.natAbs_add_le (s.g * r.p) (s.p * r.q); omega
  · have h1 := Int.natAbs_add_le (s.g * r.a + s.p * r.b) (s.a * 16 ^ m)
    have h2 := Int.natAbs_add_le (s.g * r.a) (s.p * r.b)
    omega
  · have := Int.natAbs_add_le (s.q * r.b) (s.b * 16 ^ m); omega
/-- a rule over 16 ^ m, of bounded size -/
def RB (m : Nat) (r : Rul) : Prop := ∃ i, r = mkR (16 ^ m) i ∧ INB m i
theorem pow16 (m : Nat) : (16 ^ m : Int) ≠ 0 := by
  have : (0 : Int) < 16 ^ m := Int.pow_pos (by decide)
  omega
theorem RB.comp {m n : Nat} {r s : Rul} (hm : 1 ≤ m) (hr : RB m r) (hs : RB n s) : RB (m + n) (comp r s) := by
  obtain ⟨i, rfl, hi⟩ := hr
  obtain ⟨j, rfl, hj⟩ := hs
  refine ⟨compI (16 ^ m) i j, ?_, compI_nb hm hi hj⟩
  rw [comp_mkR (pow16 m) (pow16 n), ← Int.pow_add]
theorem nb_lt {m : Nat} {x : Int} (h : NB m x) : x.natAbs < 2 ^ (6 * m + 1) := by
  unfold NB at h
  have e : (64 : Nat) ^ m = 2 ^ (6 * m) := by rw [Nat.pow_mul]
  rw [Nat.pow_succ]
  rw [e] at h
  have : 0 < 2 ^ (6 * m) := Nat.pow_pos (by decide)
  omega
theorem d16_lt (m : Nat) : ((16 ^ m : Int)).natAbs < 2 ^ (6 * m + 1) := by
  have e1 : ((16 ^ m : Int)).natAbs = 2 ^ (4 * m) := by rw [Int.natAbs_pow, Nat.pow_mul]; rfl
  rw [e1]
  exact Nat.pow_lt_pow_right (by decide) (by omega)
theorem RB.sz {m n : Nat} {r : Rul} (h : RB m r) (hn : 6 * m + 1 ≤ n) : RSz n r := by
  obtain ⟨i, rfl, h1, h2, h3, h4, h5⟩ := h
  have one : ∀ x, NB m x → Sz n (Rat.divInt x (16 ^ m)) := fun x hx => (divInt_size (nb_lt hx) (d16_lt m) (pow16 m)).mono hn
  exact ⟨one _ h1, one _ h2, one _ h3, one _ h4, one _ h5⟩
theorem RB.prod : ∀ (l : List Rul), l ≠ [] → (∀ r ∈ l, RB 1 r) → RB l.length (prodR l) := by
  intro l
  induction l with
  | nil => intro h; exact absurd rfl h
  | cons r l ih =>
    intro _ h
    cases l with
    | nil => rw [prodR_one]; exact h r List.mem_cons_self
    | cons s l =>
      have e : prodR (r :: s :: l) = GL.comp r (prodR (s :: l)) := by
        have := prodR_append [r] (s :: l)
        rw [prodR_one] at this
        exact this
      rw [e]
      have := RB.comp (m := 1) (Nat.le_refl 1) (h r List.mem_cons_self) (ih (by simp) fun x hx => h x (List.mem_cons_of_mem _ hx))
      rw [Nat.add_comm] at this
      exact this
def R_behind (_ : Frg) : Sp2 := fun x y h Q _ => ∃ r s : Rul, x = rulA r ∧ y = rulA s ∧ RSz 900 r ∧ RSz 900 s ∧ Q (rulA (comp r s)) h
/-! values: two fractions -/
def valA (v : Rat × Rat) : A := .tup [fr v.1, fr v.2]
def VSz (n : Nat) (v : Rat × Rat) : Prop := Sz n v.1 ∧ Sz n v.2
def laidR (r : Rul) (v : Rat × Rat) : Rat × Rat := (r.g * v.1 + r.p * v.2 + r.a, r.q * v.2 + r.b)
def mixR (r : Rul) (m : Rat) : Rul := ⟨(1 - m) + m * r.g, m * r.p, m * r.a, (1 - m) + m * r.q, m * r.b⟩
def constR (v : Rat × Rat) : Rul := ⟨0, 0, v.1, 0, v.2⟩
def adjR (g l : Int) : Rul := ⟨Rat.divInt g 16, Rat.divInt l 16, 0, 1, 0⟩
inductive Man where
  | over | under | screen | times | atop
  deriving DecidableEq
def manW : Man → Str
  | .over => "over"
  | .under => "under"
  | .screen => "screen"
  | .times => "times"
  | .atop => "atop"
def manR (m : Man) (v : Rat × Rat) : Rul := match m with
  | .over => ⟨1 - v.2, 0, v.1, 1 - v.2, v.2⟩
  | .under => ⟨1, 0 - v.1, v.1, 1 - v.2, v.2⟩
  | .screen => ⟨1 - v.1, 0, v.1, 1 - v.2, v.2⟩
  | .times => ⟨(1 - v.2) + v.1, 0 - v.1, v.1, 1 - v.2, v.2⟩
  | .atop => ⟨1 - v.2, v.1, 0, 1, 0⟩
theorem sz1 {n : Nat} (h : 1 ≤ n) : Sz n 1 := Sz.mono (n := 1) ⟨by decide, by decide⟩ h
theorem sz0 {n : Nat} (h : 1 ≤ n) : Sz n 0 := Sz.mono (n := 1) ⟨by decide, by decide⟩ h
def R_laid (_ : Frg) : Sp2 := fun x y h Q _ => ∃ r v, x = rulA r ∧ y = valA v ∧ RSz 900 r ∧ VSz 900 v ∧ Q (valA (laidR r v)) h
def R_mixed (_ : Frg) : Sp2 := fun x y h Q _ => ∃ r m, x = rulA r ∧ y = fr m ∧ RSz 900 r ∧ Sz 900 m ∧ Q (rulA (mixR r m)) h
def R_weakened (_ : Frg) : Sp2 := fun x y h Q _ => ∃ v m, x = valA v ∧ y = fr m ∧ VSz 900 v ∧ Sz 900 m ∧ Q (valA (m * v.1, m * v.2)) h
def R_constant (_ : Frg) : Sp1 := fun x h Q _ => ∃ v, x = valA v ∧ Q (rulA (constR v)) h
def R_blended (_ : Frg) : Sp3 := fun x y z h Q _ => ∃ v o m, x = valA v ∧ y = valA o ∧ z = fr m ∧ VSz 440 v ∧ VSz 440 o ∧ Sz 440 m ∧ Q (valA (laidR (mixR (constR o) m) v)) h
def goodB : A → Bool
  | .int i => decide (0 ≤ i ∧ i ≤ 16)
  | _ => false
def R_is_sixteenth (_ : Frg) : Sp1 := fun x h Q _ => (∃ k, kindA h x = some k) ∧ Q (.bl (goodB x)) h
def R_adjusted (K : Frg) : Sp2 := fun x y h Q E => (∃ g l : Int, x = .int g ∧ y = .int l ∧ (0 ≤ g ∧ g ≤ 16) ∧ (0 ≤ l ∧ l ≤ 16) ∧ g + l ≤ 16 ∧ Q (rulA (adjR g l)) h) ∨
  ((∃ k, kindA h x = some k) ∧ (∃ k, kindA h y = some k) ∧ (goodB x = true → goodB y = true → ∃ g l : Int, x = .int g ∧ y = .int l ∧ 16 < g + l) ∧ E (.ref (c_NoGain K)) h)
def R_Over_word (_ : Frg) : Sp1 := fun _ h Q _ => Q (.str "over") h
def R_Under_word (_ : Frg) : Sp1 := fun _ h Q _ => Q (.str "under") h
def R_Screen_word (_ : Frg) : Sp1 := fun _ h Q _ => Q (.str "screen") h
def R_Times_word (_ : Frg) : Sp1 := fun _ h Q _ => Q (.str "times") h
def R_Atop_word (_ : Frg) : Sp1 := fun _ h Q _ => Q (.str "atop") h
def R_man (m : Man) : Sp2 := fun _ y h Q _ => ∃ v, y = valA v ∧ VSz 1500 v ∧ Q (rulA (manR m v)) h
abbrev R_Over_rule (_ : Frg) : Sp2 := R_man .over
abbrev R_Under_rule (_ : Frg) : Sp2 := R_man .under
abbrev R_Screen_rule (_ : Frg) : Sp2 := R_man .screen
abbrev R_Times_rule (_ : Frg) : Sp2 := R_man .times
abbrev R_Atop_rule (_ : Frg) : Sp2 := R_man .atop
def manC (K : Frg) : Man → Addr
  | .over => c_Over K
  | .under => c_Under K
  | .screen => c_Screen K
  | .times => c_Times K
  | .atop => c_Atop K
def R_manner_of (K : Frg) : Sp1 := fun x h Q E => (∃ m, x = .str (manW m) ∧ ∀ p, h p = none → Q (.ref p) (updA h p (.ins (manC K m) []))) ∨ ((Pu 5 x ∧ ∀ m, eqP (.str (manW m)) x = false) ∧ E (.ref (c_NoManner K)) h)

abbrev sp_behind (K : Frg) : ASp := sp2 (R_behind K)
abbrev sp_laid (K : Frg) : ASp := sp2 (R_laid K)
abbrev sp_mixed (K : Frg) : ASp := sp2 (R_mixed K)
abbrev sp_weakened (K : Frg) : ASp := sp2 (R_weakened K)
abbrev sp_is_sixteenth (K : Frg) : ASp := sp1 (R_is_sixteenth K)
abbrev sp_adjusted (K : Frg) : ASp := sp2 (R_adjusted K)
abbrev sp_Over_word (K : Frg) : ASp := sp1 (R_Over_word K)
abbrev sp_Under_word (K : Frg) : ASp := sp1 (R_Under_word K)
abbrev sp_Screen_word (K : Frg) : ASp := sp1 (R_Screen_word K)
abbrev sp_Times_word (K : Frg) : ASp := sp1 (R_Times_word K)
abbrev sp_Atop_word (K : Frg) : ASp := sp1 (R_Atop_word K)
abbrev sp_Over_rule (K : Frg) : ASp := sp2 (R_Over_rule K)
abbrev sp_Under_rule (K : Frg) : ASp := sp2 (R_Under_rule K)
abbrev sp_Screen_rule (K : Frg) : ASp := sp2 (R_Screen_rule K)
abbrev sp_Times_rule (K : Frg) : ASp := sp2 (R_Times_rule K)
abbrev sp_Atop_rule (K : Frg) : ASp := sp2 (R_Atop_rule K)
def t_behind (K : Frg) : ATS := (aSeq (aAsg (aVar 0) (agTup 5 (agCons (agN 2) (agCons (agN 3) (agCons (agN 4) (agCons (agN 5) (agCons (agN 6) agNil)))))))
  (aSeq (aAsg (aVar 1) (agTup 5 (agCons (agN 7) (agCons (agN 8) (agCons (agN 9) (agCons (agN 10) (agCons (agN 11) agNil)))))))
  (aRet (aTup (aCons (aCall (sp_times K) [] (aCons (aVar 7) (aCons (aVar 2) aNil))) (aCons (aCall (sp_plus K) [] (aCons (aCall (sp_times K) [] (aCons (aVar 7) (aCons (aVar 3) aNil))) (aCons (aCall (sp_times K) [] (aCons (aVar 8) (aCons (aVar 5) aNil))) aNil))) (aCons (aCall (sp_plus K) [] (aCons (aCall (sp_plus K) [] (aCons (aCall (sp_times K) [] (aCons (aVar 7) (aCons (aVar 4) aNil))) (aCons (aCall (sp_times K) [] (aCons (aVar 8) (aCons (aVar 6) aNil))) aNil))) (aCons (aVar 9) aNil))) (aCons (aCall (sp_times K) [] (aCons (aVar 10) (aCons (aVar 5) aNil))) (aCons (aCall (sp_plus K) [] (aCons (aCall (sp_times K) [] (aCons (aVar 10) (aCons (aVar 6) aNil))) (aCons (aVar 11) aNil))) aNil)))))))))
def t_laid (K : Frg) : ATS := (aSeq (aAsg (aVar 0) (agTup 5 (agCons (agN 2) (agCons (agN 3) (agCons (agN 4) (agCons (agN 5) (agCons (agN 6) agNil)))))))
  (aSeq (aAsg (aCall (sp_plus K) [] (aCons (aCall (sp_plus K) [] (aCons (aCall (sp_times K) [] (aCons (aVar 2) (aCons (a2 ixA (aVar 1) (aC (.int 0))) aNil))) (aCons (aCall (sp_times K) [] (aCons (aVar 3) (aCons (a2 ixA (aVar 1) (aC (.int 1))) aNil))) aNil))) (aCons (aVar 4) aNil))) (agN 7))
  (aRet (aTup (aCons (aVar 7) (aCons (aCall (sp_plus K) [] (aCons (aCall (sp_times K) [] (aCons (aVar 5) (aCons (a2 ixA (aVar 1) (aC (.int 1))) aNil))) (aCons (aVar 6) aNil))) aNil))))))
def t_mixed (K : Frg) : ATS := (aSeq (aAsg (aCall (sp_minus K) [] (aCons (aC v_ONE) (aCons (aVar 1) aNil))) (agN 2))
  (aSeq (aAsg (aVar 0) (agTup 5 (agCons (agN 3) (agCons (agN 4) (agCons (agN 5) (agCons (agN 6) (agCons (agN 7) agNil)))))))
  (aSeq (aAsg (aCall (sp_plus K) [] (aCons (aVar 2) (aCons (aCall (sp_times K) [] (aCons (aVar 1) (aCons (aVar 3) aNil))) aNil))) (agN 8))
  (aSeq (aAsg (aCall (sp_plus K) [] (aCons (aVar 2) (aCons (aCall (sp_times K) [] (aCons (aVar 1) (aCons (aVar 6) aNil))) aNil))) (agN 9))
  (aRet (aTup (aCons (aVar 8) (aCons (aCall (sp_times K) [] (aCons (aVar 1) (aCons (aVar 4) aNil))) (aCons (aCall (sp_times K) [] (aCons (aVar 1) (aCons (aVar 5) aNil))) (aCons (aVar 9) (aCons (aCall (sp_times K) [] (aCons (aVar 1) (aCons (aVar 7) aNil))) aNil)))))))))))
def t_weakened (K : Frg) : ATS := (aRet (aTup (aCons (aCall (sp_times K) [] (aCons (aVar 1) (aCons (a2 ixA (aVar 0) (aC (.int 0))) aNil))) (aCons (aCall (sp_times K) [] (aCons (aVar 1) (aCons (a2 ixA (aVar 0) (aC (.int 1))) aNil))) aNil))))
def t_is_sixteenth (K : Frg) : ATS := (aRet (aAndV (aN (isiA K) (aCons (aVar 0) (aCons (aC (.ty "int")) aNil))) (aAndV (aNotV (aN (isiA K) (aCons (aVar 0) (aCons (aC (.ty "bool")) aNil)))) (aChn leA leA (aC (.int 0)) (aVar 0) (aC (.int 16))))))
def t_adjusted (K : Frg) : ATS := (aSeq (aIfS (aOr (aNot (aTest (aCall (sp_is_sixteenth K) [] (aCons (aVar 0) aNil)))) (aOr (aNot (aTest (aCall (sp_is_sixteenth K) [] (aCons (aVar 1) aNil)))) (aTest (a2 gtA (aAddF (aVar 0) (aVar 1)) (aC (.int 16))))))
  (aRaise (c_NoGain K))
  aNext)
  (aRet (aTup (aCons (aCall (sp_made K) [] (aCons (aVar 0) (aCons (aC (.int 16)) aNil))) (aCons (aCall (sp_made K) [] (aCons (aVar 1) (aCons (aC (.int 16)) aNil))) (aCons (aC v_ZERO) (aCons (aC v_ONE) (aCons (aC v_ZERO) aNil))))))))
def t_Over_word (K : Frg) : ATS := (aRet (aC (.str "over")))
def t_Under_word (K : Frg) : ATS := (aRet (aC (.str "under")))
def t_Screen_word (K : Frg) : ATS := (aRet (aC (.str "screen")))
def t_Times_word (K : Frg) : ATS := (aRet (aC (.str "times")))
def t_Atop_word (K : Frg) : ATS := (aRet (aC (.str "atop")))
def t_Over_rule (K : Frg) : ATS := (aSeq (aAsg (aCall (sp_minus K) [] (aCons (aC v_ONE) (aCons (a2 ixA (aVar 1) (aC (.int 1))) aNil))) (agN 2))
  (aRet (aTup (aCons (aVar 2) (aCons (aC v_ZERO) (aCons (a2 ixA (aVar 1) (aC (.int 0))) (aCons (aVar 2) (aCons (a2 ixA (aVar 1) (aC (.int 1))) aNil))))))))
def t_Under_rule (K : Frg) : ATS := (aRet (aTup (aCons (aC v_ONE) (aCons (aCall (sp_minus K) [] (aCons (aC v_ZERO) (aCons (a2 ixA (aVar 1) (aC (.int 0))) aNil))) (aCons (a2 ixA (aVar 1) (aC (.int 0))) (aCons (aCall (sp_minus K) [] (aCons (aC v_ONE) (aCons (a2 ixA (aVar 1) (aC (.int 1))) aNil))) (aCons (a2 ixA (aVar 1) (aC (.int 1))) aNil)))))))
def t_Screen_rule (K : Frg) : ATS := (aRet (aTup (aCons (aCall (sp_minus K) [] (aCons (aC v_ONE) (aCons (a2 ixA (aVar 1) (aC (.int 0))) aNil))) (aCons (aC v_ZERO) (aCons (a2 ixA (aVar 1) (aC (.int 0))) (aCons (aCall (sp_minus K) [] (aCons (aC v_ONE) (aCons (a2 ixA (aVar 1) (aC (.int 1))) aNil))) (aCons (a2 ixA (aVar 1) (aC (.int 1))) aNil)))))))
def t_Times_rule (K : Frg) : ATS := (aSeq (aAsg (aCall (sp_minus K) [] (aCons (aC v_ONE) (aCons (a2 ixA (aVar 1) (aC (.int 1))) aNil))) (agN 2))
  (aRet (aTup (aCons (aCall (sp_plus K) [] (aCons (aVar 2) (aCons (a2 ixA (aVar 1) (aC (.int 0))) aNil))) (aCons (aCall (sp_minus K) [] (aCons (aC v_ZERO) (aCons (a2 ixA (aVar 1) (aC (.int 0))) aNil))) (aCons (a2 ixA (aVar 1) (aC (.int 0))) (aCons (aVar 2) (aCons (a2 ixA (aVar 1) (aC (.int 1))) aNil))))))))
def t_Atop_rule (K : Frg) : ATS := (aRet (aTup (aCons (aCall (sp_minus K) [] (aCons (aC v_ONE) (aCons (a2 ixA (aVar 1) (aC (.int 1))) aNil))) (aCons (a2 ixA (aVar 1) (aC (.int 0))) (aCons (aC v_ZERO) (aCons (aC v_ONE) (aCons (aC v_ZERO) aNil)))))))

theorem rd_behind {K : Frg} (T : TK K) {x0 x1 : A} {h : AH} {Q : AVK} {E : AXK} (hR : R_behind K x0 x1 h Q E) : t_behind K { nx := fun _ h' => sub Q .non h', rt := sub Q, ex := fun c _ h' => subE E c h' } [some x0, some x1, none, none, none, none, none, none, none, none, none, none] h := by
  obtain ⟨r, s, rfl, rfl, ⟨r1, r2, r3, r4, r5⟩, ⟨s1, s2, s3, s4, s5⟩, q⟩ := hR
  unfold t_behind
  refine seq_cut (fun α h' => α = [some (rulA r), some (rulA s), some (fr r.g), some (fr r.p), some (fr r.a), some (fr r.q), some (fr r.b), none, none, none, none, none] ∧ h = h') (fun J hJ => ?_) fun α h' pv => ?_
  · (ac_rfl; (try dsimp only [rulA]); ac_rfl)
    exact ⟨rfl, rfl, hJ _ _ ⟨rfl, rfl⟩⟩
  obtain ⟨rfl, rfl⟩ := pv
  refine seq_cut (fun α h' => α = [some (rulA r), some (rulA s), some (fr r.g), some (fr r.p), some (fr r.a), some (fr r.q), some (fr r.b), some (fr s.g), some (fr s.p), some (fr s.a), some (fr s.q), some (fr s.b)] ∧ h = h') (fun J hJ => ?_) fun α h' pv => ?_
  · (ac_rfl; (try dsimp only [rulA]); ac_rfl)
    exact ⟨rfl, rfl, hJ _ _ ⟨rfl, rfl⟩⟩
  obtain ⟨rfl, rfl⟩ := pv
  have up : ∀ {x : Rat}, Sz 900 x → Sz 4000 x := fun h => h.mono (by decide)
  have m2 : ∀ {x y : Rat}, Sz 900 x → Sz 900 y → Sz 1800 (x * y) := fun hx hy => (hx.mul hy)
  have up2 : ∀ {x : Rat}, Sz 1800 x → Sz 4000 x := fun h => h.mono (by decide)
  (ac_rfl; (try dsimp only [R_times, R_plus]); ac_rfl)
  refine ⟨_, _, rfl, rfl, up s1, up r1, _, _, rfl, rfl, up s1, up r2, _, _, rfl, rfl, up s2, up r4, _, _, rfl, rfl, up2 (m2 s1 r2), up2 (m2 s2 r4), ?_⟩
  refine ⟨_, _, rfl, rfl, up s1, up r3, _, _, rfl, rfl, up s2, up r5, _, _, rfl, rfl, up2 (m2 s1 r3), up2 (m2 s2 r5), _, _, rfl, rfl, ((m2 s1 r3).add (m2 s2 r5)).mono (by decide), up s3, ?_⟩
  refine ⟨_, _, rfl, rfl, up s4, up r4, _, _, rfl, rfl, up s4, up r5, _, _, rfl, rfl, up2 (m2 s4 r5), up s5, by simp; decide, sub_i q⟩
theorem rd_laid {K : Frg} (T : TK K) {x0 x1 : A} {h : AH} {Q : AVK} {E : AXK} (hR : R_laid K x0 x1 h Q E) : t_laid K { nx := fun _ h' => sub Q .non h', rt := sub Q, ex := fun c _ h' => subE E c h' } [some x0, some x1, none, none, none, none, none, none] h := by
  obtain ⟨r, v, rfl, rfl, ⟨r1, r2, r3, r4, r5⟩, ⟨v1, v2⟩, q⟩ := hR
  have up : ∀ {x : Rat}, Sz 900 x → Sz 4000 x := fun h => h.mono (by decide)
  unfold t_laid
  (ac_rfl; (try dsimp only [R_times, R_plus, rulA, valA]); ac_rfl)
  refine ⟨rfl, rfl, ix_tup rfl ⟨_, _, rfl, rfl, up r1, up v1, ix_tup rfl ⟨_, _, rfl, rfl, up r2, up v2, ?_⟩⟩⟩
  refine ⟨_, _, rfl, rfl, (r1.mul v1).mono (by decide), (r2.mul v2).mono (by decide), _, _, rfl, rfl, ((r1.mul v1).add (r2.mul v2)).mono (by decide), up r3, ?_⟩
  refine ix_tup rfl ⟨_, _, rfl, rfl, up r4, up v2, _, _, rfl, rfl, (r4.mul v2).mono (by decide), up r5, szL (by simp), sub_i q⟩
theorem rd_mixed {K : Frg} (T : TK K) {x0 x1 : A} {h : AH} {Q : AVK} {E : AXK} (hR : R_mixed K x0 x1 h Q E) : t_mixed K { nx := fun _ h' => sub Q .non h', rt := sub Q, ex := fun c _ h' => subE E c h' } [some x0, some x1, none, none, none, none, none, none, none, none] h := by
  obtain ⟨r, m, rfl, rfl, ⟨r1, r2, r3, r4, r5⟩, hm, q⟩ := hR
  have up : ∀ {x : Rat}, Sz 900 x → Sz 4000 x := fun h => h.mono (by decide)
  have s1 : Sz 910 (1 - m) := ((sz1 (n := 1) (by decide)).sub hm).mono (by decide)
  unfold t_mixed
  (ac_rfl; (try dsimp only [R_times, R_plus, R_minus, rulA]); ac_rfl)
  refine ⟨1, m, rfl, rfl, sz1 (by decide), up hm, rfl, rfl, ?_⟩
  refine ⟨_, _, rfl, rfl, up hm, up r1, _, _, rfl, rfl, s1.mono (by decide), (hm.mul r1).mono (by decide), ?_⟩
  refine ⟨_, _, rfl, rfl, up hm, up r4, _, _, rfl, rfl, s1.mono (by decide), (hm.mul r4).mono (by decide), ?_⟩
  exact ⟨_, _, rfl, rfl, up hm, up r2, _, _, rfl, rfl, up hm, up r3, _, _, rfl, rfl, up hm, up r5, szL (by simp), sub_i q⟩
theorem rd_weakened {K : Frg} (T : TK K) {x0 x1 : A} {h : AH} {Q : AVK} {E : AXK} (hR : R_weakened K x0 x1 h Q E) : t_weakened K { nx := fun _ h' => sub Q .non h', rt := sub Q, ex := fun c _ h' => subE E c h' } [some x0, some x1] h := by
  obtain ⟨v, m, rfl, rfl, ⟨v1, v2⟩, hm, q⟩ := hR
  have up : ∀ {x : Rat}, Sz 900 x → Sz 4000 x := fun h => h.mono (by decide)
  unfold t_weakened
  (ac_rfl; (try dsimp only [R_times, valA]); ac_rfl)
  exact ix_tup rfl ⟨_, _, rfl, rfl, up hm, up v1, ix_tup rfl ⟨_, _, rfl, rfl, up hm, up v2, szL (by simp), sub_i q⟩⟩
theorem kind_int {h : AH} {x : A} {k : String} (e : kindA h x = some k) (b : kindIs k "int" = true) : (∃ i, x = .int i) ∨ (∃ b, x = .bl b) := by
  cases x with
  | int i => exact .inl ⟨i, rfl⟩
  | bl b => exact .inr ⟨b, rfl⟩
  | ref p =>
    simp only [kindA] at e
    cases q : h p with
    | none => rw [q] at e; cases e
    | some o => rw [q] at e; cases o <;> first | (cases e; done) | (cases e; simp [kindIs] at b)
  | ty n => cases e
  | _ => cases e; simp [kindIs] at b
/-- the test of a sixteenth, as an expression -/
theorem sixteenth_read {K : Frg} {α : ASt} {h : AH} {x : A} {k : String} {Q : AVK} {E : AXK} {i : Nat} (hα : α[i]? = some (some x)) (e : kindA h x = some k) (q : Q (.bl (goodB x)) h) :
    (aAndV (aN (isiA K) (aCons (aVar i) (aCons (aC (.ty "int")) aNil))) (aAndV (aNotV (aN (isiA K) (aCons (aVar i) (aCons (aC (.ty "bool")) aNil)))) (aChn leA leA (aC (.int 0)) (aVar i) (aC (.int 16))))) α h Q E := by
  ac_rfl
  simp only [hα]
  refine isi_kind e ?_
  dsimp only
  by_cases hb : kindIs k "int" = true
  · rw [if_pos hb]
    refine isi_kind e ?_
    rcases kind_int e hb with ⟨i, rfl⟩ | ⟨b, rfl⟩
    · cases e
      dsimp only
      rw [if_pos (by decide)]
      have q : Q (.bl (decide (0 ≤ i ∧ i ≤ 16))) h := q
      by_cases h0 : 0 ≤ i
      · rw [if_pos (decide_eq_true h0)]
        have e : decide (0 ≤ i ∧ i ≤ 16) = decide (i ≤ 16) := by simp [h0]
        rw [e] at q
        exact q
      · rw [if_neg (by rw [decide_eq_false h0]; exact Bool.false_ne_true)]
        have e : decide (0 ≤ i ∧ i ≤ 16) = false := by simp [h0]
        rw [e] at q
        exact q
    · cases e
      exact q
  · rw [if_neg hb]
    have e2 : goodB x = false := by
      cases x with
      | int i => cases e; exact absurd rfl hb
      | _ => rfl
    rw [e2] at q
    exact q
theorem rd_is_sixteenth {K : Frg} (T : TK K) {x0 : A} {h : AH} {Q : AVK} {E : AXK} (hR : R_is_sixteenth K x0 h Q E) : t_is_sixteenth K { nx := fun _ h' => sub Q .non h', rt := sub Q, ex := fun c _ h' => subE E c h' } [some x0] h := by
  obtain ⟨⟨k, e⟩, q⟩ := hR
  unfold t_is_sixteenth
  exact sixteenth_read (i := 0) rfl e (sub_i q)
theorem good_int {x : A} (h : goodB x = true) : ∃ i : Int, x = .int i ∧ 0 ≤ i ∧ i ≤ 16 := by
  cases x with
  | int i =>
    unfold goodB at h
    have := of_decide_eq_true h
    exact ⟨i, rfl, this.1, this.2⟩
  | _ => cases h
theorem rd_adjusted {K : Frg} (T : TK K) {x0 x1 : A} {h : AH} {Q : AVK} {E : AXK} (hR : R_adjusted K x0 x1 h Q E) : t_adjusted K { nx := fun _ h' => sub Q .non h', rt := sub Q, ex := fun c _ h' => subE E c h' } [some x0, some x1] h := by
  unfold t_adjusted
  rcases hR with ⟨g, l, rfl, rfl, g1, l1, s, q⟩ | ⟨⟨k1, e1⟩, ⟨k2, e2⟩, bad, q⟩
  · (ac_rfl; (try dsimp only [R_is_sixteenth, R_made]); ac_rfl)
    refine ⟨⟨_, rfl⟩, ?_⟩
    have b1 : goodB (.int g) = true := decide_eq_true g1
    have b2 : goodB (.int l) = true := decide_eq_true l1
    rw [b1]
    refine ifF ⟨⟨_, rfl⟩, ?_⟩
    rw [b2]
    refine ifF ?_
    refine ifd (fun c => by omega) fun _ => ?_
    exact ⟨g, 16, rfl, rfl, fun z => absurd z (by decide), fun _ => ⟨by decide, l, 16, rfl, rfl, fun z => absurd z (by decide), fun _ => ⟨by decide, szL (by simp), sub_i q⟩⟩⟩
  · (ac_rfl; (try dsimp only [R_is_sixteenth]); ac_rfl)
    refine ⟨⟨_, e1⟩, ?_⟩
    cases b1 : goodB x0 with
    | false => exact ifT (subE_i q)
    | true =>
      refine ifF ⟨⟨_, e2⟩, ?_⟩
      cases b2 : goodB x1 with
      | false => exact ifT (subE_i q)
      | true =>
        obtain ⟨g, l, rfl, rfl, s⟩ := bad b1 b2
        refine ifF ?_
        ac_rfl
        exact ifd (fun _ => subE_i q) fun c => absurd s c
theorem rd_Over_word {K : Frg} (T : TK K) {x0 : A} {h : AH} {Q : AVK} {E : AXK} (hR : R_Over_word K x0 h Q E) : t_Over_word K { nx := fun _ h' => sub Q .non h', rt := sub Q, ex := fun c _ h' => subE E c h' } [some x0] h := by
  unfold t_Over_word
  exact sub_i hR
theorem rd_Under_word {K : Frg} (T : TK K) {x0 : A} {h : AH} {Q : AVK} {E : AXK} (hR : R_Under_word K x0 h Q E) : t_Under_word K { nx := fun _ h' => sub Q .non h', rt := sub Q, ex := fun c _ h' => subE E c h' } [some x0] h := by
  unfold t_Under_word
  exact sub_i hR
theorem rd_Screen_word {K : Frg} (T : TK K) {x0 : A} {h : AH} {Q : AVK} {E : AXK} (hR : R_Screen_word K x0 h Q E) : t_Screen_word K { nx := fun _ h' => sub Q .non h', rt := sub Q, ex := fun c _ h' => subE E c h' } [some x0] h := by
  unfold t_Screen_word
  exact sub_i hR
theorem rd_Times_word {K : Frg} (T : TK K) {x0 : A} {h : AH} {Q : AVK} {E : AXK} (hR : R_Times_word K x0 h Q E) : t_Times_word K { nx := fun _ h' => sub Q .non h', rt := sub Q, ex := fun c _ h' => subE E c h' } [some x0] h := by
  unfold t_Times_word
  exact sub_i hR
theorem rd_Atop_word {K : Frg} (T : TK K) {x0 : A} {h : AH} {Q : AVK} {E : AXK} (hR : R_Atop_word K x0 h Q E) : t_Atop_word K { nx := fun _ h' => sub Q .non h', rt := sub Q, ex := fun c _ h' => subE E c h' } [some x0] h := by
  unfold t_Atop_word
  exact sub_i hR
theorem rd_Over_rule {K : Frg} (T : TK K) {x0 x1 : A} {h : AH} {Q : AVK} {E : AXK} (hR : R_Over_rule K x0 x1 h Q E) : t_Over_rule K { nx := fun _ h' => sub Q .non h', rt := sub Q, ex := fun c _ h' => subE E c h' } [some x0, some x1, none] h := by
  obtain ⟨v, rfl, ⟨v1, v2⟩, q⟩ := hR
  unfold t_Over_rule
  (ac_rfl; (try dsimp only [R_minus, valA]); ac_rfl)
  exact ix_tup rfl ⟨1, _, rfl, rfl, sz1 (by decide), v2.mono (by decide), ix_tup rfl (ix_tup rfl ⟨szL (by simp), sub_i q⟩)⟩
theorem rd_Under_rule {K : Frg} (T : TK K) {x0 x1 : A} {h : AH} {Q : AVK} {E : AXK} (hR : R_Under_rule K x0 x1 h Q E) : t_Under_rule K { nx := fun _ h' => sub Q .non h', rt := sub Q, ex := fun c _ h' => subE E c h' } [some x0, some x1] h := by
  obtain ⟨v, rfl, ⟨v1, v2⟩, q⟩ := hR
  unfold t_Under_rule
  (ac_rfl; (try dsimp only [R_minus, valA]); ac_rfl)
  exact ix_tup rfl ⟨0, _, rfl, rfl, sz0 (by decide), v1.mono (by decide), ix_tup rfl (ix_tup rfl ⟨1, _, rfl, rfl, sz1 (by decide), v2.mono (by decide), ix_tup rfl ⟨szL (by simp), sub_i q⟩⟩)⟩
theorem rd_Screen_rule {K : Frg} (T : TK K) {x0 x1 : A} {h : AH} {Q : AVK} {E : AXK} (hR : R_Screen_rule K x0 x1 h Q E) : t_Screen_rule K { nx := fun _ h' => sub Q .non h', rt := sub Q, ex := fun c _ h' => subE E c h' } [some x0, some x1] h := by
  obtain ⟨v, rfl, ⟨v1, v2⟩, q⟩ := hR
  unfold t_Screen_rule
  (ac_rfl; (try dsimp only [R_minus, valA]); ac_rfl)
  exact ix_tup rfl ⟨1, _, rfl, rfl, sz1 (by decide), v1.mono (by decide), ix_tup rfl (ix_tup rfl ⟨1, _, rfl, rfl, sz1 (by decide), v2.mono (by decide), ix_tup rfl ⟨szL (by simp), sub_i q⟩⟩)⟩
theorem rd_Times_rule {K : Frg} (T : TK K) {x0 x1 : A} {h : AH} {Q : AVK} {E : AXK} (hR : R_Times_rule K x0 x1 h Q E) : t_Times_rule K { nx := fun _ h' => sub Q .non h', rt := sub Q, ex := fun c _ h' => subE E c h' } [some x0, some x1, none] h := by
  obtain ⟨v, rfl, ⟨v1, v2⟩, q⟩ := hR
  unfold t_Times_rule
  (ac_rfl; (try dsimp only [R_minus, R_plus, valA]); ac_rfl)
  refine ix_tup rfl ⟨1, _, rfl, rfl, sz1 (by decide), v2.mono (by decide), ix_tup rfl ⟨_, _, rfl, rfl, ((sz1 (n := 1) (by decide)).sub v2).mono (by decide), v1.mono (by decide), ?_⟩⟩
  exact ix_tup rfl ⟨0, _, rfl, rfl, sz0 (by decide), v1.mono (by decide), ix_tup rfl (ix_tup rfl ⟨szL (by simp), sub_i q⟩)⟩
theorem rd_Atop_rule {K : Frg} (T : TK K) {x0 x1 : A} {h : AH} {Q : AVK} {E : AXK} (hR : R_Atop_rule K x0 x1 h Q E) : t_Atop_rule K { nx := fun _ h' => sub Q .non h', rt := sub Q, ex := fun c _ h' => subE E c h' } [some x0, some x1] h := by
  obtain ⟨v, rfl, ⟨v1, v2⟩, q⟩ := hR
  unfold t_Atop_rule
  (ac_rfl; (try dsimp only [R_minus, valA]); ac_rfl)
  exact ix_tup rfl ⟨1, _, rfl, rfl, sz1 (by decide), v2.mono (by decide), ix_tup rfl ⟨szL (by simp), sub_i q⟩⟩

end GL
namespace GL
open PySem PySem.Spec L2 G
local macro_rules | `(tactic| ac_rfl) => `(tactic| try dsimp only [nb, aRet, aRetN, aSeq, aIfS, aNext, aBreak, aCont, aDrop, aAsg, aPar, aAug, aSetL, aSetF, aFld, aVar, aC, aNil, aCons, aTup, aLst, a1, a2, aN, aAndV, aOrV, aNotV, aIf, aAnd, aOr, aNot, aTest, aChn, aCall, aMeth, aMake, aBmL, aRaise, aTryOnly, aTryAs, aFor, aiSeq, aiRng1, aiRng2, aiEnum, agN, agNil, agCons, agTup, aSlL, aRev, aNoPart, aPart, aNewK, aNewT, aLc, aWhile, asB, asT, iA, iA0, subA, modA, modP, divP, divA, powA, ltA, leA, gtA, geA, addA, mulA, negA, lenA, absA, intA, allA, listA, tupleA, one, two, sp0, sp1, sp2, sp3, sp4, sp5, sp6, appendA, reverseA, clearA, wipeA, putFA, aFz, aLstF, aSlF, aRevF, aAddF, addF_i, addF_s, addF_t, addF_l, aRepF, aListF, aMakeP, aDyn, aClsFn, sumA, maxL, insertA, popAtA, aDGet, aDPut, aDAug, aFAug, aBmD, maxA, minA, List.getElem?_cons_zero, List.getElem?_cons_succ, List.set_cons_zero, List.set_cons_succ, List.cons_append, List.nil_append, List.append_nil])
local macro_rules | `(tactic| nofun) => `(tactic| try dsimp only [nb, aRet, aRetN, aNext, aBreak, aCont, aDrop, aAsg, aPar, aAug, aSetL, aSetF, aFld, aVar, aC, aNil, aCons, aTup, aLst, a1, a2, aN, aAndV, aOrV, aNotV, aIf, aAnd, aOr, aNot, aTest, aChn, aCall, aMeth, aMake, aBmL, aRaise, aTryOnly, aTryAs, aiSeq, aiRng1, aiRng2, aiEnum, agN, agNil, agCons, agTup, aSlL, aRev, aNoPart, aPart, aNewK, aNewT, aLc, asB, asT, iA, iA0, subA, modA, modP, divP, divA, powA, ltA, leA, gtA, geA, addA, mulA, negA, lenA, absA, intA, allA, listA, tupleA, one, two, sp0, sp1, sp2, sp3, sp4, sp5, sp6, appendA, reverseA, clearA, wipeA, putFA, aFz, aLstF, aSlF, aRevF, aAddF, addF_i, addF_s, addF_t, addF_l, aRepF, aListF, aMakeP, aDyn, aClsFn, sumA, maxL, insertA, popAtA, aDGet, aDPut, aDAug, aFAug, aBmD, maxA, minA, List.getElem?_cons_zero, List.getElem?_cons_succ, List.set_cons_zero, List.set_cons_succ, List.cons_append, List.nil_append, List.append_nil])
abbrev sp_manner_of (K : Frg) : ASp := sp1 (R_manner_of K)
def t_manner_of (K : Frg) : ATS := (aSeq (aFor (aiSeq (aLstF (aCons (aMakeP (c_Over K)) (aCons (aMakeP (c_Under K)) (aCons (aMakeP (c_Screen K)) (aCons (aMakeP (c_Times K)) (aCons (aMakeP (c_Atop K)) aNil))))))) (agN 1)
  (aIfS (aTest (a2 (eqA false) (aDyn [(c_Over K, sp_Over_word K), (c_Under K, sp_Under_word K), (c_Screen K, sp_Screen_word K), (c_Times K, sp_Times_word K), (c_Atop K, sp_Atop_word K)] "word" (aVar 1) aNil) (aVar 0)))
  (aRet (aVar 1))
  aNext))
  (aRaise (c_NoManner K)))

theorem ext_upd {h h' : AH} {p : Addr} {o : AO} (e : Ext h h') (z : h' p = some o) : Ext (updA h p o) h' := fun a u q => by
  by_cases c : a = p
  · subst c; rw [updA_same] at q; cases q; exact z
  · rw [updA_ne c] at q; exact e a u q
def manI : Man → Nat
  | .over => 0
  | .under => 1
  | .screen => 2
  | .times => 3
  | .atop => 4
theorem rd_manner_of {K : Frg} (T : TK K) {x0 : A} {h : AH} {Q : AVK} {E : AXK} (hR : R_manner_of K x0 h Q E) : t_manner_of K { nx := fun _ h' => sub Q .non h', rt := sub Q, ex := fun c _ h' => subE E c h' } [some x0, none] h := by
  unfold t_manner_of
  ac_rfl
  intro p1 n1 p2 n2 p3 n3 p4 n4 p5 n5
  have e1 := Ext.new (o := .ins (c_Over K) []) n1
  have e2 := Ext.new (o := .ins (c_Under K) []) n2
  have e3 := Ext.new (o := .ins (c_Screen K) []) n3
  have e4 := Ext.new (o := .ins (c_Times K) []) n4
  have e5 := Ext.new (o := .ins (c_Atop K) []) n5
  have a1 := (((e2.trans e3).trans e4).trans e5) _ _ (updA_same (h := h) (a := p1) (o := .ins (c_Over K) []))
  have a2 := ((e3.trans e4).trans e5) _ _ (updA_same (a := p2) (o := .ins (c_Under K) []))
  have a3 := (e4.trans e5) _ _ (updA_same (a := p3) (o := .ins (c_Screen K) []))
  have a4 := e5 _ _ (updA_same (a := p4) (o := .ins (c_Times K) []))
  have a5 := updA_same (h := updA (updA (updA (updA h p1 (.ins (c_Over K) [])) p2 (.ins (c_Under K) [])) p3 (.ins (c_Screen K) [])) p4 (.ins (c_Times K) [])) (a := p5) (o := .ins (c_Atop K) [])
  have ee := (((e1.trans e2).trans e3).trans e4).trans e5
  have m2 := e1.isN n2
  have m3 := (e1.trans e2).isN n3
  have m4 := ((e1.trans e2).trans e3).isN n4
  have m5 := (((e1.trans e2).trans e3).trans e4).isN n5
  generalize updA (updA (updA (updA (updA h p1 (.ins (c_Over K) [])) p2 (.ins (c_Under K) [])) p3 (.ins (c_Screen K) [])) p4 (.ins (c_Times K) [])) p5 (.ins (c_Atop K) []) = h5 at *
  clear e1 e2 e3 e4 e5
  rcases hR with ⟨m, rfl, q⟩ | ⟨⟨pu, bad⟩, q⟩
  case inr =>
    refine ⟨szL (by simp), forF (xs := [.ref p1, .ref p2, .ref p3, .ref p4, .ref p5]) (fun i α h' => h' = h5 ∧ (∃ x, α = [some x0, x])) rfl ⟨rfl, _, rfl⟩ (fun _ z => nomatch z) (fun i hi α h' pv => ?_) fun α h' pv => ?_⟩
    · obtain ⟨rfl, x, rfl⟩ := pv
      have hi5 : i < 5 := hi
      have no : ∀ (o : Man) (C : A → AH → Prop), C (.bl false) h' → eqA false (.str (manW o)) x0 h' C := fun o C c => eqA_pu (n := 5) (.str (by cases o <;> decide +kernel)) pu (by rw [bad o]; exact c)
      have : i = 0 ∨ i = 1 ∨ i = 2 ∨ i = 3 ∨ i = 4 := by omega
      rcases this with rfl | rfl | rfl | rfl | rfl
      · (ac_rfl; (try dsimp only [R_Over_word]); ac_rfl)
        refine ⟨_, [], a1, rfl, _, List.mem_cons_self, ?_⟩
        (ac_rfl; (try dsimp only [sp_Over_word, sp1, R_Over_word]); ac_rfl)
        refine no .over _ ?_
        exact ifF ⟨rfl, _, rfl⟩
      · (ac_rfl; (try dsimp only [R_Under_word]); ac_rfl)
        refine ⟨_, [], a2, rfl, _, List.mem_cons_of_mem _ List.mem_cons_self, ?_⟩
        (ac_rfl; (try dsimp only [sp_Under_word, sp1, R_Under_word]); ac_rfl)
        refine no .under _ ?_
        exact ifF ⟨rfl, _, rfl⟩
      · (ac_rfl; (try dsimp only [R_Screen_word]); ac_rfl)
        refine ⟨_, [], a3, rfl, _, List.mem_cons_of_mem _ (List.mem_cons_of_mem _ List.mem_cons_self), ?_⟩
        (ac_rfl; (try dsimp only [sp_Screen_word, sp1, R_Screen_word]); ac_rfl)
        refine no .screen _ ?_
        exact ifF ⟨rfl, _, rfl⟩
      · (ac_rfl; (try dsimp only [R_Times_word]); ac_rfl)
        refine ⟨_, [], a4, rfl, _, List.mem_cons_of_mem _ (List.mem_cons_of_mem _ (List.mem_cons_of_mem _ List.mem_cons_self)), ?_⟩
        (ac_rfl; (try dsimp only [sp_Times_word, sp1, R_Times_word]); ac_rfl)
        refine no .times _ ?_
        exact ifF ⟨rfl, _, rfl⟩
      · (ac_rfl; (try dsimp only [R_Atop_word]); ac_rfl)
        refine ⟨_, [], a5, rfl, _, List.mem_cons_of_mem _ (List.mem_cons_of_mem _ (List.mem_cons_of_mem _ (List.mem_cons_of_mem _ List.mem_cons_self))), ?_⟩
        (ac_rfl; (try dsimp only [sp_Atop_word, sp1, R_Atop_word]); ac_rfl)
        refine no .atop _ ?_
        exact ifF ⟨rfl, _, rfl⟩
    · obtain ⟨rfl, x, rfl⟩ := pv
      ac_rfl
      exact ⟨h, ee, q⟩
  refine ⟨szL (by simp), forF (xs := [.ref p1, .ref p2, .ref p3, .ref p4, .ref p5]) (fun i α h' => h' = h5 ∧ (∃ x, α = [some (.str (manW m)), x]) ∧ i ≤ manI m) rfl ⟨rfl, ⟨_, rfl⟩, Nat.zero_le _⟩ (fun _ z => nomatch z) (fun i hi α h' pv => ?_) fun α h' pv => ?_⟩
  · obtain ⟨rfl, ⟨x, rfl⟩, hm⟩ := pv
    have hi5 : i < 5 := hi
    have fin : ∀ (p : Addr) (o : Man), h p = none → h' p = some (.ins (manC K o) []) → m = o → sub Q (.ref p) h' := fun p o n a e => by
      subst e
      exact ⟨_, ext_upd ee a, q p n⟩
    have : i = 0 ∨ i = 1 ∨ i = 2 ∨ i = 3 ∨ i = 4 := by omega
    rcases this with rfl | rfl | rfl | rfl | rfl
    · (ac_rfl; (try dsimp only [R_Over_word, eqA]); ac_rfl)
      refine ⟨_, [], a1, rfl, _, List.mem_cons_self, ?_⟩
      refine ifd (fun c => fin p1 .over n1 a1 ?_) fun c => ⟨rfl, ⟨_, rfl⟩, ?_⟩
      · cases m <;> first | rfl | exact absurd c (by decide)
      · cases m <;> first | exact absurd rfl c | decide
    · (ac_rfl; (try dsimp only [R_Under_word, eqA]); ac_rfl)
      refine ⟨_, [], a2, rfl, _, List.mem_cons_of_mem _ List.mem_cons_self, ?_⟩
      refine ifd (fun c => fin p2 .under m2 a2 ?_) fun c => ⟨rfl, ⟨_, rfl⟩, ?_⟩
      · cases m <;> first | rfl | exact absurd c (by decide)
      · cases m <;> first | exact absurd rfl c | (exact absurd hm (by decide)) | decide
    · (ac_rfl; (try dsimp only [R_Screen_word, eqA]); ac_rfl)
      refine ⟨_, [], a3, rfl, _, List.mem_cons_of_mem _ (List.mem_cons_of_mem _ List.mem_cons_self), ?_⟩
      refine ifd (fun c => fin p3 .screen m3 a3 ?_) fun c => ⟨rfl, ⟨_, rfl⟩, ?_⟩
      · cases m <;> first | rfl | exact absurd c (by decide)
      · cases m <;> first | exact absurd rfl c | (exact absurd hm (by decide)) | decide
    · (ac_rfl; (try dsimp only [R_Times_word, eqA]); ac_rfl)
      refine ⟨_, [], a4, rfl, _, List.mem_cons_of_mem _ (List.mem_cons_of_mem _ (List.mem_cons_of_mem _ List.mem_cons_self)), ?_⟩
      refine ifd (fun c => fin p4 .times m4 a4 ?_) fun c => ⟨rfl, ⟨_, rfl⟩, ?_⟩
      · cases m <;> first | rfl | exact absurd c (by decide)
      · cases m <;> first | exact absurd rfl c | (exact absurd hm (by decide)) | decide
    · (ac_rfl; (try dsimp only [R_Atop_word, eqA]); ac_rfl)
      refine ⟨_, [], a5, rfl, _, List.mem_cons_of_mem _ (List.mem_cons_of_mem _ (List.mem_cons_of_mem _ (List.mem_cons_of_mem _ List.mem_cons_self))), ?_⟩
      refine ifd (fun c => fin p5 .atop m5 a5 ?_) fun c => ⟨rfl, ⟨_, rfl⟩, ?_⟩
      · cases m <;> first | rfl | exact absurd c (by decide)
      · cases m <;> first | exact absurd rfl c | (exact absurd hm (by decide)) | decide
  · obtain ⟨rfl, ⟨x, rfl⟩, hm⟩ := pv
    have hm : 5 ≤ manI m := hm
    cases m <;> exact absurd hm (by decide)

end GL
namespace GL
open PySem PySem.Spec L2 G
local macro_rules | `(tactic| ac_rfl) => `(tactic| try dsimp only [nb, aRet, aRetN, aSeq, aIfS, aNext, aBreak, aCont, aDrop, aAsg, aPar, aAug, aSetL, aSetF, aFld, aVar, aC, aNil, aCons, aTup, aLst, a1, a2, aN, aAndV, aOrV, aNotV, aIf, aAnd, aOr, aNot, aTest, aChn, aCall, aMeth, aMake, aBmL, aRaise, aTryOnly, aTryAs, aFor, aiSeq, aiRng1, aiRng2, aiEnum, agN, agNil, agCons, agTup, aSlL, aRev, aNoPart, aPart, aNewK, aNewT, aLc, aWhile, asB, asT, iA, iA0, subA, modA, modP, divP, divA, powA, ltA, leA, gtA, geA, addA, mulA, negA, lenA, absA, intA, allA, listA, tupleA, one, two, sp0, sp1, sp2, sp3, sp4, sp5, sp6, appendA, reverseA, clearA, wipeA, putFA, aFz, aLstF, aSlF, aRevF, aAddF, addF_i, addF_s, addF_t, addF_l, aRepF, aListF, aMakeP, aDyn, aClsFn, sumA, maxL, insertA, popAtA, aDGet, aDPut, aDAug, aFAug, aBmD, maxA, minA, List.getElem?_cons_zero, List.getElem?_cons_succ, List.set_cons_zero, List.set_cons_succ, List.cons_append, List.nil_append, List.append_nil])
local macro_rules | `(tactic| nofun) => `(tactic| try dsimp only [nb, aRet, aRetN, aNext, aBreak, aCont, aDrop, aAsg, aPar, aAug, aSetL, aSetF, aFld, aVar, aC, aNil, aCons, aTup, aLst, a1, a2, aN, aAndV, aOrV, aNotV, aIf, aAnd, aOr, aNot, aTest, aChn, aCall, aMeth, aMake, aBmL, aRaise, aTryOnly, aTryAs, aiSeq, aiRng1, aiRng2, aiEnum, agN, agNil, agCons, agTup, aSlL, aRev, aNoPart, aPart, aNewK, aNewT, aLc, asB, asT, iA, iA0, subA, modA, modP, divP, divA, powA, ltA, leA, gtA, geA, addA, mulA, negA, lenA, absA, intA, allA, listA, tupleA, one, two, sp0, sp1, sp2, sp3, sp4, sp5, sp6, appendA, reverseA, clearA, wipeA, putFA, aFz, aLstF, aSlF, aRevF, aAddF, addF_i, addF_s, addF_t, addF_l, aRepF, aListF, aMakeP, aDyn, aClsFn, sumA, maxL, insertA, popAtA, aDGet, aDPut, aDAug, aFAug, aBmD, maxA, minA, List.getElem?_cons_zero, List.getElem?_cons_succ, List.set_cons_zero, List.set_cons_succ, List.cons_append, List.nil_append, List.append_nil])
def R_less (_ : Frg) : Sp2 := fun x y h Q _ => ∃ p q : Rat, x = fr p ∧ y = fr q ∧ Sz 4000 p ∧ Sz 4000 q ∧ Q (.bl (decide (p < q))) h
def R_shade (K : Frg) : Sp2 := fun x y h Q E => (∃ c t : Int, x = .int c ∧ y = .int t ∧ 0 ≤ c ∧ c ≤ t ∧ t ≤ 16 ∧ Q (valA (Rat.divInt c 16, Rat.divInt t 16)) h) ∨ ((∃ k, kindA h x = some k) ∧ (∃ k, kindA h y = some k) ∧ (goodB x = true → goodB y = true → ∃ c t : Int, x = .int c ∧ y = .int t ∧ t < c) ∧ E (.ref (c_NoShade K)) h)
def isSh (v : Rat × Rat) : Bool := !decide (v.1 < 0) && (!decide (v.2 < v.1) && !decide (1 < v.2))
def R_is_shade (_ : Frg) : Sp1 := fun x h Q _ => ∃ v, x = valA v ∧ VSz 2000 v ∧ Q (.bl (isSh v)) h
def grndL : List (Rat × Rat) := [(0, 0), (0, 1), (1, 1)]
def R_grounds (_ : Frg) : Sp0 := fun h Q _ => ∀ p, h p = none → Q (.ref p) (updA h p (.lst (grndL.map valA)))
def optV : Option (Rat × Rat) → A
  | none => .non
  | some v => valA v
def partO (r s : Rul) : Option (Rat × Rat) := grndL.find? fun g => !decide (laidR r g = laidR s g)
def stayB (r : Rul) : Bool := grndL.all fun g => isSh (laidR r g)
def optSh (v : Rat × Rat) : Option (Rat × Rat) := if isSh v then some v else none
def fndV (m : Man) (r : Rul) : Rat × Rat := match m with
  | .atop => (r.p, 1 - r.g)
  | _ => (r.a, r.b)
def R_parted (_ : Frg) : Sp2 := fun x y h Q _ => ∃ r s, x = rulA r ∧ y = rulA s ∧ RSz 390 r ∧ RSz 390 s ∧ Q (optV (partO r s)) h
def R_stays (_ : Frg) : Sp1 := fun x h Q _ => ∃ r, x = rulA r ∧ RSz 390 r ∧ Q (.bl (stayB r)) h
def R_shade_or_none (_ : Frg) : Sp2 := fun x y h Q _ => ∃ c t, x = fr c ∧ y = fr t ∧ VSz 2000 (c, t) ∧ Q (optV (optSh (c, t))) h
def R_Manner_found (_ : Frg) : Sp2 := fun _ y h Q _ => ∃ r, y = rulA r ∧ RSz 900 r ∧ Q (optV (optSh (r.a, r.b))) h
def R_Atop_found (_ : Frg) : Sp2 := fun _ y h Q _ => ∃ r, y = rulA r ∧ RSz 900 r ∧ Q (optV (optSh (r.p, 1 - r.g))) h
abbrev sp_less (K : Frg) : ASp := sp2 (R_less K)
abbrev sp_shade (K : Frg) : ASp := sp2 (R_shade K)
abbrev sp_is_shade (K : Frg) : ASp := sp1 (R_is_shade K)
abbrev sp_grounds (K : Frg) : ASp := sp0 (R_grounds K)
abbrev sp_parted (K : Frg) : ASp := sp2 (R_parted K)
abbrev sp_stays (K : Frg) : ASp := sp1 (R_stays K)
abbrev sp_shade_or_none (K : Frg) : ASp := sp2 (R_shade_or_none K)
abbrev sp_Manner_found (K : Frg) : ASp := sp2 (R_Manner_found K)
abbrev sp_Atop_found (K : Frg) : ASp := sp2 (R_Atop_found K)
def t_less (K : Frg) : ATS := (aRet (a2 ltA (a2 mulA (a2 ixA (aVar 0) (aC (.int 0))) (a2 ixA (aVar 1) (aC (.int 1)))) (a2 mulA (a2 ixA (aVar 1) (aC (.int 0))) (a2 ixA (aVar 0) (aC (.int 1))))))
def t_shade (K : Frg) : ATS := (aSeq (aIfS (aOr (aNot (aTest (aCall (sp_is_sixteenth K) [] (aCons (aVar 0) aNil)))) (aOr (aNot (aTest (aCall (sp_is_sixteenth K) [] (aCons (aVar 1) aNil)))) (aTest (a2 gtA (aVar 0) (aVar 1)))))
  (aRaise (c_NoShade K))
  aNext)
  (aRet (aTup (aCons (aCall (sp_made K) [] (aCons (aVar 0) (aCons (aC (.int 16)) aNil))) (aCons (aCall (sp_made K) [] (aCons (aVar 1) (aCons (aC (.int 16)) aNil))) aNil)))))
def t_is_shade (K : Frg) : ATS := (aSeq (aAsg (aVar 0) (agTup 2 (agCons (agN 1) (agCons (agN 2) agNil))))
  (aRet (aAndV (aNotV (aCall (sp_less K) [] (aCons (aVar 1) (aCons (aTup (aCons (aC (.int 0)) (aCons (aC (.int 1)) aNil))) aNil)))) (aAndV (aNotV (aCall (sp_less K) [] (aCons (aVar 2) (aCons (aVar 1) aNil)))) (aNotV (aCall (sp_less K) [] (aCons (aTup (aCons (aC (.int 1)) (aCons (aC (.int 1)) aNil))) (aCons (aVar 2) aNil))))))))
def t_grounds (K : Frg) : ATS := (aRet (aLst (aCons (aTup (aCons (aC v_ZERO) (aCons (aC v_ZERO) aNil))) (aCons (aTup (aCons (aC v_ZERO) (aCons (aC v_ONE) aNil))) (aCons (aTup (aCons (aC v_ONE) (aCons (aC v_ONE) aNil))) aNil)))))
def t_parted (K : Frg) : ATS := (aSeq (aFor (aiSeq (aCall (sp_grounds K) [] aNil)) (agN 2)
  (aIfS (aTest (a2 (eqA true) (aCall (sp_laid K) [] (aCons (aVar 0) (aCons (aVar 2) aNil))) (aCall (sp_laid K) [] (aCons (aVar 1) (aCons (aVar 2) aNil)))))
  (aRet (aVar 2))
  aNext))
  (aRet (aC .non)))
def t_stays (K : Frg) : ATS := (aRet (aN allA (aCons (aFz (aLc (aiSeq (aCall (sp_grounds K) [] aNil)) (agN 1) aYes (aCall (sp_is_shade K) [] (aCons (aCall (sp_laid K) [] (aCons (aVar 0) (aCons (aVar 1) aNil))) aNil)) [1])) aNil)))
def t_shade_or_none (K : Frg) : ATS := (aSeq (aIfS (aTest (aCall (sp_is_shade K) [] (aCons (aTup (aCons (aVar 0) (aCons (aVar 1) aNil))) aNil)))
  (aRet (aTup (aCons (aVar 0) (aCons (aVar 1) aNil))))
  aNext)
  (aRet (aC .non)))
def t_Manner_found (K : Frg) : ATS := (aRet (aCall (sp_shade_or_none K) [] (aCons (a2 ixA (aVar 1) (aC (.int 2))) (aCons (a2 ixA (aVar 1) (aC (.int 4))) aNil))))
def t_Atop_found (K : Frg) : ATS := (aRet (aCall (sp_shade_or_none K) [] (aCons (a2 ixA (aVar 1) (aC (.int 1))) (aCons (aCall (sp_minus K) [] (aCons (aC v_ONE) (aCons (a2 ixA (aVar 1) (aC (.int 0))) aNil))) aNil))))

theorem rd_less {K : Frg} (T : TK K) {x0 x1 : A} {h : AH} {Q : AVK} {E : AXK} (hR : R_less K x0 x1 h Q E) : t_less K { nx := fun _ h' => sub Q .non h', rt := sub Q, ex := fun c _ h' => subE E c h' } [some x0, some x1] h := by
  obtain ⟨p, q, rfl, rfl, hp, hq, k⟩ := hR
  unfold t_less
  (ac_rfl; (try dsimp only [fr]); ac_rfl)
  have hpd : ((p.den : Int)).natAbs < 2 ^ 4000 := by simpa using hp.2
  have hqd : ((q.den : Int)).natAbs < 2 ^ 4000 := by simpa using hq.2
  refine ix_tup rfl (ix_tup rfl ⟨mul_bits hp.1 hqd (by decide), ix_tup rfl (ix_tup rfl ⟨mul_bits hq.1 hpd (by decide), ?_⟩)⟩)
  have e : decide (p < q) = decide (p.num * q.den < q.num * p.den) := decide_eq_decide.mpr (Rat.lt_iff p q)
  rw [e] at k
  exact sub_i k
theorem rd_shade {K : Frg} (T : TK K) {x0 x1 : A} {h : AH} {Q : AVK} {E : AXK} (hR : R_shade K x0 x1 h Q E) : t_shade K { nx := fun _ h' => sub Q .non h', rt := sub Q, ex := fun c _ h' => subE E c h' } [some x0, some x1] h := by
  unfold t_shade
  rcases hR with ⟨g, l, rfl, rfl, g0, gl, l1, q⟩ | ⟨⟨k1, e1⟩, ⟨k2, e2⟩, bad, q⟩
  · (ac_rfl; (try dsimp only [R_is_sixteenth, R_made]); ac_rfl)
    refine ⟨⟨_, rfl⟩, ?_⟩
    have b1 : goodB (.int g) = true := decide_eq_true ⟨g0, by omega⟩
    have b2 : goodB (.int l) = true := decide_eq_true ⟨by omega, l1⟩
    rw [b1]
    refine ifF ⟨⟨_, rfl⟩, ?_⟩
    rw [b2]
    refine ifF ?_
    refine ifd (fun c => by omega) fun _ => ?_
    exact ⟨g, 16, rfl, rfl, fun z => absurd z (by decide), fun _ => ⟨by decide, l, 16, rfl, rfl, fun z => absurd z (by decide), fun _ => ⟨by decide, szL (by simp), sub_i q⟩⟩⟩
  · (ac_rfl; (try dsimp only [R_is_sixteenth]); ac_rfl)
    refine ⟨⟨_, e1⟩, ?_⟩
    cases b1 : goodB x0 with
    | false => exact ifT (subE_i q)
    | true =>
      refine ifF ⟨⟨_, e2⟩, ?_⟩
      cases b2 : goodB x1 with
      | false => exact ifT (subE_i q)
      | true =>
        obtain ⟨g, l, rfl, rfl, s⟩ := bad b1 b2
        refine ifF ?_
        ac_rfl
        exact ifd (fun _ => subE_i q) fun c => absurd s c
theorem rd_is_shade {K : Frg} (T : TK K) {x0 : A} {h : AH} {Q : AVK} {E : AXK} (hR : R_is_shade K x0 h Q E) : t_is_shade K { nx := fun _ h' => sub Q .non h', rt := sub Q, ex := fun c _ h' => subE E c h' } [some x0, none, none] h := by
  obtain ⟨v, rfl, ⟨v1, v2⟩, q⟩ := hR
  have up : ∀ {x : Rat}, Sz 2000 x → Sz 4000 x := fun h => h.mono (by decide)
  unfold t_is_shade
  (ac_rfl; (try dsimp only [R_less, valA]); ac_rfl)
  unfold isSh at q
  refine ⟨rfl, rfl, szL (by simp), v.1, 0, rfl, rfl, up v1, sz0 (by decide), ?_⟩
  cases h1 : decide (v.1 < 0) with
  | true => rw [h1] at q; exact ifF (sub_i q)
  | false =>
    rw [h1] at q
    refine ifT ⟨v.2, v.1, rfl, rfl, up v2, up v1, ?_⟩
    cases h2 : decide (v.2 < v.1) with
    | true => rw [h2] at q; exact ifF (sub_i q)
    | false =>
      rw [h2] at q
      exact ifT ⟨szL (by simp), 1, v.2, rfl, rfl, sz1 (by decide), up v2, sub_i q⟩
theorem rd_grounds {K : Frg} (T : TK K) {h : AH} {Q : AVK} {E : AXK} (hR : R_grounds K h Q E) : t_grounds K { nx := fun _ h' => sub Q .non h', rt := sub Q, ex := fun c _ h' => subE E c h' } [] h := by
  unfold t_grounds
  ac_rfl
  exact ⟨szL (by simp), szL (by simp), szL (by simp), szL (by simp), fun p hp => sub_i (hR p hp)⟩
theorem sz_laid {n m : Nat} {r : Rul} {v : Rat × Rat} (hr : RSz n r) (hv : VSz n v) (hm : 5 * n + 2 ≤ m) : VSz m (laidR r v) := by
  obtain ⟨r1, r2, r3, r4, r5⟩ := hr
  exact ⟨(((r1.mul hv.1).add (r2.mul hv.2)).add r3).mono (by omega), ((r4.mul hv.2).add r5).mono (by omega)⟩
theorem grnd_sz {n : Nat} (h : 1 ≤ n) {g : Rat × Rat} (hg : g ∈ grndL) : VSz n g := by
  simp only [grndL, List.mem_cons, List.not_mem_nil, or_false] at hg
  rcases hg with rfl | rfl | rfl
  · exact ⟨sz0 h, sz0 h⟩
  · exact ⟨sz0 h, sz1 h⟩
  · exact ⟨sz1 h, sz1 h⟩
theorem pu_valA {n : Nat} (v : Rat × Rat) : Pu (n + 2) (valA v) := .tup fun x hx => by
  simp at hx
  rcases hx with rfl | rfl <;> exact pu_fr
theorem eq_valA (v w : Rat × Rat) : eqP (valA v) (valA w) = decide (v = w) := by
  obtain ⟨a, b⟩ := v
  obtain ⟨c, d⟩ := w
  unfold valA
  rw [eqP_tup, eqPs_cons, eqPs_cons, eqPs_nil, eqP_fr, eqP_fr, Bool.and_true, ← Bool.decide_and]
  exact decide_eq_decide.mpr (by simp)
theorem rd_parted {K : Frg} (T : TK K) {x0 x1 : A} {h : AH} {Q : AVK} {E : AXK} (hR : R_parted K x0 x1 h Q E) : t_parted K { nx := fun _ h' => sub Q .non h', rt := sub Q, ex := fun c _ h' => subE E c h' } [some x0, some x1, none] h := by
  obtain ⟨r, s, rfl, rfl, hr, hs, q⟩ := hR
  have up : ∀ {r : Rul}, RSz 390 r → RSz 900 r := fun h => ⟨h.1.mono (by decide), h.2.1.mono (by decide), h.2.2.1.mono (by decide), h.2.2.2.1.mono (by decide), h.2.2.2.2.mono (by decide)⟩
  unfold t_parted
  (ac_rfl; (try dsimp only [R_grounds]); ac_rfl)
  intro p hp
  have ee := Ext.new (o := .lst (grndL.map valA)) hp
  refine forF (xs := grndL.map valA) (fun i α h' => h' = updA h p (.lst (grndL.map valA)) ∧ (∃ x, α = [some (rulA r), some (rulA s), x]) ∧ partO r s = (grndL.drop i).find? fun g => !decide (laidR r g = laidR s g)) (itF_ref updA_same) ⟨rfl, ⟨_, rfl⟩, rfl⟩ (fun p' e i α h' _ z => by cases e; rw [z.1]; exact updA_same) (fun i hi α h' pv => ?_) fun α h' pv => ?_
  · obtain ⟨rfl, ⟨x, rfl⟩, hq⟩ := pv
    have hi' : i < grndL.length := by rw [List.length_map] at hi; exact hi
    have gm : grndL[i] ∈ grndL := List.getElem_mem hi'
    rw [List.drop_eq_getElem_cons hi', List.find?_cons] at hq
    (ac_rfl; (try dsimp only [R_laid]); ac_rfl)
    rw [List.getElem_map]
    refine ⟨r, _, rfl, rfl, up hr, grnd_sz (by decide) gm, s, _, rfl, rfl, up hs, grnd_sz (by decide) gm, eqA_pu (pu_valA (n := 4) _) (pu_valA _) ?_⟩
    rw [eq_valA]
    ac_rfl
    cases hd : decide (laidR r grndL[i] = laidR s grndL[i]) with
    | false =>
      rw [hd] at hq
      rw [hq] at q
      exact ifT ⟨h, ee, q⟩
    | true =>
      rw [hd] at hq
      exact ifF ⟨rfl, ⟨_, rfl⟩, hq⟩
  · obtain ⟨rfl, ⟨x, rfl⟩, hq⟩ := pv
    rw [List.length_map, List.drop_length] at hq
    rw [hq] at q
    ac_rfl
    exact ⟨h, ee, q⟩
theorem rd_stays {K : Frg} (T : TK K) {x0 : A} {h : AH} {Q : AVK} {E : AXK} (hR : R_stays K x0 h Q E) : t_stays K { nx := fun _ h' => sub Q .non h', rt := sub Q, ex := fun c _ h' => subE E c h' } [some x0, none] h := by
  obtain ⟨r, rfl, hr, q⟩ := hR
  have up : RSz 900 r := ⟨hr.1.mono (by decide), hr.2.1.mono (by decide), hr.2.2.1.mono (by decide), hr.2.2.2.1.mono (by decide), hr.2.2.2.2.mono (by decide)⟩
  unfold t_stays
  (ac_rfl; (try dsimp only [R_grounds]); ac_rfl)
  intro p hp
  have ee := Ext.new (o := .lst (grndL.map valA)) hp
  refine lcF_map (l := grndL) (e := valA) (fun g => .bl (isSh (laidR r g))) (itF_ref updA_same) (by decide) (fun y hy h' C ex hC => ?_) ?_
  · (ac_rfl; (try dsimp only [R_laid, R_is_shade]); ac_rfl)
    have hv := grnd_sz (n := 1) (by decide) hy
    exact ⟨r, y, rfl, rfl, up, grnd_sz (by decide) hy, _, rfl, (sz_laid (n := 390) (m := 2000) ⟨hr.1.mono (by decide), hr.2.1.mono (by decide), hr.2.2.1.mono (by decide), hr.2.2.2.1.mono (by decide), hr.2.2.2.2.mono (by decide)⟩ (grnd_sz (by decide) hy) (by decide)), hC⟩
  · refine ⟨grndL.map fun g => isSh (laidR r g), by rw [List.map_map]; rfl, ?_⟩
    unfold stayB at q
    have e : (grndL.map fun g => isSh (laidR r g)).all id = grndL.all fun g => isSh (laidR r g) := by rw [List.all_map]; rfl
    rw [e]
    exact ⟨h, ee, q⟩
theorem rd_shade_or_none {K : Frg} (T : TK K) {x0 x1 : A} {h : AH} {Q : AVK} {E : AXK} (hR : R_shade_or_none K x0 x1 h Q E) : t_shade_or_none K { nx := fun _ h' => sub Q .non h', rt := sub Q, ex := fun c _ h' => subE E c h' } [some x0, some x1] h := by
  obtain ⟨c, t, rfl, rfl, hv, q⟩ := hR
  unfold t_shade_or_none
  (ac_rfl; (try dsimp only [R_is_shade]); ac_rfl)
  refine ⟨szL (by simp), (c, t), rfl, hv, ?_⟩
  unfold optSh at q
  cases hs : isSh (c, t) with
  | true => rw [hs] at q; exact ifT ⟨szL (by simp), sub_i q⟩
  | false => rw [hs] at q; exact ifF (sub_i q)
theorem rd_Manner_found {K : Frg} (T : TK K) {x0 x1 : A} {h : AH} {Q : AVK} {E : AXK} (hR : R_Manner_found K x0 x1 h Q E) : t_Manner_found K { nx := fun _ h' => sub Q .non h', rt := sub Q, ex := fun c _ h' => subE E c h' } [some x0, some x1] h := by
  obtain ⟨r, rfl, ⟨r1, r2, r3, r4, r5⟩, q⟩ := hR
  unfold t_Manner_found
  (ac_rfl; (try dsimp only [R_shade_or_none, rulA]); ac_rfl)
  exact ix_tup rfl (ix_tup rfl ⟨r.a, r.b, rfl, rfl, ⟨r3.mono (by decide), r5.mono (by decide)⟩, sub_i q⟩)
theorem rd_Atop_found {K : Frg} (T : TK K) {x0 x1 : A} {h : AH} {Q : AVK} {E : AXK} (hR : R_Atop_found K x0 x1 h Q E) : t_Atop_found K { nx := fun _ h' => sub Q .non h', rt := sub Q, ex := fun c _ h' => subE E c h' } [some x0, some x1] h := by
  obtain ⟨r, rfl, ⟨r1, r2, r3, r4, r5⟩, q⟩ := hR
  unfold t_Atop_found
  (ac_rfl; (try dsimp only [R_shade_or_none, R_minus, rulA]); ac_rfl)
  exact ix_tup rfl (ix_tup rfl ⟨1, r.g, rfl, rfl, sz1 (by decide), r1.mono (by decide), r.p, 1 - r.g, rfl, rfl, ⟨r2.mono (by decide), (Sz.sub (sz1 (n := 1) (by decide)) r1).mono (by decide)⟩, sub_i q⟩)
end GL
namespace GL
open PySem PySem.Spec L2 G
local macro_rules | `(tactic| ac_rfl) => `(tactic| try dsimp only [nb, aRet, aRetN, aSeq, aIfS, aNext, aBreak, aCont, aDrop, aAsg, aPar, aAug, aSetL, aSetF, aFld, aVar, aC, aNil, aCons, aTup, aLst, a1, a2, aN, aAndV, aOrV, aNotV, aIf, aAnd, aOr, aNot, aTest, aChn, aCall, aMeth, aMake, aBmL, aRaise, aTryOnly, aTryAs, aFor, aiSeq, aiRng1, aiRng2, aiEnum, agN, agNil, agCons, agTup, aSlL, aRev, aNoPart, aPart, aNewK, aNewT, aLc, aWhile, asB, asT, iA, iA0, subA, modA, modP, divP, divA, powA, ltA, leA, gtA, geA, addA, mulA, negA, lenA, absA, intA, allA, listA, tupleA, one, two, sp0, sp1, sp2, sp3, sp4, sp5, sp6, appendA, reverseA, clearA, wipeA, putFA, aFz, aLstF, aSlF, aRevF, aAddF, addF_i, addF_s, addF_t, addF_l, aRepF, aListF, aMakeP, aDyn, aClsFn, sumA, maxL, insertA, popAtA, aDGet, aDPut, aDAug, aFAug, aBmD, maxA, minA, List.getElem?_cons_zero, List.getElem?_cons_succ, List.set_cons_zero, List.set_cons_succ, List.cons_append, List.nil_append, List.append_nil])
local macro_rules | `(tactic| nofun) => `(tactic| try dsimp only [nb, aRet, aRetN, aNext, aBreak, aCont, aDrop, aAsg, aPar, aAug, aSetL, aSetF, aFld, aVar, aC, aNil, aCons, aTup, aLst, a1, a2, aN, aAndV, aOrV, aNotV, aIf, aAnd, aOr, aNot, aTest, aChn, aCall, aMeth, aMake, aBmL, aRaise, aTryOnly, aTryAs, aiSeq, aiRng1, aiRng2, aiEnum, agN, agNil, agCons, agTup, aSlL, aRev, aNoPart, aPart, aNewK, aNewT, aLc, asB, asT, iA, iA0, subA, modA, modP, divP, divA, powA, ltA, leA, gtA, geA, addA, mulA, negA, lenA, absA, intA, allA, listA, tupleA, one, two, sp0, sp1, sp2, sp3, sp4, sp5, sp6, appendA, reverseA, clearA, wipeA, putFA, aFz, aLstF, aSlF, aRevF, aAddF, addF_i, addF_s, addF_t, addF_l, aRepF, aListF, aMakeP, aDyn, aClsFn, sumA, maxL, insertA, popAtA, aDGet, aDPut, aDAug, aFAug, aBmD, maxA, minA, List.getElem?_cons_zero, List.getElem?_cons_succ, List.set_cons_zero, List.set_cons_succ, List.cons_append, List.nil_append, List.append_nil])
def R_law_made (_ : Frg) : Sp2 := fun x y h Q _ => ∃ t b : Int, x = .int t ∧ y = .int b ∧ b ≠ 0 ∧ b.natAbs.log2 < 9000 ∧ Q (fr (Rat.divInt t b)) h
abbrev R_law_plus := R_plus
abbrev R_law_less := R_minus
abbrev R_law_times := R_times
abbrev R_law_is_shade := R_is_shade
abbrev R_law_laid := R_laid
abbrev R_law_behind := R_behind
abbrev R_law_mixed := R_mixed
def R_law_manner (_ : Frg) : Sp2 := fun x y h Q _ => ∃ m v, x = .str (manW m) ∧ y = valA v ∧ VSz 1500 v ∧ Q (rulA (manR m v)) h
abbrev sp_law_made (K : Frg) : ASp := sp2 (R_law_made K)
abbrev sp_law_plus (K : Frg) : ASp := sp2 (R_law_plus K)
abbrev sp_law_less (K : Frg) : ASp := sp2 (R_law_less K)
abbrev sp_law_times (K : Frg) : ASp := sp2 (R_law_times K)
abbrev sp_law_is_shade (K : Frg) : ASp := sp1 (R_law_is_shade K)
abbrev sp_law_laid (K : Frg) : ASp := sp2 (R_law_laid K)
abbrev sp_law_behind (K : Frg) : ASp := sp2 (R_law_behind K)
abbrev sp_law_mixed (K : Frg) : ASp := sp2 (R_law_mixed K)
abbrev sp_law_manner (K : Frg) : ASp := sp2 (R_law_manner K)
def t_law_made (K : Frg) : ATS := (aSeq (aPar 2 3 (aCons (aN absA (aCons (aVar 0) aNil)) (aCons (aN absA (aCons (aVar 1) aNil)) aNil)))
  (aSeq (aWhile (aTest (a2 (eqA true) (aVar 3) (aC (.int 0))))
  (aPar 2 3 (aCons (aVar 3) (aCons (a2 modA (aVar 2) (aVar 3)) aNil))))
  (aSeq (aIfS (aTest (a2 ltA (aVar 1) (aC (.int 0))))
  (aAsg (a2 subA (aC (.int 0)) (aVar 2)) (agN 2))
  aNext)
  (aRet (aTup (aCons (a2 divA (aVar 0) (aVar 2)) (aCons (a2 divA (aVar 1) (aVar 2)) aNil)))))))
def t_law_plus (K : Frg) : ATS := (aRet (aCall (sp_law_made K) [] (aCons (aAddF (a2 mulA (a2 ixA (aVar 0) (aC (.int 0))) (a2 ixA (aVar 1) (aC (.int 1)))) (a2 mulA (a2 ixA (aVar 1) (aC (.int 0))) (a2 ixA (aVar 0) (aC (.int 1))))) (aCons (a2 mulA (a2 ixA (aVar 0) (aC (.int 1))) (a2 ixA (aVar 1) (aC (.int 1)))) aNil))))
def t_law_less (K : Frg) : ATS := (aRet (aCall (sp_law_made K) [] (aCons (a2 subA (a2 mulA (a2 ixA (aVar 0) (aC (.int 0))) (a2 ixA (aVar 1) (aC (.int 1)))) (a2 mulA (a2 ixA (aVar 1) (aC (.int 0))) (a2 ixA (aVar 0) (aC (.int 1))))) (aCons (a2 mulA (a2 ixA (aVar 0) (aC (.int 1))) (a2 ixA (aVar 1) (aC (.int 1)))) aNil))))
def t_law_times (K : Frg) : ATS := (aRet (aCall (sp_law_made K) [] (aCons (a2 mulA (a2 ixA (aVar 0) (aC (.int 0))) (a2 ixA (aVar 1) (aC (.int 0)))) (aCons (a2 mulA (a2 ixA (aVar 0) (aC (.int 1))) (a2 ixA (aVar 1) (aC (.int 1)))) aNil))))
def t_law_is_shade (K : Frg) : ATS := (aSeq (aAsg (aVar 0) (agTup 2 (agCons (agN 1) (agCons (agN 2) agNil))))
  (aRet (aAndV (a2 leA (aC (.int 0)) (a2 ixA (aVar 1) (aC (.int 0)))) (aAndV (a2 geA (a2 ixA (aCall (sp_law_less K) [] (aCons (aVar 2) (aCons (aVar 1) aNil))) (aC (.int 0))) (aC (.int 0))) (a2 leA (a2 ixA (aVar 2) (aC (.int 0))) (a2 ixA (aVar 2) (aC (.int 1))))))))
def t_law_laid (K : Frg) : ATS := (aSeq (aAsg (aVar 0) (agTup 5 (agCons (agN 2) (agCons (agN 3) (agCons (agN 4) (agCons (agN 5) (agCons (agN 6) agNil)))))))
  (aSeq (aAsg (aCall (sp_law_plus K) [] (aCons (aCall (sp_law_plus K) [] (aCons (aCall (sp_law_times K) [] (aCons (aVar 2) (aCons (a2 ixA (aVar 1) (aC (.int 0))) aNil))) (aCons (aCall (sp_law_times K) [] (aCons (aVar 3) (aCons (a2 ixA (aVar 1) (aC (.int 1))) aNil))) aNil))) (aCons (aVar 4) aNil))) (agN 7))
  (aRet (aTup (aCons (aVar 7) (aCons (aCall (sp_law_plus K) [] (aCons (aCall (sp_law_times K) [] (aCons (aVar 5) (aCons (a2 ixA (aVar 1) (aC (.int 1))) aNil))) (aCons (aVar 6) aNil))) aNil))))))
def t_law_behind (K : Frg) : ATS := (aSeq (aAsg (aVar 1) (agTup 5 (agCons (agN 2) (agCons (agN 3) (agCons (agN 4) (agCons (agN 5) (agCons (agN 6) agNil)))))))
  (aSeq (aAsg (aVar 0) (agTup 5 (agCons (agN 7) (agCons (agN 8) (agCons (agN 9) (agCons (agN 10) (agCons (agN 11) agNil)))))))
  (aSeq (aAsg (aCall (sp_law_plus K) [] (aCons (aCall (sp_law_times K) [] (aCons (aVar 2) (aCons (aVar 8) aNil))) (aCons (aCall (sp_law_times K) [] (aCons (aVar 3) (aCons (aVar 10) aNil))) aNil))) (agN 12))
  (aSeq (aAsg (aCall (sp_law_plus K) [] (aCons (aCall (sp_law_plus K) [] (aCons (aCall (sp_law_times K) [] (aCons (aVar 2) (aCons (aVar 9) aNil))) (aCons (aCall (sp_law_times K) [] (aCons (aVar 3) (aCons (aVar 11) aNil))) aNil))) (aCons (aVar 4) aNil))) (agN 13))
  (aRet (aTup (aCons (aCall (sp_law_times K) [] (aCons (aVar 2) (aCons (aVar 7) aNil))) (aCons (aVar 12) (aCons (aVar 13) (aCons (aCall (sp_law_times K) [] (aCons (aVar 5) (aCons (aVar 10) aNil))) (aCons (aCall (sp_law_plus K) [] (aCons (aCall (sp_law_times K) [] (aCons (aVar 5) (aCons (aVar 11) aNil))) (aCons (aVar 6) aNil))) aNil)))))))))))
def t_law_mixed (K : Frg) : ATS := (aSeq (aAsg (aCall (sp_law_less K) [] (aCons (aTup (aCons (aC (.int 1)) (aCons (aC (.int 1)) aNil))) (aCons (aVar 1) aNil))) (agN 2))
  (aSeq (aAsg (aFz (aLc (aiSeq (aVar 0)) (agN 4) aYes (aCall (sp_law_times K) [] (aCons (aVar 1) (aCons (aVar 4) aNil))) [4])) (agN 3))
  (aRet (aTup (aCons (aCall (sp_law_plus K) [] (aCons (aVar 2) (aCons (a2 ixA (aVar 3) (aC (.int 0))) aNil))) (aCons (a2 ixA (aVar 3) (aC (.int 1))) (aCons (a2 ixA (aVar 3) (aC (.int 2))) (aCons (aCall (sp_law_plus K) [] (aCons (aVar 2) (aCons (a2 ixA (aVar 3) (aC (.int 3))) aNil))) (aCons (a2 ixA (aVar 3) (aC (.int 4))) aNil)))))))))
def t_law_manner (K : Frg) : ATS := (aSeq (aAsg (aVar 1) (agTup 2 (agCons (agN 2) (agCons (agN 3) agNil))))
  (aSeq (aAsg (aCall (sp_law_less K) [] (aCons (aTup (aCons (aC (.int 1)) (aCons (aC (.int 1)) aNil))) (aCons (aVar 3) aNil))) (agN 4))
  (aSeq (aIfS (aTest (a2 (eqA false) (aVar 0) (aC (.str "over"))))
  (aRet (aTup (aCons (aVar 4) (aCons (aTup (aCons (aC (.int 0)) (aCons (aC (.int 1)) aNil))) (aCons (aVar 2) (aCons (aVar 4) (aCons (aVar 3) aNil)))))))
  aNext)
  (aSeq (aIfS (aTest (a2 (eqA false) (aVar 0) (aC (.str "under"))))
  (aRet (aTup (aCons (aTup (aCons (aC (.int 1)) (aCons (aC (.int 1)) aNil))) (aCons (aCall (sp_law_less K) [] (aCons (aTup (aCons (aC (.int 0)) (aCons (aC (.int 1)) aNil))) (aCons (aVar 2) aNil))) (aCons (aVar 2) (aCons (aVar 4) (aCons (aVar 3) aNil)))))))
  aNext)
  (aSeq (aIfS (aTest (a2 (eqA false) (aVar 0) (aC (.str "screen"))))
  (aRet (aTup (aCons (aCall (sp_law_less K) [] (aCons (aTup (aCons (aC (.int 1)) (aCons (aC (.int 1)) aNil))) (aCons (aVar 2) aNil))) (aCons (aTup (aCons (aC (.int 0)) (aCons (aC (.int 1)) aNil))) (aCons (aVar 2) (aCons (aVar 4) (aCons (aVar 3) aNil)))))))
  aNext)
  (aSeq (aIfS (aTest (a2 (eqA false) (aVar 0) (aC (.str "times"))))
  (aRet (aTup (aCons (aCall (sp_law_plus K) [] (aCons (aVar 4) (aCons (aVar 2) aNil))) (aCons (aCall (sp_law_less K) [] (aCons (aTup (aCons (aC (.int 0)) (aCons (aC (.int 1)) aNil))) (aCons (aVar 2) aNil))) (aCons (aVar 2) (aCons (aVar 4) (aCons (aVar 3) aNil)))))))
  aNext)
  (aRet (aTup (aCons (aVar 4) (aCons (aVar 2) (aCons (aTup (aCons (aC (.int 0)) (aCons (aC (.int 1)) aNil))) (aCons (aTup (aCons (aC (.int 1)) (aCons (aC (.int 1)) aNil))) (aCons (aTup (aCons (aC (.int 0)) (aCons (aC (.int 1)) aNil))) aNil)))))))))))))

theorem rd_law_made {K : Frg} (T : TK K) {x0 x1 : A} {h : AH} {Q : AVK} {E : AXK} (hR : R_law_made K x0 x1 h Q E) : t_law_made K { nx := fun _ h' => sub Q .non h', rt := sub Q, ex := fun c _ h' => subE E c h' } [some x0, some x1, none, none] h := by
  obtain ⟨t, b, rfl, rfl, hb, hl0, hq⟩ := hR
  unfold t_law_made
  refine seq_cut (fun α h' => α = [some (.int t), some (.int b), some (.int t.natAbs), some (.int b.natAbs)] ∧ h = h') (fun J hJ => ?_) fun α h' pv => ?_
  · ac_rfl
    have e1 : (if t < 0 then -t else t) = (t.natAbs : Int) := by split <;> omega
    have e2 : (if b < 0 then -b else b) = (b.natAbs : Int) := by split <;> omega
    rw [e1, e2]
    exact hJ _ _ ⟨rfl, rfl⟩
  obtain ⟨rfl, rfl⟩ := pv
  refine seq_cut (fun α h' => α = [some (.int t), some (.int b), some (.int (Int.gcd t b)), some (.int 0)] ∧ h = h') (fun J hJ => ?_) fun α h' pv => ?_
  · refine ⟨fun m α h' => ∃ c d : Int, α = [some (.int t), some (.int b), some (.int c), some (.int d)] ∧ Int.gcd c d = Int.gcd t b ∧ 0 ≤ c ∧ 0 ≤ d ∧ d.natAbs = m ∧ h = h', ⟨_, t.natAbs, b.natAbs, rfl, by simp [Int.gcd], by omega, by omega, rfl, rfl⟩, fun m α h' pv => ?_⟩
    obtain ⟨c, d, rfl, e, hc, hd, rfl, rfl⟩ := pv
    (ac_rfl; (try dsimp only [eqA]); ac_rfl)
    refine ifnd (fun hn => ⟨hn, _, fmod_small c hn, d, _, rfl, by rw [gcd_fmod]; exact e, hd, (fmod_pos (by omega)).1, rfl, rfl⟩) fun hn => ?_
    subst hn
    rw [Int.gcd_zero_right] at e
    have : c = (Int.gcd t b : Int) := by omega
    rw [this]
    exact hJ _ _ ⟨rfl, rfl⟩
  obtain ⟨rfl, rfl⟩ := pv
  have hg := gcd_pos (t := t) hb
  have hl : (Int.gcd t b).log2 < 9000 := by
    refine Nat.lt_of_le_of_lt ?_ hl0
    have : b.natAbs ≠ 0 := by omega
    rw [Nat.le_log2 this]
    exact Nat.le_trans (Nat.log2_self_le (by omega)) (gcd_le hb)
  ac_rfl
  refine ifd (fun hn => ?_) fun hn => ?_
  · have e := made_neg (t := t) hn
    rw [Int.zero_sub]
    refine .inr ⟨⟨by omega, by simpa using hl⟩, .inr ⟨⟨by omega, by simpa using hl⟩, by simp; decide, ?_⟩⟩
    rw [e.1, e.2]
    exact sub_i hq
  · have e := made_pos (t := t) (by omega : 0 < b)
    refine .inl ⟨⟨hg, by simpa using hl⟩, .inl ⟨⟨hg, by simpa using hl⟩, by simp; decide, ?_⟩⟩
    rw [e.1, e.2]
    exact sub_i hq
theorem rd_law_plus {K : Frg} (T : TK K) {x0 x1 : A} {h : AH} {Q : AVK} {E : AXK} (hR : R_law_plus K x0 x1 h Q E) : t_law_plus K { nx := fun _ h' => sub Q .non h', rt := sub Q, ex := fun c _ h' => subE E c h' } [some x0, some x1] h := by
  obtain ⟨p, q, rfl, rfl, hp, hq, k⟩ := hR
  unfold t_law_plus
  (ac_rfl; (try dsimp only [R_law_made, fr]); ac_rfl)
  have l := log2_small (Nat.lt_of_lt_of_le (abs_mul_lt (i := (p.den : Int)) (j := (q.den : Int)) (n := 4000) (m := 4000) (by simpa using hp.2) (by simpa using hq.2)) (Nat.le_refl _)) (by decide)
  have hpd : ((p.den : Int)).natAbs < 2 ^ 4000 := by simpa using hp.2
  have hqd : ((q.den : Int)).natAbs < 2 ^ 4000 := by simpa using hq.2
  refine ix_tup rfl (ix_tup rfl ⟨mul_bits hp.1 hqd (by decide), ix_tup rfl (ix_tup rfl ⟨mul_bits hq.1 hpd (by decide), ix_tup rfl (ix_tup rfl ⟨mul_bits hpd hqd (by decide), _, _, rfl, rfl, fun z => ?_, l, ?_⟩)⟩)⟩)
  · exact absurd z (Int.mul_ne_zero (by have := den_pos p; omega) (by have := den_pos q; omega))
  · rw [fr_add]; exact sub_i k
theorem rd_law_less {K : Frg} (T : TK K) {x0 x1 : A} {h : AH} {Q : AVK} {E : AXK} (hR : R_law_less K x0 x1 h Q E) : t_law_less K { nx := fun _ h' => sub Q .non h', rt := sub Q, ex := fun c _ h' => subE E c h' } [some x0, some x1] h := by
  obtain ⟨p, q, rfl, rfl, hp, hq, k⟩ := hR
  unfold t_law_less
  (ac_rfl; (try dsimp only [R_law_made, fr]); ac_rfl)
  have l := log2_small (Nat.lt_of_lt_of_le (abs_mul_lt (i := (p.den : Int)) (j := (q.den : Int)) (n := 4000) (m := 4000) (by simpa using hp.2) (by simpa using hq.2)) (Nat.le_refl _)) (by decide)
  have hpd : ((p.den : Int)).natAbs < 2 ^ 4000 := by simpa using hp.2
  have hqd : ((q.den : Int)).natAbs < 2 ^ 4000 := by simpa using hq.2
  refine ix_tup rfl (ix_tup rfl ⟨mul_bits hp.1 hqd (by decide), ix_tup rfl (ix_tup rfl ⟨mul_bits hq.1 hpd (by decide), ix_tup rfl (ix_tup rfl ⟨mul_bits hpd hqd (by decide), _, _, rfl, rfl, fun z => ?_, l, ?_⟩)⟩)⟩)
  · exact absurd z (Int.mul_ne_zero (by have := den_pos p; omega) (by have := den_pos q; omega))
  · rw [fr_sub]; exact sub_i k
theorem rd_law_times {K : Frg} (T : TK K) {x0 x1 : A} {h : AH} {Q : AVK} {E : AXK} (hR : R_law_times K x0 x1 h Q E) : t_law_times K { nx := fun _ h' => sub Q .non h', rt := sub Q, ex := fun c _ h' => subE E c h' } [some x0, some x1] h := by
  obtain ⟨p, q, rfl, rfl, hp, hq, k⟩ := hR
  unfold t_law_times
  (ac_rfl; (try dsimp only [R_law_made, fr]); ac_rfl)
  have l := log2_small (Nat.lt_of_lt_of_le (abs_mul_lt (i := (p.den : Int)) (j := (q.den : Int)) (n := 4000) (m := 4000) (by simpa using hp.2) (by simpa using hq.2)) (Nat.le_refl _)) (by decide)
  have hpd : ((p.den : Int)).natAbs < 2 ^ 4000 := by simpa using hp.2
  have hqd : ((q.den : Int)).natAbs < 2 ^ 4000 := by simpa using hq.2
  refine ix_tup rfl (ix_tup rfl ⟨mul_bits hp.1 hq.1 (by decide), ix_tup rfl (ix_tup rfl ⟨mul_bits hpd hqd (by decide), _, _, rfl, rfl, fun z => ?_, l, ?_⟩)⟩)
  · exact absurd z (Int.mul_ne_zero (by have := den_pos p; omega) (by have := den_pos q; omega))
  · rw [fr_mul]; exact sub_i k
theorem rd_law_laid {K : Frg} (T : TK K) {x0 x1 : A} {h : AH} {Q : AVK} {E : AXK} (hR : R_law_laid K x0 x1 h Q E) : t_law_laid K { nx := fun _ h' => sub Q .non h', rt := sub Q, ex := fun c _ h' => subE E c h' } [some x0, some x1, none, none, none, none, none, none] h := by
  obtain ⟨r, v, rfl, rfl, ⟨r1, r2, r3, r4, r5⟩, ⟨v1, v2⟩, q⟩ := hR
  have up : ∀ {x : Rat}, Sz 900 x → Sz 4000 x := fun h => h.mono (by decide)
  unfold t_law_laid
  (ac_rfl; (try dsimp only [R_law_times, R_law_plus, R_times, R_plus, rulA, valA]); ac_rfl)
  refine ⟨rfl, rfl, ix_tup rfl ⟨_, _, rfl, rfl, up r1, up v1, ix_tup rfl ⟨_, _, rfl, rfl, up r2, up v2, ?_⟩⟩⟩
  refine ⟨_, _, rfl, rfl, (r1.mul v1).mono (by decide), (r2.mul v2).mono (by decide), _, _, rfl, rfl, ((r1.mul v1).add (r2.mul v2)).mono (by decide), up r3, ?_⟩
  refine ix_tup rfl ⟨_, _, rfl, rfl, up r4, up v2, _, _, rfl, rfl, (r4.mul v2).mono (by decide), up r5, szL (by simp), sub_i q⟩
theorem nlt {p : Prop} [Decidable p] {a b : Int} (e : p ↔ b < a) : decide (a ≤ b) = !decide p := by
  by_cases c : p
  · have := e.mp c
    rw [decide_eq_true c, decide_eq_false (by omega)]; rfl
  · have := mt e.mpr c
    rw [decide_eq_false c, decide_eq_true (by omega)]; rfl
theorem rd_law_is_shade {K : Frg} (T : TK K) {x0 : A} {h : AH} {Q : AVK} {E : AXK} (hR : R_law_is_shade K x0 h Q E) : t_law_is_shade K { nx := fun _ h' => sub Q .non h', rt := sub Q, ex := fun c _ h' => subE E c h' } [some x0, none, none] h := by
  obtain ⟨v, rfl, ⟨v1, v2⟩, q⟩ := hR
  have up : ∀ {x : Rat}, Sz 2000 x → Sz 4000 x := fun h => h.mono (by decide)
  have e0 : decide ((0 : Int) ≤ v.1.num) = !decide (v.1 < 0) := by
    have : (v.1 < 0) ↔ v.1.num < 0 := by rw [Rat.lt_iff]; simp
    exact nlt this
  have e1 : decide ((0 : Int) ≤ (v.2 - v.1).num) = !decide (v.2 < v.1) := by
    have : (v.2 < v.1) ↔ (v.2 - v.1).num < 0 := by
      have h1 : (v.2 < v.1) ↔ (v.2 - v.1 < 0) := by grind
      rw [h1, Rat.lt_iff]; simp
    exact nlt this
  have e2 : decide (v.2.num ≤ (v.2.den : Int)) = !decide (1 < v.2) := by
    have : (1 < v.2) ↔ (v.2.den : Int) < v.2.num := by rw [Rat.lt_iff]; simp
    exact nlt this
  unfold t_law_is_shade
  (ac_rfl; (try dsimp only [R_law_less, R_minus, valA, fr]); ac_rfl)
  unfold isSh at q
  refine ⟨rfl, rfl, ix_tup rfl ?_⟩
  ac_rfl
  rw [e0]
  cases h1 : decide (v.1 < 0) with
  | true => rw [h1] at q; exact ifF (sub_i q)
  | false =>
    rw [h1] at q
    refine ifT ⟨v.2, v.1, rfl, rfl, up v2, up v1, ix_tup rfl ?_⟩
    ac_rfl
    rw [e1]
    cases h2 : decide (v.2 < v.1) with
    | true => rw [h2] at q; exact ifF (sub_i q)
    | false =>
      rw [h2] at q
      refine ifT (ix_tup rfl (ix_tup rfl ?_))
      ac_rfl
      rw [e2]
      exact sub_i q
theorem rd_law_behind {K : Frg} (T : TK K) {x0 x1 : A} {h : AH} {Q : AVK} {E : AXK} (hR : R_law_behind K x0 x1 h Q E) : t_law_behind K { nx := fun _ h' => sub Q .non h', rt := sub Q, ex := fun c _ h' => subE E c h' } [some x0, some x1, none, none, none, none, none, none, none, none, none, none, none, none] h := by
  obtain ⟨r, s, rfl, rfl, ⟨r1, r2, r3, r4, r5⟩, ⟨s1, s2, s3, s4, s5⟩, q⟩ := hR
  unfold t_law_behind
  refine seq_cut (fun α h' => α = [some (rulA r), some (rulA s), some (fr s.g), some (fr s.p), some (fr s.a), some (fr s.q), some (fr s.b), none, none, none, none, none, none, none] ∧ h = h') (fun J hJ => ?_) fun α h' pv => ?_
  · (ac_rfl; (try dsimp only [rulA]); ac_rfl)
    exact ⟨rfl, rfl, hJ _ _ ⟨rfl, rfl⟩⟩
  obtain ⟨rfl, rfl⟩ := pv
  refine seq_cut (fun α h' => α = [some (rulA r), some (rulA s), some (fr s.g), some (fr s.p), some (fr s.a), some (fr s.q), some (fr s.b), some (fr r.g), some (fr r.p), some (fr r.a), some (fr r.q), some (fr r.b), none, none] ∧ h = h') (fun J hJ => ?_) fun α h' pv => ?_
  · (ac_rfl; (try dsimp only [rulA]); ac_rfl)
    exact ⟨rfl, rfl, hJ _ _ ⟨rfl, rfl⟩⟩
  obtain ⟨rfl, rfl⟩ := pv
  have up : ∀ {x : Rat}, Sz 900 x → Sz 4000 x := fun h => h.mono (by decide)
  have m2 : ∀ {x y : Rat}, Sz 900 x → Sz 900 y → Sz 1800 (x * y) := fun hx hy => (hx.mul hy)
  have up2 : ∀ {x : Rat}, Sz 1800 x → Sz 4000 x := fun h => h.mono (by decide)
  (ac_rfl; (try dsimp only [R_law_times, R_law_plus, R_times, R_plus]); ac_rfl)
  refine ⟨_, _, rfl, rfl, up s1, up r2, _, _, rfl, rfl, up s2, up r4, _, _, rfl, rfl, up2 (m2 s1 r2), up2 (m2 s2 r4), ?_⟩
  refine ⟨_, _, rfl, rfl, up s1, up r3, _, _, rfl, rfl, up s2, up r5, _, _, rfl, rfl, up2 (m2 s1 r3), up2 (m2 s2 r5), _, _, rfl, rfl, ((m2 s1 r3).add (m2 s2 r5)).mono (by decide), up s3, ?_⟩
  refine ⟨_, _, rfl, rfl, up s1, up r1, _, _, rfl, rfl, up s4, up r4, _, _, rfl, rfl, up s4, up r5, _, _, rfl, rfl, up2 (m2 s4 r5), up s5, by simp; decide, sub_i q⟩
theorem rd_law_mixed {K : Frg} (T : TK K) {x0 x1 : A} {h : AH} {Q : AVK} {E : AXK} (hR : R_law_mixed K x0 x1 h Q E) : t_law_mixed K { nx := fun _ h' => sub Q .non h', rt := sub Q, ex := fun c _ h' => subE E c h' } [some x0, some x1, none, none, none] h := by
  obtain ⟨r, m, rfl, rfl, ⟨r1, r2, r3, r4, r5⟩, hm, q⟩ := hR
  have up : ∀ {x : Rat}, Sz 900 x → Sz 4000 x := fun h => h.mono (by decide)
  have s1 : Sz 910 (1 - m) := ((sz1 (n := 1) (by decide)).sub hm).mono (by decide)
  unfold t_law_mixed
  refine seq_cut (fun α h' => α = [some (rulA r), some (fr m), some (fr (1 - m)), none, none] ∧ h = h') (fun J hJ => ?_) fun α h' pv => ?_
  · (ac_rfl; (try dsimp only [R_law_less, R_minus]); ac_rfl)
    exact ⟨szL (by simp), 1, m, rfl, rfl, sz1 (by decide), up hm, hJ _ _ ⟨rfl, rfl⟩⟩
  obtain ⟨rfl, rfl⟩ := pv
  refine seq_cut (fun α h' => α = [some (rulA r), some (fr m), some (fr (1 - m)), some (.fls [fr (m * r.g), fr (m * r.p), fr (m * r.a), fr (m * r.q), fr (m * r.b)]), none] ∧ h = h') (fun J hJ => ?_) fun α h' pv => ?_
  · ac_rfl
    refine lcF_map (l := [r.g, r.p, r.a, r.q, r.b]) (e := fr) (fun x => fr (m * x)) rfl (by simp) (fun y hy h' C ex hC => ?_) (hJ _ _ ⟨rfl, rfl⟩)
    (ac_rfl; (try dsimp only [R_law_times, R_times]); ac_rfl)
    refine ⟨m, y, rfl, rfl, up hm, ?_, hC⟩
    simp only [List.mem_cons, List.not_mem_nil, or_false] at hy
    rcases hy with rfl | rfl | rfl | rfl | rfl
    · exact up r1
    · exact up r2
    · exact up r3
    · exact up r4
    · exact up r5
  obtain ⟨rfl, rfl⟩ := pv
  (ac_rfl; (try dsimp only [R_law_plus, R_plus]); ac_rfl)
  refine ix_fls rfl ⟨_, _, rfl, rfl, s1.mono (by decide), (hm.mul r1).mono (by decide), ix_fls rfl (ix_fls rfl (ix_fls rfl ⟨_, _, rfl, rfl, s1.mono (by decide), (hm.mul r4).mono (by decide), ix_fls rfl ⟨szL (by simp), sub_i q⟩⟩))⟩
theorem sKey_ne {i : Nat} {a b : Str} {t r : ATS} {D : AEnds} {α : ASt} {h : AH} (hv : α[i]? = some (some (.str a))) (n : a ≠ b) (q : r D α h) : aSeq (aIfS (aTest (a2 (eqA false) (aVar i) (aC (.str b)))) t aNext) r D α h := by
  dsimp only [aSeq, aIfS, aTest, a2, aVar, aC, aNext]
  simp only [hv]
  refine eqS ?_
  show if decide (a = b) = true then _ else _
  rw [decide_eq_false n]
  exact ifF q
theorem sKey_eq {i : Nat} {a : Str} {t r : ATS} {D : AEnds} {α : ASt} {h : AH} (hv : α[i]? = some (some (.str a))) (q : t { D with nx := r D } α h) : aSeq (aIfS (aTest (a2 (eqA false) (aVar i) (aC (.str a)))) t aNext) r D α h := by
  dsimp only [aSeq, aIfS, aTest, a2, aVar, aC, aNext]
  simp only [hv]
  refine eqS ?_
  show if decide (a = a) = true then _ else _
  rw [decide_eq_true rfl]
  exact ifT q
theorem rd_law_manner {K : Frg} (T : TK K) {x0 x1 : A} {h : AH} {Q : AVK} {E : AXK} (hR : R_law_manner K x0 x1 h Q E) : t_law_manner K { nx := fun _ h' => sub Q .non h', rt := sub Q, ex := fun c _ h' => subE E c h' } [some x0, some x1, none, none, none] h := by
  obtain ⟨m, v, rfl, rfl, ⟨v1, v2⟩, q⟩ := hR
  have up : ∀ {x : Rat}, Sz 1500 x → Sz 4000 x := fun h => h.mono (by decide)
  unfold t_law_manner
  refine seq_cut (fun α h' => α = [some (.str (manW m)), some (valA v), some (fr v.1), some (fr v.2), none] ∧ h = h') (fun J hJ => ?_) fun α h' pv => ?_
  · (ac_rfl; (try dsimp only [valA]); ac_rfl)
    exact ⟨rfl, rfl, hJ _ _ ⟨rfl, rfl⟩⟩
  obtain ⟨rfl, rfl⟩ := pv
  refine seq_cut (fun α h' => α = [some (.str (manW m)), some (valA v), some (fr v.1), some (fr v.2), some (fr (1 - v.2))] ∧ h = h') (fun J hJ => ?_) fun α h' pv => ?_
  · (ac_rfl; (try dsimp only [R_law_less, R_minus]); ac_rfl)
    exact ⟨szL (by simp), 1, v.2, rfl, rfl, sz1 (by decide), up v2, hJ _ _ ⟨rfl, rfl⟩⟩
  obtain ⟨rfl, rfl⟩ := pv
  have zz : Sz 4000 0 := sz0 (by decide)
  have oo : Sz 4000 1 := sz1 (by decide)
  have s1 : Sz 4000 (1 - v.2) := ((sz1 (n := 1) (by decide)).sub v2).mono (by decide)
  cases m with
  | over =>
    refine sKey_eq rfl ?_
    ac_rfl
    exact ⟨szL (by simp), szL (by simp), sub_i q⟩
  | under =>
    refine sKey_ne rfl (by decide) (sKey_eq rfl ?_)
    (ac_rfl; (try dsimp only [R_law_less, R_minus]); ac_rfl)
    exact ⟨szL (by simp), szL (by simp), 0, v.1, rfl, rfl, zz, up v1, szL (by simp), sub_i q⟩
  | screen =>
    refine sKey_ne rfl (by decide) (sKey_ne rfl (by decide) (sKey_eq rfl ?_))
    (ac_rfl; (try dsimp only [R_law_less, R_minus]); ac_rfl)
    exact ⟨szL (by simp), 1, v.1, rfl, rfl, oo, up v1, szL (by simp), szL (by simp), sub_i q⟩
  | times =>
    refine sKey_ne rfl (by decide) (sKey_ne rfl (by decide) (sKey_ne rfl (by decide) (sKey_eq rfl ?_)))
    (ac_rfl; (try dsimp only [R_law_less, R_law_plus, R_minus, R_plus]); ac_rfl)
    exact ⟨_, _, rfl, rfl, s1, up v1, szL (by simp), 0, v.1, rfl, rfl, zz, up v1, szL (by simp), sub_i q⟩
  | atop =>
    refine sKey_ne rfl (by decide) (sKey_ne rfl (by decide) (sKey_ne rfl (by decide) (sKey_ne rfl (by decide) ?_)))
    ac_rfl
    exact ⟨szL (by simp), szL (by simp), szL (by simp), szL (by simp), sub_i q⟩
end GL
namespace GL
open PySem PySem.Spec L2 G
local macro_rules | `(tactic| ac_rfl) => `(tactic| try dsimp only [nb, aRet, aRetN, aSeq, aIfS, aNext, aBreak, aCont, aDrop, aAsg, aPar, aAug, aSetL, aSetF, aFld, aVar, aC, aNil, aCons, aTup, aLst, a1, a2, aN, aAndV, aOrV, aNotV, aIf, aAnd, aOr, aNot, aTest, aChn, aCall, aMeth, aMake, aBmL, aRaise, aTryOnly, aTryAs, aFor, aiSeq, aiRng1, aiRng2, aiEnum, agN, agNil, agCons, agTup, aSlL, aRev, aNoPart, aPart, aNewK, aNewT, aLc, aWhile, asB, asT, iA, iA0, subA, modA, modP, divP, divA, powA, ltA, leA, gtA, geA, addA, mulA, negA, lenA, absA, intA, allA, listA, tupleA, one, two, sp0, sp1, sp2, sp3, sp4, sp5, sp6, appendA, reverseA, clearA, wipeA, putFA, aFz, aLstF, aSlF, aRevF, aAddF, addF_i, addF_s, addF_t, addF_l, aRepF, aListF, aMakeP, aDyn, aClsFn, sumA, maxL, insertA, popAtA, aDGet, aDPut, aDAug, aFAug, aBmD, maxA, minA, List.getElem?_cons_zero, List.getElem?_cons_succ, List.set_cons_zero, List.set_cons_succ, List.cons_append, List.nil_append, List.append_nil])
local macro_rules | `(tactic| nofun) => `(tactic| try dsimp only [nb, aRet, aRetN, aNext, aBreak, aCont, aDrop, aAsg, aPar, aAug, aSetL, aSetF, aFld, aVar, aC, aNil, aCons, aTup, aLst, a1, a2, aN, aAndV, aOrV, aNotV, aIf, aAnd, aOr, aNot, aTest, aChn, aCall, aMeth, aMake, aBmL, aRaise, aTryOnly, aTryAs, aiSeq, aiRng1, aiRng2, aiEnum, agN, agNil, agCons, agTup, aSlL, aRev, aNoPart, aPart, aNewK, aNewT, aLc, asB, asT, iA, iA0, subA, modA, modP, divP, divA, powA, ltA, leA, gtA, geA, addA, mulA, negA, lenA, absA, intA, allA, listA, tupleA, one, two, sp0, sp1, sp2, sp3, sp4, sp5, sp6, appendA, reverseA, clearA, wipeA, putFA, aFz, aLstF, aSlF, aRevF, aAddF, addF_i, addF_s, addF_t, addF_l, aRepF, aListF, aMakeP, aDyn, aClsFn, sumA, maxL, insertA, popAtA, aDGet, aDPut, aDAug, aFAug, aBmD, maxA, minA, List.getElem?_cons_zero, List.getElem?_cons_succ, List.set_cons_zero, List.set_cons_succ, List.cons_append, List.nil_append, List.append_nil])
def R_law_fraction (_ : Frg) : Sp1 := fun x h Q _ => ∃ w, x = .ref w ∧ WellAt h w ∧ ∀ (q : Rat) h', Sz 70 q → WS w h h' → Q (fr q) h'
def R_law_source (_ : Frg) : Sp1 := fun x h Q _ => ∃ w, x = .ref w ∧ WellAt h w ∧ ∀ (v : Rat × Rat) h', VSz 5 v → WS w h h' → Q (valA v) h'
def R_law_word (_ : Frg) : Sp1 := fun x h Q _ => ∃ w, x = .ref w ∧ WellAt h w ∧ ∀ (m : Man) h', WS w h h' → Q (.str (manW m)) h'
def R_law_rule (_ : Frg) : Sp1 := fun x h Q _ => ∃ w, x = .ref w ∧ WellAt h w ∧ ∀ (r : Rul) h', RSz 70 r → WS w h h' → Q (rulA r) h'
inductive Thg : A → Prop
  | int (i : Int) : Thg (.int i)
  | bl (b : Bool) : Thg (.bl b)
  | str : Thg (.str "5")
  | non : Thg .non
def R_law_thing (_ : Frg) : Sp1 := fun x h Q _ => ∃ w, x = .ref w ∧ WellAt h w ∧ ∀ (x : A) h', Thg x → WS w h h' → Q x h'
abbrev sp_law_fraction (K : Frg) : ASp := sp1 (R_law_fraction K)
abbrev sp_law_source (K : Frg) : ASp := sp1 (R_law_source K)
abbrev sp_law_word (K : Frg) : ASp := sp1 (R_law_word K)
abbrev sp_law_rule (K : Frg) : ASp := sp1 (R_law_rule K)
abbrev sp_law_thing (K : Frg) : ASp := sp1 (R_law_thing K)
def t_law_fraction (K : Frg) : ATS := (aSeq (aAsg (a2 ixA (aLstF (aCons (a2 subA (aCall (sp_law_draw K) [] (aCons (aVar 0) (aCons (aC (.int 33)) aNil))) (aC (.int 16))) (aCons (a2 subA (aCall (sp_law_draw K) [] (aCons (aVar 0) (aCons (a2 powA (aC (.int 10)) (aC (.int 20))) aNil))) (a2 mulA (aC (.int 5)) (a2 powA (aC (.int 10)) (aC (.int 19))))) (aCons (aC (.int 0)) (aCons (aC (.int 16)) aNil))))) (aCall (sp_law_draw K) [] (aCons (aVar 0) (aCons (aC (.int 4)) aNil)))) (agN 1))
  (aSeq (aAsg (aLstF (aCons (aC (.int 16)) (aCons (aC (.int 1)) (aCons (aC (.int 256)) (aCons (aAddF (aC (.int 1)) (aCall (sp_law_draw K) [] (aCons (aVar 0) (aCons (aC (.int 97)) aNil)))) (aCons (aAddF (aC (.int 1)) (aCall (sp_law_draw K) [] (aCons (aVar 0) (aCons (a2 powA (aC (.int 10)) (aC (.int 12))) aNil)))) aNil)))))) (agN 2))
  (aRet (aCall (sp_law_made K) [] (aCons (aVar 1) (aCons (a2 ixA (aVar 2) (aCall (sp_law_draw K) [] (aCons (aVar 0) (aCons (aC (.int 5)) aNil)))) aNil))))))
def t_law_source (K : Frg) : ATS := (aSeq (aAsg (aCall (sp_law_draw K) [] (aCons (aVar 0) (aCons (aC (.int 17)) aNil))) (agN 1))
  (aRet (aTup (aCons (aCall (sp_law_made K) [] (aCons (aCall (sp_law_draw K) [] (aCons (aVar 0) (aCons (aAddF (aVar 1) (aC (.int 1))) aNil))) (aCons (aC (.int 16)) aNil))) (aCons (aCall (sp_law_made K) [] (aCons (aVar 1) (aCons (aC (.int 16)) aNil))) aNil)))))
def t_law_word (K : Frg) : ATS := (aRet (a2 ixA (aLstF (aCons (aC (.str "over")) (aCons (aC (.str "under")) (aCons (aC (.str "screen")) (aCons (aC (.str "times")) (aCons (aC (.str "atop")) aNil)))))) (aCall (sp_law_draw K) [] (aCons (aVar 0) (aCons (aC (.int 5)) aNil)))))
def t_law_rule (K : Frg) : ATS := (aSeq (aIfS (aTest (a2 (eqA false) (aCall (sp_law_draw K) [] (aCons (aVar 0) (aCons (aC (.int 3)) aNil))) (aC (.int 0))))
  (aRet (aN tupleA (aCons (aFz (aLc (aiRng1 (aCons (aC (.int 5)) aNil)) (agN 1) aYes (aCall (sp_law_fraction K) [] (aCons (aVar 0) aNil)) [1])) aNil)))
  aNext)
  (aRet (aCall (sp_law_manner K) [] (aCons (aCall (sp_law_word K) [] (aCons (aVar 0) aNil)) (aCons (aCall (sp_law_source K) [] (aCons (aVar 0) aNil)) aNil)))))
def t_law_thing (K : Frg) : ATS := (aRet (a2 ixA (aLstF (aCons (aC (.int 0)) (aCons (aC (.int 16)) (aCons (aC (.int 7)) (aCons (aAddF (aC (.int 1)) (aCall (sp_law_draw K) [] (aCons (aVar 0) (aCons (aC (.int 15)) aNil)))) (aCons (aC (.int 17)) (aCons (a1 negA (aC (.int 1))) (aCons (aC (.bl true)) (aCons (aC (.str "5")) (aCons (aC .non) (aCons (aCall (sp_law_draw K) [] (aCons (aVar 0) (aCons (aC (.int 9)) aNil))) aNil))))))))))) (aCall (sp_law_draw K) [] (aCons (aVar 0) (aCons (aC (.int 10)) aNil)))))

theorem at_all {xs : List A} {r : Int} {n : Nat} (P : A → Prop) (e : xs.length = n) (h0 : 0 ≤ r) (h1 : r < n) (p : ∀ x ∈ xs, P x) : ∃ c, atI xs r = some c ∧ P c := by
  obtain ⟨k, rfl⟩ : ∃ k : Nat, r = k := ⟨r.toNat, by omega⟩
  have hk : k < xs.length := by omega
  exact ⟨xs[k], atI_get rfl (List.getElem?_eq_getElem hk), p _ (List.getElem_mem hk)⟩
theorem lt_pow {i : Int} {n m : Nat} (h : i.natAbs < m) (e : m ≤ 2 ^ n) : i.natAbs < 2 ^ n := Nat.lt_of_lt_of_le h e
theorem rd_law_fraction {K : Frg} (T : TK K) {x0 : A} {h : AH} {Q : AVK} {E : AXK} (hR : R_law_fraction K x0 h Q E) : t_law_fraction K { nx := fun _ h' => sub Q .non h', rt := sub Q, ex := fun c _ h' => subE E c h' } [some x0, none, none] h := by
  obtain ⟨w, rfl, hw, q⟩ := hR
  unfold t_law_fraction
  refine seq_cut (fun α h' => ∃ t : Int, α = [some (.ref w), some (.int t), none] ∧ t.natAbs < 2 ^ 70 ∧ WS w h h') (fun J hJ => ?_) fun α h1 pv => ?_
  · (ac_rfl; (try dsimp only [R_law_draw]); ac_rfl)
    refine ⟨w, 33, rfl, rfl, by decide, by decide, hw, fun r1 h1 a1 b1 W1 => ⟨⟨by decide, by decide, by decide⟩, w, _, rfl, rfl, by decide, by decide, W1.at, fun r2 h2 a2 b2 W2 => ⟨⟨by decide, by decide, by decide⟩, mul_l (by decide), szL (by simp), w, 4, rfl, rfl, by decide, by decide, W2.at, fun r3 h3 a3 b3 W3 => ?_⟩⟩⟩
    obtain ⟨c, ec, t, rfl, ht⟩ := at_all (xs := [.int (r1 - 16), .int (r2 - 50000000000000000000), .int 0, .int 16]) (n := 4) (fun x => ∃ t : Int, x = .int t ∧ t.natAbs < 2 ^ 70) rfl a3 b3 (fun x hx => by
      simp only [List.mem_cons, List.not_mem_nil, or_false] at hx
      rcases hx with rfl | rfl | rfl | rfl
      · exact ⟨_, rfl, by omega⟩
      · exact ⟨_, rfl, by have : r2 < 100000000000000000000 := b2; omega⟩
      · exact ⟨_, rfl, by decide⟩
      · exact ⟨_, rfl, by decide⟩)
    exact ix_fls ec (hJ _ _ ⟨t, rfl, ht, (W1.trans W2).trans W3⟩)
  obtain ⟨t, rfl, ht, W0⟩ := pv
  refine seq_cut (fun α h' => ∃ xs : List A, α = [some (.ref w), some (.int t), some (.fls xs)] ∧ xs.length = 5 ∧ (∀ x ∈ xs, ∃ b : Int, x = .int b ∧ 0 < b ∧ b.natAbs < 2 ^ 70) ∧ WS w h h') (fun J hJ => ?_) fun α h1 pv => ?_
  · (ac_rfl; (try dsimp only [R_law_draw]); ac_rfl)
    refine ⟨w, 97, rfl, rfl, by decide, by decide, W0.at, fun r1 h1 a1 b1 W1 => ⟨⟨by decide, by decide, by decide⟩, w, _, rfl, rfl, by decide, by decide, W1.at, fun r2 h2 a2 b2 W2 => ⟨szL (by simp), hJ _ _ ⟨_, rfl, rfl, fun x hx => ?_, (W0.trans W1).trans W2⟩⟩⟩⟩
    simp only [List.mem_cons, List.not_mem_nil, or_false] at hx
    have : r2 < 1000000000000 := b2
    rcases hx with rfl | rfl | rfl | rfl | rfl
    · exact ⟨_, rfl, by decide, by decide⟩
    · exact ⟨_, rfl, by decide, by decide⟩
    · exact ⟨_, rfl, by decide, by decide⟩
    · exact ⟨_, rfl, by omega, by omega⟩
    · exact ⟨_, rfl, by omega, by omega⟩
  obtain ⟨xs, rfl, lx, px, W1⟩ := pv
  (ac_rfl; (try dsimp only [R_law_draw, R_law_made]); ac_rfl)
  refine ⟨w, 5, rfl, rfl, by decide, by decide, W1.at, fun r h2 a b W2 => ?_⟩
  obtain ⟨c, ec, b, rfl, b0, b1⟩ := at_all _ lx a b px
  refine ix_fls ec ⟨t, b, rfl, rfl, by omega, ?_, sub_i (q _ _ (divInt_size ht b1 (by omega)) (W1.trans W2))⟩
  exact log2_small b1 (by decide)
theorem rd_law_source {K : Frg} (T : TK K) {x0 : A} {h : AH} {Q : AVK} {E : AXK} (hR : R_law_source K x0 h Q E) : t_law_source K { nx := fun _ h' => sub Q .non h', rt := sub Q, ex := fun c _ h' => subE E c h' } [some x0, none] h := by
  obtain ⟨w, rfl, hw, q⟩ := hR
  unfold t_law_source
  (ac_rfl; (try dsimp only [R_law_draw, R_law_made]); ac_rfl)
  refine ⟨w, 17, rfl, rfl, by decide, by decide, hw, fun r1 h1 a1 b1 W1 => ⟨w, _, rfl, rfl, by omega, ?_, W1.at, fun r2 h2 a2 b2 W2 => ⟨_, 16, rfl, rfl, by decide, by decide, _, 16, rfl, rfl, by decide, by decide, szL (by simp), sub_i (q (Rat.divInt r2 16, Rat.divInt r1 16) _ ⟨?_, ?_⟩ (W1.trans W2))⟩⟩⟩
  · exact G.log2_small (show _ < 2 ^ 10 by omega) (by decide)
  · exact divInt_size (by omega) (by decide) (by decide)
  · exact divInt_size (by omega) (by decide) (by decide)
theorem rd_law_word {K : Frg} (T : TK K) {x0 : A} {h : AH} {Q : AVK} {E : AXK} (hR : R_law_word K x0 h Q E) : t_law_word K { nx := fun _ h' => sub Q .non h', rt := sub Q, ex := fun c _ h' => subE E c h' } [some x0] h := by
  obtain ⟨w, rfl, hw, q⟩ := hR
  unfold t_law_word
  (ac_rfl; (try dsimp only [R_law_draw]); ac_rfl)
  refine ⟨szL (by simp), w, 5, rfl, rfl, by decide, by decide, hw, fun r1 h1 a1 b1 W1 => ?_⟩
  obtain ⟨c, ec, m, rfl⟩ := at_all (xs := [.str "over", .str "under", .str "screen", .str "times", .str "atop"]) (n := 5) (fun x => ∃ m, x = .str (manW m)) rfl a1 b1 (fun x hx => by
      simp only [List.mem_cons, List.not_mem_nil, or_false] at hx
      rcases hx with rfl | rfl | rfl | rfl | rfl
      · exact ⟨.over, rfl⟩
      · exact ⟨.under, rfl⟩
      · exact ⟨.screen, rfl⟩
      · exact ⟨.times, rfl⟩
      · exact ⟨.atop, rfl⟩)
  exact ix_fls ec (sub_i (q _ _ W1))
theorem man_sz {n : Nat} (hn : 1 ≤ n) {v : Rat × Rat} (hv : VSz n v) (m : Man) : RSz (2 * n + 4) (manR m v) := by
  have z : ∀ {k}, 1 ≤ k → Sz k 0 := fun h => sz0 h
  have o : ∀ {k}, 1 ≤ k → Sz k 1 := fun h => sz1 h
  have h1 : Sz (2 * n + 4) v.1 := hv.1.mono (by omega)
  have h2 : Sz (2 * n + 4) v.2 := hv.2.mono (by omega)
  have r2 : Sz (n + 2) (1 - v.2) := ((o (k := 1) (by decide)).sub hv.2).mono (by omega)
  have r1 : Sz (2 * n + 4) (1 - v.1) := ((o (k := 1) (by decide)).sub hv.1).mono (by omega)
  have n1 : Sz (2 * n + 4) (0 - v.1) := ((z (k := 1) (by decide)).sub hv.1).mono (by omega)
  have rr : Sz (2 * n + 4) (1 - v.2) := r2.mono (by omega)
  cases m
  · exact ⟨rr, z (by omega), h1, rr, h2⟩
  · exact ⟨o (by omega), n1, h1, rr, h2⟩
  · exact ⟨r1, z (by omega), h1, rr, h2⟩
  · exact ⟨(r2.add hv.1).mono (by omega), n1, h1, rr, h2⟩
  · exact ⟨rr, h1, z (by omega), o (by omega), z (by omega)⟩
theorem RSz.mono {n m : Nat} {r : Rul} (h : RSz n r) (k : n ≤ m) : RSz m r := ⟨h.1.mono k, h.2.1.mono k, h.2.2.1.mono k, h.2.2.2.1.mono k, h.2.2.2.2.mono k⟩
theorem VSz.mono {n m : Nat} {r : Rat × Rat} (h : VSz n r) (k : n ≤ m) : VSz m r := ⟨h.1.mono k, h.2.mono k⟩
theorem rd_law_rule {K : Frg} (T : TK K) {x0 : A} {h : AH} {Q : AVK} {E : AXK} (hR : R_law_rule K x0 h Q E) : t_law_rule K { nx := fun _ h' => sub Q .non h', rt := sub Q, ex := fun c _ h' => subE E c h' } [some x0, none] h := by
  obtain ⟨w, rfl, hw, q⟩ := hR
  unfold t_law_rule
  (ac_rfl; (try dsimp only [R_law_draw, R_law_word, R_law_source, R_law_manner]); ac_rfl)
  refine ⟨w, 3, rfl, rfl, by decide, by decide, hw, fun r1 h1 a1 b1 W1 => eqI ?_⟩
  ac_rfl
  refine ifd (fun _ => ?_) fun _ => ?_
  · refine ⟨by decide, fun D hD => ?_⟩
    refine lcM_rng (fun i acc h' => WS w h h' ∧ ∃ qs : List Rat, acc = qs.map fr ∧ ∀ q ∈ qs, Sz 70 q) hD (by decide) ⟨W1, [], rfl, fun _ z => (nomatch z)⟩ (fun i hi acc h0 C n0 la pv hC => ?_) fun acc h2 la pv => ?_
    · obtain ⟨W2, qs, rfl, gr⟩ := pv
      have nDw : D ≠ w := W2.at.ne n0
      (ac_rfl; (try dsimp only [R_law_fraction]); ac_rfl)
      refine ⟨w, rfl, W2.at.up nDw.symm, fun x h7 hx W7 => ?_⟩
      obtain ⟨h8, W8, rfl⟩ := W7.comm nDw
      refine hC _ h8 ((W8.ne nDw).trans n0) ⟨W2.trans W8, qs ++ [x], by rw [List.map_append]; rfl, fun z hz => ?_⟩
      rcases List.mem_append.mp hz with hz | hz
      · exact gr z hz
      · rw [List.mem_singleton.mp hz]; exact hx
    · obtain ⟨W2, qs, rfl, gr⟩ := pv
      rw [List.length_map] at la
      match qs, la with
      | [a, b, c, d, e], _ =>
        exact sub_i (q ⟨a, b, c, d, e⟩ _ ⟨gr _ (by simp), gr _ (by simp), gr _ (by simp), gr _ (by simp), gr _ (by simp)⟩ W2)
  · refine ⟨w, rfl, W1.at, fun m h2 W2 => ⟨w, rfl, W2.at, fun v h3 hv W3 => ⟨m, v, rfl, rfl, hv.mono (by decide), sub_i (q _ _ ((man_sz (by decide) hv m).mono (by decide)) ((W1.trans W2).trans W3))⟩⟩⟩
theorem rd_law_thing {K : Frg} (T : TK K) {x0 : A} {h : AH} {Q : AVK} {E : AXK} (hR : R_law_thing K x0 h Q E) : t_law_thing K { nx := fun _ h' => sub Q .non h', rt := sub Q, ex := fun c _ h' => subE E c h' } [some x0] h := by
  obtain ⟨w, rfl, hw, q⟩ := hR
  unfold t_law_thing
  (ac_rfl; (try dsimp only [R_law_draw]); ac_rfl)
  refine ⟨w, 15, rfl, rfl, by decide, by decide, hw, fun r1 h1 a1 b1 W1 => ⟨w, 9, rfl, rfl, by decide, by decide, W1.at, fun r2 h2 a2 b2 W2 => ⟨szL (by simp), w, 10, rfl, rfl, by decide, by decide, W2.at, fun r3 h3 a3 b3 W3 => ?_⟩⟩⟩
  obtain ⟨c, ec, hc⟩ := at_all (xs := [.int 0, .int 16, .int 7, .int (1 + r1), .int 17, .int (-1), .bl true, .str "5", .non, .int r2]) (n := 10) Thg rfl a3 b3 (fun x hx => by
      simp only [List.mem_cons, List.not_mem_nil, or_false] at hx
      rcases hx with rfl | rfl | rfl | rfl | rfl | rfl | rfl | rfl | rfl | rfl
      · exact .int _
      · exact .int _
      · exact .int _
      · exact .int _
      · exact .int _
      · exact .int _
      · exact .bl _
      · exact .str
      · exact .non
      · exact .int _)
  exact ix_fls ec (sub_i (q _ _ hc ((W1.trans W2).trans W3)))
end GL
namespace GL
open PySem PySem.Spec L2 G
local macro_rules | `(tactic| ac_rfl) => `(tactic| try dsimp only [nb, aRet, aRetN, aSeq, aIfS, aNext, aBreak, aCont, aDrop, aAsg, aPar, aAug, aSetL, aSetF, aFld, aVar, aC, aNil, aCons, aTup, aLst, a1, a2, aN, aAndV, aOrV, aNotV, aIf, aAnd, aOr, aNot, aTest, aChn, aCall, aMeth, aMake, aBmL, aRaise, aTryOnly, aTryAs, aFor, aiSeq, aiRng1, aiRng2, aiEnum, agN, agNil, agCons, agTup, aSlL, aRev, aNoPart, aPart, aNewK, aNewT, aLc, aWhile, asB, asT, iA, iA0, subA, modA, modP, divP, divA, powA, ltA, leA, gtA, geA, addA, mulA, negA, lenA, absA, intA, allA, listA, tupleA, one, two, sp0, sp1, sp2, sp3, sp4, sp5, sp6, appendA, reverseA, clearA, wipeA, putFA, aFz, aLstF, aSlF, aRevF, aAddF, addF_i, addF_s, addF_t, addF_l, aRepF, aListF, aMakeP, aDyn, aClsFn, sumA, maxL, insertA, popAtA, aDGet, aDPut, aDAug, aFAug, aBmD, maxA, minA, List.getElem?_cons_zero, List.getElem?_cons_succ, List.set_cons_zero, List.set_cons_succ, List.cons_append, List.nil_append, List.append_nil])
local macro_rules | `(tactic| nofun) => `(tactic| try dsimp only [nb, aRet, aRetN, aNext, aBreak, aCont, aDrop, aAsg, aPar, aAug, aSetL, aSetF, aFld, aVar, aC, aNil, aCons, aTup, aLst, a1, a2, aN, aAndV, aOrV, aNotV, aIf, aAnd, aOr, aNot, aTest, aChn, aCall, aMeth, aMake, aBmL, aRaise, aTryOnly, aTryAs, aiSeq, aiRng1, aiRng2, aiEnum, agN, agNil, agCons, agTup, aSlL, aRev, aNoPart, aPart, aNewK, aNewT, aLc, asB, asT, iA, iA0, subA, modA, modP, divP, divA, powA, ltA, leA, gtA, geA, addA, mulA, negA, lenA, absA, intA, allA, listA, tupleA, one, two, sp0, sp1, sp2, sp3, sp4, sp5, sp6, appendA, reverseA, clearA, wipeA, putFA, aFz, aLstF, aSlF, aRevF, aAddF, addF_i, addF_s, addF_t, addF_l, aRepF, aListF, aMakeP, aDyn, aClsFn, sumA, maxL, insertA, popAtA, aDGet, aDPut, aDAug, aFAug, aBmD, maxA, minA, List.getElem?_cons_zero, List.getElem?_cons_succ, List.set_cons_zero, List.set_cons_succ, List.cons_append, List.nil_append, List.append_nil])
inductive Kd where
  | made | plus | minus | times | less | shade | isShade | laid | behind | mixed | parted | stays | manner | found | weakened | adjusted | grounds
  deriving DecidableEq
def kdW : Kd → Str
  | .made => "made"
  | .plus => "plus"
  | .minus => "minus"
  | .times => "times"
  | .less => "less"
  | .shade => "shade"
  | .isShade => "is_shade"
  | .laid => "laid"
  | .behind => "behind"
  | .mixed => "mixed"
  | .parted => "parted"
  | .stays => "stays"
  | .manner => "manner"
  | .found => "found"
  | .weakened => "weakened"
  | .adjusted => "adjusted"
  | .grounds => "grounds"
inductive Ask where
  | made (t b : Int)
  | plus (p q : Rat)
  | minus (p q : Rat)
  | times (p q : Rat)
  | less (p q : Rat)
  | shade (x y : A)
  | isShade (v : Rat × Rat)
  | laid (r : Rul) (v : Rat × Rat)
  | behind (r s : Rul)
  | mixed (r : Rul) (m : Rat)
  | parted (r s : Rul)
  | stays (r : Rul)
  | manner (x : A) (v : Rat × Rat)
  | found (m : Man) (r : Rul)
  | weakened (v : Rat × Rat) (m : Rat)
  | adjusted (x y : A)
  | grounds
def kdOf : Ask → Kd
  | .made .. => .made
  | .plus .. => .plus
  | .minus .. => .minus
  | .times .. => .times
  | .less .. => .less
  | .shade .. => .shade
  | .isShade .. => .isShade
  | .laid .. => .laid
  | .behind .. => .behind
  | .mixed .. => .mixed
  | .parted .. => .parted
  | .stays .. => .stays
  | .manner .. => .manner
  | .found .. => .found
  | .weakened .. => .weakened
  | .adjusted .. => .adjusted
  | .grounds => .grounds
def itemsA : Ask → List A
  | .made t b => [.int t, .int b]
  | .plus p q => [fr p, fr q]
  | .minus p q => [fr p, fr q]
  | .times p q => [fr p, fr q]
  | .less p q => [fr p, fr q]
  | .shade x y => [x, y]
  | .isShade v => [fr v.1, fr v.2]
  | .laid r v => [rulA r, valA v]
  | .behind r s => [rulA r, rulA s]
  | .mixed r m => [rulA r, fr m]
  | .parted r s => [rulA r, rulA s]
  | .stays r => [rulA r]
  | .manner x v => [x, valA v]
  | .found m r => [.str (manW m), rulA r]
  | .weakened v m => [valA v, fr m]
  | .adjusted x y => [x, y]
  | .grounds => []
def argsA (a : Ask) : A := .tup (itemsA a)
def MW (x : A) : Prop := (∃ m, x = .str (manW m)) ∨ (x = .str "Over" ∨ x = .str "" ∨ x = .non ∨ x = .fls [.str "over"])
def okA : Ask → Prop
  | .made _ b => b.natAbs.log2 < 9000
  | .plus p q => Sz 70 p ∧ Sz 70 q
  | .minus p q => Sz 70 p ∧ Sz 70 q
  | .times p q => Sz 70 p ∧ Sz 70 q
  | .less p q => Sz 70 p ∧ Sz 70 q
  | .shade x y => Thg x ∧ Thg y
  | .isShade v => VSz 70 v
  | .laid r v => RSz 70 r ∧ VSz 70 v
  | .behind r s => RSz 70 r ∧ RSz 70 s
  | .mixed r m => RSz 70 r ∧ Sz 70 m
  | .parted r s => RSz 70 r ∧ RSz 70 s
  | .stays r => RSz 70 r
  | .manner x v => MW x ∧ VSz 5 v
  | .found _ r => RSz 80 r
  | .weakened v m => VSz 5 v ∧ Sz 5 m
  | .adjusted x y => Thg x ∧ Thg y
  | .grounds => True
def R_law_args (_ : Frg) : Sp2 := fun x y h Q _ => ∃ w kd, x = .ref w ∧ y = .str (kdW kd) ∧ WellAt h w ∧ ∀ a h', kdOf a = kd → okA a → WS w h h' → Q (argsA a) h'
abbrev sp_law_args (K : Frg) : ASp := sp2 (R_law_args K)
def t_law_args (K : Frg) : ATS := (aSeq (aIfS (aTest (a2 (inSA false) (aVar 1) (aTup (aCons (aC (.str "plus")) (aCons (aC (.str "minus")) (aCons (aC (.str "times")) (aCons (aC (.str "less")) (aCons (aC (.str "is_shade")) aNil))))))))
  (aSeq (aAsg (aCall (sp_law_fraction K) [] (aCons (aVar 0) aNil)) (agN 2))
  (aRet (aTup (aCons (aVar 2) (aCons (a2 ixA (aLstF (aCons (aVar 2) (aCons (aCall (sp_law_fraction K) [] (aCons (aVar 0) aNil)) aNil))) (a2 modP (aCall (sp_law_draw K) [] (aCons (aVar 0) (aCons (aC (.int 6)) aNil))) (aC (.int 2)))) aNil)))))
  aNext)
  (aSeq (aIfS (aTest (a2 (eqA false) (aVar 1) (aC (.str "made"))))
  (aRet (aTup (aCons (a2 subA (aCall (sp_law_draw K) [] (aCons (aVar 0) (aCons (a2 powA (aC (.int 10)) (aC (.int 9))) aNil))) (a2 powA (aC (.int 10)) (aC (.int 6)))) (aCons (a2 ixA (aLstF (aCons (aC (.int 0)) (aCons (aC (.int 16)) (aCons (a1 negA (aC (.int 4))) (aCons (aCall (sp_law_draw K) [] (aCons (aVar 0) (aCons (a2 powA (aC (.int 10)) (aC (.int 6))) aNil))) aNil))))) (aCall (sp_law_draw K) [] (aCons (aVar 0) (aCons (aC (.int 4)) aNil)))) aNil))))
  aNext)
  (aSeq (aIfS (aOr (aTest (a2 (eqA false) (aVar 1) (aC (.str "shade")))) (aTest (a2 (eqA false) (aVar 1) (aC (.str "adjusted")))))
  (aRet (aTup (aCons (aCall (sp_law_thing K) [] (aCons (aVar 0) aNil)) (aCons (aCall (sp_law_thing K) [] (aCons (aVar 0) aNil)) aNil))))
  aNext)
  (aSeq (aIfS (aTest (a2 (eqA false) (aVar 1) (aC (.str "laid"))))
  (aRet (aTup (aCons (aCall (sp_law_rule K) [] (aCons (aVar 0) aNil)) (aCons (aTup (aCons (aCall (sp_law_fraction K) [] (aCons (aVar 0) aNil)) (aCons (aCall (sp_law_fraction K) [] (aCons (aVar 0) aNil)) aNil))) aNil))))
  aNext)
  (aSeq (aIfS (aOr (aTest (a2 (eqA false) (aVar 1) (aC (.str "behind")))) (aTest (a2 (eqA false) (aVar 1) (aC (.str "parted")))))
  (aSeq (aAsg (aCall (sp_law_rule K) [] (aCons (aVar 0) aNil)) (agN 2))
  (aRet (aTup (aCons (aVar 2) (aCons (a2 ixA (aLstF (aCons (aCall (sp_law_rule K) [] (aCons (aVar 0) aNil)) (aCons (aVar 2) aNil))) (a2 divP (aCall (sp_law_draw K) [] (aCons (aVar 0) (aCons (aC (.int 4)) aNil))) (aC (.int 3)))) aNil)))))
  aNext)
  (aSeq (aIfS (aTest (a2 (eqA false) (aVar 1) (aC (.str "mixed"))))
  (aRet (aTup (aCons (aCall (sp_law_rule K) [] (aCons (aVar 0) aNil)) (aCons (aCall (sp_law_fraction K) [] (aCons (aVar 0) aNil)) aNil))))
  aNext)
  (aSeq (aIfS (aTest (a2 (eqA false) (aVar 1) (aC (.str "stays"))))
  (aRet (aTup (aCons (aCall (sp_law_rule K) [] (aCons (aVar 0) aNil)) aNil)))
  aNext)
  (aSeq (aIfS (aTest (a2 (eqA false) (aVar 1) (aC (.str "manner"))))
  (aSeq (aAsg (aAddF (aRepF 4 (aCons (aCall (sp_law_word K) [] (aCons (aVar 0) aNil)) aNil)) (aLstF (aCons (aC (.str "Over")) (aCons (aC (.str "")) (aCons (aC .non) (aCons (aLstF (aCons (aC (.str "over")) aNil)) aNil)))))) (agN 3))
  (aRet (aTup (aCons (a2 ixA (aVar 3) (aCall (sp_law_draw K) [] (aCons (aVar 0) (aCons (aC (.int 8)) aNil)))) (aCons (aCall (sp_law_source K) [] (aCons (aVar 0) aNil)) aNil)))))
  aNext)
  (aSeq (aIfS (aTest (a2 (eqA false) (aVar 1) (aC (.str "found"))))
  (aSeq (aAsg (aCall (sp_law_manner K) [] (aCons (aCall (sp_law_word K) [] (aCons (aVar 0) aNil)) (aCons (aCall (sp_law_source K) [] (aCons (aVar 0) aNil)) aNil))) (agN 2))
  (aSeq (aAsg (aCall (sp_law_behind K) [] (aCons (aVar 2) (aCons (aCall (sp_law_manner K) [] (aCons (aCall (sp_law_word K) [] (aCons (aVar 0) aNil)) (aCons (aCall (sp_law_source K) [] (aCons (aVar 0) aNil)) aNil))) aNil))) (agN 4))
  (aRet (aTup (aCons (aCall (sp_law_word K) [] (aCons (aVar 0) aNil)) (aCons (a2 ixA (aLstF (aCons (aVar 2) (aCons (aVar 4) aNil))) (aCall (sp_law_draw K) [] (aCons (aVar 0) (aCons (aC (.int 2)) aNil)))) aNil))))))
  aNext)
  (aSeq (aIfS (aTest (a2 (eqA false) (aVar 1) (aC (.str "weakened"))))
  (aRet (aTup (aCons (aCall (sp_law_source K) [] (aCons (aVar 0) aNil)) (aCons (aCall (sp_law_made K) [] (aCons (aCall (sp_law_draw K) [] (aCons (aVar 0) (aCons (aC (.int 17)) aNil))) (aCons (aC (.int 16)) aNil))) aNil))))
  aNext)
  (aRet (aTup aNil))))))))))))

theorem sTest {i : Nat} {a b : Str} {α : ASt} {h : AH} {Q : Bool → AH → Prop} {E : Value → AH → Prop} (hv : α[i]? = some (some (.str a))) (q : Q (decide (a = b)) h) : aTest (a2 (eqA false) (aVar i) (aC (.str b))) α h Q E := by
  dsimp only [aTest, a2, aVar, aC]
  simp only [hv]
  exact eqS q
theorem sOr_ne {i : Nat} {a b c : Str} {t r : ATS} {D : AEnds} {α : ASt} {h : AH} (hv : α[i]? = some (some (.str a))) (n : a ≠ b) (n2 : a ≠ c) (q : r D α h) : aSeq (aIfS (aOr (aTest (a2 (eqA false) (aVar i) (aC (.str b)))) (aTest (a2 (eqA false) (aVar i) (aC (.str c))))) t aNext) r D α h := by
  dsimp only [aSeq, aIfS, aOr, aNext]
  refine sTest hv ?_
  rw [decide_eq_false n]
  refine ifF (sTest hv ?_)
  rw [decide_eq_false n2]
  exact ifF q
theorem sOr_l {i : Nat} {a : Str} {u : ATT} {t r : ATS} {D : AEnds} {α : ASt} {h : AH} (hv : α[i]? = some (some (.str a))) (q : t { D with nx := r D } α h) : aSeq (aIfS (aOr (aTest (a2 (eqA false) (aVar i) (aC (.str a)))) u) t aNext) r D α h := by
  dsimp only [aSeq, aIfS, aOr, aNext]
  refine sTest hv ?_
  rw [decide_eq_true rfl]
  exact ifT (ifT q)
theorem sOr_r {i : Nat} {a b : Str} {t r : ATS} {D : AEnds} {α : ASt} {h : AH} (hv : α[i]? = some (some (.str a))) (n : a ≠ b) (q : t { D with nx := r D } α h) : aSeq (aIfS (aOr (aTest (a2 (eqA false) (aVar i) (aC (.str b)))) (aTest (a2 (eqA false) (aVar i) (aC (.str a))))) t aNext) r D α h := by
  dsimp only [aSeq, aIfS, aOr, aNext]
  refine sTest hv ?_
  rw [decide_eq_false n]
  refine ifF (sTest hv ?_)
  rw [decide_eq_true rfl]
  exact ifT q
theorem sIn {i : Nat} {a : Str} {te : ATA} {ks : List Str} {t r : ATS} {D : AEnds} {α : ASt} {h : AH} (hv : α[i]? = some (some (.str a))) (hte : ∀ Q : List A → AH → Prop, ∀ E, Q (ks.map A.str) h → te α h Q E) (sz : ks.length ≤ sizeLine) (b : Bool) (e : inA (.str a) (ks.map A.str) = b) (q : if b = true then t { D with nx := r D } α h else r D α h) : aSeq (aIfS (aTest (a2 (inSA false) (aVar i) (aTup te))) t aNext) r D α h := by
  dsimp only [aSeq, aIfS, aTest, a2, aVar, aNext, aTup]
  simp only [hv]
  refine hte _ _ ⟨by rw [List.length_map]; exact sz, ?_⟩
  show (flatA (.str a) = true ∧ (ks.map A.str).all flatA = true) ∧ _
  refine ⟨⟨rfl, List.all_eq_true.mpr fun x hx => ?_⟩, ?_⟩
  · obtain ⟨k, _, rfl⟩ := List.mem_map.mp hx; rfl
  · rw [e]; exact q
theorem one_of {r : Int} {a b : A} {h : AH} {Q : AVK} (h0 : 0 ≤ r) (h1 : r < 2) (q1 : Q a h) (q2 : Q b h) : ixA (.fls [a, b]) (.int r) h Q := by
  have : r = 0 ∨ r = 1 := by omega
  rcases this with rfl | rfl
  · exact ix_fls rfl q1
  · exact ix_fls rfl q2
theorem rd_law_args {K : Frg} (T : TK K) {x0 x1 : A} {h : AH} {Q : AVK} {E : AXK} (hR : R_law_args K x0 x1 h Q E) : t_law_args K { nx := fun _ h' => sub Q .non h', rt := sub Q, ex := fun c _ h' => subE E c h' } [some x0, some x1, none, none, none] h := by
  obtain ⟨w, kd, rfl, rfl, hw, q⟩ := hR
  unfold t_law_args
  have two : kd = .plus ∨ kd = .minus ∨ kd = .times ∨ kd = .less ∨ kd = .isShade → (∃ f : Rat → Rat → Ask, ∀ x y, kdOf (f x y) = kd ∧ (Sz 70 x → Sz 70 y → okA (f x y)) ∧ argsA (f x y) = .tup [fr x, fr y]) := fun c => by
    rcases c with rfl | rfl | rfl | rfl | rfl
    · exact ⟨.plus, fun _ _ => ⟨rfl, fun a b => ⟨a, b⟩, rfl⟩⟩
    · exact ⟨.minus, fun _ _ => ⟨rfl, fun a b => ⟨a, b⟩, rfl⟩⟩
    · exact ⟨.times, fun _ _ => ⟨rfl, fun a b => ⟨a, b⟩, rfl⟩⟩
    · exact ⟨.less, fun _ _ => ⟨rfl, fun a b => ⟨a, b⟩, rfl⟩⟩
    · exact ⟨fun x y => .isShade (x, y), fun _ _ => ⟨rfl, fun a b => ⟨a, b⟩, rfl⟩⟩
  have sk : ∀ {t r : ATS} {D : AEnds}, (kd ≠ .plus ∧ kd ≠ .minus ∧ kd ≠ .times ∧ kd ≠ .less ∧ kd ≠ .isShade) → r D [some (.ref w), some (.str (kdW kd)), none, none, none] h → aSeq (aIfS (aTest (a2 (inSA false) (aVar 1) (aTup (aCons (aC (.str "plus")) (aCons (aC (.str "minus")) (aCons (aC (.str "times")) (aCons (aC (.str "less")) (aCons (aC (.str "is_shade")) aNil)))))))) t aNext) r D [some (.ref w), some (.str (kdW kd)), none, none, none] h := fun c x => sIn rfl (ks := ["plus", "minus", "times", "less", "is_shade"]) (fun Q E z => z) (by decide) false (by cases kd <;> first | decide | (exfalso; simp at c)) (ifF x)
  by_cases c : kd = .plus ∨ kd = .minus ∨ kd = .times ∨ kd = .less ∨ kd = .isShade
  · obtain ⟨f, hf⟩ := two c
    refine sIn rfl (ks := ["plus", "minus", "times", "less", "is_shade"]) (fun Q E z => z) (by decide) true (by rcases c with rfl | rfl | rfl | rfl | rfl <;> decide) (ifT ?_)
    (ac_rfl; (try dsimp only [R_law_fraction, R_law_draw]); ac_rfl)
    refine ⟨w, rfl, hw, fun x h1 hx W1 => ⟨w, rfl, W1.at, fun y h2 hy W2 => ⟨szL (by simp), w, 6, rfl, rfl, by decide, by decide, W2.at, fun r h3 a b W3 => ⟨by decide, ?_⟩⟩⟩⟩
    have W := (W1.trans W2).trans W3
    refine one_of (by omega) (by omega) ⟨szL (by simp), sub_i ?_⟩ ⟨szL (by simp), sub_i ?_⟩
    · rw [← (hf x x).2.2]; exact q _ _ (hf x x).1 ((hf x x).2.1 hx hx) W
    · rw [← (hf x y).2.2]; exact q _ _ (hf x y).1 ((hf x y).2.1 hx hy) W
  have c' : kd ≠ .plus ∧ kd ≠ .minus ∧ kd ≠ .times ∧ kd ≠ .less ∧ kd ≠ .isShade := ⟨fun z => c (.inl z), fun z => c (.inr (.inl z)), fun z => c (.inr (.inr (.inl z))), fun z => c (.inr (.inr (.inr (.inl z)))), fun z => c (.inr (.inr (.inr (.inr z))))⟩
  refine sk c' ?_
  clear sk two c
  cases kd with
  | plus => exact absurd rfl c'.1
  | minus => exact absurd rfl c'.2.1
  | times => exact absurd rfl c'.2.2.1
  | less => exact absurd rfl c'.2.2.2.1
  | isShade => exact absurd rfl c'.2.2.2.2
  | made =>
    refine sKey_eq rfl ?_
    (ac_rfl; (try dsimp only [R_law_draw]); ac_rfl)
    refine ⟨⟨by decide, by decide, by decide⟩, w, _, rfl, rfl, by decide, by decide, hw, fun r1 h1 a1 b1 W1 => ⟨⟨by decide, by decide, by decide⟩, ⟨by decide, by decide, by decide⟩, w, _, rfl, rfl, by decide, by decide, W1.at, fun r2 h2 a2 b2 W2 => ⟨szL (by simp), w, 4, rfl, rfl, by decide, by decide, W2.at, fun r3 h3 a3 b3 W3 => ?_⟩⟩⟩
    have : r2 < 1000000 := b2
    obtain ⟨d, ed, b, rfl, hb⟩ := at_all (xs := [.int 0, .int 16, .int (-4), .int r2]) (n := 4) (fun x => ∃ t : Int, x = .int t ∧ t.natAbs < 2 ^ 70) rfl a3 b3 (fun x hx => by
      simp only [List.mem_cons, List.not_mem_nil, or_false] at hx
      rcases hx with rfl | rfl | rfl | rfl
      · exact ⟨_, rfl, by decide⟩
      · exact ⟨_, rfl, by decide⟩
      · exact ⟨_, rfl, by decide⟩
      · exact ⟨_, rfl, by omega⟩)
    exact ix_fls ed ⟨szL (by simp), sub_i (q (.made _ b) _ rfl (log2_small hb (by decide)) ((W1.trans W2).trans W3))⟩
  | shade =>
    refine sKey_ne rfl (by decide) (sOr_l rfl ?_)
    (ac_rfl; (try dsimp only [R_law_thing]); ac_rfl)
    exact ⟨w, rfl, hw, fun x h1 hx W1 => ⟨w, rfl, W1.at, fun y h2 hy W2 => ⟨szL (by simp), sub_i (q (.shade x y) _ rfl ⟨hx, hy⟩ (W1.trans W2))⟩⟩⟩
  | adjusted =>
    refine sKey_ne rfl (by decide) (sOr_r rfl (by decide) ?_)
    (ac_rfl; (try dsimp only [R_law_thing]); ac_rfl)
    exact ⟨w, rfl, hw, fun x h1 hx W1 => ⟨w, rfl, W1.at, fun y h2 hy W2 => ⟨szL (by simp), sub_i (q (.adjusted x y) _ rfl ⟨hx, hy⟩ (W1.trans W2))⟩⟩⟩
  | laid =>
    refine sKey_ne rfl (by decide) (sOr_ne rfl (by decide) (by decide) (sKey_eq rfl ?_))
    (ac_rfl; (try dsimp only [R_law_rule, R_law_fraction]); ac_rfl)
    exact ⟨w, rfl, hw, fun r h1 hr W1 => ⟨w, rfl, W1.at, fun x h2 hx W2 => ⟨w, rfl, W2.at, fun y h3 hy W3 => ⟨szL (by simp), szL (by simp), sub_i (q (.laid r (x, y)) _ rfl ⟨hr, hx, hy⟩ ((W1.trans W2).trans W3))⟩⟩⟩⟩
  | behind =>
    refine sKey_ne rfl (by decide) (sOr_ne rfl (by decide) (by decide) (sKey_ne rfl (by decide) (sOr_l rfl ?_)))
    (ac_rfl; (try dsimp only [R_law_rule, R_law_draw]); ac_rfl)
    refine ⟨w, rfl, hw, fun r h1 hr W1 => ⟨w, rfl, W1.at, fun s h2 hs W2 => ⟨szL (by simp), w, 4, rfl, rfl, by decide, by decide, W2.at, fun k h3 a b W3 => ⟨cd, one_of (by omega) (by omega) ⟨szL (by simp), sub_i (q (.behind r s) _ rfl ⟨hr, hs⟩ ((W1.trans W2).trans W3))⟩ ⟨szL (by simp), sub_i (q (.behind r r) _ rfl ⟨hr, hr⟩ ((W1.trans W2).trans W3))⟩⟩⟩⟩⟩
  | parted =>
    refine sKey_ne rfl (by decide) (sOr_ne rfl (by decide) (by decide) (sKey_ne rfl (by decide) (sOr_r rfl (by decide) ?_)))
    (ac_rfl; (try dsimp only [R_law_rule, R_law_draw]); ac_rfl)
    refine ⟨w, rfl, hw, fun r h1 hr W1 => ⟨w, rfl, W1.at, fun s h2 hs W2 => ⟨szL (by simp), w, 4, rfl, rfl, by decide, by decide, W2.at, fun k h3 a b W3 => ⟨cd, one_of (by omega) (by omega) ⟨szL (by simp), sub_i (q (.parted r s) _ rfl ⟨hr, hs⟩ ((W1.trans W2).trans W3))⟩ ⟨szL (by simp), sub_i (q (.parted r r) _ rfl ⟨hr, hr⟩ ((W1.trans W2).trans W3))⟩⟩⟩⟩⟩
  | mixed =>
    refine sKey_ne rfl (by decide) (sOr_ne rfl (by decide) (by decide) (sKey_ne rfl (by decide) (sOr_ne rfl (by decide) (by decide) (sKey_eq rfl ?_))))
    (ac_rfl; (try dsimp only [R_law_rule, R_law_fraction]); ac_rfl)
    exact ⟨w, rfl, hw, fun r h1 hr W1 => ⟨w, rfl, W1.at, fun x h2 hx W2 => ⟨szL (by simp), sub_i (q (.mixed r x) _ rfl ⟨hr, hx⟩ (W1.trans W2))⟩⟩⟩
  | stays =>
    refine sKey_ne rfl (by decide) (sOr_ne rfl (by decide) (by decide) (sKey_ne rfl (by decide) (sOr_ne rfl (by decide) (by decide) (sKey_ne rfl (by decide) (sKey_eq rfl ?_)))))
    (ac_rfl; (try dsimp only [R_law_rule]); ac_rfl)
    exact ⟨w, rfl, hw, fun r h1 hr W1 => ⟨szL (by simp), sub_i (q (.stays r) _ rfl hr W1)⟩⟩
  | manner =>
    refine sKey_ne rfl (by decide) (sOr_ne rfl (by decide) (by decide) (sKey_ne rfl (by decide) (sOr_ne rfl (by decide) (by decide) (sKey_ne rfl (by decide) (sKey_ne rfl (by decide) (sKey_eq rfl ?_))))))
    (ac_rfl; (try dsimp only [R_law_word, R_law_draw, R_law_source]); ac_rfl)
    refine ⟨w, rfl, hw, fun m h1 W1 => ⟨⟨by decide, by decide, szL (by simp), szL (by simp)⟩, szL (by simp), szL (by simp), szL (by simp), w, 8, rfl, rfl, by decide, by decide, W1.at, fun r h2 a b W2 => ?_⟩⟩
    obtain ⟨c, ec, hc⟩ := at_all (xs := [.str (manW m), .str (manW m), .str (manW m), .str (manW m), .str "Over", .str "", .non, .fls [.str "over"]]) (n := 8) MW rfl a b (fun x hx => by
      simp only [List.mem_cons, List.not_mem_nil, or_false] at hx
      rcases hx with rfl | rfl | rfl | rfl | rfl | rfl | rfl | rfl
      · exact .inl ⟨m, rfl⟩
      · exact .inl ⟨m, rfl⟩
      · exact .inl ⟨m, rfl⟩
      · exact .inl ⟨m, rfl⟩
      · exact .inr (.inl rfl)
      · exact .inr (.inr (.inl rfl))
      · exact .inr (.inr (.inr (.inl rfl)))
      · exact .inr (.inr (.inr (.inr rfl))))
    exact ix_fls ec ⟨w, rfl, W2.at, fun v h3 hv W3 => ⟨szL (by simp), sub_i (q (.manner c v) _ rfl ⟨hc, hv⟩ ((W1.trans W2).trans W3))⟩⟩
  | found =>
    refine sKey_ne rfl (by decide) (sOr_ne rfl (by decide) (by decide) (sKey_ne rfl (by decide) (sOr_ne rfl (by decide) (by decide) (sKey_ne rfl (by decide) (sKey_ne rfl (by decide) (sKey_ne rfl (by decide) (sKey_eq rfl ?_)))))))
    (ac_rfl; (try dsimp only [R_law_word, R_law_draw, R_law_source, R_law_manner, R_law_behind, R_behind]); ac_rfl)
    refine ⟨w, rfl, hw, fun m h1 W1 => ⟨w, rfl, W1.at, fun v h2 hv W2 => ⟨m, v, rfl, rfl, hv.mono (by decide), w, rfl, W2.at, fun m' h3 W3 => ⟨w, rfl, W3.at, fun v' h4 hv' W4 => ⟨m', v', rfl, rfl, hv'.mono (by decide), ?_⟩⟩⟩⟩⟩
    have s1 := man_sz (by decide) hv m
    have s2 := man_sz (by decide) hv' m'
    have s3 : RSz 80 (comp (manR m v) (manR m' v')) := by
      obtain ⟨x1, x2, x3, x4, x5⟩ := s1
      obtain ⟨y1, y2, y3, y4, y5⟩ := s2
      exact ⟨(y1.mul x1).mono (by decide), ((y1.mul x2).add (y2.mul x4)).mono (by decide), (((y1.mul x3).add (y2.mul x5)).add y3).mono (by decide), (y4.mul x4).mono (by decide), ((y4.mul x5).add y5).mono (by decide)⟩
    refine ⟨_, _, rfl, rfl, s1.mono (by decide), s2.mono (by decide), w, rfl, W4.at, fun m2 h5 W5 => ⟨szL (by simp), w, 2, rfl, rfl, by decide, by decide, W5.at, fun k h6 a b W6 => ?_⟩⟩
    have W := ((((W1.trans W2).trans W3).trans W4).trans W5).trans W6
    exact one_of a b ⟨szL (by simp), sub_i (q (.found m2 _) _ rfl (s1.mono (by decide) : RSz 80 _) W)⟩ ⟨szL (by simp), sub_i (q (.found m2 _) _ rfl s3 W)⟩
  | weakened =>
    refine sKey_ne rfl (by decide) (sOr_ne rfl (by decide) (by decide) (sKey_ne rfl (by decide) (sOr_ne rfl (by decide) (by decide) (sKey_ne rfl (by decide) (sKey_ne rfl (by decide) (sKey_ne rfl (by decide) (sKey_ne rfl (by decide) (sKey_eq rfl ?_))))))))
    (ac_rfl; (try dsimp only [R_law_draw, R_law_source, R_law_made]); ac_rfl)
    exact ⟨w, rfl, hw, fun v h1 hv W1 => ⟨w, 17, rfl, rfl, by decide, by decide, W1.at, fun k h2 a b W2 => ⟨_, 16, rfl, rfl, by decide, by decide, szL (by simp), sub_i (q (.weakened v _) _ rfl ⟨hv, divInt_size (by omega) (by decide) (by decide)⟩ (W1.trans W2))⟩⟩⟩
  | grounds =>
    refine sKey_ne rfl (by decide) (sOr_ne rfl (by decide) (by decide) (sKey_ne rfl (by decide) (sOr_ne rfl (by decide) (by decide) (sKey_ne rfl (by decide) (sKey_ne rfl (by decide) (sKey_ne rfl (by decide) (sKey_ne rfl (by decide) (sKey_ne rfl (by decide) ?_))))))))
    ac_rfl
    exact ⟨szL (by simp), sub_i (q .grounds _ rfl trivial (.refl hw))⟩
end GL
namespace GL
open PySem PySem.Spec L2 G
local macro_rules | `(tactic| ac_rfl) => `(tactic| try dsimp only [nb, aRet, aRetN, aSeq, aIfS, aNext, aBreak, aCont, aDrop, aAsg, aPar, aAug, aSetL, aSetF, aFld, aVar, aC, aNil, aCons, aTup, aLst, a1, a2, aN, aAndV, aOrV, aNotV, aIf, aAnd, aOr, aNot, aTest, aChn, aCall, aMeth, aMake, aBmL, aRaise, aTryOnly, aTryAs, aFor, aiSeq, aiRng1, aiRng2, aiEnum, agN, agNil, agCons, agTup, aSlL, aRev, aNoPart, aPart, aNewK, aNewT, aLc, aWhile, asB, asT, iA, iA0, subA, modA, modP, divP, divA, powA, ltA, leA, gtA, geA, addA, mulA, negA, lenA, absA, intA, allA, listA, tupleA, one, two, sp0, sp1, sp2, sp3, sp4, sp5, sp6, appendA, reverseA, clearA, wipeA, putFA, aFz, aLstF, aSlF, aRevF, aAddF, addF_i, addF_s, addF_t, addF_l, aRepF, aListF, aMakeP, aDyn, aClsFn, sumA, maxL, insertA, popAtA, aDGet, aDPut, aDAug, aFAug, aBmD, maxA, minA, List.getElem?_cons_zero, List.getElem?_cons_succ, List.set_cons_zero, List.set_cons_succ, List.cons_append, List.nil_append, List.append_nil])
local macro_rules | `(tactic| nofun) => `(tactic| try dsimp only [nb, aRet, aRetN, aNext, aBreak, aCont, aDrop, aAsg, aPar, aAug, aSetL, aSetF, aFld, aVar, aC, aNil, aCons, aTup, aLst, a1, a2, aN, aAndV, aOrV, aNotV, aIf, aAnd, aOr, aNot, aTest, aChn, aCall, aMeth, aMake, aBmL, aRaise, aTryOnly, aTryAs, aiSeq, aiRng1, aiRng2, aiEnum, agN, agNil, agCons, agTup, aSlL, aRev, aNoPart, aPart, aNewK, aNewT, aLc, asB, asT, iA, iA0, subA, modA, modP, divP, divA, powA, ltA, leA, gtA, geA, addA, mulA, negA, lenA, absA, intA, allA, listA, tupleA, one, two, sp0, sp1, sp2, sp3, sp4, sp5, sp6, appendA, reverseA, clearA, wipeA, putFA, aFz, aLstF, aSlF, aRevF, aAddF, addF_i, addF_s, addF_t, addF_l, aRepF, aListF, aMakeP, aDyn, aClsFn, sumA, maxL, insertA, popAtA, aDGet, aDPut, aDAug, aFAug, aBmD, maxA, minA, List.getElem?_cons_zero, List.getElem?_cons_succ, List.set_cons_zero, List.set_cons_succ, List.cons_append, List.nil_append, List.append_nil])
def bothB (x y : A) : Bool := goodB x && goodB y
def intV : A → Int
  | .int i => i
  | _ => 0
/-- the word of the refusal -/
def refW : Ask → Str
  | .made _ b => if b = 0 then "fraction" else ""
  | .shade x y => if bothB x y = false ∨ intV y < intV x then "shade" else ""
  | .adjusted x y => if bothB x y = false ∨ 16 < intV x + intV y then "gain" else ""
  | .manner x _ => match x with
    | .str s => if s ∈ (["over", "under", "screen", "times", "atop"] : List Str) then "" else "manner"
    | _ => "manner"
  | _ => ""
def manO : A → Man
  | .str s => if s = "over" then .over else if s = "under" then .under else if s = "screen" then .screen else if s = "times" then .times else .atop
  | _ => .over
/-- what is told -/
def dueA : Ask → A
  | .made t b => fr (Rat.divInt t b)
  | .plus p q => fr (p + q)
  | .minus p q => fr (p - q)
  | .times p q => fr (p * q)
  | .less p q => .bl (decide (p < q))
  | .shade x y => valA (Rat.divInt (intV x) 16, Rat.divInt (intV y) 16)
  | .isShade v => .bl (isSh v)
  | .laid r v => valA (laidR r v)
  | .behind r s => rulA (comp r s)
  | .mixed r m => rulA (mixR r m)
  | .parted r s => optV (partO r s)
  | .stays r => .bl (stayB r)
  | .manner x v => .tup [x, rulA (manR (manO x) v)]
  | .found m r => optV (optSh (fndV m r))
  | .weakened v m => valA (m * v.1, m * v.2)
  | .adjusted x y => rulA (adjR (intV x) (intV y))
  | .grounds => .fls (grndL.map valA)
def excC (K : Frg) : Ask → Addr
  | .made .. => c_NoFraction K
  | .shade .. => c_NoShade K
  | .adjusted .. => c_NoGain K
  | _ => c_NoManner K
/-- how an answer comes -/
def Told (K : Frg) (a : Ask) (h : AH) (Q : AVK) (E : AXK) : Prop :=
  (refW a ≠ "" → E (.ref (excC K a)) h) ∧ (refW a = "" → a ≠ .grounds → Q (dueA a) h) ∧ (a = .grounds → ∀ p, h p = none → Q (.ref p) (updA h p (.lst (grndL.map valA))))
def R_law_answer_more (K : Frg) : Sp2 := fun x y h Q E => ∃ a, x = .str (kdW (kdOf a)) ∧ y = argsA a ∧ okA a ∧ (kdOf a = .mixed ∨ kdOf a = .parted ∨ kdOf a = .stays ∨ kdOf a = .manner ∨ kdOf a = .found ∨ kdOf a = .weakened ∨ kdOf a = .adjusted ∨ kdOf a = .grounds) ∧ Told K a h Q E
def R_law_answer (K : Frg) : Sp2 := fun x y h Q E => ∃ a, x = .str (kdW (kdOf a)) ∧ y = argsA a ∧ okA a ∧ Told K a h Q E
abbrev sp_law_answer_more (K : Frg) : ASp := sp2 (R_law_answer_more K)
abbrev sp_law_answer (K : Frg) : ASp := sp2 (R_law_answer K)
def t_law_answer_more (K : Frg) : ATS := (aSeq (aIfS (aTest (a2 (eqA false) (aVar 0) (aC (.str "mixed"))))
  (aRet (aCall (sp_mixed K) [] (aCons (a2 ixA (aVar 1) (aC (.int 0))) (aCons (a2 ixA (aVar 1) (aC (.int 1))) aNil))))
  aNext)
  (aSeq (aIfS (aTest (a2 (eqA false) (aVar 0) (aC (.str "parted"))))
  (aRet (aCall (sp_parted K) [] (aCons (a2 ixA (aVar 1) (aC (.int 0))) (aCons (a2 ixA (aVar 1) (aC (.int 1))) aNil))))
  aNext)
  (aSeq (aIfS (aTest (a2 (eqA false) (aVar 0) (aC (.str "stays"))))
  (aRet (aCall (sp_stays K) [] (aCons (a2 ixA (aVar 1) (aC (.int 0))) aNil)))
  aNext)
  (aSeq (aIfS (aTest (a2 (eqA false) (aVar 0) (aC (.str "manner"))))
  (aSeq (aAsg (aCall (sp_manner_of K) [] (aCons (a2 ixA (aVar 1) (aC (.int 0))) aNil)) (agN 2))
  (aRet (aTup (aCons (aDyn [(c_Over K, sp_Over_word K), (c_Under K, sp_Under_word K), (c_Screen K, sp_Screen_word K), (c_Times K, sp_Times_word K), (c_Atop K, sp_Atop_word K)] "word" (aVar 2) aNil) (aCons (aDyn [(c_Over K, sp_Over_rule K), (c_Under K, sp_Under_rule K), (c_Screen K, sp_Screen_rule K), (c_Times K, sp_Times_rule K), (c_Atop K, sp_Atop_rule K)] "rule" (aVar 2) (aCons (a2 ixA (aVar 1) (aC (.int 1))) aNil)) aNil)))))
  aNext)
  (aSeq (aIfS (aTest (a2 (eqA false) (aVar 0) (aC (.str "found"))))
  (aRet (aDyn [(c_Over K, sp_Manner_found K), (c_Under K, sp_Manner_found K), (c_Screen K, sp_Manner_found K), (c_Times K, sp_Manner_found K), (c_Atop K, sp_Atop_found K)] "found" (aCall (sp_manner_of K) [] (aCons (a2 ixA (aVar 1) (aC (.int 0))) aNil)) (aCons (a2 ixA (aVar 1) (aC (.int 1))) aNil)))
  aNext)
  (aSeq (aIfS (aTest (a2 (eqA false) (aVar 0) (aC (.str "weakened"))))
  (aRet (aCall (sp_weakened K) [] (aCons (a2 ixA (aVar 1) (aC (.int 0))) (aCons (a2 ixA (aVar 1) (aC (.int 1))) aNil))))
  aNext)
  (aSeq (aIfS (aTest (a2 (eqA false) (aVar 0) (aC (.str "adjusted"))))
  (aRet (aCall (sp_adjusted K) [] (aCons (a2 ixA (aVar 1) (aC (.int 0))) (aCons (a2 ixA (aVar 1) (aC (.int 1))) aNil))))
  aNext)
  (aRet (aCall (sp_grounds K) [] aNil)))))))))
def t_law_answer (K : Frg) : ATS := (aSeq (aIfS (aTest (a2 (eqA false) (aVar 0) (aC (.str "made"))))
  (aRet (aCall (sp_made K) [] (aCons (a2 ixA (aVar 1) (aC (.int 0))) (aCons (a2 ixA (aVar 1) (aC (.int 1))) aNil))))
  aNext)
  (aSeq (aIfS (aTest (a2 (eqA false) (aVar 0) (aC (.str "plus"))))
  (aRet (aCall (sp_plus K) [] (aCons (a2 ixA (aVar 1) (aC (.int 0))) (aCons (a2 ixA (aVar 1) (aC (.int 1))) aNil))))
  aNext)
  (aSeq (aIfS (aTest (a2 (eqA false) (aVar 0) (aC (.str "minus"))))
  (aRet (aCall (sp_minus K) [] (aCons (a2 ixA (aVar 1) (aC (.int 0))) (aCons (a2 ixA (aVar 1) (aC (.int 1))) aNil))))
  aNext)
  (aSeq (aIfS (aTest (a2 (eqA false) (aVar 0) (aC (.str "times"))))
  (aRet (aCall (sp_times K) [] (aCons (a2 ixA (aVar 1) (aC (.int 0))) (aCons (a2 ixA (aVar 1) (aC (.int 1))) aNil))))
  aNext)
  (aSeq (aIfS (aTest (a2 (eqA false) (aVar 0) (aC (.str "less"))))
  (aRet (aCall (sp_less K) [] (aCons (a2 ixA (aVar 1) (aC (.int 0))) (aCons (a2 ixA (aVar 1) (aC (.int 1))) aNil))))
  aNext)
  (aSeq (aIfS (aTest (a2 (eqA false) (aVar 0) (aC (.str "shade"))))
  (aRet (aCall (sp_shade K) [] (aCons (a2 ixA (aVar 1) (aC (.int 0))) (aCons (a2 ixA (aVar 1) (aC (.int 1))) aNil))))
  aNext)
  (aSeq (aIfS (aTest (a2 (eqA false) (aVar 0) (aC (.str "is_shade"))))
  (aRet (aCall (sp_is_shade K) [] (aCons (aVar 1) aNil)))
  aNext)
  (aSeq (aIfS (aTest (a2 (eqA false) (aVar 0) (aC (.str "laid"))))
  (aRet (aCall (sp_laid K) [] (aCons (a2 ixA (aVar 1) (aC (.int 0))) (aCons (a2 ixA (aVar 1) (aC (.int 1))) aNil))))
  aNext)
  (aSeq (aIfS (aTest (a2 (eqA false) (aVar 0) (aC (.str "behind"))))
  (aRet (aCall (sp_behind K) [] (aCons (a2 ixA (aVar 1) (aC (.int 0))) (aCons (a2 ixA (aVar 1) (aC (.int 1))) aNil))))
  aNext)
  (aRet (aCall (sp_law_answer_more K) [] (aCons (aVar 0) (aCons (aVar 1) aNil)))))))))))))

theorem refW_made {t b : Int} : refW (.made t b) = if b = 0 then ("fraction" : Str) else ("" : Str) := rfl
theorem refW_shade {x y : A} : refW (.shade x y) = if bothB x y = false ∨ intV y < intV x then ("shade" : Str) else ("" : Str) := rfl
theorem refW_adj {x y : A} : refW (.adjusted x y) = if bothB x y = false ∨ 16 < intV x + intV y then ("gain" : Str) else ("" : Str) := rfl
theorem manO_W (m : Man) : manO (.str (manW m)) = m := by cases m <;> rfl
theorem mw_cases {x : A} (h : MW x) : (∃ m, x = .str (manW m) ∧ ∀ v, refW (.manner x v) = "") ∨ ((Pu 5 x ∧ ∀ m, eqP (.str (manW m)) x = false) ∧ ∀ v, refW (.manner x v) ≠ "") := by
  rcases h with ⟨m, rfl⟩ | rfl | rfl | rfl | rfl
  · exact .inl ⟨m, rfl, fun v => by cases m <;> rfl⟩
  · exact .inr ⟨⟨.str (by decide +kernel), fun m => by cases m <;> decide +kernel⟩, fun v => show ("manner" : Str) ≠ "" by decide⟩
  · exact .inr ⟨⟨.str (by decide +kernel), fun m => by cases m <;> decide +kernel⟩, fun v => show ("manner" : Str) ≠ "" by decide⟩
  · exact .inr ⟨⟨.non, fun m => by cases m <;> decide +kernel⟩, fun v => show ("manner" : Str) ≠ "" by decide⟩
  · exact .inr ⟨⟨.fls fun y hy => by
      simp only [List.mem_singleton] at hy
      subst hy
      exact .str (by decide +kernel), fun m => by cases m <;> decide +kernel⟩, fun v => show ("manner" : Str) ≠ "" by decide⟩
theorem thg_kind {x : A} (h : Thg x) (hp : AH) : ∃ k, kindA hp x = some k := by cases h <;> exact ⟨_, rfl⟩
theorem good_intV {x : A} (h : goodB x = true) : x = .int (intV x) ∧ 0 ≤ intV x ∧ intV x ≤ 16 := by
  obtain ⟨i, rfl, h0, h1⟩ := good_int h
  exact ⟨rfl, h0, h1⟩
theorem both_cases (x y : A) : (bothB x y = false) ∨ (bothB x y = true ∧ goodB x = true ∧ goodB y = true) := by
  unfold bothB
  cases goodB x <;> cases goodB y <;> simp
theorem rd_law_answer_more {K : Frg} (T : TK K) {x0 x1 : A} {h : AH} {Q : AVK} {E : AXK} (hR : R_law_answer_more K x0 x1 h Q E) : t_law_answer_more K { nx := fun _ h' => sub Q .non h', rt := sub Q, ex := fun c _ h' => subE E c h' } [some x0, some x1, none] h := by
  obtain ⟨a, rfl, rfl, ok, kd, q0, q1, q2⟩ := hR
  unfold t_law_answer_more
  cases a with
  | mixed r m =>
    refine sKey_eq rfl ?_
    (ac_rfl; (try dsimp only [argsA, itemsA, R_mixed]); ac_rfl)
    obtain ⟨hr, hm⟩ := ok
    exact ix_tup rfl (ix_tup rfl ⟨r, m, rfl, rfl, hr.mono (by decide), hm.mono (by decide), sub_i (q1 rfl (by simp))⟩)
  | parted r s =>
    refine sKey_ne rfl (by dsimp only [kdOf]; decide) (sKey_eq rfl ?_)
    (ac_rfl; (try dsimp only [argsA, itemsA, R_parted]); ac_rfl)
    obtain ⟨hr, hs⟩ := ok
    exact ix_tup rfl (ix_tup rfl ⟨r, s, rfl, rfl, hr.mono (by decide), hs.mono (by decide), sub_i (q1 rfl (by simp))⟩)
  | stays r =>
    refine sKey_ne rfl (by dsimp only [kdOf]; decide) (sKey_ne rfl (by dsimp only [kdOf]; decide) (sKey_eq rfl ?_))
    (ac_rfl; (try dsimp only [argsA, itemsA, R_stays]); ac_rfl)
    exact ix_tup rfl ⟨r, rfl, RSz.mono ok (by decide), sub_i (q1 rfl (by simp))⟩
  | manner x v =>
    refine sKey_ne rfl (by dsimp only [kdOf]; decide) (sKey_ne rfl (by dsimp only [kdOf]; decide) (sKey_ne rfl (by dsimp only [kdOf]; decide) (sKey_eq rfl ?_)))
    (ac_rfl; (try dsimp only [argsA, itemsA, R_manner_of]); ac_rfl)
    refine ix_tup rfl ?_
    rcases mw_cases ok.1 with ⟨m, rfl, e⟩ | ⟨bad, e⟩
    · refine .inl ⟨m, rfl, fun p hp => ?_⟩
      have ee := Ext.new (o := .ins (manC K m) []) hp
      have q : Q (.tup [.str (manW m), rulA (manR (manO (.str (manW m))) v)]) h := q1 (e v) (by simp)
      rw [manO_W] at q
      cases m with
      | over =>
        refine ⟨_, [], updA_same, rfl, _, List.mem_cons_self, ?_⟩
        (ac_rfl; (try dsimp only [sp_Over_word, sp1, R_Over_word]); ac_rfl)
        refine ⟨_, [], updA_same, rfl, _, List.mem_cons_self, ix_tup rfl ?_⟩
        (ac_rfl; (try dsimp only [sp_Over_rule, sp2, R_Over_rule, R_man]); ac_rfl)
        exact ⟨v, rfl, ok.2.mono (by decide), szL (by simp), h, ee, q⟩
      | under =>
        refine ⟨_, [], updA_same, rfl, _, List.mem_cons_of_mem _ List.mem_cons_self, ?_⟩
        (ac_rfl; (try dsimp only [sp_Under_word, sp1, R_Under_word]); ac_rfl)
        refine ⟨_, [], updA_same, rfl, _, List.mem_cons_of_mem _ List.mem_cons_self, ix_tup rfl ?_⟩
        (ac_rfl; (try dsimp only [sp_Under_rule, sp2, R_Under_rule, R_man]); ac_rfl)
        exact ⟨v, rfl, ok.2.mono (by decide), szL (by simp), h, ee, q⟩
      | screen =>
        refine ⟨_, [], updA_same, rfl, _, List.mem_cons_of_mem _ (List.mem_cons_of_mem _ List.mem_cons_self), ?_⟩
        (ac_rfl; (try dsimp only [sp_Screen_word, sp1, R_Screen_word]); ac_rfl)
        refine ⟨_, [], updA_same, rfl, _, List.mem_cons_of_mem _ (List.mem_cons_of_mem _ List.mem_cons_self), ix_tup rfl ?_⟩
        (ac_rfl; (try dsimp only [sp_Screen_rule, sp2, R_Screen_rule, R_man]); ac_rfl)
        exact ⟨v, rfl, ok.2.mono (by decide), szL (by simp), h, ee, q⟩
      | times =>
        refine ⟨_, [], updA_same, rfl, _, List.mem_cons_of_mem _ (List.mem_cons_of_mem _ (List.mem_cons_of_mem _ List.mem_cons_self)), ?_⟩
        (ac_rfl; (try dsimp only [sp_Times_word, sp1, R_Times_word]); ac_rfl)
        refine ⟨_, [], updA_same, rfl, _, List.mem_cons_of_mem _ (List.mem_cons_of_mem _ (List.mem_cons_of_mem _ List.mem_cons_self)), ix_tup rfl ?_⟩
        (ac_rfl; (try dsimp only [sp_Times_rule, sp2, R_Times_rule, R_man]); ac_rfl)
        exact ⟨v, rfl, ok.2.mono (by decide), szL (by simp), h, ee, q⟩
      | atop =>
        refine ⟨_, [], updA_same, rfl, _, List.mem_cons_of_mem _ (List.mem_cons_of_mem _ (List.mem_cons_of_mem _ (List.mem_cons_of_mem _ List.mem_cons_self))), ?_⟩
        (ac_rfl; (try dsimp only [sp_Atop_word, sp1, R_Atop_word]); ac_rfl)
        refine ⟨_, [], updA_same, rfl, _, List.mem_cons_of_mem _ (List.mem_cons_of_mem _ (List.mem_cons_of_mem _ (List.mem_cons_of_mem _ List.mem_cons_self))), ix_tup rfl ?_⟩
        (ac_rfl; (try dsimp only [sp_Atop_rule, sp2, R_Atop_rule, R_man]); ac_rfl)
        exact ⟨v, rfl, ok.2.mono (by decide), szL (by simp), h, ee, q⟩
    · exact .inr ⟨bad, subE_i (q0 (e v))⟩
  | found m r =>
    refine sKey_ne rfl (by dsimp only [kdOf]; decide) (sKey_ne rfl (by dsimp only [kdOf]; decide) (sKey_ne rfl (by dsimp only [kdOf]; decide) (sKey_ne rfl (by dsimp only [kdOf]; decide) (sKey_eq rfl ?_))))
    (ac_rfl; (try dsimp only [argsA, itemsA, R_manner_of]); ac_rfl)
    refine ix_tup rfl (.inl ⟨m, rfl, fun p hp => ?_⟩)
    have ee := Ext.new (o := .ins (manC K m) []) hp
    have q := q1 rfl (by simp)
    have hr : RSz 900 r := RSz.mono ok (by decide)
    cases m with
    | over =>
      refine ⟨_, [], updA_same, rfl, _, List.mem_cons_self, ?_⟩
      (ac_rfl; (try dsimp only [sp_Manner_found, sp2, R_Manner_found]); ac_rfl)
      exact ix_tup rfl ⟨r, rfl, hr, h, ee, q⟩
    | under =>
      refine ⟨_, [], updA_same, rfl, _, List.mem_cons_of_mem _ List.mem_cons_self, ?_⟩
      (ac_rfl; (try dsimp only [sp_Manner_found, sp2, R_Manner_found]); ac_rfl)
      exact ix_tup rfl ⟨r, rfl, hr, h, ee, q⟩
    | screen =>
      refine ⟨_, [], updA_same, rfl, _, List.mem_cons_of_mem _ (List.mem_cons_of_mem _ List.mem_cons_self), ?_⟩
      (ac_rfl; (try dsimp only [sp_Manner_found, sp2, R_Manner_found]); ac_rfl)
      exact ix_tup rfl ⟨r, rfl, hr, h, ee, q⟩
    | times =>
      refine ⟨_, [], updA_same, rfl, _, List.mem_cons_of_mem _ (List.mem_cons_of_mem _ (List.mem_cons_of_mem _ List.mem_cons_self)), ?_⟩
      (ac_rfl; (try dsimp only [sp_Manner_found, sp2, R_Manner_found]); ac_rfl)
      exact ix_tup rfl ⟨r, rfl, hr, h, ee, q⟩
    | atop =>
      refine ⟨_, [], updA_same, rfl, _, List.mem_cons_of_mem _ (List.mem_cons_of_mem _ (List.mem_cons_of_mem _ (List.mem_cons_of_mem _ List.mem_cons_self))), ?_⟩
      (ac_rfl; (try dsimp only [sp_Atop_found, sp2, R_Atop_found]); ac_rfl)
      exact ix_tup rfl ⟨r, rfl, hr, h, ee, q⟩
  | weakened v m =>
    refine sKey_ne rfl (by dsimp only [kdOf]; decide) (sKey_ne rfl (by dsimp only [kdOf]; decide) (sKey_ne rfl (by dsimp only [kdOf]; decide) (sKey_ne rfl (by dsimp only [kdOf]; decide) (sKey_ne rfl (by dsimp only [kdOf]; decide) (sKey_eq rfl ?_)))))
    (ac_rfl; (try dsimp only [argsA, itemsA, R_weakened]); ac_rfl)
    exact ix_tup rfl (ix_tup rfl ⟨v, m, rfl, rfl, ok.1.mono (by decide), ok.2.mono (by decide), sub_i (q1 rfl (by simp))⟩)
  | adjusted x y =>
    refine sKey_ne rfl (by dsimp only [kdOf]; decide) (sKey_ne rfl (by dsimp only [kdOf]; decide) (sKey_ne rfl (by dsimp only [kdOf]; decide) (sKey_ne rfl (by dsimp only [kdOf]; decide) (sKey_ne rfl (by dsimp only [kdOf]; decide) (sKey_ne rfl (by dsimp only [kdOf]; decide) (sKey_eq rfl ?_))))))
    (ac_rfl; (try dsimp only [argsA, itemsA, R_adjusted]); ac_rfl)
    refine ix_tup rfl (ix_tup rfl ?_)
    rcases both_cases x y with b | ⟨b, bx, bY⟩
    · refine .inr ⟨thg_kind ok.1 _, thg_kind ok.2 _, fun g1 g2 => ?_, subE_i (q0 (by rw [refW_adj, if_pos (.inl b)]; decide))⟩
      unfold bothB at b; rw [g1, g2] at b; cases b
    · obtain ⟨ex, x0, x1⟩ := good_intV bx
      obtain ⟨ey, y0, y1⟩ := good_intV bY
      by_cases c : 16 < intV x + intV y
      · exact .inr ⟨thg_kind ok.1 _, thg_kind ok.2 _, fun _ _ => ⟨_, _, ex, ey, c⟩, subE_i (q0 (by rw [refW_adj, if_pos (.inr c)]; decide))⟩
      · exact .inl ⟨_, _, ex, ey, ⟨x0, x1⟩, ⟨y0, y1⟩, by omega, sub_i (q1 (by rw [refW_adj, if_neg]; rw [b]; simp; omega) (by simp))⟩
  | grounds =>
    refine sKey_ne rfl (by dsimp only [kdOf]; decide) (sKey_ne rfl (by dsimp only [kdOf]; decide) (sKey_ne rfl (by dsimp only [kdOf]; decide) (sKey_ne rfl (by dsimp only [kdOf]; decide) (sKey_ne rfl (by dsimp only [kdOf]; decide) (sKey_ne rfl (by dsimp only [kdOf]; decide) (sKey_ne rfl (by dsimp only [kdOf]; decide) ?_))))))
    (ac_rfl; (try dsimp only [R_grounds]); ac_rfl)
    exact fun p hp => sub_i (q2 rfl p hp)
  | _ => exact absurd kd (by simp [kdOf])
theorem rd_law_answer {K : Frg} (T : TK K) {x0 x1 : A} {h : AH} {Q : AVK} {E : AXK} (hR : R_law_answer K x0 x1 h Q E) : t_law_answer K { nx := fun _ h' => sub Q .non h', rt := sub Q, ex := fun c _ h' => subE E c h' } [some x0, some x1] h := by
  obtain ⟨a, rfl, rfl, ok, q0, q1, q2⟩ := hR
  unfold t_law_answer
  have more : (kdOf a = .mixed ∨ kdOf a = .parted ∨ kdOf a = .stays ∨ kdOf a = .manner ∨ kdOf a = .found ∨ kdOf a = .weakened ∨ kdOf a = .adjusted ∨ kdOf a = .grounds) → aRet (aCall (sp_law_answer_more K) [] (aCons (aVar 0) (aCons (aVar 1) aNil))) { nx := fun _ h' => sub Q .non h', rt := sub Q, ex := fun c _ h' => subE E c h' } [some (.str (kdW (kdOf a))), some (argsA a)] h := fun c => by
    (ac_rfl; (try dsimp only [R_law_answer_more]); ac_rfl)
    exact ⟨a, rfl, rfl, ok, c, fun z => subE_i (q0 z), fun z y => sub_i (q1 z y), fun z p hp => sub_i (q2 z p hp)⟩
  cases a with
  | made t b =>
    refine sKey_eq rfl ?_
    (ac_rfl; (try dsimp only [argsA, itemsA, R_made]); ac_rfl)
    refine ix_tup rfl (ix_tup rfl ⟨t, b, rfl, rfl, fun z => subE_i (q0 (by rw [refW_made, if_pos z]; decide)), fun z => ⟨ok, sub_i (q1 (by rw [refW_made, if_neg z]) (by simp))⟩⟩)
  | plus p q =>
    refine sKey_ne rfl (by dsimp only [kdOf]; decide) (sKey_eq rfl ?_)
    (ac_rfl; (try dsimp only [argsA, itemsA, R_plus]); ac_rfl)
    exact ix_tup rfl (ix_tup rfl ⟨p, q, rfl, rfl, ok.1.mono (by decide), ok.2.mono (by decide), sub_i (q1 rfl (by simp))⟩)
  | minus p q =>
    refine sKey_ne rfl (by dsimp only [kdOf]; decide) (sKey_ne rfl (by dsimp only [kdOf]; decide) (sKey_eq rfl ?_))
    (ac_rfl; (try dsimp only [argsA, itemsA, R_minus]); ac_rfl)
    exact ix_tup rfl (ix_tup rfl ⟨p, q, rfl, rfl, ok.1.mono (by decide), ok.2.mono (by decide), sub_i (q1 rfl (by simp))⟩)
  | times p q =>
    refine sKey_ne rfl (by dsimp only [kdOf]; decide) (sKey_ne rfl (by dsimp only [kdOf]; decide) (sKey_ne rfl (by dsimp only [kdOf]; decide) (sKey_eq rfl ?_)))
    (ac_rfl; (try dsimp only [argsA, itemsA, R_times]); ac_rfl)
    exact ix_tup rfl (ix_tup rfl ⟨p, q, rfl, rfl, ok.1.mono (by decide), ok.2.mono (by decide), sub_i (q1 rfl (by simp))⟩)
  | less p q =>
    refine sKey_ne rfl (by dsimp only [kdOf]; decide) (sKey_ne rfl (by dsimp only [kdOf]; decide) (sKey_ne rfl (by dsimp only [kdOf]; decide) (sKey_ne rfl (by dsimp only [kdOf]; decide) (sKey_eq rfl ?_))))
    (ac_rfl; (try dsimp only [argsA, itemsA, R_less]); ac_rfl)
    exact ix_tup rfl (ix_tup rfl ⟨p, q, rfl, rfl, ok.1.mono (by decide), ok.2.mono (by decide), sub_i (q1 rfl (by simp))⟩)
  | shade x y =>
    refine sKey_ne rfl (by dsimp only [kdOf]; decide) (sKey_ne rfl (by dsimp only [kdOf]; decide) (sKey_ne rfl (by dsimp only [kdOf]; decide) (sKey_ne rfl (by dsimp only [kdOf]; decide) (sKey_ne rfl (by dsimp only [kdOf]; decide) (sKey_eq rfl ?_)))))
    (ac_rfl; (try dsimp only [argsA, itemsA, R_shade]); ac_rfl)
    refine ix_tup rfl (ix_tup rfl ?_)
    rcases both_cases x y with b | ⟨b, bx, bY⟩
    · refine .inr ⟨thg_kind ok.1 _, thg_kind ok.2 _, fun g1 g2 => ?_, subE_i (q0 (by rw [refW_shade, if_pos (.inl b)]; decide))⟩
      unfold bothB at b; rw [g1, g2] at b; cases b
    · obtain ⟨ex, x0, x1⟩ := good_intV bx
      obtain ⟨ey, y0, y1⟩ := good_intV bY
      by_cases c : intV y < intV x
      · exact .inr ⟨thg_kind ok.1 _, thg_kind ok.2 _, fun _ _ => ⟨_, _, ex, ey, c⟩, subE_i (q0 (by rw [refW_shade, if_pos (.inr c)]; decide))⟩
      · exact .inl ⟨_, _, ex, ey, x0, by omega, y1, sub_i (q1 (by rw [refW_shade, if_neg]; rw [b]; simp; omega) (by simp))⟩
  | isShade v =>
    refine sKey_ne rfl (by dsimp only [kdOf]; decide) (sKey_ne rfl (by dsimp only [kdOf]; decide) (sKey_ne rfl (by dsimp only [kdOf]; decide) (sKey_ne rfl (by dsimp only [kdOf]; decide) (sKey_ne rfl (by dsimp only [kdOf]; decide) (sKey_ne rfl (by dsimp only [kdOf]; decide) (sKey_eq rfl ?_))))))
    (ac_rfl; (try dsimp only [argsA, itemsA, R_is_shade]); ac_rfl)
    exact ⟨v, rfl, VSz.mono ok (by decide), sub_i (q1 rfl (by simp))⟩
  | laid r v =>
    refine sKey_ne rfl (by dsimp only [kdOf]; decide) (sKey_ne rfl (by dsimp only [kdOf]; decide) (sKey_ne rfl (by dsimp only [kdOf]; decide) (sKey_ne rfl (by dsimp only [kdOf]; decide) (sKey_ne rfl (by dsimp only [kdOf]; decide) (sKey_ne rfl (by dsimp only [kdOf]; decide) (sKey_ne rfl (by dsimp only [kdOf]; decide) (sKey_eq rfl ?_)))))))
    (ac_rfl; (try dsimp only [argsA, itemsA, R_laid]); ac_rfl)
    exact ix_tup rfl (ix_tup rfl ⟨r, v, rfl, rfl, ok.1.mono (by decide), ok.2.mono (by decide), sub_i (q1 rfl (by simp))⟩)
  | behind r s =>
    refine sKey_ne rfl (by dsimp only [kdOf]; decide) (sKey_ne rfl (by dsimp only [kdOf]; decide) (sKey_ne rfl (by dsimp only [kdOf]; decide) (sKey_ne rfl (by dsimp only [kdOf]; decide) (sKey_ne rfl (by dsimp only [kdOf]; decide) (sKey_ne rfl (by dsimp only [kdOf]; decide) (sKey_ne rfl (by dsimp only [kdOf]; decide) (sKey_ne rfl (by dsimp only [kdOf]; decide) (sKey_eq rfl ?_))))))))
    (ac_rfl; (try dsimp only [argsA, itemsA, R_behind]); ac_rfl)
    exact ix_tup rfl (ix_tup rfl ⟨r, s, rfl, rfl, ok.1.mono (by decide), ok.2.mono (by decide), sub_i (q1 rfl (by simp))⟩)
  | _ => exact sKey_ne rfl (by dsimp only [kdOf]; decide) (sKey_ne rfl (by dsimp only [kdOf]; decide) (sKey_ne rfl (by dsimp only [kdOf]; decide) (sKey_ne rfl (by dsimp only [kdOf]; decide) (sKey_ne rfl (by dsimp only [kdOf]; decide) (sKey_ne rfl (by dsimp only [kdOf]; decide) (sKey_ne rfl (by dsimp only [kdOf]; decide) (sKey_ne rfl (by dsimp only [kdOf]; decide) (sKey_ne rfl (by dsimp only [kdOf]; decide) (more (by simp [kdOf]))))))))))
end GL
namespace GL
open PySem PySem.Spec L2 G
local macro_rules | `(tactic| ac_rfl) => `(tactic| try dsimp only [nb, aRet, aRetN, aSeq, aIfS, aNext, aBreak, aCont, aDrop, aAsg, aPar, aAug, aSetL, aSetF, aFld, aVar, aC, aNil, aCons, aTup, aLst, a1, a2, aN, aAndV, aOrV, aNotV, aIf, aAnd, aOr, aNot, aTest, aChn, aCall, aMeth, aMake, aBmL, aRaise, aTryOnly, aTryAs, aFor, aiSeq, aiRng1, aiRng2, aiEnum, agN, agNil, agCons, agTup, aSlL, aRev, aNoPart, aPart, aNewK, aNewT, aLc, aWhile, asB, asT, iA, iA0, subA, modA, modP, divP, divA, powA, ltA, leA, gtA, geA, addA, mulA, negA, lenA, absA, intA, allA, listA, tupleA, one, two, sp0, sp1, sp2, sp3, sp4, sp5, sp6, appendA, reverseA, clearA, wipeA, putFA, aFz, aLstF, aSlF, aRevF, aAddF, addF_i, addF_s, addF_t, addF_l, aRepF, aListF, aMakeP, aDyn, aClsFn, sumA, maxL, insertA, popAtA, aDGet, aDPut, aDAug, aFAug, aBmD, maxA, minA, List.getElem?_cons_zero, List.getElem?_cons_succ, List.set_cons_zero, List.set_cons_succ, List.cons_append, List.nil_append, List.append_nil])
local macro_rules | `(tactic| nofun) => `(tactic| try dsimp only [nb, aRet, aRetN, aNext, aBreak, aCont, aDrop, aAsg, aPar, aAug, aSetL, aSetF, aFld, aVar, aC, aNil, aCons, aTup, aLst, a1, a2, aN, aAndV, aOrV, aNotV, aIf, aAnd, aOr, aNot, aTest, aChn, aCall, aMeth, aMake, aBmL, aRaise, aTryOnly, aTryAs, aiSeq, aiRng1, aiRng2, aiEnum, agN, agNil, agCons, agTup, aSlL, aRev, aNoPart, aPart, aNewK, aNewT, aLc, asB, asT, iA, iA0, subA, modA, modP, divP, divA, powA, ltA, leA, gtA, geA, addA, mulA, negA, lenA, absA, intA, allA, listA, tupleA, one, two, sp0, sp1, sp2, sp3, sp4, sp5, sp6, appendA, reverseA, clearA, wipeA, putFA, aFz, aLstF, aSlF, aRevF, aAddF, addF_i, addF_s, addF_t, addF_l, aRepF, aListF, aMakeP, aDyn, aClsFn, sumA, maxL, insertA, popAtA, aDGet, aDPut, aDAug, aFAug, aBmD, maxA, minA, List.getElem?_cons_zero, List.getElem?_cons_succ, List.set_cons_zero, List.set_cons_succ, List.cons_append, List.nil_append, List.append_nil])
def isBl : A → Bool
  | .bl _ => true
  | _ => false
def R_law_asked (K : Frg) : Sp2 := fun x y h Q E => ∃ a, x = .str (kdW (kdOf a)) ∧ y = argsA a ∧ okA a ∧
  (refW a ≠ "" → Q (.tup [.str "refused", .str (refW a)]) h) ∧ (refW a = "" → a ≠ .grounds → Q (.tup [.str "told", dueA a, .bl (isBl (dueA a))]) h) ∧ (a = .grounds → ∀ p, h p = none → Q (.tup [.str "told", .ref p, .bl false]) (updA h p (.lst (grndL.map valA))))
def R_law_refusal (_ : Frg) : Sp2 := fun x y h Q _ => ∃ a, x = .str (kdW (kdOf a)) ∧ y = argsA a ∧ okA a ∧ Q (.str (refW a)) h
def R_law_grounds (_ : Frg) : Sp0 := fun h Q _ => Q (.fls (grndL.map valA)) h
def sumV : Ask → A
  | .adjusted x y => valA (Rat.divInt (intV x) 16, Rat.divInt (intV y) 16)
  | a => dueA a
def R_law_sum_due (_ : Frg) : Sp2 := fun x y h Q _ => ∃ a, x = .str (kdW (kdOf a)) ∧ y = argsA a ∧ okA a ∧ refW a = "" ∧ (kdOf a = .plus ∨ kdOf a = .minus ∨ kdOf a = .times ∨ kdOf a = .less ∨ kdOf a = .isShade ∨ kdOf a = .made ∨ kdOf a = .shade ∨ kdOf a = .adjusted) ∧ Q (sumV a) h
def R_law_due (_ : Frg) : Sp2 := fun x y h Q _ => ∃ a, x = .str (kdW (kdOf a)) ∧ y = argsA a ∧ okA a ∧ refW a = "" ∧ Q (dueA a) h
abbrev sp_law_asked (K : Frg) : ASp := sp2 (R_law_asked K)
abbrev sp_law_refusal (K : Frg) : ASp := sp2 (R_law_refusal K)
abbrev sp_law_grounds (K : Frg) : ASp := sp0 (R_law_grounds K)
abbrev sp_law_sum_due (K : Frg) : ASp := sp2 (R_law_sum_due K)
abbrev sp_law_due (K : Frg) : ASp := sp2 (R_law_due K)
def t_law_asked (K : Frg) : ATS := (aSeq (aAsg (aTup (aCons (aC (.str "refused")) (aCons (aC (.str "other")) aNil))) (agN 2))
  (aSeq (aTryMany K [(.ref (c_NoFraction K), fun a C => (aAsg (aTup (aCons (aC (.str "refused")) (aCons (aC (.str "fraction")) aNil))) (agN 2))), (.ref (c_NoShade K), fun a C => (aAsg (aTup (aCons (aC (.str "refused")) (aCons (aC (.str "shade")) aNil))) (agN 2))), (.ref (c_NoManner K), fun a C => (aAsg (aTup (aCons (aC (.str "refused")) (aCons (aC (.str "manner")) aNil))) (agN 2))), (.ref (c_NoGain K), fun a C => (aAsg (aTup (aCons (aC (.str "refused")) (aCons (aC (.str "gain")) aNil))) (agN 2)))]
  (aSeq (aAsg (aCall (sp_law_answer K) [] (aCons (aVar 0) (aCons (aVar 1) aNil))) (agN 3))
  (aAsg (aTup (aCons (aC (.str "told")) (aCons (aVar 3) (aCons (aN (isiA K) (aCons (aVar 3) (aCons (aC (.ty "bool")) aNil))) aNil)))) (agN 2))))
  (aRet (aVar 2))))
def t_law_refusal (K : Frg) : ATS := (aSeq (aAsg (aFz (aLc (aiSeq (aVar 1)) (agN 3) aYes (aAndV (aN (isiA K) (aCons (aVar 3) (aCons (aC (.ty "int")) aNil))) (aAndV (aNotV (aN (isiA K) (aCons (aVar 3) (aCons (aC (.ty "bool")) aNil)))) (aChn leA leA (aC (.int 0)) (aVar 3) (aC (.int 16))))) [3])) (agN 2))
  (aSeq (aIfS (aAnd (aTest (a2 (eqA false) (aVar 0) (aC (.str "made")))) (aTest (a2 (eqA false) (a2 ixA (aVar 1) (aC (.int 1))) (aC (.int 0)))))
  (aRet (aC (.str "fraction")))
  aNext)
  (aSeq (aIfS (aAnd (aTest (a2 (eqA false) (aVar 0) (aC (.str "shade")))) (aOr (aTest (a2 (inPA false) (aC (.bl false)) (aVar 2))) (aTest (a2 gtA (a2 ixA (aVar 1) (aC (.int 0))) (a2 ixA (aVar 1) (aC (.int 1)))))))
  (aRet (aC (.str "shade")))
  aNext)
  (aSeq (aIfS (aAnd (aTest (a2 (eqA false) (aVar 0) (aC (.str "adjusted")))) (aOr (aTest (a2 (inPA false) (aC (.bl false)) (aVar 2))) (aTest (a2 gtA (aAddF (a2 ixA (aVar 1) (aC (.int 0))) (a2 ixA (aVar 1) (aC (.int 1)))) (aC (.int 16))))))
  (aRet (aC (.str "gain")))
  aNext)
  (aSeq (aIfS (aAnd (aTest (a2 (eqA false) (aVar 0) (aC (.str "manner")))) (aTest (a2 (inPA true) (a2 ixA (aVar 1) (aC (.int 0))) (aLstF (aCons (aC (.str "over")) (aCons (aC (.str "under")) (aCons (aC (.str "screen")) (aCons (aC (.str "times")) (aCons (aC (.str "atop")) aNil)))))))))
  (aRet (aC (.str "manner")))
  aNext)
  (aRet (aC (.str ""))))))))
def t_law_grounds (K : Frg) : ATS := (aRet (aLstF (aCons (aTup (aCons (aTup (aCons (aC (.int 0)) (aCons (aC (.int 1)) aNil))) (aCons (aTup (aCons (aC (.int 0)) (aCons (aC (.int 1)) aNil))) aNil))) (aCons (aTup (aCons (aTup (aCons (aC (.int 0)) (aCons (aC (.int 1)) aNil))) (aCons (aTup (aCons (aC (.int 1)) (aCons (aC (.int 1)) aNil))) aNil))) (aCons (aTup (aCons (aTup (aCons (aC (.int 1)) (aCons (aC (.int 1)) aNil))) (aCons (aTup (aCons (aC (.int 1)) (aCons (aC (.int 1)) aNil))) aNil))) aNil)))))
def t_law_sum_due (K : Frg) : ATS := (aSeq (aIfS (aTest (a2 (eqA false) (aVar 0) (aC (.str "plus"))))
  (aRet (aCall (sp_law_plus K) [] (aCons (a2 ixA (aVar 1) (aC (.int 0))) (aCons (a2 ixA (aVar 1) (aC (.int 1))) aNil))))
  aNext)
  (aSeq (aIfS (aTest (a2 (eqA false) (aVar 0) (aC (.str "minus"))))
  (aRet (aCall (sp_law_less K) [] (aCons (a2 ixA (aVar 1) (aC (.int 0))) (aCons (a2 ixA (aVar 1) (aC (.int 1))) aNil))))
  aNext)
  (aSeq (aIfS (aTest (a2 (eqA false) (aVar 0) (aC (.str "times"))))
  (aRet (aCall (sp_law_times K) [] (aCons (a2 ixA (aVar 1) (aC (.int 0))) (aCons (a2 ixA (aVar 1) (aC (.int 1))) aNil))))
  aNext)
  (aSeq (aIfS (aTest (a2 (eqA false) (aVar 0) (aC (.str "less"))))
  (aRet (a2 ltA (a2 ixA (aCall (sp_law_less K) [] (aCons (a2 ixA (aVar 1) (aC (.int 0))) (aCons (a2 ixA (aVar 1) (aC (.int 1))) aNil))) (aC (.int 0))) (aC (.int 0))))
  aNext)
  (aSeq (aIfS (aTest (a2 (eqA false) (aVar 0) (aC (.str "is_shade"))))
  (aRet (aCall (sp_law_is_shade K) [] (aCons (aVar 1) aNil)))
  aNext)
  (aSeq (aIfS (aTest (a2 (eqA false) (aVar 0) (aC (.str "made"))))
  (aRet (aCall (sp_law_made K) [] (aCons (a2 ixA (aVar 1) (aC (.int 0))) (aCons (a2 ixA (aVar 1) (aC (.int 1))) aNil))))
  aNext)
  (aRet (aTup (aCons (aCall (sp_law_made K) [] (aCons (a2 ixA (aVar 1) (aC (.int 0))) (aCons (aC (.int 16)) aNil))) (aCons (aCall (sp_law_made K) [] (aCons (a2 ixA (aVar 1) (aC (.int 1))) (aCons (aC (.int 16)) aNil))) aNil))))))))))
def t_law_due (K : Frg) : ATS := (aSeq (aIfS (aTest (a2 (inSA false) (aVar 0) (aTup (aCons (aC (.str "plus")) (aCons (aC (.str "minus")) (aCons (aC (.str "times")) (aCons (aC (.str "less")) (aCons (aC (.str "is_shade")) (aCons (aC (.str "made")) (aCons (aC (.str "shade")) aNil))))))))))
  (aRet (aCall (sp_law_sum_due K) [] (aCons (aVar 0) (aCons (aVar 1) aNil))))
  aNext)
  (aSeq (aIfS (aTest (a2 (eqA false) (aVar 0) (aC (.str "laid"))))
  (aRet (aCall (sp_law_laid K) [] (aCons (a2 ixA (aVar 1) (aC (.int 0))) (aCons (a2 ixA (aVar 1) (aC (.int 1))) aNil))))
  aNext)
  (aSeq (aIfS (aTest (a2 (eqA false) (aVar 0) (aC (.str "behind"))))
  (aRet (aCall (sp_law_behind K) [] (aCons (a2 ixA (aVar 1) (aC (.int 0))) (aCons (a2 ixA (aVar 1) (aC (.int 1))) aNil))))
  aNext)
  (aSeq (aIfS (aTest (a2 (eqA false) (aVar 0) (aC (.str "mixed"))))
  (aRet (aCall (sp_law_mixed K) [] (aCons (a2 ixA (aVar 1) (aC (.int 0))) (aCons (a2 ixA (aVar 1) (aC (.int 1))) aNil))))
  aNext)
  (aSeq (aIfS (aTest (a2 (eqA false) (aVar 0) (aC (.str "parted"))))
  (aSeq (aAsg (aFz (aLc (aiSeq (aCall (sp_law_grounds K) [] aNil)) (agN 9) (aTest (a2 (eqA true) (aCall (sp_law_laid K) [] (aCons (a2 ixA (aVar 1) (aC (.int 0))) (aCons (aVar 9) aNil))) (aCall (sp_law_laid K) [] (aCons (a2 ixA (aVar 1) (aC (.int 1))) (aCons (aVar 9) aNil))))) (aVar 9) [9])) (agN 2))
  (aRet (a2 ixA (aAddF (aVar 2) (aLstF (aCons (aC .non) aNil))) (aC (.int 0)))))
  aNext)
  (aSeq (aIfS (aTest (a2 (eqA false) (aVar 0) (aC (.str "stays"))))
  (aRet (a2 (eqA false) (aFz (aLc (aiSeq (aCall (sp_law_grounds K) [] aNil)) (agN 9) (aNot (aTest (aCall (sp_law_is_shade K) [] (aCons (aCall (sp_law_laid K) [] (aCons (a2 ixA (aVar 1) (aC (.int 0))) (aCons (aVar 9) aNil))) aNil)))) (aVar 9) [9])) (aLstF aNil)))
  aNext)
  (aSeq (aIfS (aTest (a2 (eqA false) (aVar 0) (aC (.str "manner"))))
  (aRet (aTup (aCons (a2 ixA (aVar 1) (aC (.int 0))) (aCons (aCall (sp_law_manner K) [] (aCons (a2 ixA (aVar 1) (aC (.int 0))) (aCons (a2 ixA (aVar 1) (aC (.int 1))) aNil))) aNil))))
  aNext)
  (aSeq (aIfS (aTest (a2 (eqA false) (aVar 0) (aC (.str "found"))))
  (aSeq (aAsg (a2 ixA (aVar 1) (aC (.int 1))) (agTup 5 (agCons (agN 3) (agCons (agN 4) (agCons (agN 5) (agCons (agN 6) (agCons (agN 7) agNil)))))))
  (aSeq (aAsg (a2 ixA (aLstF (aCons (aTup (aCons (aVar 5) (aCons (aVar 7) aNil))) (aCons (aTup (aCons (aVar 4) (aCons (aCall (sp_law_less K) [] (aCons (aTup (aCons (aC (.int 1)) (aCons (aC (.int 1)) aNil))) (aCons (aVar 3) aNil))) aNil))) aNil))) (aN intA (aCons (a2 (eqA false) (a2 ixA (aVar 1) (aC (.int 0))) (aC (.str "atop"))) aNil))) (agN 8))
  (aRet (a2 ixA (aLstF (aCons (aC .non) (aCons (aVar 8) aNil))) (aN intA (aCons (aCall (sp_law_is_shade K) [] (aCons (aVar 8) aNil)) aNil))))))
  aNext)
  (aSeq (aIfS (aTest (a2 (eqA false) (aVar 0) (aC (.str "weakened"))))
  (aRet (aTup (aCons (aCall (sp_law_times K) [] (aCons (a2 ixA (a2 ixA (aVar 1) (aC (.int 0))) (aC (.int 0))) (aCons (a2 ixA (aVar 1) (aC (.int 1))) aNil))) (aCons (aCall (sp_law_times K) [] (aCons (a2 ixA (a2 ixA (aVar 1) (aC (.int 0))) (aC (.int 1))) (aCons (a2 ixA (aVar 1) (aC (.int 1))) aNil))) aNil))))
  aNext)
  (aSeq (aIfS (aTest (a2 (eqA false) (aVar 0) (aC (.str "adjusted"))))
  (aRet (aAddF (aCall (sp_law_sum_due K) [] (aCons (aVar 0) (aCons (aVar 1) aNil))) (aTup (aCons (aTup (aCons (aC (.int 0)) (aCons (aC (.int 1)) aNil))) (aCons (aTup (aCons (aC (.int 1)) (aCons (aC (.int 1)) aNil))) (aCons (aTup (aCons (aC (.int 0)) (aCons (aC (.int 1)) aNil))) aNil))))))
  aNext)
  (aRet (aCall (sp_law_grounds K) [] aNil))))))))))))

theorem kind_due (a : Ask) (g : refW a = "") (ok : okA a) : ∃ k, (∀ h, kindA h (dueA a) = some k) ∧ kindIs k "bool" = isBl (dueA a) := by
  cases a with
  | parted r s => unfold dueA; dsimp only; cases partO r s <;> exact ⟨_, fun _ => rfl, rfl⟩
  | found m r => unfold dueA; dsimp only; cases optSh (fndV m r) <;> exact ⟨_, fun _ => rfl, rfl⟩
  | _ => exact ⟨_, fun _ => rfl, rfl⟩
theorem ref_word {a : Ask} (n : refW a ≠ "") : ((∃ t b, a = .made t b) ∧ refW a = "fraction") ∨ ((∃ x y, a = .shade x y) ∧ refW a = "shade") ∨ ((∃ x v, a = .manner x v) ∧ refW a = "manner") ∨ ((∃ x y, a = .adjusted x y) ∧ refW a = "gain") := by
  cases a with
  | made t b => rw [refW_made] at n ⊢; by_cases c : b = 0
                · rw [if_pos c]; exact .inl ⟨⟨_, _, rfl⟩, rfl⟩
                · rw [if_neg c] at n; exact absurd rfl n
  | shade x y => rw [refW_shade] at n ⊢; split
                 · exact .inr (.inl ⟨⟨_, _, rfl⟩, rfl⟩)
                 · rename_i c; rw [if_neg c] at n; exact absurd rfl n
  | adjusted x y => rw [refW_adj] at n ⊢; split
                    · exact .inr (.inr (.inr ⟨⟨_, _, rfl⟩, rfl⟩))
                    · rename_i c; rw [if_neg c] at n; exact absurd rfl n
  | manner x v =>
    refine .inr (.inr (.inl ⟨⟨_, _, rfl⟩, ?_⟩))
    cases x with
    | str s =>
      have e : refW (.manner (.str s) v) = if s ∈ (["over", "under", "screen", "times", "atop"] : List Str) then ("" : Str) else ("manner" : Str) := rfl
      rw [e] at n ⊢
      split
      · rename_i c; rw [if_pos c] at n; exact absurd rfl n
      · rfl
    | _ => rfl
  | _ => exact absurd rfl n
theorem rd_law_asked {K : Frg} (T : TK K) {x0 x1 : A} {h : AH} {Q : AVK} {E : AXK} (hR : R_law_asked K x0 x1 h Q E) : t_law_asked K { nx := fun _ h' => sub Q .non h', rt := sub Q, ex := fun c _ h' => subE E c h' } [some x0, some x1, none, none] h := by
  obtain ⟨a, rfl, rfl, ok, q0, q1, q2⟩ := hR
  unfold t_law_asked
  refine seq_cut (fun α h' => α = [some (.str (kdW (kdOf a))), some (argsA a), some (.tup [.str "refused", .str "other"]), none] ∧ h = h') (fun J hJ => ?_) fun α h' pv => ?_
  · ac_rfl
    exact ⟨szL (by simp), hJ _ _ ⟨rfl, rfl⟩⟩
  obtain ⟨rfl, rfl⟩ := pv
  (ac_rfl; (try dsimp only [aTryMany, R_law_answer]); ac_rfl)
  refine ⟨a, rfl, rfl, ok, fun n => ?_, fun z g => ?_, fun z p hp => ?_⟩
  · have q := q0 n
    rcases ref_word n with ⟨⟨_, _, rfl⟩, e⟩ | ⟨⟨_, _, rfl⟩, e⟩ | ⟨⟨_, _, rfl⟩, e⟩ | ⟨⟨_, _, rfl⟩, e⟩
    · rw [e] at q
      refine ⟨true, T.em_NoFraction_NoFraction, fun _ => ⟨_, rfl, T.e_NoFraction, fun p hp => ?_⟩, fun z => by cases z⟩
      ac_rfl
      exact ⟨szL (by simp), sub_i q⟩
    · rw [e] at q
      refine ⟨false, T.em_NoShade_NoFraction, fun z => (by cases z), fun _ => ⟨true, T.em_NoShade_NoShade, fun _ => ⟨_, rfl, T.e_NoShade, fun p hp => ?_⟩, fun z => by cases z⟩⟩
      ac_rfl
      exact ⟨szL (by simp), sub_i q⟩
    · rw [e] at q
      refine ⟨false, T.em_NoManner_NoFraction, fun z => (by cases z), fun _ => ⟨false, T.em_NoManner_NoShade, fun z => (by cases z), fun _ => ⟨true, T.em_NoManner_NoManner, fun _ => ⟨_, rfl, T.e_NoManner, fun p hp => ?_⟩, fun z => by cases z⟩⟩⟩
      ac_rfl
      exact ⟨szL (by simp), sub_i q⟩
    · rw [e] at q
      refine ⟨false, T.em_NoGain_NoFraction, fun z => (by cases z), fun _ => ⟨false, T.em_NoGain_NoShade, fun z => (by cases z), fun _ => ⟨false, T.em_NoGain_NoManner, fun z => (by cases z), fun _ => ⟨true, T.em_NoGain_NoGain, fun _ => ⟨_, rfl, T.e_NoGain, fun p hp => ?_⟩, fun z => by cases z⟩⟩⟩⟩
      ac_rfl
      exact ⟨szL (by simp), sub_i q⟩
  · obtain ⟨k, ek, eb⟩ := kind_due a z ok
    have q := q1 z g
    rw [← eb] at q
    ac_rfl
    exact isi_kind (ek _) ⟨szL (by simp), sub_i q⟩
  · ac_rfl
    exact isi_kind (k := "list") (by simp only [kindA]; rw [updA_same]) ⟨szL (by simp), sub_i (q2 z p hp)⟩
theorem items_kind {a : Ask} (ok : okA a) : ∀ x ∈ itemsA a, ∃ k, ∀ h, kindA h x = some k := by
  have th : ∀ {x : A}, Thg x → ∃ k, ∀ h, kindA h x = some k := fun h => by cases h <;> exact ⟨_, fun _ => rfl⟩
  have mw : ∀ {x : A}, MW x → ∃ k, ∀ h, kindA h x = some k := fun h => by
    rcases h with ⟨m, rfl⟩ | rfl | rfl | rfl | rfl <;> exact ⟨_, fun _ => rfl⟩
  intro x hx
  cases a <;> simp only [itemsA, List.mem_cons, List.not_mem_nil, or_false] at hx <;> first
    | (rcases hx with rfl | rfl <;> first | exact th ok.1 | exact th ok.2 | exact mw ok.1 | exact ⟨_, fun _ => rfl⟩)
    | (subst hx; exact ⟨_, fun _ => rfl⟩)
theorem items_len (a : Ask) : (itemsA a).length ≤ 2 := by cases a <;> simp [itemsA]
theorem sAnd_ne {i : Nat} {a b : Str} {u : ATT} {t r : ATS} {D : AEnds} {α : ASt} {h : AH} (hv : α[i]? = some (some (.str a))) (n : a ≠ b) (q : r D α h) : aSeq (aIfS (aAnd (aTest (a2 (eqA false) (aVar i) (aC (.str b)))) u) t aNext) r D α h := by
  dsimp only [aSeq, aIfS, aAnd, aNext]
  refine sTest hv ?_
  rw [decide_eq_false n]
  exact ifF (ifF q)
theorem sAnd_ok {i : Nat} {a : Str} {u : ATT} {t r : ATS} {D : AEnds} {α : ASt} {h : AH} (b : Bool) (hv : α[i]? = some (some (.str a))) (hu : ∀ (Q : Bool → AH → Prop) (E : AXK), Q b h → u α h Q E) (q : if b = true then t { D with nx := r D } α h else r D α h) : aSeq (aIfS (aAnd (aTest (a2 (eqA false) (aVar i) (aC (.str a)))) u) t aNext) r D α h := by
  dsimp only [aSeq, aIfS, aAnd, aNext]
  refine sTest hv ?_
  rw [decide_eq_true rfl]
  exact ifT (hu _ _ q)
theorem any_both (x y : A) : ([A.bl (goodB x), A.bl (goodB y)].any fun z => eqP z (.bl false)) = !bothB x y := by
  simp only [List.any_cons, List.any_nil, eqP_bl]
  unfold bothB
  cases goodB x <;> cases goodB y <;> rfl
theorem rd_law_refusal {K : Frg} (T : TK K) {x0 x1 : A} {h : AH} {Q : AVK} {E : AXK} (hR : R_law_refusal K x0 x1 h Q E) : t_law_refusal K { nx := fun _ h' => sub Q .non h', rt := sub Q, ex := fun c _ h' => subE E c h' } [some x0, some x1, none, none] h := by
  obtain ⟨a, rfl, rfl, ok, q⟩ := hR
  unfold t_law_refusal
  refine seq_cut (fun α h' => α = [some (.str (kdW (kdOf a))), some (argsA a), some (.fls ((itemsA a).map fun x => .bl (goodB x))), none] ∧ h = h') (fun J hJ => ?_) fun α h' pv => ?_
  · (ac_rfl; (try dsimp only [argsA]); ac_rfl)
    refine lcF_map (l := itemsA a) (e := id) (fun x => .bl (goodB x)) (by rw [List.map_id]; rfl) (by have := items_len a; omega) (fun y hy h' C ex hC => ?_) (hJ _ _ ⟨rfl, rfl⟩)
    obtain ⟨k, ek⟩ := items_kind ok y hy
    exact sixteenth_read (i := 3) rfl (ek h') hC
  obtain ⟨rfl, rfl⟩ := pv
  have pb : ∀ x y : A, Pu 20 (.bl false) ∧ ∀ z ∈ [A.bl (goodB x), A.bl (goodB y)], Pu 20 z := fun x y => ⟨.bl _, fun z hz => by
    simp only [List.mem_cons, List.not_mem_nil, or_false] at hz
    rcases hz with rfl | rfl <;> exact .bl _⟩
  cases a with
  | made t b =>
    refine sAnd_ok (decide (b = 0)) rfl (fun Q E z => ?_) ?_
    · (ac_rfl; (try dsimp only [argsA, itemsA]); ac_rfl)
      exact ix_tup rfl (eqI z)
    rw [refW_made] at q
    refine ifd (fun z => ?_) fun z => ?_
    · rw [if_pos z] at q; exact sub_i q
    · rw [if_neg z] at q
      exact sAnd_ne rfl (by dsimp only [kdOf]; decide) (sAnd_ne rfl (by dsimp only [kdOf]; decide) (sAnd_ne rfl (by dsimp only [kdOf]; decide) (sub_i q)))
  | shade x y =>
    refine sAnd_ne rfl (by dsimp only [kdOf]; decide) ((sAnd_ok (!bothB x y || decide (intV y < intV x)) rfl (fun Q E z => ?_) ?_))
    · (ac_rfl; (try dsimp only [argsA, itemsA, inPA]); ac_rfl)
      refine ⟨_, rfl, pb x y, ?_⟩
      have e : (List.map (fun x => A.bl (goodB x)) [x, y]).any (fun z => eqP z (.bl false)) = !bothB x y := any_both x y
      rw [e]
      rcases both_cases x y with b | ⟨b, bx, bY⟩
      · rw [b] at z ⊢
        exact ifT z
      · rw [b] at z ⊢
        obtain ⟨ex, x0, x1⟩ := good_intV bx
        obtain ⟨ey, y0, y1⟩ := good_intV bY
        refine ifF (ix_tup rfl (ix_tup rfl ?_))
        rw [ex, ey]
        rw [ex, ey] at z
        ac_rfl
        exact z
    · rw [refW_shade] at q
      have ec : (!bothB x y || decide (intV y < intV x)) = decide (bothB x y = false ∨ intV y < intV x) := by cases bothB x y <;> simp
      rw [ec]
      refine ifd (fun z => ?_) fun z => ?_
      · rw [if_pos z] at q; exact sub_i q
      · rw [if_neg z] at q
        exact sAnd_ne rfl (by dsimp only [kdOf]; decide) (sAnd_ne rfl (by dsimp only [kdOf]; decide) ((sub_i q)))
  | adjusted x y =>
    refine sAnd_ne rfl (by dsimp only [kdOf]; decide) (sAnd_ne rfl (by dsimp only [kdOf]; decide) ((sAnd_ok (!bothB x y || decide (16 < intV x + intV y)) rfl (fun Q E z => ?_) ?_)))
    · (ac_rfl; (try dsimp only [argsA, itemsA, inPA]); ac_rfl)
      refine ⟨_, rfl, pb x y, ?_⟩
      have e : (List.map (fun x => A.bl (goodB x)) [x, y]).any (fun z => eqP z (.bl false)) = !bothB x y := any_both x y
      rw [e]
      rcases both_cases x y with b | ⟨b, bx, bY⟩
      · rw [b] at z ⊢
        exact ifT z
      · rw [b] at z ⊢
        obtain ⟨ex, x0, x1⟩ := good_intV bx
        obtain ⟨ey, y0, y1⟩ := good_intV bY
        refine ifF (ix_tup rfl (ix_tup rfl ?_))
        rw [ex, ey]
        rw [ex, ey] at z
        ac_rfl
        exact z
    · rw [refW_adj] at q
      have ec : (!bothB x y || decide (16 < intV x + intV y)) = decide (bothB x y = false ∨ 16 < intV x + intV y) := by cases bothB x y <;> simp
      rw [ec]
      refine ifd (fun z => ?_) fun z => ?_
      · rw [if_pos z] at q; exact sub_i q
      · rw [if_neg z] at q
        exact sAnd_ne rfl (by dsimp only [kdOf]; decide) ((sub_i q))
  | manner x v =>
    refine sAnd_ne rfl (by dsimp only [kdOf]; decide) (sAnd_ne rfl (by dsimp only [kdOf]; decide) (sAnd_ne rfl (by dsimp only [kdOf]; decide) (sAnd_ok (decide (refW (.manner x v) ≠ "")) rfl (fun Q E z => ?_) ?_)))
    rotate_left
    · refine ifd (fun z => ?_) fun z => ?_
      · rcases ref_word z with ⟨⟨_, _, z⟩, _⟩ | ⟨⟨_, _, z⟩, _⟩ | ⟨_, z⟩ | ⟨⟨_, _, z⟩, _⟩
        · cases z
        · cases z
        · rw [z] at q; exact sub_i q
        · cases z
      · have z := Classical.not_not.mp z
        rw [z] at q; exact sub_i q
    (ac_rfl; (try dsimp only [argsA, itemsA, inPA]); ac_rfl)
    refine ix_tup rfl ⟨szL (by simp), _, rfl, ?_⟩
    have pw : ∀ z ∈ [A.str "over", A.str "under", A.str "screen", A.str "times", A.str "atop"], Pu 20 z := fun z hz => by
      simp only [List.mem_cons, List.not_mem_nil, or_false] at hz
      rcases hz with rfl | rfl | rfl | rfl | rfl <;> exact .str (by decide +kernel)
    rcases mw_cases ok.1 with ⟨m, rfl, e⟩ | ⟨⟨pu, bad⟩, e⟩
    · refine ⟨⟨.str (by cases m <;> decide +kernel), pw⟩, ?_⟩
      have e1 : ([A.str "over", A.str "under", A.str "screen", A.str "times", A.str "atop"].any fun z => eqP z (.str (manW m))) = true := by cases m <;> decide +kernel
      rw [e1]
      have z : Q false h := by rw [decide_eq_false (fun y => y (e v))] at z; exact z
      exact z
    · refine ⟨⟨pu.mono (by decide), pw⟩, ?_⟩
      have b1 := bad .over
      have b2 := bad .under
      have b3 := bad .screen
      have b4 := bad .times
      have b5 := bad .atop
      have e1 : ([A.str "over", A.str "under", A.str "screen", A.str "times", A.str "atop"].any fun z => eqP z x) = false := by
        simp only [List.any_cons, List.any_nil]
        unfold manW at b1 b2 b3 b4 b5
        rw [b1, b2, b3, b4, b5]; rfl
      rw [e1]
      have z : Q true h := by rw [decide_eq_true (e v)] at z; exact z
      exact z
  | _ =>
    refine sAnd_ne rfl (by dsimp only [kdOf]; decide) (sAnd_ne rfl (by dsimp only [kdOf]; decide) (sAnd_ne rfl (by dsimp only [kdOf]; decide) (sAnd_ne rfl (by dsimp only [kdOf]; decide) ?_)))
    exact sub_i q
theorem rd_law_grounds {K : Frg} (T : TK K) {h : AH} {Q : AVK} {E : AXK} (hR : R_law_grounds K h Q E) : t_law_grounds K { nx := fun _ h' => sub Q .non h', rt := sub Q, ex := fun c _ h' => subE E c h' } [] h := by
  unfold t_law_grounds
  ac_rfl
  exact ⟨szL (by simp), szL (by simp), szL (by simp), szL (by simp), szL (by simp), szL (by simp), szL (by simp), szL (by simp), szL (by simp), szL (by simp), sub_i hR⟩
end GL
namespace GL
open PySem PySem.Spec L2 G
local macro_rules | `(tactic| ac_rfl) => `(tactic| try dsimp only [nb, aRet, aRetN, aSeq, aIfS, aNext, aBreak, aCont, aDrop, aAsg, aPar, aAug, aSetL, aSetF, aFld, aVar, aC, aNil, aCons, aTup, aLst, a1, a2, aN, aAndV, aOrV, aNotV, aIf, aAnd, aOr, aNot, aTest, aChn, aCall, aMeth, aMake, aBmL, aRaise, aTryOnly, aTryAs, aFor, aiSeq, aiRng1, aiRng2, aiEnum, agN, agNil, agCons, agTup, aSlL, aRev, aNoPart, aPart, aNewK, aNewT, aLc, aWhile, asB, asT, iA, iA0, subA, modA, modP, divP, divA, powA, ltA, leA, gtA, geA, addA, mulA, negA, lenA, absA, intA, allA, listA, tupleA, one, two, sp0, sp1, sp2, sp3, sp4, sp5, sp6, appendA, reverseA, clearA, wipeA, putFA, aFz, aLstF, aSlF, aRevF, aAddF, addF_i, addF_s, addF_t, addF_l, aRepF, aListF, aMakeP, aDyn, aClsFn, sumA, maxL, insertA, popAtA, aDGet, aDPut, aDAug, aFAug, aBmD, maxA, minA, List.getElem?_cons_zero, List.getElem?_cons_succ, List.set_cons_zero, List.set_cons_succ, List.cons_append, List.nil_append, List.append_nil])
local macro_rules | `(tactic| nofun) => `(tactic| try dsimp only [nb, aRet, aRetN, aNext, aBreak, aCont, aDrop, aAsg, aPar, aAug, aSetL, aSetF, aFld, aVar, aC, aNil, aCons, aTup, aLst, a1, a2, aN, aAndV, aOrV, aNotV, aIf, aAnd, aOr, aNot, aTest, aChn, aCall, aMeth, aMake, aBmL, aRaise, aTryOnly, aTryAs, aiSeq, aiRng1, aiRng2, aiEnum, agN, agNil, agCons, agTup, aSlL, aRev, aNoPart, aPart, aNewK, aNewT, aLc, asB, asT, iA, iA0, subA, modA, modP, divP, divA, powA, ltA, leA, gtA, geA, addA, mulA, negA, lenA, absA, intA, allA, listA, tupleA, one, two, sp0, sp1, sp2, sp3, sp4, sp5, sp6, appendA, reverseA, clearA, wipeA, putFA, aFz, aLstF, aSlF, aRevF, aAddF, addF_i, addF_s, addF_t, addF_l, aRepF, aListF, aMakeP, aDyn, aClsFn, sumA, maxL, insertA, popAtA, aDGet, aDPut, aDAug, aFAug, aBmD, maxA, minA, List.getElem?_cons_zero, List.getElem?_cons_succ, List.set_cons_zero, List.set_cons_succ, List.cons_append, List.nil_append, List.append_nil])
def R_law_right (_ : Frg) : Sp2 := fun x y h Q _ => ∃ a, x = .str (kdW (kdOf a)) ∧ y = argsA a ∧ okA a ∧ Q (.bl true) h
def R_law (_ : Frg) : Sp1 := fun x h Q _ => ∃ ns : List Int, x = .fls (ns.map A.int) ∧ ∀ h', Q (.bl true) h'
abbrev sp_law_right (K : Frg) : ASp := sp2 (R_law_right K)
abbrev sp_law (K : Frg) : ASp := sp1 (R_law K)
def t_law_right (K : Frg) : ATS := (aSeq (aAsg (aCall (sp_law_asked K) [] (aCons (aVar 0) (aCons (aVar 1) aNil))) (agN 2))
  (aSeq (aAsg (aCall (sp_law_refusal K) [] (aCons (aVar 0) (aCons (aVar 1) aNil))) (agN 3))
  (aSeq (aIfS (aTest (a2 (eqA true) (aVar 3) (aC (.str ""))))
  (aRet (a2 (eqA false) (aVar 2) (aTup (aCons (aC (.str "refused")) (aCons (aVar 3) aNil)))))
  aNext)
  (aSeq (aAsg (aCall (sp_law_due K) [] (aCons (aVar 0) (aCons (aVar 1) aNil))) (agN 4))
  (aSeq (aIfS (aTest (a2 (eqA true) (aVar 2) (aTup (aCons (aC (.str "told")) (aCons (aVar 4) (aCons (aN (isiA K) (aCons (aVar 4) (aCons (aC (.ty "bool")) aNil))) aNil))))))
  (aRet (aC (.bl false)))
  aNext)
  (aSeq (aIfS (aTest (aN (isiA K) (aCons (a2 ixA (aVar 2) (aC (.int 1))) (aCons (aC (.ty "list")) aNil))))
  (aDrop (aBmL appendA (a2 ixA (aVar 2) (aC (.int 1))) (aCons (aVar 4) aNil)))
  aNext)
  (aRet (aC (.bl true)))))))))
def t_law (K : Frg) : ATS := (aSeq (aAsg (aLstF (aCons (aC (.str "made")) (aCons (aC (.str "plus")) (aCons (aC (.str "minus")) (aCons (aC (.str "times")) (aCons (aC (.str "less")) (aCons (aC (.str "shade")) (aCons (aC (.str "is_shade")) (aCons (aC (.str "laid")) (aCons (aC (.str "behind")) (aCons (aC (.str "mixed")) (aCons (aC (.str "parted")) aNil)))))))))))) (agN 1))
  (aSeq (aAsg (aAddF (aVar 1) (aLstF (aCons (aC (.str "stays")) (aCons (aC (.str "manner")) (aCons (aC (.str "found")) (aCons (aC (.str "weakened")) (aCons (aC (.str "adjusted")) (aCons (aC (.str "grounds")) aNil)))))))) (agN 1))
  (aSeq (aAsg (aLstF aNil) (agN 2))
  (aSeq (aFor (aiSeq (aAddF (aSlF (aVar 0) aNoPart (aPart (aC (.int 12)))) (aLstF (aCons (aC (.int 1)) (aCons (aC (.int 5)) (aCons (aC (.int 8)) aNil)))))) (agN 3)
  (aSeq (aAsg (aCall (sp_law_well K) [] (aCons (aVar 3) aNil)) (agN 4))
  (aSeq (aAsg (a2 ixA (aVar 1) (aCall (sp_law_draw K) [] (aCons (aVar 4) (aCons (aC (.int 17)) aNil)))) (agN 5))
  (aSeq (aAsg (a2 ixA (aVar 1) (aCall (sp_law_draw K) [] (aCons (aVar 4) (aCons (aC (.int 17)) aNil)))) (agN 6))
  (aSeq (aAsg (aLstF (aCons (aTup (aCons (aVar 5) (aCons (aCall (sp_law_args K) [] (aCons (aVar 4) (aCons (aVar 5) aNil))) aNil))) (aCons (aTup (aCons (aVar 5) (aCons (aCall (sp_law_args K) [] (aCons (aVar 4) (aCons (aVar 5) aNil))) aNil))) (aCons (aTup (aCons (aVar 6) (aCons (aCall (sp_law_args K) [] (aCons (aVar 4) (aCons (aVar 6) aNil))) aNil))) aNil)))) (agN 7))
  (aSeq (aFor (aiSeq (aLstF (aCons (aC (.int 0)) (aCons (aC (.int 1)) (aCons (aC (.int 0)) (aCons (aC (.int 2)) (aCons (aC (.int 0)) (aCons (aC (.int 1)) aNil)))))))) (agN 8)
  (aIfS (aNot (aTest (aCall (sp_law_right K) [] (aCons (a2 ixA (a2 ixA (aVar 7) (aVar 8)) (aC (.int 0))) (aCons (a2 ixA (a2 ixA (aVar 7) (aVar 8)) (aC (.int 1))) aNil)))))
  (aRet (aC (.bl false)))
  aNext))
  (aAsg (aAddF (aVar 2) (aVar 7)) (agN 2))))))))
  (aRet (aN allA (aCons (aFz (aLc (aiSeq (aRevF (aVar 2))) (agTup 2 (agCons (agN 5) (agCons (agN 9) agNil))) aYes (aCall (sp_law_right K) [] (aCons (aVar 5) (aCons (aVar 9) aNil))) [5, 9])) aNil)))))))

theorem less_num (p q : Rat) : decide (p < q) = decide ((p - q).num < 0) := by
  have h1 : (p < q) ↔ (p - q < 0) := by grind
  have h2 : (p - q < 0) ↔ (p - q).num < 0 := by rw [Rat.lt_iff]; simp
  exact decide_eq_decide.mpr (h1.trans h2)
theorem made16 (i : Int) {K : Frg} {h : AH} {Q : AVK} {E : AXK} (q : Q (fr (Rat.divInt i 16)) h) : R_law_made K (.int i) (.int 16) h Q E := ⟨i, 16, rfl, rfl, by decide, by decide, q⟩
theorem ref_both {x y : A} (z : refW (.shade x y) = "" ∨ refW (.adjusted x y) = "") : x = .int (intV x) ∧ y = .int (intV y) := by
  have b : bothB x y = true := by
    rcases z with z | z
    · rw [refW_shade] at z
      cases c : bothB x y with
      | true => rfl
      | false => rw [if_pos (.inl c)] at z; exact absurd z (by decide)
    · rw [refW_adj] at z
      cases c : bothB x y with
      | true => rfl
      | false => rw [if_pos (.inl c)] at z; exact absurd z (by decide)
  rcases both_cases x y with c | ⟨_, bx, bY⟩
  · rw [b] at c; cases c
  · exact ⟨(good_intV bx).1, (good_intV bY).1⟩
theorem rd_law_sum_due {K : Frg} (T : TK K) {x0 x1 : A} {h : AH} {Q : AVK} {E : AXK} (hR : R_law_sum_due K x0 x1 h Q E) : t_law_sum_due K { nx := fun _ h' => sub Q .non h', rt := sub Q, ex := fun c _ h' => subE E c h' } [some x0, some x1] h := by
  obtain ⟨a, rfl, rfl, ok, z, kd, q⟩ := hR
  unfold t_law_sum_due
  cases a with
  | plus p r =>
    refine sKey_eq rfl ?_
    (ac_rfl; (try dsimp only [argsA, itemsA, R_law_plus, R_plus]); ac_rfl)
    exact ix_tup rfl (ix_tup rfl ⟨p, r, rfl, rfl, ok.1.mono (by decide), ok.2.mono (by decide), sub_i q⟩)
  | minus p r =>
    refine sKey_ne rfl (by dsimp only [kdOf]; decide) (sKey_eq rfl ?_)
    (ac_rfl; (try dsimp only [argsA, itemsA, R_law_less, R_minus]); ac_rfl)
    exact ix_tup rfl (ix_tup rfl ⟨p, r, rfl, rfl, ok.1.mono (by decide), ok.2.mono (by decide), sub_i q⟩)
  | times p r =>
    refine sKey_ne rfl (by dsimp only [kdOf]; decide) (sKey_ne rfl (by dsimp only [kdOf]; decide) (sKey_eq rfl ?_))
    (ac_rfl; (try dsimp only [argsA, itemsA, R_law_times, R_times]); ac_rfl)
    exact ix_tup rfl (ix_tup rfl ⟨p, r, rfl, rfl, ok.1.mono (by decide), ok.2.mono (by decide), sub_i q⟩)
  | less p r =>
    refine sKey_ne rfl (by dsimp only [kdOf]; decide) (sKey_ne rfl (by dsimp only [kdOf]; decide) (sKey_ne rfl (by dsimp only [kdOf]; decide) (sKey_eq rfl ?_)))
    (ac_rfl; (try dsimp only [argsA, itemsA, R_law_less, R_minus]); ac_rfl)
    refine ix_tup rfl (ix_tup rfl ⟨p, r, rfl, rfl, ok.1.mono (by decide), ok.2.mono (by decide), ?_⟩)
    refine ix_tup rfl ?_
    have q : Q (.bl (decide (p < r))) h := q
    rw [less_num] at q
    exact sub_i q
  | isShade v =>
    refine sKey_ne rfl (by dsimp only [kdOf]; decide) (sKey_ne rfl (by dsimp only [kdOf]; decide) (sKey_ne rfl (by dsimp only [kdOf]; decide) (sKey_ne rfl (by dsimp only [kdOf]; decide) (sKey_eq rfl ?_))))
    (ac_rfl; (try dsimp only [argsA, itemsA, R_law_is_shade, R_is_shade]); ac_rfl)
    exact ⟨v, rfl, VSz.mono ok (by decide), sub_i q⟩
  | made t b =>
    refine sKey_ne rfl (by dsimp only [kdOf]; decide) (sKey_ne rfl (by dsimp only [kdOf]; decide) (sKey_ne rfl (by dsimp only [kdOf]; decide) (sKey_ne rfl (by dsimp only [kdOf]; decide) (sKey_ne rfl (by dsimp only [kdOf]; decide) (sKey_eq rfl ?_)))))
    (ac_rfl; (try dsimp only [argsA, itemsA, R_law_made]); ac_rfl)
    refine ix_tup rfl (ix_tup rfl ⟨t, b, rfl, rfl, fun c => ?_, ok, sub_i q⟩)
    rw [refW_made, if_pos c] at z
    exact absurd z (by decide)
  | shade x y =>
    refine sKey_ne rfl (by dsimp only [kdOf]; decide) (sKey_ne rfl (by dsimp only [kdOf]; decide) (sKey_ne rfl (by dsimp only [kdOf]; decide) (sKey_ne rfl (by dsimp only [kdOf]; decide) (sKey_ne rfl (by dsimp only [kdOf]; decide) (sKey_ne rfl (by dsimp only [kdOf]; decide) ?_)))))
    obtain ⟨ex, ey⟩ := ref_both (.inl z)
    (ac_rfl; (try dsimp only [argsA, itemsA, R_law_made]); ac_rfl)
    refine ix_tup rfl ⟨intV x, 16, ex, rfl, by decide, by decide, ix_tup rfl ⟨intV y, 16, ey, rfl, by decide, by decide, szL (by simp), sub_i q⟩⟩
  | adjusted x y =>
    refine sKey_ne rfl (by dsimp only [kdOf]; decide) (sKey_ne rfl (by dsimp only [kdOf]; decide) (sKey_ne rfl (by dsimp only [kdOf]; decide) (sKey_ne rfl (by dsimp only [kdOf]; decide) (sKey_ne rfl (by dsimp only [kdOf]; decide) (sKey_ne rfl (by dsimp only [kdOf]; decide) ?_)))))
    obtain ⟨ex, ey⟩ := ref_both (.inr z)
    (ac_rfl; (try dsimp only [argsA, itemsA, R_law_made]); ac_rfl)
    refine ix_tup rfl ⟨intV x, 16, ex, rfl, by decide, by decide, ix_tup rfl ⟨intV y, 16, ey, rfl, by decide, by decide, szL (by simp), sub_i q⟩⟩
  | _ => exact absurd kd (by simp [kdOf])
theorem head_find {l : List (Rat × Rat)} {p : Rat × Rat → Bool} : ∃ t, ((l.filter p).map valA ++ [A.non]) = optV (l.find? p) :: t := by
  have e := List.head?_filter (p := p) (l := l)
  cases c : l.filter p with
  | nil => rw [c] at e; rw [← e]; exact ⟨[], rfl⟩
  | cons a t => rw [c] at e; rw [← e]; exact ⟨t.map valA ++ [A.non], rfl⟩
theorem filt_all {l : List (Rat × Rat)} {p : Rat × Rat → Bool} : eqPs ((l.filter fun x => !p x).map valA) [] = l.all p := by
  induction l with
  | nil => exact eqPs_nil
  | cons a l ih =>
    rw [List.filter_cons, List.all_cons]
    cases c : p a with
    | true => rw [if_neg (by simp)]; rw [ih]; rfl
    | false => rw [if_pos (by simp)]; rw [List.map_cons, eqPs_cn]; rfl
theorem sub_sz {r : Rul} (h : RSz 80 r) : RSz 390 r := h.mono (by decide)
theorem rd_law_due {K : Frg} (T : TK K) {x0 x1 : A} {h : AH} {Q : AVK} {E : AXK} (hR : R_law_due K x0 x1 h Q E) : t_law_due K { nx := fun _ h' => sub Q .non h', rt := sub Q, ex := fun c _ h' => subE E c h' } [some x0, some x1, none, none, none, none, none, none, none, none] h := by
  obtain ⟨a, rfl, rfl, ok, z, q⟩ := hR
  unfold t_law_due
  have sk : ∀ {a : Ask} {t r : ATS} {D : AEnds} {β : ASt} (b : Bool), inA (.str (kdW (kdOf a))) ((["plus", "minus", "times", "less", "is_shade", "made", "shade"] : List Str).map A.str) = b → (if b = true then t { D with nx := r D } (some (.str (kdW (kdOf a))) :: β) h else r D (some (.str (kdW (kdOf a))) :: β) h) → aSeq (aIfS (aTest (a2 (inSA false) (aVar 0) (aTup (aCons (aC (.str "plus")) (aCons (aC (.str "minus")) (aCons (aC (.str "times")) (aCons (aC (.str "less")) (aCons (aC (.str "is_shade")) (aCons (aC (.str "made")) (aCons (aC (.str "shade")) aNil)))))))))) t aNext) r D (some (.str (kdW (kdOf a))) :: β) h := fun b e x => sIn rfl (ks := ["plus", "minus", "times", "less", "is_shade", "made", "shade"]) (fun Q E z => z) (by decide) b e x
  have sm : ∀ {D : AEnds} {β : ASt}, D.rt = sub Q → (kdOf a = .plus ∨ kdOf a = .minus ∨ kdOf a = .times ∨ kdOf a = .less ∨ kdOf a = .isShade ∨ kdOf a = .made ∨ kdOf a = .shade ∨ kdOf a = .adjusted) → sumV a = dueA a → aRet (aCall (sp_law_sum_due K) [] (aCons (aVar 0) (aCons (aVar 1) aNil))) D (some (.str (kdW (kdOf a))) :: some (argsA a) :: β) h := fun {D β} e k es => by
    (ac_rfl; (try dsimp only [R_law_sum_due]); ac_rfl)
    rw [e]
    exact ⟨a, rfl, rfl, ok, z, k, by rw [es]; exact sub_i q⟩
  cases a with
  | plus => exact sk true (by dsimp only [kdOf]; decide) (ifT (sm rfl (by simp [kdOf]) rfl))
  | minus => exact sk true (by dsimp only [kdOf]; decide) (ifT (sm rfl (by simp [kdOf]) rfl))
  | times => exact sk true (by dsimp only [kdOf]; decide) (ifT (sm rfl (by simp [kdOf]) rfl))
  | less => exact sk true (by dsimp only [kdOf]; decide) (ifT (sm rfl (by simp [kdOf]) rfl))
  | isShade => exact sk true (by dsimp only [kdOf]; decide) (ifT (sm rfl (by simp [kdOf]) rfl))
  | made => exact sk true (by dsimp only [kdOf]; decide) (ifT (sm rfl (by simp [kdOf]) rfl))
  | shade => exact sk true (by dsimp only [kdOf]; decide) (ifT (sm rfl (by simp [kdOf]) rfl))
  | laid r v =>
    refine sk false (by dsimp only [kdOf]; decide) (ifF (sKey_eq rfl ?_))
    (ac_rfl; (try dsimp only [argsA, itemsA, R_law_laid, R_laid]); ac_rfl)
    exact ix_tup rfl (ix_tup rfl ⟨r, v, rfl, rfl, ok.1.mono (by decide), ok.2.mono (by decide), sub_i q⟩)
  | behind r s =>
    refine sk false (by dsimp only [kdOf]; decide) (ifF (sKey_ne rfl (by dsimp only [kdOf]; decide) (sKey_eq rfl ?_)))
    (ac_rfl; (try dsimp only [argsA, itemsA, R_law_behind, R_behind]); ac_rfl)
    exact ix_tup rfl (ix_tup rfl ⟨r, s, rfl, rfl, ok.1.mono (by decide), ok.2.mono (by decide), sub_i q⟩)
  | mixed r m =>
    refine sk false (by dsimp only [kdOf]; decide) (ifF (sKey_ne rfl (by dsimp only [kdOf]; decide) (sKey_ne rfl (by dsimp only [kdOf]; decide) (sKey_eq rfl ?_))))
    (ac_rfl; (try dsimp only [argsA, itemsA, R_law_mixed, R_mixed]); ac_rfl)
    exact ix_tup rfl (ix_tup rfl ⟨r, m, rfl, rfl, ok.1.mono (by decide), ok.2.mono (by decide), sub_i q⟩)
  | parted r s =>
    refine sk false (by dsimp only [kdOf]; decide) (ifF (sKey_ne rfl (by dsimp only [kdOf]; decide) (sKey_ne rfl (by dsimp only [kdOf]; decide) (sKey_ne rfl (by dsimp only [kdOf]; decide) (sKey_eq rfl ?_)))))
    (ac_rfl; (try dsimp only [argsA, itemsA, R_law_grounds]); ac_rfl)
    refine lcF_mapif (l := grndL) (e := valA) (fun g => !decide (laidR r g = laidR s g)) valA (show itF _ (.fls (grndL.map valA)) = _ from rfl) (by decide) (fun y hy h' C N ex hC hN => ?_) ?_
    · (ac_rfl; (try dsimp only [R_law_laid, R_laid]); ac_rfl)
      refine ix_tup rfl ⟨r, y, rfl, rfl, ok.1.mono (by decide), grnd_sz (by decide) hy, ix_tup rfl ⟨s, y, rfl, rfl, ok.2.mono (by decide), grnd_sz (by decide) hy, eqA_pu (pu_valA (n := 4) _) (pu_valA _) ?_⟩⟩
      rw [eq_valA]
      ac_rfl
      cases hd : decide (laidR r y = laidR s y) with
      | false => exact ifT (hC (by rw [hd]; rfl))
      | true => exact ifF (hN (by rw [hd]; rfl))
    · ac_rfl
      obtain ⟨t, et⟩ := head_find (l := grndL) (p := fun g => !decide (laidR r g = laidR s g))
      refine ⟨szL (by simp), szL ?_, ?_⟩
      · have := List.length_filter_le (fun g => !decide (laidR r g = laidR s g)) grndL
        have e3 : grndL.length = 3 := rfl
        simp only [List.length_map, List.length_cons, List.length_nil]
        omega
      · rw [et]
        exact ix_fls (atI_get (j := 0) rfl rfl) (sub_i q)
  | stays r =>
    refine sk false (by dsimp only [kdOf]; decide) (ifF (sKey_ne rfl (by dsimp only [kdOf]; decide) (sKey_ne rfl (by dsimp only [kdOf]; decide) (sKey_ne rfl (by dsimp only [kdOf]; decide) (sKey_ne rfl (by dsimp only [kdOf]; decide) (sKey_eq rfl ?_))))))
    (ac_rfl; (try dsimp only [argsA, itemsA, R_law_grounds]); ac_rfl)
    refine lcF_mapif (l := grndL) (e := valA) (fun g => !isSh (laidR r g)) valA (show itF _ (.fls (grndL.map valA)) = _ from rfl) (by decide) (fun y hy h' C N ex hC hN => ?_) ?_
    · (ac_rfl; (try dsimp only [R_law_laid, R_laid, R_law_is_shade, R_is_shade]); ac_rfl)
      refine ix_tup rfl ⟨r, y, rfl, rfl, RSz.mono ok (by decide), grnd_sz (by decide) hy, _, rfl, sz_laid (n := 70) (m := 2000) ok (grnd_sz (by decide) hy) (by decide), ?_⟩
      cases hd : isSh (laidR r y) with
      | false => exact ifT (hC (by rw [hd]; rfl))
      | true => exact ifF (hN (by rw [hd]; rfl))
    · ac_rfl
      refine ⟨szL (by simp), eqA_lst (n := 10) rfl rfl (fun z hz => ?_) (fun _ z => (nomatch z)) ?_⟩
      · obtain ⟨y, _, rfl⟩ := List.mem_map.mp hz
        exact pu_valA (n := 8) y
      · rw [filt_all]
        exact sub_i q
  | manner x v =>
    refine sk false (by dsimp only [kdOf]; decide) (ifF (sKey_ne rfl (by dsimp only [kdOf]; decide) (sKey_ne rfl (by dsimp only [kdOf]; decide) (sKey_ne rfl (by dsimp only [kdOf]; decide) (sKey_ne rfl (by dsimp only [kdOf]; decide) (sKey_ne rfl (by dsimp only [kdOf]; decide) (sKey_eq rfl ?_)))))))
    rcases mw_cases ok.1 with ⟨m, rfl, e⟩ | ⟨_, e⟩
    · have q : Q (.tup [.str (manW m), rulA (manR (manO (.str (manW m))) v)]) h := q
      rw [manO_W] at q
      (ac_rfl; (try dsimp only [argsA, itemsA, R_law_manner]); ac_rfl)
      exact ix_tup rfl (ix_tup rfl (ix_tup rfl ⟨m, v, rfl, rfl, ok.2.mono (by decide), szL (by simp), sub_i q⟩))
    · exact absurd z (e v)
  | found m r =>
    refine sk false (by dsimp only [kdOf]; decide) (ifF (sKey_ne rfl (by dsimp only [kdOf]; decide) (sKey_ne rfl (by dsimp only [kdOf]; decide) (sKey_ne rfl (by dsimp only [kdOf]; decide) (sKey_ne rfl (by dsimp only [kdOf]; decide) (sKey_ne rfl (by dsimp only [kdOf]; decide) (sKey_ne rfl (by dsimp only [kdOf]; decide) (sKey_eq rfl ?_))))))))
    obtain ⟨r1, r2, r3, r4, r5⟩ := (show RSz 80 r from ok)
    (ac_rfl; (try dsimp only [argsA, itemsA, R_law_less, R_minus, rulA]); ac_rfl)
    refine ix_tup rfl ⟨rfl, rfl, szL (by simp), szL (by simp), 1, r.g, rfl, rfl, sz1 (by decide), r1.mono (by decide), szL (by simp), szL (by simp), ix_tup rfl (eqS ?_)⟩
    have sv : VSz 2000 (fndV m r) := by
      have h1 : Sz 2000 (1 - r.g) := ((sz1 (n := 1) (by decide)).sub r1).mono (by decide)
      cases m <;> first | exact ⟨r3.mono (by decide), r5.mono (by decide)⟩ | exact ⟨r2.mono (by decide), h1⟩
    cases m with
    | atop =>
      refine ix_fls rfl ?_
      (ac_rfl; (try dsimp only [R_law_is_shade, R_is_shade]); ac_rfl)
      refine ⟨szL (by simp), (r.p, 1 - r.g), rfl, sv, ?_⟩
      have q : Q (optV (optSh (r.p, 1 - r.g))) h := q
      unfold optSh at q
      cases hs : isSh (r.p, 1 - r.g) with
      | true => rw [hs] at q; exact ix_fls rfl (sub_i q)
      | false => rw [hs] at q; exact ix_fls rfl (sub_i q)
    | _ =>
      refine ix_fls rfl ?_
      (ac_rfl; (try dsimp only [R_law_is_shade, R_is_shade]); ac_rfl)
      refine ⟨szL (by simp), (r.a, r.b), rfl, sv, ?_⟩
      have q : Q (optV (optSh (r.a, r.b))) h := q
      unfold optSh at q
      cases hs : isSh (r.a, r.b) with
      | true => rw [hs] at q; exact ix_fls rfl (sub_i q)
      | false => rw [hs] at q; exact ix_fls rfl (sub_i q)
  | weakened v m =>
    refine sk false (by dsimp only [kdOf]; decide) (ifF (sKey_ne rfl (by dsimp only [kdOf]; decide) (sKey_ne rfl (by dsimp only [kdOf]; decide) (sKey_ne rfl (by dsimp only [kdOf]; decide) (sKey_ne rfl (by dsimp only [kdOf]; decide) (sKey_ne rfl (by dsimp only [kdOf]; decide) (sKey_ne rfl (by dsimp only [kdOf]; decide) (sKey_ne rfl (by dsimp only [kdOf]; decide) (sKey_eq rfl ?_)))))))))
    (ac_rfl; (try dsimp only [argsA, itemsA, R_law_times, R_times, valA]); ac_rfl)
    have q : Q (valA (m * v.1, m * v.2)) h := q
    rw [Rat.mul_comm m v.1, Rat.mul_comm m v.2] at q
    exact ix_tup rfl (ix_tup rfl (ix_tup rfl ⟨v.1, m, rfl, rfl, ok.1.1.mono (by decide), ok.2.mono (by decide), ix_tup rfl (ix_tup rfl (ix_tup rfl ⟨v.2, m, rfl, rfl, ok.1.2.mono (by decide), ok.2.mono (by decide), szL (by simp), sub_i q⟩))⟩))
  | adjusted x y =>
    refine sk false (by dsimp only [kdOf]; decide) (ifF (sKey_ne rfl (by dsimp only [kdOf]; decide) (sKey_ne rfl (by dsimp only [kdOf]; decide) (sKey_ne rfl (by dsimp only [kdOf]; decide) (sKey_ne rfl (by dsimp only [kdOf]; decide) (sKey_ne rfl (by dsimp only [kdOf]; decide) (sKey_ne rfl (by dsimp only [kdOf]; decide) (sKey_ne rfl (by dsimp only [kdOf]; decide) (sKey_ne rfl (by dsimp only [kdOf]; decide) (sKey_eq rfl ?_))))))))))
    (ac_rfl; (try dsimp only [R_law_sum_due]); ac_rfl)
    refine ⟨.adjusted x y, rfl, rfl, ok, z, by simp [kdOf], szL (by simp), szL (by simp), szL (by simp), szL (by simp), ?_⟩
    exact ⟨szL (by simp), sub_i q⟩
  | grounds =>
    refine sk false (by dsimp only [kdOf]; decide) (ifF (sKey_ne rfl (by dsimp only [kdOf]; decide) (sKey_ne rfl (by dsimp only [kdOf]; decide) (sKey_ne rfl (by dsimp only [kdOf]; decide) (sKey_ne rfl (by dsimp only [kdOf]; decide) (sKey_ne rfl (by dsimp only [kdOf]; decide) (sKey_ne rfl (by dsimp only [kdOf]; decide) (sKey_ne rfl (by dsimp only [kdOf]; decide) (sKey_ne rfl (by dsimp only [kdOf]; decide) (sKey_ne rfl (by dsimp only [kdOf]; decide) ?_))))))))))
    (ac_rfl; (try dsimp only [R_law_grounds]); ac_rfl)
    exact sub_i q
theorem eqA_told {p : Addr} {zs : List A} {h : AH} {Q : AVK} (e : h p = some (.lst zs)) (pz : ∀ z ∈ zs, Pu 5 z) (q : Q (.bl false) h) : eqA true (.tup [.str "told", .ref p, .bl false]) (.tup [.str "told", .fls zs, .bl false]) h Q := by
  have pt : Pu 7 (.tup [.str "told", .fls zs, .bl false]) := .tup fun x hx => by
    simp only [List.mem_cons, List.not_mem_nil, or_false] at hx
    rcases hx with rfl | rfl | rfl
    · exact .str (by decide +kernel)
    · exact .fls pz
    · exact .bl _
  have d1 := (Pu.data (h := h) pt).1
  have d2 : DatA h (.tup [.str "told", .ref p, .bl false]) (datP (.tup [.str "told", .fls zs, .bl false])) := by
    have d3 := (Pu.data (h := h) (Pu.fls pz)).1
    simp only [datP, datPs] at d3 ⊢
    cases d3 with
    | fls d3 => exact .tup (.cons (.str _) (.cons (.lst e d3) (.cons (.bl _) .nil)))
  have sh := pt.shaped (by decide)
  have self := pt.self
  unfold eqP at self
  have gen : ((∃ d e, DatA h (.tup [.str "told", .ref p, .bl false]) d ∧ DatA h (.tup [.str "told", .fls zs, .bl false]) e ∧ SeqAt.shaped d = true ∧ SeqAt.shaped e = true ∧ Q (.bl (nb true (PyData.eqv d e))) h) ∨
      ∃ p' q xs ys, (A.tup [.str "told", .ref p, .bl false]) = .ref p' ∧ (A.tup [.str "told", .fls zs, .bl false]) = .ref q ∧ LstA h p' xs ∧ LstA h q ys ∧ xs.length ≠ ys.length ∧ Q (.bl true) h) ∨ ∃ n, n ≤ 60 ∧ SamR h (SamA h n) (.tup [.str "told", .ref p, .bl false]) (.tup [.str "told", .fls zs, .bl false]) ∧ Q (.bl (!true)) h :=
    .inl (.inl ⟨_, _, d2, d1, sh, sh, by rw [self]; exact q⟩)
  exact gen
theorem pu_rul' {n : Nat} (r : Rul) : Pu (n + 2) (rulA r) := .tup fun x hx => by
  simp only [List.mem_cons, List.not_mem_nil, or_false] at hx
  rcases hx with rfl | rfl | rfl | rfl | rfl <;> exact pu_fr
theorem pu_opt (o : Option (Rat × Rat)) : Pu 10 (optV o) := by
  cases o with
  | none => exact .non
  | some v => exact pu_valA (n := 8) v
theorem pu_due {a : Ask} (ok : okA a) (z : refW a = "") : Pu 11 (dueA a) := by
  cases a with
  | made | plus | minus | times => exact pu_fr (n := 10)
  | less | isShade | stays => exact .bl _
  | shade | laid | weakened => exact pu_valA (n := 9) _
  | behind | mixed | adjusted => exact pu_rul' (n := 9) _
  | parted r s => exact (pu_opt _).mono (by decide)
  | found m r => exact (pu_opt _).mono (by decide)
  | manner x v =>
    rcases mw_cases ok.1 with ⟨m, rfl, e⟩ | ⟨_, e⟩
    · refine .tup fun y hy => ?_
      simp only [List.mem_cons, List.not_mem_nil, or_false] at hy
      rcases hy with rfl | rfl
      · exact .str (by cases m <;> decide +kernel)
      · exact pu_rul' (n := 8) _
    · exact absurd z (e v)
  | grounds =>
    refine .fls fun y hy => ?_
    obtain ⟨v, _, rfl⟩ := List.mem_map.mp hy
    exact pu_valA (n := 8) v
theorem rd_law_right {K : Frg} (T : TK K) {x0 x1 : A} {h : AH} {Q : AVK} {E : AXK} (hR : R_law_right K x0 x1 h Q E) : t_law_right K { nx := fun _ h' => sub Q .non h', rt := sub Q, ex := fun c _ h' => subE E c h' } [some x0, some x1, none, none, none] h := by
  obtain ⟨a, rfl, rfl, ok, q⟩ := hR
  unfold t_law_right
  refine seq_cut (fun α h' => ∃ f, α = [some (.str (kdW (kdOf a))), some (argsA a), some f, none, none] ∧ ((refW a ≠ "" ∧ f = .tup [.str "refused", .str (refW a)] ∧ h' = h) ∨ (refW a = "" ∧ a ≠ .grounds ∧ f = .tup [.str "told", dueA a, .bl (isBl (dueA a))] ∧ h' = h) ∨ (a = .grounds ∧ ∃ p, h p = none ∧ f = .tup [.str "told", .ref p, .bl false] ∧ h' = updA h p (.lst (grndL.map valA))))) (fun J hJ => ?_) fun α h1 pv => ?_
  · (ac_rfl; (try dsimp only [R_law_asked]); ac_rfl)
    exact ⟨a, rfl, rfl, ok, fun z => hJ _ _ ⟨_, rfl, .inl ⟨z, rfl, rfl⟩⟩, fun z g => hJ _ _ ⟨_, rfl, .inr (.inl ⟨z, g, rfl, rfl⟩)⟩, fun z p hp => hJ _ _ ⟨_, rfl, .inr (.inr ⟨z, p, hp, rfl, rfl⟩)⟩⟩
  obtain ⟨f, rfl, pv⟩ := pv
  refine seq_cut (fun α h' => α = [some (.str (kdW (kdOf a))), some (argsA a), some f, some (.str (refW a)), none] ∧ h1 = h') (fun J hJ => ?_) fun α h' pw => ?_
  · (ac_rfl; (try dsimp only [R_law_refusal]); ac_rfl)
    exact ⟨a, rfl, rfl, ok, hJ _ _ ⟨rfl, rfl⟩⟩
  obtain ⟨rfl, rfl⟩ := pw
  have tail : ∀ J : ASt → AH → Prop, J [some (.str (kdW (kdOf a))), some (argsA a), some f, some (.str (refW a)), some (dueA a)] h1 → refW a = "" → (aAsg (aCall (sp_law_due K) [] (aCons (aVar 0) (aCons (aVar 1) aNil))) (agN 4)) { nx := J, rt := sub Q, ex := fun c _ h' => subE E c h' } [some (.str (kdW (kdOf a))), some (argsA a), some f, some (.str (refW a)), none] h1 := fun J hJ z => by
    (ac_rfl; (try dsimp only [R_law_due]); ac_rfl)
    exact ⟨a, rfl, rfl, ok, z, hJ⟩
  rcases pv with ⟨n, rfl, rfl⟩ | ⟨z, g, rfl, rfl⟩ | ⟨rfl, p, hp, rfl, rfl⟩
  · ac_rfl
    refine eqS ?_
    ac_rfl
    refine ifnd (fun _ => ⟨szL (by simp), eqA_pu (n := 5) ?_ ?_ ?_⟩) fun c => absurd c n
    · refine .tup fun x hx => ?_
      simp only [List.mem_cons, List.not_mem_nil, or_false] at hx
      rcases hx with rfl | rfl
      · exact .str (by decide +kernel)
      · rcases ref_word n with ⟨_, e⟩ | ⟨_, e⟩ | ⟨_, e⟩ | ⟨_, e⟩ <;> rw [e] <;> exact .str (by decide +kernel)
    · refine .tup fun x hx => ?_
      simp only [List.mem_cons, List.not_mem_nil, or_false] at hx
      rcases hx with rfl | rfl
      · exact .str (by decide +kernel)
      · rcases ref_word n with ⟨_, e⟩ | ⟨_, e⟩ | ⟨_, e⟩ | ⟨_, e⟩ <;> rw [e] <;> exact .str (by decide +kernel)
    · rw [eqP_tup, eqPs_cons, eqPs_cons, eqPs_nil, eqP_str, eqP_str, decide_eq_true rfl, decide_eq_true rfl]
      exact sub_i q
  · refine seq_cut (fun α h' => α = [some (.str (kdW (kdOf a))), some (argsA a), some (.tup [.str "told", dueA a, .bl (isBl (dueA a))]), some (.str (refW a)), none] ∧ h' = h1) (fun J hJ => ?_) fun α h' pw => ?_
    · ac_rfl
      refine eqS ?_
      ac_rfl
      exact ifnd (fun c => absurd z c) fun _ => hJ _ _ ⟨rfl, rfl⟩
    obtain ⟨rfl, rfl⟩ := pw
    refine seq_cut (fun α h2 => α = [some (.str (kdW (kdOf a))), some (argsA a), some (.tup [.str "told", dueA a, .bl (isBl (dueA a))]), some (.str (refW a)), some (dueA a)] ∧ h2 = h') (fun J hJ => tail J (hJ _ _ ⟨rfl, rfl⟩) z) fun α h2 pw => ?_
    obtain ⟨rfl, rfl⟩ := pw
    obtain ⟨k, ek, eb⟩ := kind_due a z ok
    have pd := pu_due ok z
    have pt : Pu 12 (.tup [.str "told", dueA a, .bl (isBl (dueA a))]) := .tup fun x hx => by
      simp only [List.mem_cons, List.not_mem_nil, or_false] at hx
      rcases hx with rfl | rfl | rfl
      · exact .str (by decide +kernel)
      · exact pd
      · exact .bl _
    ac_rfl
    refine isi_kind (ek _) ⟨szL (by simp), ?_⟩
    rw [eb]
    refine eqA_pu pt pt ?_
    rw [pt.self]
    refine ifF (ix_tup rfl (isi_kind (ek _) ?_))
    ac_rfl
    have nl : kindIs k "list" = false := by
      have e := ek (fun _ => none)
      cases a with
      | parted r s => unfold dueA at e; dsimp only at e; cases c : partO r s <;> rw [c] at e <;> cases e <;> rfl
      | found m r => unfold dueA at e; dsimp only at e; cases c : optSh (fndV m r) <;> rw [c] at e <;> cases e <;> rfl
      | grounds => exact absurd rfl g
      | _ => cases e; rfl
    rw [nl]
    exact ifF (sub_i q)
  · refine seq_cut (fun α h' => α = [some (.str (kdW .grounds)), some (argsA .grounds), some (.tup [.str "told", .ref p, .bl false]), some (.str (refW .grounds)), none] ∧ h' = updA h p (.lst (grndL.map valA))) (fun J hJ => ?_) fun α h' pw => ?_
    · ac_rfl
      refine eqS ?_
      ac_rfl
      exact ifnd (fun c => absurd rfl c) fun _ => hJ _ _ ⟨rfl, rfl⟩
    obtain ⟨rfl, rfl⟩ := pw
    refine seq_cut (fun α h2 => α = [some (.str (kdW .grounds)), some (argsA .grounds), some (.tup [.str "told", .ref p, .bl false]), some (.str (refW .grounds)), some (.fls (grndL.map valA))] ∧ h2 = updA h p (.lst (grndL.map valA))) (fun J hJ => tail J (hJ _ _ ⟨rfl, rfl⟩) rfl) fun α h2 pw => ?_
    obtain ⟨rfl, rfl⟩ := pw
    ac_rfl
    refine isi_kind (k := "list") rfl ⟨szL (by simp), ?_⟩
    refine eqA_told updA_same (fun z hz => ?_) ?_
    · obtain ⟨v, _, rfl⟩ := List.mem_map.mp hz
      exact pu_valA (n := 3) v
    refine ifF (ix_tup rfl (isi_kind (k := "list") (by simp only [kindA]; rw [updA_same]) ?_))
    refine ifT (ix_tup rfl ⟨⟨_, updA_same⟩, _, updA_same, ltL (by simp [grndL]), ?_⟩)
    rw [updA_updA]
    exact ⟨h, Ext.new hp, q⟩
def askA (a : Ask) : A := .tup [.str (kdW (kdOf a)), argsA a]
theorem kd_all (kd : Kd) : kd ∈ ([.made, .plus, .minus, .times, .less, .shade, .isShade, .laid, .behind, .mixed, .parted, .stays, .manner, .found, .weakened, .adjusted, .grounds] : List Kd) := by cases kd <;> simp
def kinds : List Kd := [.made, .plus, .minus, .times, .less, .shade, .isShade, .laid, .behind, .mixed, .parted, .stays, .manner, .found, .weakened, .adjusted, .grounds]
theorem kd_at {r : Int} (h0 : 0 ≤ r) (h1 : r < 17) : ∃ kd, atI (kinds.map fun k => A.str (kdW k)) r = some (.str (kdW kd)) := by
  obtain ⟨c, ec, kd, rfl⟩ := at_all (xs := kinds.map fun k => A.str (kdW k)) (n := 17) (fun x => ∃ kd, x = .str (kdW kd)) rfl h0 h1 (fun x hx => by
    obtain ⟨k, _, rfl⟩ := List.mem_map.mp hx
    exact ⟨k, rfl⟩)
  exact ⟨kd, ec⟩
theorem cut_to (l : List A) (k : Nat) : cutA l none (some (k : Int)) = l.take k := by
  unfold cutA
  rw [HT.sIx_none, HT.sIx_nat, List.drop_zero, Nat.sub_zero, ← List.take_take, List.take_length]
theorem rd_law {K : Frg} (T : TK K) {x0 : A} {h : AH} {Q : AVK} {E : AXK} (hR : R_law K x0 h Q E) : t_law K { nx := fun _ h' => sub Q .non h', rt := sub Q, ex := fun c _ h' => subE E c h' } [some x0, none, none, none, none, none, none, none, none, none] h := by
  obtain ⟨ns, rfl, q⟩ := hR
  unfold t_law
  refine seq_cut (fun α h' => ∃ l : List Str, α = [some (.fls (ns.map A.int)), some (.fls (l.map A.str)), none, none, none, none, none, none, none, none] ∧ l = (["made", "plus", "minus", "times", "less", "shade", "is_shade", "laid", "behind", "mixed", "parted"] : List Str) ∧ True) (fun J hJ => ?_) fun α h1 pv => ?_
  · ac_rfl
    exact ⟨szL (by simp), hJ _ _ ⟨_, rfl, rfl, trivial⟩⟩
  obtain ⟨l, rfl, rfl, _⟩ := pv
  refine seq_cut (fun α h' => α = [some (.fls (ns.map A.int)), some (.fls (kinds.map fun k => A.str (kdW k))), none, none, none, none, none, none, none, none] ∧ True) (fun J hJ => ?_) fun α h1 pv => ?_
  · ac_rfl
    exact ⟨szL (by simp), szL (by simp), hJ _ _ ⟨rfl, trivial⟩⟩
  obtain ⟨rfl, _⟩ := pv
  refine seq_cut (fun α h' => α = [some (.fls (ns.map A.int)), some (.fls (kinds.map fun k => A.str (kdW k))), some (.fls []), none, none, none, none, none, none, none] ∧ True) (fun J hJ => ?_) fun α h1 pv => ?_
  · ac_rfl
    exact ⟨szL (by simp), hJ _ _ ⟨rfl, trivial⟩⟩
  obtain ⟨rfl, _⟩ := pv
  refine seq_cut (fun α h' => ∃ (as : List Ask) (a b c d e f g : Option A), α = [some (.fls (ns.map A.int)), some (.fls (kinds.map fun k => A.str (kdW k))), some (.fls (as.map askA)), a, b, c, d, e, f, g] ∧ as.length ≤ 45 ∧ ∀ a ∈ as, okA a) (fun J hJ => ?_) fun α h2 pv => ?_
  · ac_rfl
    rw [show (12 : Int) = ((12 : Nat) : Int) from rfl, cut_to]
    refine ⟨szL (by simp), szL (by rw [List.length_take]; simp; omega), ?_⟩
    have len : ((ns.map A.int).take 12 ++ [A.int 1, A.int 5, A.int 8]).length ≤ 15 := by
      rw [List.length_append, List.length_take]; simp; omega
    have hin : ∀ x ∈ (ns.map A.int).take 12 ++ [A.int 1, A.int 5, A.int 8], ∃ i, x = .int i := fun x hx => by
      rcases List.mem_append.mp hx with hx | hx
      · obtain ⟨i, _, e⟩ := List.mem_map.mp (List.mem_of_mem_take hx)
        exact ⟨i, e.symm⟩
      · simp only [List.mem_cons, List.not_mem_nil, or_false] at hx
        rcases hx with rfl | rfl | rfl <;> exact ⟨_, rfl⟩
    generalize (ns.map A.int).take 12 ++ [A.int 1, A.int 5, A.int 8] = Z at *
    refine forF (xs := Z) (fun i α h' => ∃ (as : List Ask) (a b c d e f g : Option A), α = [some (.fls (ns.map A.int)), some (.fls (kinds.map fun k => A.str (kdW k))), some (.fls (as.map askA)), a, b, c, d, e, f, g] ∧ as.length = 3 * i ∧ ∀ a ∈ as, okA a) rfl ⟨[], _, _, _, _, _, _, _, rfl, rfl, fun _ z => (nomatch z)⟩ (fun _ z => nomatch z) (fun i hi α h' pv => ?_) fun α h' pv => ?_
    · obtain ⟨as, a, b, c, d, e, f, g, rfl, la, oka⟩ := pv
      obtain ⟨cell, hc⟩ := hin _ (List.getElem_mem hi)
      rw [hc]
      refine seq_cut (fun α h2 => ∃ w, α = [some (.fls (ns.map A.int)), some (.fls (kinds.map fun k => A.str (kdW k))), some (.fls (as.map askA)), some (.int cell), some (.ref w), c, d, e, f, g] ∧ WellAt h2 w) (fun J hJ => ?_) fun α h2 pv => ?_
      · (ac_rfl; (try dsimp only [R_law_well]); ac_rfl)
        exact ⟨cell, rfl, fun w c3 nw W3 => hJ _ _ ⟨w, rfl, ⟨_, W3, updA_same⟩⟩⟩
      obtain ⟨w, rfl, hw⟩ := pv
      refine seq_cut (fun α h2 => ∃ kd, α = [some (.fls (ns.map A.int)), some (.fls (kinds.map fun k => A.str (kdW k))), some (.fls (as.map askA)), some (.int cell), some (.ref w), some (.str (kdW kd)), d, e, f, g] ∧ WellAt h2 w) (fun J hJ => ?_) fun α h2 pv => ?_
      · (ac_rfl; (try dsimp only [R_law_draw]); ac_rfl)
        refine ⟨w, 17, rfl, rfl, by decide, by decide, hw, fun r h3 a b W => ?_⟩
        obtain ⟨kd, ek⟩ := kd_at a b
        exact ix_fls ek (hJ _ _ ⟨kd, rfl, W.at⟩)
      obtain ⟨kd, rfl, hw⟩ := pv
      refine seq_cut (fun α h2 => ∃ kd2, α = [some (.fls (ns.map A.int)), some (.fls (kinds.map fun k => A.str (kdW k))), some (.fls (as.map askA)), some (.int cell), some (.ref w), some (.str (kdW kd)), some (.str (kdW kd2)), e, f, g] ∧ WellAt h2 w) (fun J hJ => ?_) fun α h2 pv => ?_
      · (ac_rfl; (try dsimp only [R_law_draw]); ac_rfl)
        refine ⟨w, 17, rfl, rfl, by decide, by decide, hw, fun r h3 a b W => ?_⟩
        obtain ⟨kd, ek⟩ := kd_at a b
        exact ix_fls ek (hJ _ _ ⟨kd, rfl, W.at⟩)
      obtain ⟨kd2, rfl, hw⟩ := pv
      refine seq_cut (fun α h2 => ∃ a1 a2 a3 : Ask, α = [some (.fls (ns.map A.int)), some (.fls (kinds.map fun k => A.str (kdW k))), some (.fls (as.map askA)), some (.int cell), some (.ref w), some (.str (kdW kd)), some (.str (kdW kd2)), some (.fls ([a1, a2, a3].map askA)), f, g] ∧ okA a1 ∧ okA a2 ∧ okA a3) (fun J hJ => ?_) fun α h2 pv => ?_
      · (ac_rfl; (try dsimp only [R_law_args]); ac_rfl)
        refine ⟨w, kd, rfl, rfl, hw, fun a1 h3 k1 o1 W1 => ⟨szL (by simp), w, kd, rfl, rfl, W1.at, fun a2 h4 k2 o2 W2 => ⟨szL (by simp), w, kd2, rfl, rfl, W2.at, fun a3 h5 k3 o3 W3 => ⟨szL (by simp), szL (by simp), ?_⟩⟩⟩⟩
        subst k1
        subst k3
        rw [← k2]
        refine hJ _ _ ⟨a1, a2, a3, ?_, o1, o2, o3⟩
        rw [k2]
        unfold askA
        simp only [List.map_cons, List.map_nil]
        rw [k2]
      obtain ⟨a1, a2, a3, rfl, o1, o2, o3⟩ := pv
      refine seq_cut (fun α h2 => ∃ f, α = [some (.fls (ns.map A.int)), some (.fls (kinds.map fun k => A.str (kdW k))), some (.fls (as.map askA)), some (.int cell), some (.ref w), some (.str (kdW kd)), some (.str (kdW kd2)), some (.fls ([a1, a2, a3].map askA)), f, g]) (fun J hJ => ?_) fun α h2 pv => ?_
      · ac_rfl
        refine ⟨szL (by simp), ?_⟩
        have at3 : ∀ x ∈ [A.int 0, .int 1, .int 0, .int 2, .int 0, .int 1], ∃ (r : Int) (a : Ask), x = .int r ∧ atI ([a1, a2, a3].map askA) r = some (askA a) ∧ okA a := fun x hx => by
          simp only [List.mem_cons, List.not_mem_nil, or_false] at hx
          rcases hx with rfl | rfl | rfl | rfl | rfl | rfl
          · exact ⟨0, a1, rfl, atI_get (j := 0) rfl rfl, o1⟩
          · exact ⟨1, a2, rfl, atI_get (j := 1) rfl rfl, o2⟩
          · exact ⟨0, a1, rfl, atI_get (j := 0) rfl rfl, o1⟩
          · exact ⟨2, a3, rfl, atI_get (j := 2) rfl rfl, o3⟩
          · exact ⟨0, a1, rfl, atI_get (j := 0) rfl rfl, o1⟩
          · exact ⟨1, a2, rfl, atI_get (j := 1) rfl rfl, o2⟩
        refine forF (xs := [A.int 0, .int 1, .int 0, .int 2, .int 0, .int 1]) (fun i α h2 => ∃ f, α = [some (.fls (ns.map A.int)), some (.fls (kinds.map fun k => A.str (kdW k))), some (.fls (as.map askA)), some (.int cell), some (.ref w), some (.str (kdW kd)), some (.str (kdW kd2)), some (.fls ([a1, a2, a3].map askA)), f, g]) rfl ⟨_, rfl⟩ (fun _ z => nomatch z) (fun i hi α h' pv => ?_) fun α h' pv => ?_
        · obtain ⟨f, rfl⟩ := pv
          obtain ⟨r, a, er, ea, oa⟩ := at3 _ (List.getElem_mem hi)
          rw [er]
          (ac_rfl; (try dsimp only [R_law_right]); ac_rfl)
          refine ix_fls ea (ix_tup rfl (ix_fls ea (ix_tup rfl ⟨a, rfl, rfl, oa, ?_⟩)))
          exact ifF ⟨_, rfl⟩
        · obtain ⟨f, rfl⟩ := pv
          exact hJ _ _ ⟨_, rfl⟩
      obtain ⟨f, rfl⟩ := pv
      ac_rfl
      refine ⟨szL (by rw [List.length_map]; simp; omega), as ++ [a1, a2, a3], _, _, _, _, _, _, _, by rw [List.map_append], by rw [List.length_append, la]; simp; omega, fun z hz => ?_⟩
      rcases List.mem_append.mp hz with hz | hz
      · exact oka z hz
      · simp only [List.mem_cons, List.not_mem_nil, or_false] at hz
        rcases hz with rfl | rfl | rfl
        · exact o1
        · exact o2
        · exact o3
    · obtain ⟨as, a, b, c, d, e, f, g, rfl, la, oka⟩ := pv
      exact hJ _ _ ⟨as, _, _, _, _, _, _, _, rfl, by omega, oka⟩
  obtain ⟨as, a, b, c, d, e, f, g, rfl, la, oka⟩ := pv
  ac_rfl
  rw [← List.map_reverse]
  refine lcF_map (l := as.reverse) (e := askA) (fun _ => .bl true) (show itF _ (.fls (as.reverse.map askA)) = _ from rfl) (by rw [List.length_reverse]; omega) (fun y hy h' C ex hC => ?_) ?_
  · (ac_rfl; (try dsimp only [R_law_right, askA]); ac_rfl)
    exact ⟨rfl, rfl, y, rfl, rfl, oka y (List.mem_reverse.mp hy), hC⟩
  · refine ⟨as.reverse.map fun _ => true, by rw [List.map_map]; rfl, ?_⟩
    have e : (as.reverse.map fun _ => true).all id = true := by simp
    rw [e]
    exact sub_i (q _)
theorem law_reads {K : Frg} (ns : List Int) (_ : ns.length ≤ 63) (_ : ∀ z ∈ ns, Builtin.Int.intBits z ≤ 1048576) : sp_law K [.fls (ns.map A.int)] (fun _ => none) (fun v _ => v = .bl true) AE0 := ⟨ns, rfl, fun _ => rfl⟩
end GL
namespace GL
open PySem PySem.Spec L2 G
section
variable {P : Program} {w : World} {K : Frg} {mg : Str → Option Value} {base : Heap}
theorem ok_divisor (T : Txt K mg) (F : ∃ fd, FunD K d_divisor.name d_divisor.qual d_divisor.params d_divisor.body d_divisor.scope [] [] (f_divisor K) fd)  : DefOk P w K mg base (f_divisor K) 1 a_divisor (sp_divisor K) :=
  defOk2 (k := 0) (t := t_divisor K) F (fun _ _ _ _ _ _ us hl => match us, hl with | [_, _], _ => rfl) sc_divisor (fun cdv A outer s H E hr hp =>
  (ass_cons (as_while hp (at_cmp (opr_ne hr.units) o_ne (av 1) ae_int (nomark _))
  (ass_one (as_par 0 1 rfl sc_divisor.nd rfl rfl (by decide) rfl rfl (aa_cons (av 1) (aa_cons (ae_op op_modN o_mod (av 0) (av 1)) aa_nil)) (by rfl))))
  (ass_one (as_ret (ae_callB call_abs o_abs rfl T.n_abs (by decide +kernel) (aa_cons (av 0) aa_nil)))))) (sp2_in (T := fun as _ _ _ => as.length = 2) fun _ _ _ _ _ _ => rfl) (sp2_in fun _ _ _ _ _ h => rd_divisor T.toTK h)
theorem ok_made (T : Txt K mg) (F : ∃ fd, FunD K d_made.name d_made.qual d_made.params d_made.body d_made.scope [] [] (f_made K) fd) (h_divisor : DefOk P w K mg base (f_divisor K) 1 a_divisor (sp_divisor K)) : DefOk P w K mg base (f_made K) 2 a_made (sp_made K) :=
  defOk2 (k := 1) (t := t_made K) F (fun _ _ _ _ _ _ us hl => match us, hl with | [_, _], _ => rfl) sc_made (fun cdv A outer s H E hr hp =>
  (ass_cons (as_if (at_cmp (opr_eq hr.units) o_eq (av 1) ae_int (nomark _))
  (ass_one (as_raise rfl T.x_NoFraction rfl))
  ass_nil)
  (ass_cons (as_set 2 sc_made.nd rfl (Or.inl rfl) (c_call h_divisor (hr.mono (by decide)) T.g_divisor (aa_cons (av 0) (aa_cons (av 1) aa_nil))))
  (ass_cons (as_if (at_cmp op_lt o_lt (av 1) ae_int (nomark _))
  (ass_one (as_set 2 sc_made.nd rfl (Or.inl rfl) (ae_un un_neg o_neg (av 2))))
  ass_nil)
  (ass_one (as_ret (ae_tup (aa_cons (ae_op opr_div o_div (av 0) (av 2)) (aa_cons (ae_op opr_div o_div (av 1) (av 2)) aa_nil))))))))) (sp2_in (T := fun as _ _ _ => as.length = 2) fun _ _ _ _ _ _ => rfl) (sp2_in fun _ _ _ _ _ h => rd_made T.toTK h)
theorem ok_plus (T : Txt K mg) (F : ∃ fd, FunD K d_plus.name d_plus.qual d_plus.params d_plus.body d_plus.scope [] [] (f_plus K) fd) (h_made : DefOk P w K mg base (f_made K) 2 a_made (sp_made K)) : DefOk P w K mg base (f_plus K) 3 a_plus (sp_plus K) :=
  defOk2 (k := 2) (t := t_plus K) F (fun _ _ _ _ _ _ us hl => match us, hl with | [_, _], _ => rfl) sc_plus (fun cdv A outer s H E hr hp =>
  (ass_one (as_ret (c_call h_made (hr.mono (by decide)) T.g_made (aa_cons (ae_addF (ae_op opr_mul o_mul (ae_ix ixr_all o_ix (av 0) ae_int (fun _ _ => rfl)) (ae_ix ixr_all o_ix (av 1) ae_int (fun _ _ => rfl))) (ae_op opr_mul o_mul (ae_ix ixr_all o_ix (av 1) ae_int (fun _ _ => rfl)) (ae_ix ixr_all o_ix (av 0) ae_int (fun _ _ => rfl)))) (aa_cons (ae_op opr_mul o_mul (ae_ix ixr_all o_ix (av 0) ae_int (fun _ _ => rfl)) (ae_ix ixr_all o_ix (av 1) ae_int (fun _ _ => rfl))) aa_nil)))))) (sp2_in (T := fun as _ _ _ => as.length = 2) fun _ _ _ _ _ _ => rfl) (sp2_in fun _ _ _ _ _ h => rd_plus T.toTK h)
theorem ok_minus (T : Txt K mg) (F : ∃ fd, FunD K d_minus.name d_minus.qual d_minus.params d_minus.body d_minus.scope [] [] (f_minus K) fd) (h_made : DefOk P w K mg base (f_made K) 2 a_made (sp_made K)) : DefOk P w K mg base (f_minus K) 3 a_minus (sp_minus K) :=
  defOk2 (k := 2) (t := t_minus K) F (fun _ _ _ _ _ _ us hl => match us, hl with | [_, _], _ => rfl) sc_minus (fun cdv A outer s H E hr hp =>
  (ass_one (as_ret (c_call h_made (hr.mono (by decide)) T.g_made (aa_cons (ae_op op_sub o_sub (ae_op opr_mul o_mul (ae_ix ixr_all o_ix (av 0) ae_int (fun _ _ => rfl)) (ae_ix ixr_all o_ix (av 1) ae_int (fun _ _ => rfl))) (ae_op opr_mul o_mul (ae_ix ixr_all o_ix (av 1) ae_int (fun _ _ => rfl)) (ae_ix ixr_all o_ix (av 0) ae_int (fun _ _ => rfl)))) (aa_cons (ae_op opr_mul o_mul (ae_ix ixr_all o_ix (av 0) ae_int (fun _ _ => rfl)) (ae_ix ixr_all o_ix (av 1) ae_int (fun _ _ => rfl))) aa_nil)))))) (sp2_in (T := fun as _ _ _ => as.length = 2) fun _ _ _ _ _ _ => rfl) (sp2_in fun _ _ _ _ _ h => rd_minus T.toTK h)
theorem ok_times (T : Txt K mg) (F : ∃ fd, FunD K d_times.name d_times.qual d_times.params d_times.body d_times.scope [] [] (f_times K) fd) (h_made : DefOk P w K mg base (f_made K) 2 a_made (sp_made K)) : DefOk P w K mg base (f_times K) 3 a_times (sp_times K) :=
  defOk2 (k := 2) (t := t_times K) F (fun _ _ _ _ _ _ us hl => match us, hl with | [_, _], _ => rfl) sc_times (fun cdv A outer s H E hr hp =>
  (ass_one (as_ret (c_call h_made (hr.mono (by decide)) T.g_made (aa_cons (ae_op opr_mul o_mul (ae_ix ixr_all o_ix (av 0) ae_int (fun _ _ => rfl)) (ae_ix ixr_all o_ix (av 1) ae_int (fun _ _ => rfl))) (aa_cons (ae_op opr_mul o_mul (ae_ix ixr_all o_ix (av 0) ae_int (fun _ _ => rfl)) (ae_ix ixr_all o_ix (av 1) ae_int (fun _ _ => rfl))) aa_nil)))))) (sp2_in (T := fun as _ _ _ => as.length = 2) fun _ _ _ _ _ _ => rfl) (sp2_in fun _ _ _ _ _ h => rd_times T.toTK h)
theorem ok_less (T : Txt K mg) (F : ∃ fd, FunD K d_less.name d_less.qual d_less.params d_less.body d_less.scope [] [] (f_less K) fd)  : DefOk P w K mg base (f_less K) 1 a_less (sp_less K) :=
  defOk2 (k := 0) (t := t_less K) F (fun _ _ _ _ _ _ us hl => match us, hl with | [_, _], _ => rfl) sc_less (fun cdv A outer s H E hr hp =>
  (ass_one (as_ret (ae_cmp op_lt o_lt (ae_op opr_mul o_mul (ae_ix ixr_all o_ix (av 0) ae_int (fun _ _ => rfl)) (ae_ix ixr_all o_ix (av 1) ae_int (fun _ _ => rfl))) (ae_op opr_mul o_mul (ae_ix ixr_all o_ix (av 1) ae_int (fun _ _ => rfl)) (ae_ix ixr_all o_ix (av 0) ae_int (fun _ _ => rfl))) (nomark _))))) (sp2_in (T := fun as _ _ _ => as.length = 2) fun _ _ _ _ _ _ => rfl) (sp2_in fun _ _ _ _ _ h => rd_less T.toTK h)
theorem ok_is_sixteenth (T : Txt K mg) (F : ∃ fd, FunD K d_is_sixteenth.name d_is_sixteenth.qual d_is_sixteenth.params d_is_sixteenth.body d_is_sixteenth.scope [] [] (f_is_sixteenth K) fd)  : DefOk P w K mg base (f_is_sixteenth K) 1 a_is_sixteenth (sp_is_sixteenth K) :=
  defOk2 (k := 0) (t := t_is_sixteenth K) F (fun _ _ _ _ _ _ us hl => match us, hl with | [_], _ => rfl) sc_is_sixteenth (fun cdv A outer s H E hr hp =>
  (ass_one (as_ret (ae_and (ae_callB callr_isi o_isi rfl T.n_isinstance (by decide +kernel) (aa_cons (av 0) (aa_cons (ae_bty rfl T.n_int (by decide +kernel)) aa_nil))) (ae_and (ae_not (ae_callB callr_isi o_isi rfl T.n_isinstance (by decide +kernel) (aa_cons (av 0) (aa_cons (ae_bty rfl T.n_bool (by decide +kernel)) aa_nil)))) (ae_one (ae_chain op_le op_le o_le o_le ae_int (av 0) (ae_gint rfl T.c_FULL)))))))) (sp1_in (T := fun as _ _ _ => as.length = 1) fun _ _ _ _ _ => rfl) (sp1_in fun _ _ _ _ h => rd_is_sixteenth T.toTK h)
theorem ok_shade (T : Txt K mg) (F : ∃ fd, FunD K d_shade.name d_shade.qual d_shade.params d_shade.body d_shade.scope [] [] (f_shade K) fd) (h_is_sixteenth : DefOk P w K mg base (f_is_sixteenth K) 1 a_is_sixteenth (sp_is_sixteenth K)) (h_made : DefOk P w K mg base (f_made K) 2 a_made (sp_made K)) : DefOk P w K mg base (f_shade K) 3 a_shade (sp_shade K) :=
  defOk2 (k := 2) (t := t_shade K) F (fun _ _ _ _ _ _ us hl => match us, hl with | [_, _], _ => rfl) sc_shade (fun cdv A outer s H E hr hp =>
  (ass_cons (as_if (AW.at (aw_or (at_not (at_val (c_call h_is_sixteenth (hr.mono (by decide)) T.g_is_sixteenth (aa_cons (av 0) aa_nil)))) (aw_or (at_not (at_val (c_call h_is_sixteenth (hr.mono (by decide)) T.g_is_sixteenth (aa_cons (av 1) aa_nil)))) (aw_or1 (at_cmp op_gt o_gt (av 0) (av 1) (nomark _))))))
  (ass_one (as_raise rfl T.x_NoShade rfl))
  ass_nil)
  (ass_one (as_ret (ae_tup (aa_cons (c_call h_made (hr.mono (by decide)) T.g_made (aa_cons (av 0) (aa_cons (ae_gint rfl T.c_FULL) aa_nil))) (aa_cons (c_call h_made (hr.mono (by decide)) T.g_made (aa_cons (av 1) (aa_cons (ae_gint rfl T.c_FULL) aa_nil))) aa_nil))))))) (sp2_in (T := fun as _ _ _ => as.length = 2) fun _ _ _ _ _ _ => rfl) (sp2_in fun _ _ _ _ _ h => rd_shade T.toTK h)
theorem ok_is_shade (T : Txt K mg) (F : ∃ fd, FunD K d_is_shade.name d_is_shade.qual d_is_shade.params d_is_shade.body d_is_shade.scope [] [] (f_is_shade K) fd) (h_less : DefOk P w K mg base (f_less K) 1 a_less (sp_less K)) : DefOk P w K mg base (f_is_shade K) 2 a_is_shade (sp_is_shade K) :=
  defOk2 (k := 1) (t := t_is_shade K) F (fun _ _ _ _ _ _ us hl => match us, hl with | [_], _ => rfl) sc_is_shade (fun cdv A outer s H E hr hp =>
  (ass_cons (as_asg (av 0) (ag_tup rfl (ags_cons (ag_name 1 sc_is_shade.nd rfl (Or.inl rfl)) (ags_cons (ag_name 2 sc_is_shade.nd rfl (Or.inl rfl)) ags_nil))))
  (ass_one (as_ret (ae_and (ae_not (c_call h_less (hr.mono (by decide)) T.g_less (aa_cons (av 1) (aa_cons (ae_tup (aa_cons ae_int (aa_cons ae_int aa_nil))) aa_nil)))) (ae_and (ae_not (c_call h_less (hr.mono (by decide)) T.g_less (aa_cons (av 2) (aa_cons (av 1) aa_nil)))) (ae_one (ae_not (c_call h_less (hr.mono (by decide)) T.g_less (aa_cons (ae_tup (aa_cons ae_int (aa_cons ae_int aa_nil))) (aa_cons (av 2) aa_nil))))))))))) (sp1_in (T := fun as _ _ _ => as.length = 1) fun _ _ _ _ _ => rfl) (sp1_in fun _ _ _ _ h => rd_is_shade T.toTK h)
theorem ok_grounds (T : Txt K mg) (F : ∃ fd, FunD K d_grounds.name d_grounds.qual d_grounds.params d_grounds.body d_grounds.scope [] [] (f_grounds K) fd)  : DefOk P w K mg base (f_grounds K) 1 a_grounds (sp_grounds K) :=
  defOk2 (k := 0) (t := t_grounds K) F (fun _ _ _ _ _ _ us hl => match us, hl with | [], _ => rfl) sc_grounds (fun cdv A outer s H E hr hp =>
  (ass_one (as_ret (ae_lst (aa_cons (ae_tup (aa_cons (ae_gcon rfl T.v_ZERO) (aa_cons (ae_gcon rfl T.v_ZERO) aa_nil))) (aa_cons (ae_tup (aa_cons (ae_gcon rfl T.v_ZERO) (aa_cons (ae_gcon rfl T.v_ONE) aa_nil))) (aa_cons (ae_tup (aa_cons (ae_gcon rfl T.v_ONE) (aa_cons (ae_gcon rfl T.v_ONE) aa_nil))) aa_nil))))))) (sp0_in (T := fun as _ _ _ => as.length = 0) fun _ _ _ _ => rfl) (sp0_in fun _ _ _ h => rd_grounds T.toTK h)
theorem ok_laid (T : Txt K mg) (F : ∃ fd, FunD K d_laid.name d_laid.qual d_laid.params d_laid.body d_laid.scope [] [] (f_laid K) fd) (h_plus : DefOk P w K mg base (f_plus K) 3 a_plus (sp_plus K)) (h_times : DefOk P w K mg base (f_times K) 3 a_times (sp_times K)) : DefOk P w K mg base (f_laid K) 4 a_laid (sp_laid K) :=
  defOk2 (k := 3) (t := t_laid K) F (fun _ _ _ _ _ _ us hl => match us, hl with | [_, _], _ => rfl) sc_laid (fun cdv A outer s H E hr hp =>
  (ass_cons (as_asg (av 0) (ag_tup rfl (ags_cons (ag_name 2 sc_laid.nd rfl (Or.inl rfl)) (ags_cons (ag_name 3 sc_laid.nd rfl (Or.inl rfl)) (ags_cons (ag_name 4 sc_laid.nd rfl (Or.inl rfl)) (ags_cons (ag_name 5 sc_laid.nd rfl (Or.inl rfl)) (ags_cons (ag_name 6 sc_laid.nd rfl (Or.inl rfl)) ags_nil)))))))
  (ass_cons (as_set 7 sc_laid.nd rfl (Or.inl rfl) (c_call h_plus (hr.mono (by decide)) T.g_plus (aa_cons (c_call h_plus (hr.mono (by decide)) T.g_plus (aa_cons (c_call h_times (hr.mono (by decide)) T.g_times (aa_cons (av 2) (aa_cons (ae_ix ixr_all o_ix (av 1) ae_int (fun _ _ => rfl)) aa_nil))) (aa_cons (c_call h_times (hr.mono (by decide)) T.g_times (aa_cons (av 3) (aa_cons (ae_ix ixr_all o_ix (av 1) ae_int (fun _ _ => rfl)) aa_nil))) aa_nil))) (aa_cons (av 4) aa_nil))))
  (ass_one (as_ret (ae_tup (aa_cons (av 7) (aa_cons (c_call h_plus (hr.mono (by decide)) T.g_plus (aa_cons (c_call h_times (hr.mono (by decide)) T.g_times (aa_cons (av 5) (aa_cons (ae_ix ixr_all o_ix (av 1) ae_int (fun _ _ => rfl)) aa_nil))) (aa_cons (av 6) aa_nil))) aa_nil)))))))) (sp2_in (T := fun as _ _ _ => as.length = 2) fun _ _ _ _ _ _ => rfl) (sp2_in fun _ _ _ _ _ h => rd_laid T.toTK h)
theorem ok_behind (T : Txt K mg) (F : ∃ fd, FunD K d_behind.name d_behind.qual d_behind.params d_behind.body d_behind.scope [] [] (f_behind K) fd) (h_plus : DefOk P w K mg base (f_plus K) 3 a_plus (sp_plus K)) (h_times : DefOk P w K mg base (f_times K) 3 a_times (sp_times K)) : DefOk P w K mg base (f_behind K) 4 a_behind (sp_behind K) :=
  defOk2 (k := 3) (t := t_behind K) F (fun _ _ _ _ _ _ us hl => match us, hl with | [_, _], _ => rfl) sc_behind (fun cdv A outer s H E hr hp =>
  (ass_cons (as_asg (av 0) (ag_tup rfl (ags_cons (ag_name 2 sc_behind.nd rfl (Or.inl rfl)) (ags_cons (ag_name 3 sc_behind.nd rfl (Or.inl rfl)) (ags_cons (ag_name 4 sc_behind.nd rfl (Or.inl rfl)) (ags_cons (ag_name 5 sc_behind.nd rfl (Or.inl rfl)) (ags_cons (ag_name 6 sc_behind.nd rfl (Or.inl rfl)) ags_nil)))))))
  (ass_cons (as_asg (av 1) (ag_tup rfl (ags_cons (ag_name 7 sc_behind.nd rfl (Or.inl rfl)) (ags_cons (ag_name 8 sc_behind.nd rfl (Or.inl rfl)) (ags_cons (ag_name 9 sc_behind.nd rfl (Or.inl rfl)) (ags_cons (ag_name 10 sc_behind.nd rfl (Or.inl rfl)) (ags_cons (ag_name 11 sc_behind.nd rfl (Or.inl rfl)) ags_nil)))))))
  (ass_one (as_ret (ae_tup (aa_cons (c_call h_times (hr.mono (by decide)) T.g_times (aa_cons (av 7) (aa_cons (av 2) aa_nil))) (aa_cons (c_call h_plus (hr.mono (by decide)) T.g_plus (aa_cons (c_call h_times (hr.mono (by decide)) T.g_times (aa_cons (av 7) (aa_cons (av 3) aa_nil))) (aa_cons (c_call h_times (hr.mono (by decide)) T.g_times (aa_cons (av 8) (aa_cons (av 5) aa_nil))) aa_nil))) (aa_cons (c_call h_plus (hr.mono (by decide)) T.g_plus (aa_cons (c_call h_plus (hr.mono (by decide)) T.g_plus (aa_cons (c_call h_times (hr.mono (by decide)) T.g_times (aa_cons (av 7) (aa_cons (av 4) aa_nil))) (aa_cons (c_call h_times (hr.mono (by decide)) T.g_times (aa_cons (av 8) (aa_cons (av 6) aa_nil))) aa_nil))) (aa_cons (av 9) aa_nil))) (aa_cons (c_call h_times (hr.mono (by decide)) T.g_times (aa_cons (av 10) (aa_cons (av 5) aa_nil))) (aa_cons (c_call h_plus (hr.mono (by decide)) T.g_plus (aa_cons (c_call h_times (hr.mono (by decide)) T.g_times (aa_cons (av 10) (aa_cons (av 6) aa_nil))) (aa_cons (av 11) aa_nil))) aa_nil))))))))))) (sp2_in (T := fun as _ _ _ => as.length = 2) fun _ _ _ _ _ _ => rfl) (sp2_in fun _ _ _ _ _ h => rd_behind T.toTK h)
theorem ok_mixed (T : Txt K mg) (F : ∃ fd, FunD K d_mixed.name d_mixed.qual d_mixed.params d_mixed.body d_mixed.scope [] [] (f_mixed K) fd) (h_minus : DefOk P w K mg base (f_minus K) 3 a_minus (sp_minus K)) (h_plus : DefOk P w K mg base (f_plus K) 3 a_plus (sp_plus K)) (h_times : DefOk P w K mg base (f_times K) 3 a_times (sp_times K)) : DefOk P w K mg base (f_mixed K) 4 a_mixed (sp_mixed K) :=
  defOk2 (k := 3) (t := t_mixed K) F (fun _ _ _ _ _ _ us hl => match us, hl with | [_, _], _ => rfl) sc_mixed (fun cdv A outer s H E hr hp =>
  (ass_cons (as_set 2 sc_mixed.nd rfl (Or.inl rfl) (c_call h_minus (hr.mono (by decide)) T.g_minus (aa_cons (ae_gcon rfl T.v_ONE) (aa_cons (av 1) aa_nil))))
  (ass_cons (as_asg (av 0) (ag_tup rfl (ags_cons (ag_name 3 sc_mixed.nd rfl (Or.inl rfl)) (ags_cons (ag_name 4 sc_mixed.nd rfl (Or.inl rfl)) (ags_cons (ag_name 5 sc_mixed.nd rfl (Or.inl rfl)) (ags_cons (ag_name 6 sc_mixed.nd rfl (Or.inl rfl)) (ags_cons (ag_name 7 sc_mixed.nd rfl (Or.inl rfl)) ags_nil)))))))
  (ass_cons (as_set 8 sc_mixed.nd rfl (Or.inl rfl) (c_call h_plus (hr.mono (by decide)) T.g_plus (aa_cons (av 2) (aa_cons (c_call h_times (hr.mono (by decide)) T.g_times (aa_cons (av 1) (aa_cons (av 3) aa_nil))) aa_nil))))
  (ass_cons (as_set 9 sc_mixed.nd rfl (Or.inl rfl) (c_call h_plus (hr.mono (by decide)) T.g_plus (aa_cons (av 2) (aa_cons (c_call h_times (hr.mono (by decide)) T.g_times (aa_cons (av 1) (aa_cons (av 6) aa_nil))) aa_nil))))
  (ass_one (as_ret (ae_tup (aa_cons (av 8) (aa_cons (c_call h_times (hr.mono (by decide)) T.g_times (aa_cons (av 1) (aa_cons (av 4) aa_nil))) (aa_cons (c_call h_times (hr.mono (by decide)) T.g_times (aa_cons (av 1) (aa_cons (av 5) aa_nil))) (aa_cons (av 9) (aa_cons (c_call h_times (hr.mono (by decide)) T.g_times (aa_cons (av 1) (aa_cons (av 7) aa_nil))) aa_nil))))))))))))) (sp2_in (T := fun as _ _ _ => as.length = 2) fun _ _ _ _ _ _ => rfl) (sp2_in fun _ _ _ _ _ h => rd_mixed T.toTK h)
theorem ok_parted (T : Txt K mg) (F : ∃ fd, FunD K d_parted.name d_parted.qual d_parted.params d_parted.body d_parted.scope [] [] (f_parted K) fd) (h_grounds : DefOk P w K mg base (f_grounds K) 1 a_grounds (sp_grounds K)) (h_laid : DefOk P w K mg base (f_laid K) 4 a_laid (sp_laid K)) : DefOk P w K mg base (f_parted K) 5 a_parted (sp_parted K) :=
  defOk2 (k := 4) (t := t_parted K) F (fun _ _ _ _ _ _ us hl => match us, hl with | [_, _], _ => rfl) sc_parted (fun cdv A outer s H E hr hp =>
  (ass_cons (as_for hp rfl (ai_seq (c_call0 h_grounds (hr.mono (by decide)) T.g_grounds)) (ag_name 2 sc_parted.nd rfl (Or.inl rfl))
  (ass_one (as_if (at_cmp (opr_ne hr.units) o_ne (c_call h_laid (hr.mono (by decide)) T.g_laid (aa_cons (av 0) (aa_cons (av 2) aa_nil))) (c_call h_laid (hr.mono (by decide)) T.g_laid (aa_cons (av 1) (aa_cons (av 2) aa_nil))) (nomark _))
  (ass_one (as_ret (av 2)))
  ass_nil)))
  (ass_one (as_ret ae_non)))) (sp2_in (T := fun as _ _ _ => as.length = 2) fun _ _ _ _ _ _ => rfl) (sp2_in fun _ _ _ _ _ h => rd_parted T.toTK h)
theorem ok_stays (T : Txt K mg) (F : ∃ fd, FunD K d_stays.name d_stays.qual d_stays.params d_stays.body d_stays.scope [] [] (f_stays K) fd) (h_grounds : DefOk P w K mg base (f_grounds K) 1 a_grounds (sp_grounds K)) (h_is_shade : DefOk P w K mg base (f_is_shade K) 2 a_is_shade (sp_is_shade K)) (h_laid : DefOk P w K mg base (f_laid K) 4 a_laid (sp_laid K)) : DefOk P w K mg base (f_stays K) 5 a_stays (sp_stays K) :=
  defOk2 (k := 4) (t := t_stays K) F (fun _ _ _ _ _ _ us hl => match us, hl with | [_], _ => rfl) sc_stays (fun cdv A outer s H E hr hp =>
  (ass_one (as_ret (ae_callB (cr_all rfl) o_all rfl T.n_all (by decide +kernel) (aa_cons (ae_fz (ae_lc (own := [("ground", 1)]) rfl sc_stays.nd (ai_seq (c_call0 h_grounds (hr.mono (by decide)) T.g_grounds)) (blkOk_by (N := N_stays) (sc := defScope s_stays) (by decide +kernel)) (fun _ _ _ _ _ => (ag_name 1 sc_stays.nd rfl (Or.inl rfl))) (fun _ _ _ _ _ => ats_nil) (fun _ _ _ _ _ => (c_call h_is_shade (hr.mono (by decide)) T.g_is_shade (aa_cons (c_call h_laid (hr.mono (by decide)) T.g_laid (aa_cons (av 0) (aa_cons (av 1) aa_nil))) aa_nil))) (by decide))) aa_nil))))) (sp1_in (T := fun as _ _ _ => as.length = 1) fun _ _ _ _ _ => rfl) (sp1_in fun _ _ _ _ h => rd_stays T.toTK h)
theorem ok_shade_or_none (T : Txt K mg) (F : ∃ fd, FunD K d_shade_or_none.name d_shade_or_none.qual d_shade_or_none.params d_shade_or_none.body d_shade_or_none.scope [] [] (f_shade_or_none K) fd) (h_is_shade : DefOk P w K mg base (f_is_shade K) 2 a_is_shade (sp_is_shade K)) : DefOk P w K mg base (f_shade_or_none K) 3 a_shade_or_none (sp_shade_or_none K) :=
  defOk2 (k := 2) (t := t_shade_or_none K) F (fun _ _ _ _ _ _ us hl => match us, hl with | [_, _], _ => rfl) sc_shade_or_none (fun cdv A outer s H E hr hp =>
  (ass_cons (as_if (at_val (c_call h_is_shade (hr.mono (by decide)) T.g_is_shade (aa_cons (ae_tup (aa_cons (av 0) (aa_cons (av 1) aa_nil))) aa_nil)))
  (ass_one (as_ret (ae_tup (aa_cons (av 0) (aa_cons (av 1) aa_nil)))))
  ass_nil)
  (ass_one (as_ret ae_non)))) (sp2_in (T := fun as _ _ _ => as.length = 2) fun _ _ _ _ _ _ => rfl) (sp2_in fun _ _ _ _ _ h => rd_shade_or_none T.toTK h)
theorem ok_Manner_found (T : Txt K mg) (F : ∃ fd, FunD K d_Manner_found.name d_Manner_found.qual d_Manner_found.params d_Manner_found.body d_Manner_found.scope [] [] (f_Manner_found K) fd) (h_shade_or_none : DefOk P w K mg base (f_shade_or_none K) 3 a_shade_or_none (sp_shade_or_none K)) : DefOk P w K mg base (f_Manner_found K) 4 a_Manner_found (sp_Manner_found K) :=
  defOk2 (k := 3) (t := t_Manner_found K) F (fun _ _ _ _ _ _ us hl => match us, hl with | [_, _], _ => rfl) sc_Manner_found (fun cdv A outer s H E hr hp =>
  (ass_one (as_ret (c_call h_shade_or_none (hr.mono (by decide)) T.g_shade_or_none (aa_cons (ae_ix ixr_all o_ix (av 1) ae_int (fun _ _ => rfl)) (aa_cons (ae_ix ixr_all o_ix (av 1) ae_int (fun _ _ => rfl)) aa_nil)))))) (sp2_in (T := fun as _ _ _ => as.length = 2) fun _ _ _ _ _ _ => rfl) (sp2_in fun _ _ _ _ _ h => rd_Manner_found T.toTK h)
theorem ok_Over_word (T : Txt K mg) (F : ∃ fd, FunD K d_Over_word.name d_Over_word.qual d_Over_word.params d_Over_word.body d_Over_word.scope [] [] (f_Over_word K) fd)  : DefOk P w K mg base (f_Over_word K) 1 a_Over_word (sp_Over_word K) :=
  defOk2 (k := 0) (t := t_Over_word K) F (fun _ _ _ _ _ _ us hl => match us, hl with | [_], _ => rfl) sc_Over_word (fun cdv A outer s H E hr hp =>
  (ass_one (as_ret ae_str))) (sp1_in (T := fun as _ _ _ => as.length = 1) fun _ _ _ _ _ => rfl) (sp1_in fun _ _ _ _ h => rd_Over_word T.toTK h)
theorem ok_Over_rule (T : Txt K mg) (F : ∃ fd, FunD K d_Over_rule.name d_Over_rule.qual d_Over_rule.params d_Over_rule.body d_Over_rule.scope [] [] (f_Over_rule K) fd) (h_minus : DefOk P w K mg base (f_minus K) 3 a_minus (sp_minus K)) : DefOk P w K mg base (f_Over_rule K) 4 a_Over_rule (sp_Over_rule K) :=
  defOk2 (k := 3) (t := t_Over_rule K) F (fun _ _ _ _ _ _ us hl => match us, hl with | [_, _], _ => rfl) sc_Over_rule (fun cdv A outer s H E hr hp =>
  (ass_cons (as_set 2 sc_Over_rule.nd rfl (Or.inl rfl) (c_call h_minus (hr.mono (by decide)) T.g_minus (aa_cons (ae_gcon rfl T.v_ONE) (aa_cons (ae_ix ixr_all o_ix (av 1) ae_int (fun _ _ => rfl)) aa_nil))))
  (ass_one (as_ret (ae_tup (aa_cons (av 2) (aa_cons (ae_gcon rfl T.v_ZERO) (aa_cons (ae_ix ixr_all o_ix (av 1) ae_int (fun _ _ => rfl)) (aa_cons (av 2) (aa_cons (ae_ix ixr_all o_ix (av 1) ae_int (fun _ _ => rfl)) aa_nil)))))))))) (sp2_in (T := fun as _ _ _ => as.length = 2) fun _ _ _ _ _ _ => rfl) (sp2_in fun _ _ _ _ _ h => rd_Over_rule T.toTK h)
theorem ok_Under_word (T : Txt K mg) (F : ∃ fd, FunD K d_Under_word.name d_Under_word.qual d_Under_word.params d_Under_word.body d_Under_word.scope [] [] (f_Under_word K) fd)  : DefOk P w K mg base (f_Under_word K) 1 a_Under_word (sp_Under_word K) :=
  defOk2 (k := 0) (t := t_Under_word K) F (fun _ _ _ _ _ _ us hl => match us, hl with | [_], _ => rfl) sc_Under_word (fun cdv A outer s H E hr hp =>
  (ass_one (as_ret ae_str))) (sp1_in (T := fun as _ _ _ => as.length = 1) fun _ _ _ _ _ => rfl) (sp1_in fun _ _ _ _ h => rd_Under_word T.toTK h)
theorem ok_Under_rule (T : Txt K mg) (F : ∃ fd, FunD K d_Under_rule.name d_Under_rule.qual d_Under_rule.params d_Under_rule.body d_Under_rule.scope [] [] (f_Under_rule K) fd) (h_minus : DefOk P w K mg base (f_minus K) 3 a_minus (sp_minus K)) : DefOk P w K mg base (f_Under_rule K) 4 a_Under_rule (sp_Under_rule K) :=
  defOk2 (k := 3) (t := t_Under_rule K) F (fun _ _ _ _ _ _ us hl => match us, hl with | [_, _], _ => rfl) sc_Under_rule (fun cdv A outer s H E hr hp =>
  (ass_one (as_ret (ae_tup (aa_cons (ae_gcon rfl T.v_ONE) (aa_cons (c_call h_minus (hr.mono (by decide)) T.g_minus (aa_cons (ae_gcon rfl T.v_ZERO) (aa_cons (ae_ix ixr_all o_ix (av 1) ae_int (fun _ _ => rfl)) aa_nil))) (aa_cons (ae_ix ixr_all o_ix (av 1) ae_int (fun _ _ => rfl)) (aa_cons (c_call h_minus (hr.mono (by decide)) T.g_minus (aa_cons (ae_gcon rfl T.v_ONE) (aa_cons (ae_ix ixr_all o_ix (av 1) ae_int (fun _ _ => rfl)) aa_nil))) (aa_cons (ae_ix ixr_all o_ix (av 1) ae_int (fun _ _ => rfl)) aa_nil))))))))) (sp2_in (T := fun as _ _ _ => as.length = 2) fun _ _ _ _ _ _ => rfl) (sp2_in fun _ _ _ _ _ h => rd_Under_rule T.toTK h)
theorem ok_Screen_word (T : Txt K mg) (F : ∃ fd, FunD K d_Screen_word.name d_Screen_word.qual d_Screen_word.params d_Screen_word.body d_Screen_word.scope [] [] (f_Screen_word K) fd)  : DefOk P w K mg base (f_Screen_word K) 1 a_Screen_word (sp_Screen_word K) :=
  defOk2 (k := 0) (t := t_Screen_word K) F (fun _ _ _ _ _ _ us hl => match us, hl with | [_], _ => rfl) sc_Screen_word (fun cdv A outer s H E hr hp =>
  (ass_one (as_ret ae_str))) (sp1_in (T := fun as _ _ _ => as.length = 1) fun _ _ _ _ _ => rfl) (sp1_in fun _ _ _ _ h => rd_Screen_word T.toTK h)
theorem ok_Screen_rule (T : Txt K mg) (F : ∃ fd, FunD K d_Screen_rule.name d_Screen_rule.qual d_Screen_rule.params d_Screen_rule.body d_Screen_rule.scope [] [] (f_Screen_rule K) fd) (h_minus : DefOk P w K mg base (f_minus K) 3 a_minus (sp_minus K)) : DefOk P w K mg base (f_Screen_rule K) 4 a_Screen_rule (sp_Screen_rule K) :=
  defOk2 (k := 3) (t := t_Screen_rule K) F (fun _ _ _ _ _ _ us hl => match us, hl with | [_, _], _ => rfl) sc_Screen_rule (fun cdv A outer s H E hr hp =>
  (ass_one (as_ret (ae_tup (aa_cons (c_call h_minus (hr.mono (by decide)) T.g_minus (aa_cons (ae_gcon rfl T.v_ONE) (aa_cons (ae_ix ixr_all o_ix (av 1) ae_int (fun _ _ => rfl)) aa_nil))) (aa_cons (ae_gcon rfl T.v_ZERO) (aa_cons (ae_ix ixr_all o_ix (av 1) ae_int (fun _ _ => rfl)) (aa_cons (c_call h_minus (hr.mono (by decide)) T.g_minus (aa_cons (ae_gcon rfl T.v_ONE) (aa_cons (ae_ix ixr_all o_ix (av 1) ae_int (fun _ _ => rfl)) aa_nil))) (aa_cons (ae_ix ixr_all o_ix (av 1) ae_int (fun _ _ => rfl)) aa_nil))))))))) (sp2_in (T := fun as _ _ _ => as.length = 2) fun _ _ _ _ _ _ => rfl) (sp2_in fun _ _ _ _ _ h => rd_Screen_rule T.toTK h)
theorem ok_Times_word (T : Txt K mg) (F : ∃ fd, FunD K d_Times_word.name d_Times_word.qual d_Times_word.params d_Times_word.body d_Times_word.scope [] [] (f_Times_word K) fd)  : DefOk P w K mg base (f_Times_word K) 1 a_Times_word (sp_Times_word K) :=
  defOk2 (k := 0) (t := t_Times_word K) F (fun _ _ _ _ _ _ us hl => match us, hl with | [_], _ => rfl) sc_Times_word (fun cdv A outer s H E hr hp =>
  (ass_one (as_ret ae_str))) (sp1_in (T := fun as _ _ _ => as.length = 1) fun _ _ _ _ _ => rfl) (sp1_in fun _ _ _ _ h => rd_Times_word T.toTK h)
theorem ok_Times_rule (T : Txt K mg) (F : ∃ fd, FunD K d_Times_rule.name d_Times_rule.qual d_Times_rule.params d_Times_rule.body d_Times_rule.scope [] [] (f_Times_rule K) fd) (h_minus : DefOk P w K mg base (f_minus K) 3 a_minus (sp_minus K)) (h_plus : DefOk P w K mg base (f_plus K) 3 a_plus (sp_plus K)) : DefOk P w K mg base (f_Times_rule K) 4 a_Times_rule (sp_Times_rule K) :=
  defOk2 (k := 3) (t := t_Times_rule K) F (fun _ _ _ _ _ _ us hl => match us, hl with | [_, _], _ => rfl) sc_Times_rule (fun cdv A outer s H E hr hp =>
  (ass_cons (as_set 2 sc_Times_rule.nd rfl (Or.inl rfl) (c_call h_minus (hr.mono (by decide)) T.g_minus (aa_cons (ae_gcon rfl T.v_ONE) (aa_cons (ae_ix ixr_all o_ix (av 1) ae_int (fun _ _ => rfl)) aa_nil))))
  (ass_one (as_ret (ae_tup (aa_cons (c_call h_plus (hr.mono (by decide)) T.g_plus (aa_cons (av 2) (aa_cons (ae_ix ixr_all o_ix (av 1) ae_int (fun _ _ => rfl)) aa_nil))) (aa_cons (c_call h_minus (hr.mono (by decide)) T.g_minus (aa_cons (ae_gcon rfl T.v_ZERO) (aa_cons (ae_ix ixr_all o_ix (av 1) ae_int (fun _ _ => rfl)) aa_nil))) (aa_cons (ae_ix ixr_all o_ix (av 1) ae_int (fun _ _ => rfl)) (aa_cons (av 2) (aa_cons (ae_ix ixr_all o_ix (av 1) ae_int (fun _ _ => rfl)) aa_nil)))))))))) (sp2_in (T := fun as _ _ _ => as.length = 2) fun _ _ _ _ _ _ => rfl) (sp2_in fun _ _ _ _ _ h => rd_Times_rule T.toTK h)
theorem ok_Atop_word (T : Txt K mg) (F : ∃ fd, FunD K d_Atop_word.name d_Atop_word.qual d_Atop_word.params d_Atop_word.body d_Atop_word.scope [] [] (f_Atop_word K) fd)  : DefOk P w K mg base (f_Atop_word K) 1 a_Atop_word (sp_Atop_word K) :=
  defOk2 (k := 0) (t := t_Atop_word K) F (fun _ _ _ _ _ _ us hl => match us, hl with | [_], _ => rfl) sc_Atop_word (fun cdv A outer s H E hr hp =>
  (ass_one (as_ret ae_str))) (sp1_in (T := fun as _ _ _ => as.length = 1) fun _ _ _ _ _ => rfl) (sp1_in fun _ _ _ _ h => rd_Atop_word T.toTK h)
theorem ok_Atop_rule (T : Txt K mg) (F : ∃ fd, FunD K d_Atop_rule.name d_Atop_rule.qual d_Atop_rule.params d_Atop_rule.body d_Atop_rule.scope [] [] (f_Atop_rule K) fd) (h_minus : DefOk P w K mg base (f_minus K) 3 a_minus (sp_minus K)) : DefOk P w K mg base (f_Atop_rule K) 4 a_Atop_rule (sp_Atop_rule K) :=
  defOk2 (k := 3) (t := t_Atop_rule K) F (fun _ _ _ _ _ _ us hl => match us, hl with | [_, _], _ => rfl) sc_Atop_rule (fun cdv A outer s H E hr hp =>
  (ass_one (as_ret (ae_tup (aa_cons (c_call h_minus (hr.mono (by decide)) T.g_minus (aa_cons (ae_gcon rfl T.v_ONE) (aa_cons (ae_ix ixr_all o_ix (av 1) ae_int (fun _ _ => rfl)) aa_nil))) (aa_cons (ae_ix ixr_all o_ix (av 1) ae_int (fun _ _ => rfl)) (aa_cons (ae_gcon rfl T.v_ZERO) (aa_cons (ae_gcon rfl T.v_ONE) (aa_cons (ae_gcon rfl T.v_ZERO) aa_nil))))))))) (sp2_in (T := fun as _ _ _ => as.length = 2) fun _ _ _ _ _ _ => rfl) (sp2_in fun _ _ _ _ _ h => rd_Atop_rule T.toTK h)
theorem ok_Atop_found (T : Txt K mg) (F : ∃ fd, FunD K d_Atop_found.name d_Atop_found.qual d_Atop_found.params d_Atop_found.body d_Atop_found.scope [] [] (f_Atop_found K) fd) (h_shade_or_none : DefOk P w K mg base (f_shade_or_none K) 3 a_shade_or_none (sp_shade_or_none K)) (h_minus : DefOk P w K mg base (f_minus K) 3 a_minus (sp_minus K)) : DefOk P w K mg base (f_Atop_found K) 4 a_Atop_found (sp_Atop_found K) :=
  defOk2 (k := 3) (t := t_Atop_found K) F (fun _ _ _ _ _ _ us hl => match us, hl with | [_, _], _ => rfl) sc_Atop_found (fun cdv A outer s H E hr hp =>
  (ass_one (as_ret (c_call h_shade_or_none (hr.mono (by decide)) T.g_shade_or_none (aa_cons (ae_ix ixr_all o_ix (av 1) ae_int (fun _ _ => rfl)) (aa_cons (c_call h_minus (hr.mono (by decide)) T.g_minus (aa_cons (ae_gcon rfl T.v_ONE) (aa_cons (ae_ix ixr_all o_ix (av 1) ae_int (fun _ _ => rfl)) aa_nil))) aa_nil)))))) (sp2_in (T := fun as _ _ _ => as.length = 2) fun _ _ _ _ _ _ => rfl) (sp2_in fun _ _ _ _ _ h => rd_Atop_found T.toTK h)
theorem ok_manner_of (T : Txt K mg) (F : ∃ fd, FunD K d_manner_of.name d_manner_of.qual d_manner_of.params d_manner_of.body d_manner_of.scope [] [] (f_manner_of K) fd) (h_Over_word : DefOk P w K mg base (f_Over_word K) 1 a_Over_word (sp_Over_word K)) (h_Under_word : DefOk P w K mg base (f_Under_word K) 1 a_Under_word (sp_Under_word K)) (h_Screen_word : DefOk P w K mg base (f_Screen_word K) 1 a_Screen_word (sp_Screen_word K)) (h_Times_word : DefOk P w K mg base (f_Times_word K) 1 a_Times_word (sp_Times_word K)) (h_Atop_word : DefOk P w K mg base (f_Atop_word K) 1 a_Atop_word (sp_Atop_word K)) : DefOk P w K mg base (f_manner_of K) 2 a_manner_of (sp_manner_of K) :=
  defOk2 (k := 1) (t := t_manner_of K) F (fun _ _ _ _ _ _ us hl => match us, hl with | [_], _ => rfl) sc_manner_of (fun cdv A outer s H E hr hp =>
  (ass_cons (as_for hp rfl (ai_seq (ae_lstF (aa_cons (ae_makeP T.kp_Over T.g_Over) (aa_cons (ae_makeP T.kp_Under T.g_Under) (aa_cons (ae_makeP T.kp_Screen T.g_Screen) (aa_cons (ae_makeP T.kp_Times T.g_Times) (aa_cons (ae_makeP T.kp_Atop T.g_Atop) aa_nil))))))) (ag_name 1 sc_manner_of.nd rfl (Or.inl rfl))
  (ass_one (as_if (at_cmp (opr_eq hr.units) o_eq (c_dyn0 (av 1) (dyn_cons T.cl_Over T.m_Over_word (hr.mono (by decide)) h_Over_word (dyn_cons T.cl_Under T.m_Under_word (hr.mono (by decide)) h_Under_word (dyn_cons T.cl_Screen T.m_Screen_word (hr.mono (by decide)) h_Screen_word (dyn_cons T.cl_Times T.m_Times_word (hr.mono (by decide)) h_Times_word (dyn_cons T.cl_Atop T.m_Atop_word (hr.mono (by decide)) h_Atop_word dyn_nil)))))) (av 0) (nomark _))
  (ass_one (as_ret (av 1)))
  ass_nil)))
  (ass_one (as_raise rfl T.x_NoManner rfl)))) (sp1_in (T := fun as _ _ _ => as.length = 1) fun _ _ _ _ _ => rfl) (sp1_in fun _ _ _ _ h => rd_manner_of T.toTK h)
theorem ok_weakened (T : Txt K mg) (F : ∃ fd, FunD K d_weakened.name d_weakened.qual d_weakened.params d_weakened.body d_weakened.scope [] [] (f_weakened K) fd) (h_times : DefOk P w K mg base (f_times K) 3 a_times (sp_times K)) : DefOk P w K mg base (f_weakened K) 4 a_weakened (sp_weakened K) :=
  defOk2 (k := 3) (t := t_weakened K) F (fun _ _ _ _ _ _ us hl => match us, hl with | [_, _], _ => rfl) sc_weakened (fun cdv A outer s H E hr hp =>
  (ass_one (as_ret (ae_tup (aa_cons (c_call h_times (hr.mono (by decide)) T.g_times (aa_cons (av 1) (aa_cons (ae_ix ixr_all o_ix (av 0) ae_int (fun _ _ => rfl)) aa_nil))) (aa_cons (c_call h_times (hr.mono (by decide)) T.g_times (aa_cons (av 1) (aa_cons (ae_ix ixr_all o_ix (av 0) ae_int (fun _ _ => rfl)) aa_nil))) aa_nil)))))) (sp2_in (T := fun as _ _ _ => as.length = 2) fun _ _ _ _ _ _ => rfl) (sp2_in fun _ _ _ _ _ h => rd_weakened T.toTK h)
theorem ok_adjusted (T : Txt K mg) (F : ∃ fd, FunD K d_adjusted.name d_adjusted.qual d_adjusted.params d_adjusted.body d_adjusted.scope [] [] (f_adjusted K) fd) (h_is_sixteenth : DefOk P w K mg base (f_is_sixteenth K) 1 a_is_sixteenth (sp_is_sixteenth K)) (h_made : DefOk P w K mg base (f_made K) 2 a_made (sp_made K)) : DefOk P w K mg base (f_adjusted K) 3 a_adjusted (sp_adjusted K) :=
  defOk2 (k := 2) (t := t_adjusted K) F (fun _ _ _ _ _ _ us hl => match us, hl with | [_, _], _ => rfl) sc_adjusted (fun cdv A outer s H E hr hp =>
  (ass_cons (as_if (AW.at (aw_or (at_not (at_val (c_call h_is_sixteenth (hr.mono (by decide)) T.g_is_sixteenth (aa_cons (av 0) aa_nil)))) (aw_or (at_not (at_val (c_call h_is_sixteenth (hr.mono (by decide)) T.g_is_sixteenth (aa_cons (av 1) aa_nil)))) (aw_or1 (at_cmp op_gt o_gt (ae_addF (av 0) (av 1)) (ae_gint rfl T.c_FULL) (nomark _))))))
  (ass_one (as_raise rfl T.x_NoGain rfl))
  ass_nil)
  (ass_one (as_ret (ae_tup (aa_cons (c_call h_made (hr.mono (by decide)) T.g_made (aa_cons (av 0) (aa_cons (ae_gint rfl T.c_FULL) aa_nil))) (aa_cons (c_call h_made (hr.mono (by decide)) T.g_made (aa_cons (av 1) (aa_cons (ae_gint rfl T.c_FULL) aa_nil))) (aa_cons (ae_gcon rfl T.v_ZERO) (aa_cons (ae_gcon rfl T.v_ONE) (aa_cons (ae_gcon rfl T.v_ZERO) aa_nil)))))))))) (sp2_in (T := fun as _ _ _ => as.length = 2) fun _ _ _ _ _ _ => rfl) (sp2_in fun _ _ _ _ _ h => rd_adjusted T.toTK h)
theorem ok_law_well (T : Txt K mg) (F : ∃ fd, FunD K d_law_well.name d_law_well.qual d_law_well.params d_law_well.body d_law_well.scope [] [] (f_law_well K) fd)  : DefOk P w K mg base (f_law_well K) 1 a_law_well (sp_law_well K) :=
  defOk2 (k := 0) (t := t_law_well K) F (fun _ _ _ _ _ _ us hl => match us, hl with | [_], _ => rfl) sc_law_well (fun cdv A outer s H E hr hp =>
  (ass_one (as_ret (ae_lst (aa_cons (ae_op opr_mul o_mul (av 0) (ae_callTy call_int1 o_int rfl T.n_int (by decide +kernel) (aa_cons (ae_cmp op_ge o_ge (av 0) (ae_op op_pow o_pow ae_int ae_int) (nomark _)) aa_nil))) (aa_cons (ae_op op_mod o_modP (av 0) ae_int) (aa_cons ae_int aa_nil))))))) (sp1_in (T := fun as _ _ _ => as.length = 1) fun _ _ _ _ _ => rfl) (sp1_in fun _ _ _ _ h => rd_law_well T.toTK h)
theorem ok_law_draw (T : Txt K mg) (F : ∃ fd, FunD K d_law_draw.name d_law_draw.qual d_law_draw.params d_law_draw.body d_law_draw.scope [] [] (f_law_draw K) fd)  : DefOk P w K mg base (f_law_draw K) 1 a_law_draw (sp_law_draw K) :=
  defOk2 (k := 0) (t := t_law_draw K) F (fun _ _ _ _ _ _ us hl => match us, hl with | [_, _], _ => rfl) sc_law_draw (fun cdv A outer s H E hr hp =>
  (ass_cons (as_if (at_cmp op_gt o_gt (ae_ix ixr_all o_ix (av 0) ae_int (fun _ _ => rfl)) ae_int (nomark _))
  (ass_cons (as_set 2 sc_law_draw.nd rfl (Or.inl rfl) (ae_op op_modN o_mod (ae_ix ixr_all o_ix (av 0) ae_int (fun _ _ => rfl)) (av 1)))
  (ass_cons (as_setL (ae_op opr_div o_div (ae_ix ixr_all o_ix (av 0) ae_int (fun _ _ => rfl)) (av 1)) (av 0) ae_int)
  (ass_one (as_ret (av 2)))))
  ass_nil)
  (ass_cons (as_setL (ae_addF (ae_ix ixr_all o_ix (av 0) ae_int (fun _ _ => rfl)) ae_int) (av 0) ae_int)
  (ass_cons (as_set 3 sc_law_draw.nd rfl (Or.inl rfl) (ae_op op_mod o_modP (ae_op opr_mul o_mul (ae_addF (ae_addF (ae_ix ixr_all o_ix (av 0) ae_int (fun _ _ => rfl)) (ae_op opr_mul o_mul ae_int (ae_ix ixr_all o_ix (av 0) ae_int (fun _ _ => rfl)))) ae_int) ae_int) ae_int))
  (ass_cons (as_set 3 sc_law_draw.nd rfl (Or.inl rfl) (ae_op op_mod o_modP (ae_op opr_mul o_mul (av 3) (ae_addF (ae_op op_fdivW o_divP (av 3) ae_int) ae_int)) ae_int))
  (ass_one (as_ret (ae_op op_modN o_mod (ae_op op_mod o_modP (ae_op opr_mul o_mul (av 3) (ae_addF (ae_op op_fdivW o_divP (av 3) ae_int) ae_int)) ae_int) (av 1))))))))) (sp2_in (T := fun as _ _ _ => as.length = 2) fun _ _ _ _ _ _ => rfl) (sp2_in fun _ _ _ _ _ h => rd_law_draw T.toTK h)
theorem ok_law_made (T : Txt K mg) (F : ∃ fd, FunD K d_law_made.name d_law_made.qual d_law_made.params d_law_made.body d_law_made.scope [] [] (f_law_made K) fd)  : DefOk P w K mg base (f_law_made K) 1 a_law_made (sp_law_made K) :=
  defOk2 (k := 0) (t := t_law_made K) F (fun _ _ _ _ _ _ us hl => match us, hl with | [_, _], _ => rfl) sc_law_made (fun cdv A outer s H E hr hp =>
  (ass_cons (as_par 2 3 rfl sc_law_made.nd rfl rfl (by decide) rfl rfl (aa_cons (ae_callB call_abs o_abs rfl T.n_abs (by decide +kernel) (aa_cons (av 0) aa_nil)) (aa_cons (ae_callB call_abs o_abs rfl T.n_abs (by decide +kernel) (aa_cons (av 1) aa_nil)) aa_nil)) (by rfl))
  (ass_cons (as_while hp (at_cmp (opr_ne hr.units) o_ne (av 3) ae_int (nomark _))
  (ass_one (as_par 2 3 rfl sc_law_made.nd rfl rfl (by decide) rfl rfl (aa_cons (av 3) (aa_cons (ae_op op_modN o_mod (av 2) (av 3)) aa_nil)) (by rfl))))
  (ass_cons (as_if (at_cmp op_lt o_lt (av 1) ae_int (nomark _))
  (ass_one (as_set 2 sc_law_made.nd rfl (Or.inl rfl) (ae_op op_sub o_sub ae_int (av 2))))
  ass_nil)
  (ass_one (as_ret (ae_tup (aa_cons (ae_op opr_div o_div (av 0) (av 2)) (aa_cons (ae_op opr_div o_div (av 1) (av 2)) aa_nil))))))))) (sp2_in (T := fun as _ _ _ => as.length = 2) fun _ _ _ _ _ _ => rfl) (sp2_in fun _ _ _ _ _ h => rd_law_made T.toTK h)
theorem ok_law_plus (T : Txt K mg) (F : ∃ fd, FunD K d_law_plus.name d_law_plus.qual d_law_plus.params d_law_plus.body d_law_plus.scope [] [] (f_law_plus K) fd) (h_law_made : DefOk P w K mg base (f_law_made K) 1 a_law_made (sp_law_made K)) : DefOk P w K mg base (f_law_plus K) 2 a_law_plus (sp_law_plus K) :=
  defOk2 (k := 1) (t := t_law_plus K) F (fun _ _ _ _ _ _ us hl => match us, hl with | [_, _], _ => rfl) sc_law_plus (fun cdv A outer s H E hr hp =>
  (ass_one (as_ret (c_call h_law_made (hr.mono (by decide)) T.g__law_made (aa_cons (ae_addF (ae_op opr_mul o_mul (ae_ix ixr_all o_ix (av 0) ae_int (fun _ _ => rfl)) (ae_ix ixr_all o_ix (av 1) ae_int (fun _ _ => rfl))) (ae_op opr_mul o_mul (ae_ix ixr_all o_ix (av 1) ae_int (fun _ _ => rfl)) (ae_ix ixr_all o_ix (av 0) ae_int (fun _ _ => rfl)))) (aa_cons (ae_op opr_mul o_mul (ae_ix ixr_all o_ix (av 0) ae_int (fun _ _ => rfl)) (ae_ix ixr_all o_ix (av 1) ae_int (fun _ _ => rfl))) aa_nil)))))) (sp2_in (T := fun as _ _ _ => as.length = 2) fun _ _ _ _ _ _ => rfl) (sp2_in fun _ _ _ _ _ h => rd_law_plus T.toTK h)
theorem ok_law_less (T : Txt K mg) (F : ∃ fd, FunD K d_law_less.name d_law_less.qual d_law_less.params d_law_less.body d_law_less.scope [] [] (f_law_less K) fd) (h_law_made : DefOk P w K mg base (f_law_made K) 1 a_law_made (sp_law_made K)) : DefOk P w K mg base (f_law_less K) 2 a_law_less (sp_law_less K) :=
  defOk2 (k := 1) (t := t_law_less K) F (fun _ _ _ _ _ _ us hl => match us, hl with | [_, _], _ => rfl) sc_law_less (fun cdv A outer s H E hr hp =>
  (ass_one (as_ret (c_call h_law_made (hr.mono (by decide)) T.g__law_made (aa_cons (ae_op op_sub o_sub (ae_op opr_mul o_mul (ae_ix ixr_all o_ix (av 0) ae_int (fun _ _ => rfl)) (ae_ix ixr_all o_ix (av 1) ae_int (fun _ _ => rfl))) (ae_op opr_mul o_mul (ae_ix ixr_all o_ix (av 1) ae_int (fun _ _ => rfl)) (ae_ix ixr_all o_ix (av 0) ae_int (fun _ _ => rfl)))) (aa_cons (ae_op opr_mul o_mul (ae_ix ixr_all o_ix (av 0) ae_int (fun _ _ => rfl)) (ae_ix ixr_all o_ix (av 1) ae_int (fun _ _ => rfl))) aa_nil)))))) (sp2_in (T := fun as _ _ _ => as.length = 2) fun _ _ _ _ _ _ => rfl) (sp2_in fun _ _ _ _ _ h => rd_law_less T.toTK h)
theorem ok_law_times (T : Txt K mg) (F : ∃ fd, FunD K d_law_times.name d_law_times.qual d_law_times.params d_law_times.body d_law_times.scope [] [] (f_law_times K) fd) (h_law_made : DefOk P w K mg base (f_law_made K) 1 a_law_made (sp_law_made K)) : DefOk P w K mg base (f_law_times K) 2 a_law_times (sp_law_times K) :=
  defOk2 (k := 1) (t := t_law_times K) F (fun _ _ _ _ _ _ us hl => match us, hl with | [_, _], _ => rfl) sc_law_times (fun cdv A outer s H E hr hp =>
  (ass_one (as_ret (c_call h_law_made (hr.mono (by decide)) T.g__law_made (aa_cons (ae_op opr_mul o_mul (ae_ix ixr_all o_ix (av 0) ae_int (fun _ _ => rfl)) (ae_ix ixr_all o_ix (av 1) ae_int (fun _ _ => rfl))) (aa_cons (ae_op opr_mul o_mul (ae_ix ixr_all o_ix (av 0) ae_int (fun _ _ => rfl)) (ae_ix ixr_all o_ix (av 1) ae_int (fun _ _ => rfl))) aa_nil)))))) (sp2_in (T := fun as _ _ _ => as.length = 2) fun _ _ _ _ _ _ => rfl) (sp2_in fun _ _ _ _ _ h => rd_law_times T.toTK h)
theorem ok_law_is_shade (T : Txt K mg) (F : ∃ fd, FunD K d_law_is_shade.name d_law_is_shade.qual d_law_is_shade.params d_law_is_shade.body d_law_is_shade.scope [] [] (f_law_is_shade K) fd) (h_law_less : DefOk P w K mg base (f_law_less K) 2 a_law_less (sp_law_less K)) : DefOk P w K mg base (f_law_is_shade K) 3 a_law_is_shade (sp_law_is_shade K) :=
  defOk2 (k := 2) (t := t_law_is_shade K) F (fun _ _ _ _ _ _ us hl => match us, hl with | [_], _ => rfl) sc_law_is_shade (fun cdv A outer s H E hr hp =>
  (ass_cons (as_asg (av 0) (ag_tup rfl (ags_cons (ag_name 1 sc_law_is_shade.nd rfl (Or.inl rfl)) (ags_cons (ag_name 2 sc_law_is_shade.nd rfl (Or.inl rfl)) ags_nil))))
  (ass_one (as_ret (ae_and (ae_cmp op_le o_le ae_int (ae_ix ixr_all o_ix (av 1) ae_int (fun _ _ => rfl)) (nomark _)) (ae_and (ae_cmp op_ge o_ge (ae_ix ixr_all o_ix (c_call h_law_less (hr.mono (by decide)) T.g__law_less (aa_cons (av 2) (aa_cons (av 1) aa_nil))) ae_int (fun _ _ => rfl)) ae_int (nomark _)) (ae_one (ae_cmp op_le o_le (ae_ix ixr_all o_ix (av 2) ae_int (fun _ _ => rfl)) (ae_ix ixr_all o_ix (av 2) ae_int (fun _ _ => rfl)) (nomark _))))))))) (sp1_in (T := fun as _ _ _ => as.length = 1) fun _ _ _ _ _ => rfl) (sp1_in fun _ _ _ _ h => rd_law_is_shade T.toTK h)
theorem ok_law_laid (T : Txt K mg) (F : ∃ fd, FunD K d_law_laid.name d_law_laid.qual d_law_laid.params d_law_laid.body d_law_laid.scope [] [] (f_law_laid K) fd) (h_law_plus : DefOk P w K mg base (f_law_plus K) 2 a_law_plus (sp_law_plus K)) (h_law_times : DefOk P w K mg base (f_law_times K) 2 a_law_times (sp_law_times K)) : DefOk P w K mg base (f_law_laid K) 3 a_law_laid (sp_law_laid K) :=
  defOk2 (k := 2) (t := t_law_laid K) F (fun _ _ _ _ _ _ us hl => match us, hl with | [_, _], _ => rfl) sc_law_laid (fun cdv A outer s H E hr hp =>
  (ass_cons (as_asg (av 0) (ag_tup rfl (ags_cons (ag_name 2 sc_law_laid.nd rfl (Or.inl rfl)) (ags_cons (ag_name 3 sc_law_laid.nd rfl (Or.inl rfl)) (ags_cons (ag_name 4 sc_law_laid.nd rfl (Or.inl rfl)) (ags_cons (ag_name 5 sc_law_laid.nd rfl (Or.inl rfl)) (ags_cons (ag_name 6 sc_law_laid.nd rfl (Or.inl rfl)) ags_nil)))))))
  (ass_cons (as_set 7 sc_law_laid.nd rfl (Or.inl rfl) (c_call h_law_plus (hr.mono (by decide)) T.g__law_plus (aa_cons (c_call h_law_plus (hr.mono (by decide)) T.g__law_plus (aa_cons (c_call h_law_times (hr.mono (by decide)) T.g__law_times (aa_cons (av 2) (aa_cons (ae_ix ixr_all o_ix (av 1) ae_int (fun _ _ => rfl)) aa_nil))) (aa_cons (c_call h_law_times (hr.mono (by decide)) T.g__law_times (aa_cons (av 3) (aa_cons (ae_ix ixr_all o_ix (av 1) ae_int (fun _ _ => rfl)) aa_nil))) aa_nil))) (aa_cons (av 4) aa_nil))))
  (ass_one (as_ret (ae_tup (aa_cons (av 7) (aa_cons (c_call h_law_plus (hr.mono (by decide)) T.g__law_plus (aa_cons (c_call h_law_times (hr.mono (by decide)) T.g__law_times (aa_cons (av 5) (aa_cons (ae_ix ixr_all o_ix (av 1) ae_int (fun _ _ => rfl)) aa_nil))) (aa_cons (av 6) aa_nil))) aa_nil)))))))) (sp2_in (T := fun as _ _ _ => as.length = 2) fun _ _ _ _ _ _ => rfl) (sp2_in fun _ _ _ _ _ h => rd_law_laid T.toTK h)
theorem ok_law_behind (T : Txt K mg) (F : ∃ fd, FunD K d_law_behind.name d_law_behind.qual d_law_behind.params d_law_behind.body d_law_behind.scope [] [] (f_law_behind K) fd) (h_law_plus : DefOk P w K mg base (f_law_plus K) 2 a_law_plus (sp_law_plus K)) (h_law_times : DefOk P w K mg base (f_law_times K) 2 a_law_times (sp_law_times K)) : DefOk P w K mg base (f_law_behind K) 3 a_law_behind (sp_law_behind K) :=
  defOk2 (k := 2) (t := t_law_behind K) F (fun _ _ _ _ _ _ us hl => match us, hl with | [_, _], _ => rfl) sc_law_behind (fun cdv A outer s H E hr hp =>
  (ass_cons (as_asg (av 1) (ag_tup rfl (ags_cons (ag_name 2 sc_law_behind.nd rfl (Or.inl rfl)) (ags_cons (ag_name 3 sc_law_behind.nd rfl (Or.inl rfl)) (ags_cons (ag_name 4 sc_law_behind.nd rfl (Or.inl rfl)) (ags_cons (ag_name 5 sc_law_behind.nd rfl (Or.inl rfl)) (ags_cons (ag_name 6 sc_law_behind.nd rfl (Or.inl rfl)) ags_nil)))))))
  (ass_cons (as_asg (av 0) (ag_tup rfl (ags_cons (ag_name 7 sc_law_behind.nd rfl (Or.inl rfl)) (ags_cons (ag_name 8 sc_law_behind.nd rfl (Or.inl rfl)) (ags_cons (ag_name 9 sc_law_behind.nd rfl (Or.inl rfl)) (ags_cons (ag_name 10 sc_law_behind.nd rfl (Or.inl rfl)) (ags_cons (ag_name 11 sc_law_behind.nd rfl (Or.inl rfl)) ags_nil)))))))
  (ass_cons (as_set 12 sc_law_behind.nd rfl (Or.inl rfl) (c_call h_law_plus (hr.mono (by decide)) T.g__law_plus (aa_cons (c_call h_law_times (hr.mono (by decide)) T.g__law_times (aa_cons (av 2) (aa_cons (av 8) aa_nil))) (aa_cons (c_call h_law_times (hr.mono (by decide)) T.g__law_times (aa_cons (av 3) (aa_cons (av 10) aa_nil))) aa_nil))))
  (ass_cons (as_set 13 sc_law_behind.nd rfl (Or.inl rfl) (c_call h_law_plus (hr.mono (by decide)) T.g__law_plus (aa_cons (c_call h_law_plus (hr.mono (by decide)) T.g__law_plus (aa_cons (c_call h_law_times (hr.mono (by decide)) T.g__law_times (aa_cons (av 2) (aa_cons (av 9) aa_nil))) (aa_cons (c_call h_law_times (hr.mono (by decide)) T.g__law_times (aa_cons (av 3) (aa_cons (av 11) aa_nil))) aa_nil))) (aa_cons (av 4) aa_nil))))
  (ass_one (as_ret (ae_tup (aa_cons (c_call h_law_times (hr.mono (by decide)) T.g__law_times (aa_cons (av 2) (aa_cons (av 7) aa_nil))) (aa_cons (av 12) (aa_cons (av 13) (aa_cons (c_call h_law_times (hr.mono (by decide)) T.g__law_times (aa_cons (av 5) (aa_cons (av 10) aa_nil))) (aa_cons (c_call h_law_plus (hr.mono (by decide)) T.g__law_plus (aa_cons (c_call h_law_times (hr.mono (by decide)) T.g__law_times (aa_cons (av 5) (aa_cons (av 11) aa_nil))) (aa_cons (av 6) aa_nil))) aa_nil))))))))))))) (sp2_in (T := fun as _ _ _ => as.length = 2) fun _ _ _ _ _ _ => rfl) (sp2_in fun _ _ _ _ _ h => rd_law_behind T.toTK h)
theorem ok_law_mixed (T : Txt K mg) (F : ∃ fd, FunD K d_law_mixed.name d_law_mixed.qual d_law_mixed.params d_law_mixed.body d_law_mixed.scope [] [] (f_law_mixed K) fd) (h_law_less : DefOk P w K mg base (f_law_less K) 2 a_law_less (sp_law_less K)) (h_law_times : DefOk P w K mg base (f_law_times K) 2 a_law_times (sp_law_times K)) (h_law_plus : DefOk P w K mg base (f_law_plus K) 2 a_law_plus (sp_law_plus K)) : DefOk P w K mg base (f_law_mixed K) 3 a_law_mixed (sp_law_mixed K) :=
  defOk2 (k := 2) (t := t_law_mixed K) F (fun _ _ _ _ _ _ us hl => match us, hl with | [_, _], _ => rfl) sc_law_mixed (fun cdv A outer s H E hr hp =>
  (ass_cons (as_set 2 sc_law_mixed.nd rfl (Or.inl rfl) (c_call h_law_less (hr.mono (by decide)) T.g__law_less (aa_cons (ae_tup (aa_cons ae_int (aa_cons ae_int aa_nil))) (aa_cons (av 1) aa_nil))))
  (ass_cons (as_setLcF 3 (own := [("part", 4)]) rfl sc_law_mixed.nd rfl rfl (sw_true rfl rfl rfl (by decide +kernel)) (ai_seq (av 0)) (blkOk_by (N := N_law_mixed) (sc := defScope s_law_mixed) (by decide +kernel)) (fun _ _ _ _ _ => (ag_name 4 sc_law_mixed.nd rfl (Or.inl rfl))) (fun _ _ _ _ _ => ats_nil) (fun _ _ _ _ _ => (c_call h_law_times (hr.mono (by decide)) T.g__law_times (aa_cons (av 1) (aa_cons (av 4) aa_nil)))) (by decide))
  (ass_one (as_ret (ae_tup (aa_cons (c_call h_law_plus (hr.mono (by decide)) T.g__law_plus (aa_cons (av 2) (aa_cons (ae_ix ixr_all o_ix (av 3) ae_int (fun _ _ => rfl)) aa_nil))) (aa_cons (ae_ix ixr_all o_ix (av 3) ae_int (fun _ _ => rfl)) (aa_cons (ae_ix ixr_all o_ix (av 3) ae_int (fun _ _ => rfl)) (aa_cons (c_call h_law_plus (hr.mono (by decide)) T.g__law_plus (aa_cons (av 2) (aa_cons (ae_ix ixr_all o_ix (av 3) ae_int (fun _ _ => rfl)) aa_nil))) (aa_cons (ae_ix ixr_all o_ix (av 3) ae_int (fun _ _ => rfl)) aa_nil))))))))))) (sp2_in (T := fun as _ _ _ => as.length = 2) fun _ _ _ _ _ _ => rfl) (sp2_in fun _ _ _ _ _ h => rd_law_mixed T.toTK h)
theorem ok_law_manner (T : Txt K mg) (F : ∃ fd, FunD K d_law_manner.name d_law_manner.qual d_law_manner.params d_law_manner.body d_law_manner.scope [] [] (f_law_manner K) fd) (h_law_less : DefOk P w K mg base (f_law_less K) 2 a_law_less (sp_law_less K)) (h_law_plus : DefOk P w K mg base (f_law_plus K) 2 a_law_plus (sp_law_plus K)) : DefOk P w K mg base (f_law_manner K) 3 a_law_manner (sp_law_manner K) :=
  defOk2 (k := 2) (t := t_law_manner K) F (fun _ _ _ _ _ _ us hl => match us, hl with | [_, _], _ => rfl) sc_law_manner (fun cdv A outer s H E hr hp =>
  (ass_cons (as_asg (av 1) (ag_tup rfl (ags_cons (ag_name 2 sc_law_manner.nd rfl (Or.inl rfl)) (ags_cons (ag_name 3 sc_law_manner.nd rfl (Or.inl rfl)) ags_nil))))
  (ass_cons (as_set 4 sc_law_manner.nd rfl (Or.inl rfl) (c_call h_law_less (hr.mono (by decide)) T.g__law_less (aa_cons (ae_tup (aa_cons ae_int (aa_cons ae_int aa_nil))) (aa_cons (av 3) aa_nil))))
  (ass_cons (as_if (at_cmp (opr_eq hr.units) o_eq (av 0) ae_str (nomark _))
  (ass_one (as_ret (ae_tup (aa_cons (av 4) (aa_cons (ae_tup (aa_cons ae_int (aa_cons ae_int aa_nil))) (aa_cons (av 2) (aa_cons (av 4) (aa_cons (av 3) aa_nil))))))))
  ass_nil)
  (ass_cons (as_if (at_cmp (opr_eq hr.units) o_eq (av 0) ae_str (nomark _))
  (ass_one (as_ret (ae_tup (aa_cons (ae_tup (aa_cons ae_int (aa_cons ae_int aa_nil))) (aa_cons (c_call h_law_less (hr.mono (by decide)) T.g__law_less (aa_cons (ae_tup (aa_cons ae_int (aa_cons ae_int aa_nil))) (aa_cons (av 2) aa_nil))) (aa_cons (av 2) (aa_cons (av 4) (aa_cons (av 3) aa_nil))))))))
  ass_nil)
  (ass_cons (as_if (at_cmp (opr_eq hr.units) o_eq (av 0) ae_str (nomark _))
  (ass_one (as_ret (ae_tup (aa_cons (c_call h_law_less (hr.mono (by decide)) T.g__law_less (aa_cons (ae_tup (aa_cons ae_int (aa_cons ae_int aa_nil))) (aa_cons (av 2) aa_nil))) (aa_cons (ae_tup (aa_cons ae_int (aa_cons ae_int aa_nil))) (aa_cons (av 2) (aa_cons (av 4) (aa_cons (av 3) aa_nil))))))))
  ass_nil)
  (ass_cons (as_if (at_cmp (opr_eq hr.units) o_eq (av 0) ae_str (nomark _))
  (ass_one (as_ret (ae_tup (aa_cons (c_call h_law_plus (hr.mono (by decide)) T.g__law_plus (aa_cons (av 4) (aa_cons (av 2) aa_nil))) (aa_cons (c_call h_law_less (hr.mono (by decide)) T.g__law_less (aa_cons (ae_tup (aa_cons ae_int (aa_cons ae_int aa_nil))) (aa_cons (av 2) aa_nil))) (aa_cons (av 2) (aa_cons (av 4) (aa_cons (av 3) aa_nil))))))))
  ass_nil)
  (ass_one (as_ret (ae_tup (aa_cons (av 4) (aa_cons (av 2) (aa_cons (ae_tup (aa_cons ae_int (aa_cons ae_int aa_nil))) (aa_cons (ae_tup (aa_cons ae_int (aa_cons ae_int aa_nil))) (aa_cons (ae_tup (aa_cons ae_int (aa_cons ae_int aa_nil))) aa_nil))))))))))))))) (sp2_in (T := fun as _ _ _ => as.length = 2) fun _ _ _ _ _ _ => rfl) (sp2_in fun _ _ _ _ _ h => rd_law_manner T.toTK h)
theorem ok_law_fraction (T : Txt K mg) (F : ∃ fd, FunD K d_law_fraction.name d_law_fraction.qual d_law_fraction.params d_law_fraction.body d_law_fraction.scope [] [] (f_law_fraction K) fd) (h_law_draw : DefOk P w K mg base (f_law_draw K) 1 a_law_draw (sp_law_draw K)) (h_law_made : DefOk P w K mg base (f_law_made K) 1 a_law_made (sp_law_made K)) : DefOk P w K mg base (f_law_fraction K) 2 a_law_fraction (sp_law_fraction K) :=
  defOk2 (k := 1) (t := t_law_fraction K) F (fun _ _ _ _ _ _ us hl => match us, hl with | [_], _ => rfl) sc_law_fraction (fun cdv A outer s H E hr hp =>
  (ass_cons (as_set 1 sc_law_fraction.nd rfl (Or.inl rfl) (ae_ix ixr_all o_ix (ae_lstF (aa_cons (ae_op op_sub o_sub (c_call h_law_draw (hr.mono (by decide)) T.g__law_draw (aa_cons (av 0) (aa_cons ae_int aa_nil))) ae_int) (aa_cons (ae_op op_sub o_sub (c_call h_law_draw (hr.mono (by decide)) T.g__law_draw (aa_cons (av 0) (aa_cons (ae_op op_pow o_pow ae_int ae_int) aa_nil))) (ae_op opr_mul o_mul ae_int (ae_op op_pow o_pow ae_int ae_int))) (aa_cons ae_int (aa_cons ae_int aa_nil))))) (c_call h_law_draw (hr.mono (by decide)) T.g__law_draw (aa_cons (av 0) (aa_cons ae_int aa_nil))) (fun _ _ => rfl)))
  (ass_cons (as_set 2 sc_law_fraction.nd rfl (Or.inl rfl) (ae_lstF (aa_cons ae_int (aa_cons ae_int (aa_cons ae_int (aa_cons (ae_addF ae_int (c_call h_law_draw (hr.mono (by decide)) T.g__law_draw (aa_cons (av 0) (aa_cons ae_int aa_nil)))) (aa_cons (ae_addF ae_int (c_call h_law_draw (hr.mono (by decide)) T.g__law_draw (aa_cons (av 0) (aa_cons (ae_op op_pow o_pow ae_int ae_int) aa_nil)))) aa_nil)))))))
  (ass_one (as_ret (c_call h_law_made (hr.mono (by decide)) T.g__law_made (aa_cons (av 1) (aa_cons (ae_ix ixr_all o_ix (av 2) (c_call h_law_draw (hr.mono (by decide)) T.g__law_draw (aa_cons (av 0) (aa_cons ae_int aa_nil))) (fun _ _ => rfl)) aa_nil)))))))) (sp1_in (T := fun as _ _ _ => as.length = 1) fun _ _ _ _ _ => rfl) (sp1_in fun _ _ _ _ h => rd_law_fraction T.toTK h)
theorem ok_law_source (T : Txt K mg) (F : ∃ fd, FunD K d_law_source.name d_law_source.qual d_law_source.params d_law_source.body d_law_source.scope [] [] (f_law_source K) fd) (h_law_draw : DefOk P w K mg base (f_law_draw K) 1 a_law_draw (sp_law_draw K)) (h_law_made : DefOk P w K mg base (f_law_made K) 1 a_law_made (sp_law_made K)) : DefOk P w K mg base (f_law_source K) 2 a_law_source (sp_law_source K) :=
  defOk2 (k := 1) (t := t_law_source K) F (fun _ _ _ _ _ _ us hl => match us, hl with | [_], _ => rfl) sc_law_source (fun cdv A outer s H E hr hp =>
  (ass_cons (as_set 1 sc_law_source.nd rfl (Or.inl rfl) (c_call h_law_draw (hr.mono (by decide)) T.g__law_draw (aa_cons (av 0) (aa_cons ae_int aa_nil))))
  (ass_one (as_ret (ae_tup (aa_cons (c_call h_law_made (hr.mono (by decide)) T.g__law_made (aa_cons (c_call h_law_draw (hr.mono (by decide)) T.g__law_draw (aa_cons (av 0) (aa_cons (ae_addF (av 1) ae_int) aa_nil))) (aa_cons ae_int aa_nil))) (aa_cons (c_call h_law_made (hr.mono (by decide)) T.g__law_made (aa_cons (av 1) (aa_cons ae_int aa_nil))) aa_nil))))))) (sp1_in (T := fun as _ _ _ => as.length = 1) fun _ _ _ _ _ => rfl) (sp1_in fun _ _ _ _ h => rd_law_source T.toTK h)
theorem ok_law_word (T : Txt K mg) (F : ∃ fd, FunD K d_law_word.name d_law_word.qual d_law_word.params d_law_word.body d_law_word.scope [] [] (f_law_word K) fd) (h_law_draw : DefOk P w K mg base (f_law_draw K) 1 a_law_draw (sp_law_draw K)) : DefOk P w K mg base (f_law_word K) 2 a_law_word (sp_law_word K) :=
  defOk2 (k := 1) (t := t_law_word K) F (fun _ _ _ _ _ _ us hl => match us, hl with | [_], _ => rfl) sc_law_word (fun cdv A outer s H E hr hp =>
  (ass_one (as_ret (ae_ix ixr_all o_ix (ae_lstF (aa_cons ae_str (aa_cons ae_str (aa_cons ae_str (aa_cons ae_str (aa_cons ae_str aa_nil)))))) (c_call h_law_draw (hr.mono (by decide)) T.g__law_draw (aa_cons (av 0) (aa_cons ae_int aa_nil))) (fun _ _ => rfl))))) (sp1_in (T := fun as _ _ _ => as.length = 1) fun _ _ _ _ _ => rfl) (sp1_in fun _ _ _ _ h => rd_law_word T.toTK h)
theorem ok_law_rule (T : Txt K mg) (F : ∃ fd, FunD K d_law_rule.name d_law_rule.qual d_law_rule.params d_law_rule.body d_law_rule.scope [] [] (f_law_rule K) fd) (h_law_draw : DefOk P w K mg base (f_law_draw K) 1 a_law_draw (sp_law_draw K)) (h_law_fraction : DefOk P w K mg base (f_law_fraction K) 2 a_law_fraction (sp_law_fraction K)) (h_law_manner : DefOk P w K mg base (f_law_manner K) 3 a_law_manner (sp_law_manner K)) (h_law_source : DefOk P w K mg base (f_law_source K) 2 a_law_source (sp_law_source K)) (h_law_word : DefOk P w K mg base (f_law_word K) 2 a_law_word (sp_law_word K)) : DefOk P w K mg base (f_law_rule K) 4 a_law_rule (sp_law_rule K) :=
  defOk2 (k := 3) (t := t_law_rule K) F (fun _ _ _ _ _ _ us hl => match us, hl with | [_], _ => rfl) sc_law_rule (fun cdv A outer s H E hr hp =>
  (ass_cons (as_if (at_cmp (opr_eq hr.units) o_eq (c_call h_law_draw (hr.mono (by decide)) T.g__law_draw (aa_cons (av 0) (aa_cons ae_int aa_nil))) ae_int (nomark _))
  (ass_one (as_ret (ae_callTy call_tuple_of o_tuple rfl T.n_tuple (by decide +kernel) (aa_cons (ae_fz (ae_lc (own := [("k", 1)]) rfl sc_law_rule.nd (ai_range1 rfl T.n_range (aa_cons ae_int aa_nil)) (blkOk_by (N := N_law_rule) (sc := defScope s_law_rule) (by decide +kernel)) (fun _ _ _ _ _ => (ag_name 1 sc_law_rule.nd rfl (Or.inl rfl))) (fun _ _ _ _ _ => ats_nil) (fun _ _ _ _ _ => (c_call h_law_fraction (hr.mono (by decide)) T.g__law_fraction (aa_cons (av 0) aa_nil))) (by decide))) aa_nil))))
  ass_nil)
  (ass_one (as_ret (c_call h_law_manner (hr.mono (by decide)) T.g__law_manner (aa_cons (c_call h_law_word (hr.mono (by decide)) T.g__law_word (aa_cons (av 0) aa_nil)) (aa_cons (c_call h_law_source (hr.mono (by decide)) T.g__law_source (aa_cons (av 0) aa_nil)) aa_nil))))))) (sp1_in (T := fun as _ _ _ => as.length = 1) fun _ _ _ _ _ => rfl) (sp1_in fun _ _ _ _ h => rd_law_rule T.toTK h)
theorem ok_law_thing (T : Txt K mg) (F : ∃ fd, FunD K d_law_thing.name d_law_thing.qual d_law_thing.params d_law_thing.body d_law_thing.scope [] [] (f_law_thing K) fd) (h_law_draw : DefOk P w K mg base (f_law_draw K) 1 a_law_draw (sp_law_draw K)) : DefOk P w K mg base (f_law_thing K) 2 a_law_thing (sp_law_thing K) :=
  defOk2 (k := 1) (t := t_law_thing K) F (fun _ _ _ _ _ _ us hl => match us, hl with | [_], _ => rfl) sc_law_thing (fun cdv A outer s H E hr hp =>
  (ass_one (as_ret (ae_ix ixr_all o_ix (ae_lstF (aa_cons ae_int (aa_cons ae_int (aa_cons ae_int (aa_cons (ae_addF ae_int (c_call h_law_draw (hr.mono (by decide)) T.g__law_draw (aa_cons (av 0) (aa_cons ae_int aa_nil)))) (aa_cons ae_int (aa_cons (ae_un un_neg o_neg ae_int) (aa_cons ae_bl (aa_cons ae_str (aa_cons ae_non (aa_cons (c_call h_law_draw (hr.mono (by decide)) T.g__law_draw (aa_cons (av 0) (aa_cons ae_int aa_nil))) aa_nil))))))))))) (c_call h_law_draw (hr.mono (by decide)) T.g__law_draw (aa_cons (av 0) (aa_cons ae_int aa_nil))) (fun _ _ => rfl))))) (sp1_in (T := fun as _ _ _ => as.length = 1) fun _ _ _ _ _ => rfl) (sp1_in fun _ _ _ _ h => rd_law_thing T.toTK h)
theorem ok_law_args (T : Txt K mg) (F : ∃ fd, FunD K d_law_args.name d_law_args.qual d_law_args.params d_law_args.body d_law_args.scope [] [] (f_law_args K) fd) (h_law_fraction : DefOk P w K mg base (f_law_fraction K) 2 a_law_fraction (sp_law_fraction K)) (h_law_draw : DefOk P w K mg base (f_law_draw K) 1 a_law_draw (sp_law_draw K)) (h_law_thing : DefOk P w K mg base (f_law_thing K) 2 a_law_thing (sp_law_thing K)) (h_law_rule : DefOk P w K mg base (f_law_rule K) 4 a_law_rule (sp_law_rule K)) (h_law_word : DefOk P w K mg base (f_law_word K) 2 a_law_word (sp_law_word K)) (h_law_source : DefOk P w K mg base (f_law_source K) 2 a_law_source (sp_law_source K)) (h_law_manner : DefOk P w K mg base (f_law_manner K) 3 a_law_manner (sp_law_manner K)) (h_law_behind : DefOk P w K mg base (f_law_behind K) 3 a_law_behind (sp_law_behind K)) (h_law_made : DefOk P w K mg base (f_law_made K) 1 a_law_made (sp_law_made K)) : DefOk P w K mg base (f_law_args K) 5 a_law_args (sp_law_args K) :=
  defOk2 (k := 4) (t := t_law_args K) F (fun _ _ _ _ _ _ us hl => match us, hl with | [_, _], _ => rfl) sc_law_args (fun cdv A outer s H E hr hp =>
  (ass_cons (as_if (at_cmp op_in_seq (o_in false) (av 1) (ae_tup (aa_cons ae_str (aa_cons ae_str (aa_cons ae_str (aa_cons ae_str (aa_cons ae_str aa_nil)))))) rfl)
  (ass_cons (as_set 2 sc_law_args.nd rfl (Or.inl rfl) (c_call h_law_fraction (hr.mono (by decide)) T.g__law_fraction (aa_cons (av 0) aa_nil)))
  (ass_one (as_ret (ae_tup (aa_cons (av 2) (aa_cons (ae_ix ixr_all o_ix (ae_lstF (aa_cons (av 2) (aa_cons (c_call h_law_fraction (hr.mono (by decide)) T.g__law_fraction (aa_cons (av 0) aa_nil)) aa_nil))) (ae_op op_mod o_modP (c_call h_law_draw (hr.mono (by decide)) T.g__law_draw (aa_cons (av 0) (aa_cons ae_int aa_nil))) ae_int) (fun _ _ => rfl)) aa_nil))))))
  ass_nil)
  (ass_cons (as_if (at_cmp (opr_eq hr.units) o_eq (av 1) ae_str (nomark _))
  (ass_one (as_ret (ae_tup (aa_cons (ae_op op_sub o_sub (c_call h_law_draw (hr.mono (by decide)) T.g__law_draw (aa_cons (av 0) (aa_cons (ae_op op_pow o_pow ae_int ae_int) aa_nil))) (ae_op op_pow o_pow ae_int ae_int)) (aa_cons (ae_ix ixr_all o_ix (ae_lstF (aa_cons ae_int (aa_cons ae_int (aa_cons (ae_un un_neg o_neg ae_int) (aa_cons (c_call h_law_draw (hr.mono (by decide)) T.g__law_draw (aa_cons (av 0) (aa_cons (ae_op op_pow o_pow ae_int ae_int) aa_nil))) aa_nil))))) (c_call h_law_draw (hr.mono (by decide)) T.g__law_draw (aa_cons (av 0) (aa_cons ae_int aa_nil))) (fun _ _ => rfl)) aa_nil)))))
  ass_nil)
  (ass_cons (as_if (AW.at (aw_or (at_cmp (opr_eq hr.units) o_eq (av 1) ae_str (nomark _)) (aw_or1 (at_cmp (opr_eq hr.units) o_eq (av 1) ae_str (nomark _)))))
  (ass_one (as_ret (ae_tup (aa_cons (c_call h_law_thing (hr.mono (by decide)) T.g__law_thing (aa_cons (av 0) aa_nil)) (aa_cons (c_call h_law_thing (hr.mono (by decide)) T.g__law_thing (aa_cons (av 0) aa_nil)) aa_nil)))))
  ass_nil)
  (ass_cons (as_if (at_cmp (opr_eq hr.units) o_eq (av 1) ae_str (nomark _))
  (ass_one (as_ret (ae_tup (aa_cons (c_call h_law_rule (hr.mono (by decide)) T.g__law_rule (aa_cons (av 0) aa_nil)) (aa_cons (ae_tup (aa_cons (c_call h_law_fraction (hr.mono (by decide)) T.g__law_fraction (aa_cons (av 0) aa_nil)) (aa_cons (c_call h_law_fraction (hr.mono (by decide)) T.g__law_fraction (aa_cons (av 0) aa_nil)) aa_nil))) aa_nil)))))
  ass_nil)
  (ass_cons (as_if (AW.at (aw_or (at_cmp (opr_eq hr.units) o_eq (av 1) ae_str (nomark _)) (aw_or1 (at_cmp (opr_eq hr.units) o_eq (av 1) ae_str (nomark _)))))
  (ass_cons (as_set 2 sc_law_args.nd rfl (Or.inl rfl) (c_call h_law_rule (hr.mono (by decide)) T.g__law_rule (aa_cons (av 0) aa_nil)))
  (ass_one (as_ret (ae_tup (aa_cons (av 2) (aa_cons (ae_ix ixr_all o_ix (ae_lstF (aa_cons (c_call h_law_rule (hr.mono (by decide)) T.g__law_rule (aa_cons (av 0) aa_nil)) (aa_cons (av 2) aa_nil))) (ae_op op_fdivW o_divP (c_call h_law_draw (hr.mono (by decide)) T.g__law_draw (aa_cons (av 0) (aa_cons ae_int aa_nil))) ae_int) (fun _ _ => rfl)) aa_nil))))))
  ass_nil)
  (ass_cons (as_if (at_cmp (opr_eq hr.units) o_eq (av 1) ae_str (nomark _))
  (ass_one (as_ret (ae_tup (aa_cons (c_call h_law_rule (hr.mono (by decide)) T.g__law_rule (aa_cons (av 0) aa_nil)) (aa_cons (c_call h_law_fraction (hr.mono (by decide)) T.g__law_fraction (aa_cons (av 0) aa_nil)) aa_nil)))))
  ass_nil)
  (ass_cons (as_if (at_cmp (opr_eq hr.units) o_eq (av 1) ae_str (nomark _))
  (ass_one (as_ret (ae_tup (aa_cons (c_call h_law_rule (hr.mono (by decide)) T.g__law_rule (aa_cons (av 0) aa_nil)) aa_nil))))
  ass_nil)
  (ass_cons (as_if (at_cmp (opr_eq hr.units) o_eq (av 1) ae_str (nomark _))
  (ass_cons (as_set 3 sc_law_args.nd rfl (Or.inl rfl) (ae_addF (ae_repF (aa_cons (c_call h_law_word (hr.mono (by decide)) T.g__law_word (aa_cons (av 0) aa_nil)) aa_nil)) (ae_lstF (aa_cons ae_str (aa_cons ae_str (aa_cons ae_non (aa_cons (ae_lstF (aa_cons ae_str aa_nil)) aa_nil)))))))
  (ass_one (as_ret (ae_tup (aa_cons (ae_ix ixr_all o_ix (av 3) (c_call h_law_draw (hr.mono (by decide)) T.g__law_draw (aa_cons (av 0) (aa_cons ae_int aa_nil))) (fun _ _ => rfl)) (aa_cons (c_call h_law_source (hr.mono (by decide)) T.g__law_source (aa_cons (av 0) aa_nil)) aa_nil))))))
  ass_nil)
  (ass_cons (as_if (at_cmp (opr_eq hr.units) o_eq (av 1) ae_str (nomark _))
  (ass_cons (as_set 2 sc_law_args.nd rfl (Or.inl rfl) (c_call h_law_manner (hr.mono (by decide)) T.g__law_manner (aa_cons (c_call h_law_word (hr.mono (by decide)) T.g__law_word (aa_cons (av 0) aa_nil)) (aa_cons (c_call h_law_source (hr.mono (by decide)) T.g__law_source (aa_cons (av 0) aa_nil)) aa_nil))))
  (ass_cons (as_set 4 sc_law_args.nd rfl (Or.inl rfl) (c_call h_law_behind (hr.mono (by decide)) T.g__law_behind (aa_cons (av 2) (aa_cons (c_call h_law_manner (hr.mono (by decide)) T.g__law_manner (aa_cons (c_call h_law_word (hr.mono (by decide)) T.g__law_word (aa_cons (av 0) aa_nil)) (aa_cons (c_call h_law_source (hr.mono (by decide)) T.g__law_source (aa_cons (av 0) aa_nil)) aa_nil))) aa_nil))))
  (ass_one (as_ret (ae_tup (aa_cons (c_call h_law_word (hr.mono (by decide)) T.g__law_word (aa_cons (av 0) aa_nil)) (aa_cons (ae_ix ixr_all o_ix (ae_lstF (aa_cons (av 2) (aa_cons (av 4) aa_nil))) (c_call h_law_draw (hr.mono (by decide)) T.g__law_draw (aa_cons (av 0) (aa_cons ae_int aa_nil))) (fun _ _ => rfl)) aa_nil)))))))
  ass_nil)
  (ass_cons (as_if (at_cmp (opr_eq hr.units) o_eq (av 1) ae_str (nomark _))
  (ass_one (as_ret (ae_tup (aa_cons (c_call h_law_source (hr.mono (by decide)) T.g__law_source (aa_cons (av 0) aa_nil)) (aa_cons (c_call h_law_made (hr.mono (by decide)) T.g__law_made (aa_cons (c_call h_law_draw (hr.mono (by decide)) T.g__law_draw (aa_cons (av 0) (aa_cons ae_int aa_nil))) (aa_cons ae_int aa_nil))) aa_nil)))))
  ass_nil)
  (ass_one (as_ret (ae_tup aa_nil)))))))))))))) (sp2_in (T := fun as _ _ _ => as.length = 2) fun _ _ _ _ _ _ => rfl) (sp2_in fun _ _ _ _ _ h => rd_law_args T.toTK h)
theorem ok_law_answer_more (T : Txt K mg) (F : ∃ fd, FunD K d_law_answer_more.name d_law_answer_more.qual d_law_answer_more.params d_law_answer_more.body d_law_answer_more.scope [] [] (f_law_answer_more K) fd) (h_mixed : DefOk P w K mg base (f_mixed K) 4 a_mixed (sp_mixed K)) (h_parted : DefOk P w K mg base (f_parted K) 5 a_parted (sp_parted K)) (h_stays : DefOk P w K mg base (f_stays K) 5 a_stays (sp_stays K)) (h_manner_of : DefOk P w K mg base (f_manner_of K) 2 a_manner_of (sp_manner_of K)) (h_Over_rule : DefOk P w K mg base (f_Over_rule K) 4 a_Over_rule (sp_Over_rule K)) (h_Under_rule : DefOk P w K mg base (f_Under_rule K) 4 a_Under_rule (sp_Under_rule K)) (h_Screen_rule : DefOk P w K mg base (f_Screen_rule K) 4 a_Screen_rule (sp_Screen_rule K)) (h_Times_rule : DefOk P w K mg base (f_Times_rule K) 4 a_Times_rule (sp_Times_rule K)) (h_Atop_rule : DefOk P w K mg base (f_Atop_rule K) 4 a_Atop_rule (sp_Atop_rule K)) (h_Over_word : DefOk P w K mg base (f_Over_word K) 1 a_Over_word (sp_Over_word K)) (h_Under_word : DefOk P w K mg base (f_Under_word K) 1 a_Under_word (sp_Under_word K)) (h_Screen_word : DefOk P w K mg base (f_Screen_word K) 1 a_Screen_word (sp_Screen_word K)) (h_Times_word : DefOk P w K mg base (f_Times_word K) 1 a_Times_word (sp_Times_word K)) (h_Atop_word : DefOk P w K mg base (f_Atop_word K) 1 a_Atop_word (sp_Atop_word K)) (h_Manner_found : DefOk P w K mg base (f_Manner_found K) 4 a_Manner_found (sp_Manner_found K)) (h_Atop_found : DefOk P w K mg base (f_Atop_found K) 4 a_Atop_found (sp_Atop_found K)) (h_weakened : DefOk P w K mg base (f_weakened K) 4 a_weakened (sp_weakened K)) (h_adjusted : DefOk P w K mg base (f_adjusted K) 3 a_adjusted (sp_adjusted K)) (h_grounds : DefOk P w K mg base (f_grounds K) 1 a_grounds (sp_grounds K)) : DefOk P w K mg base (f_law_answer_more K) 6 a_law_answer_more (sp_law_answer_more K) :=
  defOk2 (k := 5) (t := t_law_answer_more K) F (fun _ _ _ _ _ _ us hl => match us, hl with | [_, _], _ => rfl) sc_law_answer_more (fun cdv A outer s H E hr hp =>
  (ass_cons (as_if (at_cmp (opr_eq hr.units) o_eq (av 0) ae_str (nomark _))
  (ass_one (as_ret (c_call h_mixed (hr.mono (by decide)) T.g_mixed (aa_cons (ae_ix ixr_all o_ix (av 1) ae_int (fun _ _ => rfl)) (aa_cons (ae_ix ixr_all o_ix (av 1) ae_int (fun _ _ => rfl)) aa_nil)))))
  ass_nil)
  (ass_cons (as_if (at_cmp (opr_eq hr.units) o_eq (av 0) ae_str (nomark _))
  (ass_one (as_ret (c_call h_parted (hr.mono (by decide)) T.g_parted (aa_cons (ae_ix ixr_all o_ix (av 1) ae_int (fun _ _ => rfl)) (aa_cons (ae_ix ixr_all o_ix (av 1) ae_int (fun _ _ => rfl)) aa_nil)))))
  ass_nil)
  (ass_cons (as_if (at_cmp (opr_eq hr.units) o_eq (av 0) ae_str (nomark _))
  (ass_one (as_ret (c_call h_stays (hr.mono (by decide)) T.g_stays (aa_cons (ae_ix ixr_all o_ix (av 1) ae_int (fun _ _ => rfl)) aa_nil))))
  ass_nil)
  (ass_cons (as_if (at_cmp (opr_eq hr.units) o_eq (av 0) ae_str (nomark _))
  (ass_cons (as_set 2 sc_law_answer_more.nd rfl (Or.inl rfl) (c_call h_manner_of (hr.mono (by decide)) T.g_manner_of (aa_cons (ae_ix ixr_all o_ix (av 1) ae_int (fun _ _ => rfl)) aa_nil)))
  (ass_one (as_ret (ae_tup (aa_cons (c_dyn0 (av 2) (dyn_cons T.cl_Over T.m_Over_word (hr.mono (by decide)) h_Over_word (dyn_cons T.cl_Under T.m_Under_word (hr.mono (by decide)) h_Under_word (dyn_cons T.cl_Screen T.m_Screen_word (hr.mono (by decide)) h_Screen_word (dyn_cons T.cl_Times T.m_Times_word (hr.mono (by decide)) h_Times_word (dyn_cons T.cl_Atop T.m_Atop_word (hr.mono (by decide)) h_Atop_word dyn_nil)))))) (aa_cons (c_dyn (av 2) (dyn_cons T.cl_Over T.m_Over_rule (hr.mono (by decide)) h_Over_rule (dyn_cons T.cl_Under T.m_Under_rule (hr.mono (by decide)) h_Under_rule (dyn_cons T.cl_Screen T.m_Screen_rule (hr.mono (by decide)) h_Screen_rule (dyn_cons T.cl_Times T.m_Times_rule (hr.mono (by decide)) h_Times_rule (dyn_cons T.cl_Atop T.m_Atop_rule (hr.mono (by decide)) h_Atop_rule dyn_nil))))) (aa_cons (ae_ix ixr_all o_ix (av 1) ae_int (fun _ _ => rfl)) aa_nil)) aa_nil))))))
  ass_nil)
  (ass_cons (as_if (at_cmp (opr_eq hr.units) o_eq (av 0) ae_str (nomark _))
  (ass_one (as_ret (c_dyn (c_call h_manner_of (hr.mono (by decide)) T.g_manner_of (aa_cons (ae_ix ixr_all o_ix (av 1) ae_int (fun _ _ => rfl)) aa_nil)) (dyn_cons T.cl_Over T.m_Over_found (hr.mono (by decide)) h_Manner_found (dyn_cons T.cl_Under T.m_Under_found (hr.mono (by decide)) h_Manner_found (dyn_cons T.cl_Screen T.m_Screen_found (hr.mono (by decide)) h_Manner_found (dyn_cons T.cl_Times T.m_Times_found (hr.mono (by decide)) h_Manner_found (dyn_cons T.cl_Atop T.m_Atop_found (hr.mono (by decide)) h_Atop_found dyn_nil))))) (aa_cons (ae_ix ixr_all o_ix (av 1) ae_int (fun _ _ => rfl)) aa_nil))))
  ass_nil)
  (ass_cons (as_if (at_cmp (opr_eq hr.units) o_eq (av 0) ae_str (nomark _))
  (ass_one (as_ret (c_call h_weakened (hr.mono (by decide)) T.g_weakened (aa_cons (ae_ix ixr_all o_ix (av 1) ae_int (fun _ _ => rfl)) (aa_cons (ae_ix ixr_all o_ix (av 1) ae_int (fun _ _ => rfl)) aa_nil)))))
  ass_nil)
  (ass_cons (as_if (at_cmp (opr_eq hr.units) o_eq (av 0) ae_str (nomark _))
  (ass_one (as_ret (c_call h_adjusted (hr.mono (by decide)) T.g_adjusted (aa_cons (ae_ix ixr_all o_ix (av 1) ae_int (fun _ _ => rfl)) (aa_cons (ae_ix ixr_all o_ix (av 1) ae_int (fun _ _ => rfl)) aa_nil)))))
  ass_nil)
  (ass_one (as_ret (c_call0 h_grounds (hr.mono (by decide)) T.g_grounds))))))))))) (sp2_in (T := fun as _ _ _ => as.length = 2) fun _ _ _ _ _ _ => rfl) (sp2_in fun _ _ _ _ _ h => rd_law_answer_more T.toTK h)
theorem ok_law_answer (T : Txt K mg) (F : ∃ fd, FunD K d_law_answer.name d_law_answer.qual d_law_answer.params d_law_answer.body d_law_answer.scope [] [] (f_law_answer K) fd) (h_made : DefOk P w K mg base (f_made K) 2 a_made (sp_made K)) (h_plus : DefOk P w K mg base (f_plus K) 3 a_plus (sp_plus K)) (h_minus : DefOk P w K mg base (f_minus K) 3 a_minus (sp_minus K)) (h_times : DefOk P w K mg base (f_times K) 3 a_times (sp_times K)) (h_less : DefOk P w K mg base (f_less K) 1 a_less (sp_less K)) (h_shade : DefOk P w K mg base (f_shade K) 3 a_shade (sp_shade K)) (h_is_shade : DefOk P w K mg base (f_is_shade K) 2 a_is_shade (sp_is_shade K)) (h_laid : DefOk P w K mg base (f_laid K) 4 a_laid (sp_laid K)) (h_behind : DefOk P w K mg base (f_behind K) 4 a_behind (sp_behind K)) (h_law_answer_more : DefOk P w K mg base (f_law_answer_more K) 6 a_law_answer_more (sp_law_answer_more K)) : DefOk P w K mg base (f_law_answer K) 7 a_law_answer (sp_law_answer K) :=
  defOk2 (k := 6) (t := t_law_answer K) F (fun _ _ _ _ _ _ us hl => match us, hl with | [_, _], _ => rfl) sc_law_answer (fun cdv A outer s H E hr hp =>
  (ass_cons (as_if (at_cmp (opr_eq hr.units) o_eq (av 0) ae_str (nomark _))
  (ass_one (as_ret (c_call h_made (hr.mono (by decide)) T.g_made (aa_cons (ae_ix ixr_all o_ix (av 1) ae_int (fun _ _ => rfl)) (aa_cons (ae_ix ixr_all o_ix (av 1) ae_int (fun _ _ => rfl)) aa_nil)))))
  ass_nil)
  (ass_cons (as_if (at_cmp (opr_eq hr.units) o_eq (av 0) ae_str (nomark _))
  (ass_one (as_ret (c_call h_plus (hr.mono (by decide)) T.g_plus (aa_cons (ae_ix ixr_all o_ix (av 1) ae_int (fun _ _ => rfl)) (aa_cons (ae_ix ixr_all o_ix (av 1) ae_int (fun _ _ => rfl)) aa_nil)))))
  ass_nil)
  (ass_cons (as_if (at_cmp (opr_eq hr.units) o_eq (av 0) ae_str (nomark _))
  (ass_one (as_ret (c_call h_minus (hr.mono (by decide)) T.g_minus (aa_cons (ae_ix ixr_all o_ix (av 1) ae_int (fun _ _ => rfl)) (aa_cons (ae_ix ixr_all o_ix (av 1) ae_int (fun _ _ => rfl)) aa_nil)))))
  ass_nil)
  (ass_cons (as_if (at_cmp (opr_eq hr.units) o_eq (av 0) ae_str (nomark _))
  (ass_one (as_ret (c_call h_times (hr.mono (by decide)) T.g_times (aa_cons (ae_ix ixr_all o_ix (av 1) ae_int (fun _ _ => rfl)) (aa_cons (ae_ix ixr_all o_ix (av 1) ae_int (fun _ _ => rfl)) aa_nil)))))
  ass_nil)
  (ass_cons (as_if (at_cmp (opr_eq hr.units) o_eq (av 0) ae_str (nomark _))
  (ass_one (as_ret (c_call h_less (hr.mono (by decide)) T.g_less (aa_cons (ae_ix ixr_all o_ix (av 1) ae_int (fun _ _ => rfl)) (aa_cons (ae_ix ixr_all o_ix (av 1) ae_int (fun _ _ => rfl)) aa_nil)))))
  ass_nil)
  (ass_cons (as_if (at_cmp (opr_eq hr.units) o_eq (av 0) ae_str (nomark _))
  (ass_one (as_ret (c_call h_shade (hr.mono (by decide)) T.g_shade (aa_cons (ae_ix ixr_all o_ix (av 1) ae_int (fun _ _ => rfl)) (aa_cons (ae_ix ixr_all o_ix (av 1) ae_int (fun _ _ => rfl)) aa_nil)))))
  ass_nil)
  (ass_cons (as_if (at_cmp (opr_eq hr.units) o_eq (av 0) ae_str (nomark _))
  (ass_one (as_ret (c_call h_is_shade (hr.mono (by decide)) T.g_is_shade (aa_cons (av 1) aa_nil))))
  ass_nil)
  (ass_cons (as_if (at_cmp (opr_eq hr.units) o_eq (av 0) ae_str (nomark _))
  (ass_one (as_ret (c_call h_laid (hr.mono (by decide)) T.g_laid (aa_cons (ae_ix ixr_all o_ix (av 1) ae_int (fun _ _ => rfl)) (aa_cons (ae_ix ixr_all o_ix (av 1) ae_int (fun _ _ => rfl)) aa_nil)))))
  ass_nil)
  (ass_cons (as_if (at_cmp (opr_eq hr.units) o_eq (av 0) ae_str (nomark _))
  (ass_one (as_ret (c_call h_behind (hr.mono (by decide)) T.g_behind (aa_cons (ae_ix ixr_all o_ix (av 1) ae_int (fun _ _ => rfl)) (aa_cons (ae_ix ixr_all o_ix (av 1) ae_int (fun _ _ => rfl)) aa_nil)))))
  ass_nil)
  (ass_one (as_ret (c_call h_law_answer_more (hr.mono (by decide)) T.g__law_answer_more (aa_cons (av 0) (aa_cons (av 1) aa_nil))))))))))))))) (sp2_in (T := fun as _ _ _ => as.length = 2) fun _ _ _ _ _ _ => rfl) (sp2_in fun _ _ _ _ _ h => rd_law_answer T.toTK h)
theorem ok_law_asked (T : Txt K mg) (F : ∃ fd, FunD K d_law_asked.name d_law_asked.qual d_law_asked.params d_law_asked.body d_law_asked.scope [] [] (f_law_asked K) fd) (h_law_answer : DefOk P w K mg base (f_law_answer K) 7 a_law_answer (sp_law_answer K)) : DefOk P w K mg base (f_law_asked K) 8 a_law_asked (sp_law_asked K) :=
  defOk2 (k := 7) (t := t_law_asked K) F (fun _ _ _ _ _ _ us hl => match us, hl with | [_, _], _ => rfl) sc_law_asked (fun cdv A outer s H E hr hp =>
  (ass_cons (as_set 2 sc_law_asked.nd rfl (Or.inl rfl) (ae_tup (aa_cons ae_str (aa_cons ae_str aa_nil))))
  (ass_cons (as_try_many rfl rfl (fun pn xe hp =>
  (ass_cons (as_set 3 sc_law_asked.nd rfl (Or.inl rfl) (c_call h_law_answer (hr.mono (by decide)) T.g__law_answer (aa_cons (av 0) (aa_cons (av 1) aa_nil))))
  (ass_one (as_set 2 sc_law_asked.nd rfl (Or.inl rfl) (ae_tup (aa_cons ae_str (aa_cons (av 3) (aa_cons (ae_callB callr_isi o_isi rfl T.n_isinstance (by decide +kernel) (aa_cons (av 3) (aa_cons (ae_bty rfl T.n_bool (by decide +kernel)) aa_nil))) aa_nil)))))))) (ahd_cons ⟨rfl, by decide, .inl T.g_NoFraction⟩ (fun a oe C pn ec hz hf =>
  (ass_one (as_set 2 sc_law_asked.nd rfl (Or.inl rfl) (ae_tup (aa_cons ae_str (aa_cons ae_str aa_nil)))))) (ahd_cons ⟨rfl, by decide, .inl T.g_NoShade⟩ (fun a oe C pn ec hz hf =>
  (ass_one (as_set 2 sc_law_asked.nd rfl (Or.inl rfl) (ae_tup (aa_cons ae_str (aa_cons ae_str aa_nil)))))) (ahd_cons ⟨rfl, by decide, .inl T.g_NoManner⟩ (fun a oe C pn ec hz hf =>
  (ass_one (as_set 2 sc_law_asked.nd rfl (Or.inl rfl) (ae_tup (aa_cons ae_str (aa_cons ae_str aa_nil)))))) (ahd_cons ⟨rfl, by decide, .inl T.g_NoGain⟩ (fun a oe C pn ec hz hf =>
  (ass_one (as_set 2 sc_law_asked.nd rfl (Or.inl rfl) (ae_tup (aa_cons ae_str (aa_cons ae_str aa_nil)))))) ahd_nil)))))
  (ass_one (as_ret (av 2)))))) (sp2_in (T := fun as _ _ _ => as.length = 2) fun _ _ _ _ _ _ => rfl) (sp2_in fun _ _ _ _ _ h => rd_law_asked T.toTK h)
theorem ok_law_refusal (T : Txt K mg) (F : ∃ fd, FunD K d_law_refusal.name d_law_refusal.qual d_law_refusal.params d_law_refusal.body d_law_refusal.scope [] [] (f_law_refusal K) fd)  : DefOk P w K mg base (f_law_refusal K) 1 a_law_refusal (sp_law_refusal K) :=
  defOk2 (k := 0) (t := t_law_refusal K) F (fun _ _ _ _ _ _ us hl => match us, hl with | [_, _], _ => rfl) sc_law_refusal (fun cdv A outer s H E hr hp =>
  (ass_cons (as_setLcF 2 (own := [("thing", 3)]) rfl sc_law_refusal.nd rfl rfl (sw_true rfl rfl rfl (by decide +kernel)) (ai_seq (av 1)) (blkOk_by (N := N_law_refusal) (sc := defScope s_law_refusal) (by decide +kernel)) (fun _ _ _ _ _ => (ag_name 3 sc_law_refusal.nd rfl (Or.inl rfl))) (fun _ _ _ _ _ => ats_nil) (fun _ _ _ _ _ => (ae_and (ae_callB callr_isi o_isi rfl T.n_isinstance (by decide +kernel) (aa_cons (av 3) (aa_cons (ae_bty rfl T.n_int (by decide +kernel)) aa_nil))) (ae_and (ae_not (ae_callB callr_isi o_isi rfl T.n_isinstance (by decide +kernel) (aa_cons (av 3) (aa_cons (ae_bty rfl T.n_bool (by decide +kernel)) aa_nil)))) (ae_one (ae_chain op_le op_le o_le o_le ae_int (av 3) ae_int))))) (by decide))
  (ass_cons (as_if (AW.at (aw_and (at_cmp (opr_eq hr.units) o_eq (av 0) ae_str (nomark _)) (aw_and1 (at_cmp (opr_eq hr.units) o_eq (ae_ix ixr_all o_ix (av 1) ae_int (fun _ _ => rfl)) ae_int (nomark _)))))
  (ass_one (as_ret ae_str))
  ass_nil)
  (ass_cons (as_if (AW.at (aw_and (at_cmp (opr_eq hr.units) o_eq (av 0) ae_str (nomark _)) (aw_and1 (AW.at (aw_or (at_cmp (opr_inP (hu65 hr)) (o_inP false) ae_bl (av 2) rfl) (aw_or1 (at_cmp op_gt o_gt (ae_ix ixr_all o_ix (av 1) ae_int (fun _ _ => rfl)) (ae_ix ixr_all o_ix (av 1) ae_int (fun _ _ => rfl)) (nomark _))))))))
  (ass_one (as_ret ae_str))
  ass_nil)
  (ass_cons (as_if (AW.at (aw_and (at_cmp (opr_eq hr.units) o_eq (av 0) ae_str (nomark _)) (aw_and1 (AW.at (aw_or (at_cmp (opr_inP (hu65 hr)) (o_inP false) ae_bl (av 2) rfl) (aw_or1 (at_cmp op_gt o_gt (ae_addF (ae_ix ixr_all o_ix (av 1) ae_int (fun _ _ => rfl)) (ae_ix ixr_all o_ix (av 1) ae_int (fun _ _ => rfl))) ae_int (nomark _))))))))
  (ass_one (as_ret ae_str))
  ass_nil)
  (ass_cons (as_if (AW.at (aw_and (at_cmp (opr_eq hr.units) o_eq (av 0) ae_str (nomark _)) (aw_and1 (at_cmp (opr_notinP (hu65 hr)) (o_inP true) (ae_ix ixr_all o_ix (av 1) ae_int (fun _ _ => rfl)) (ae_lstF (aa_cons ae_str (aa_cons ae_str (aa_cons ae_str (aa_cons ae_str (aa_cons ae_str aa_nil)))))) rfl))))
  (ass_one (as_ret ae_str))
  ass_nil)
  (ass_one (as_ret ae_str)))))))) (sp2_in (T := fun as _ _ _ => as.length = 2) fun _ _ _ _ _ _ => rfl) (sp2_in fun _ _ _ _ _ h => rd_law_refusal T.toTK h)
theorem ok_law_grounds (T : Txt K mg) (F : ∃ fd, FunD K d_law_grounds.name d_law_grounds.qual d_law_grounds.params d_law_grounds.body d_law_grounds.scope [] [] (f_law_grounds K) fd)  : DefOk P w K mg base (f_law_grounds K) 1 a_law_grounds (sp_law_grounds K) :=
  defOk2 (k := 0) (t := t_law_grounds K) F (fun _ _ _ _ _ _ us hl => match us, hl with | [], _ => rfl) sc_law_grounds (fun cdv A outer s H E hr hp =>
  (ass_one (as_ret (ae_lstF (aa_cons (ae_tup (aa_cons (ae_tup (aa_cons ae_int (aa_cons ae_int aa_nil))) (aa_cons (ae_tup (aa_cons ae_int (aa_cons ae_int aa_nil))) aa_nil))) (aa_cons (ae_tup (aa_cons (ae_tup (aa_cons ae_int (aa_cons ae_int aa_nil))) (aa_cons (ae_tup (aa_cons ae_int (aa_cons ae_int aa_nil))) aa_nil))) (aa_cons (ae_tup (aa_cons (ae_tup (aa_cons ae_int (aa_cons ae_int aa_nil))) (aa_cons (ae_tup (aa_cons ae_int (aa_cons ae_int aa_nil))) aa_nil))) aa_nil))))))) (sp0_in (T := fun as _ _ _ => as.length = 0) fun _ _ _ _ => rfl) (sp0_in fun _ _ _ h => rd_law_grounds T.toTK h)
theorem ok_law_sum_due (T : Txt K mg) (F : ∃ fd, FunD K d_law_sum_due.name d_law_sum_due.qual d_law_sum_due.params d_law_sum_due.body d_law_sum_due.scope [] [] (f_law_sum_due K) fd) (h_law_plus : DefOk P w K mg base (f_law_plus K) 2 a_law_plus (sp_law_plus K)) (h_law_less : DefOk P w K mg base (f_law_less K) 2 a_law_less (sp_law_less K)) (h_law_times : DefOk P w K mg base (f_law_times K) 2 a_law_times (sp_law_times K)) (h_law_is_shade : DefOk P w K mg base (f_law_is_shade K) 3 a_law_is_shade (sp_law_is_shade K)) (h_law_made : DefOk P w K mg base (f_law_made K) 1 a_law_made (sp_law_made K)) : DefOk P w K mg base (f_law_sum_due K) 4 a_law_sum_due (sp_law_sum_due K) :=
  defOk2 (k := 3) (t := t_law_sum_due K) F (fun _ _ _ _ _ _ us hl => match us, hl with | [_, _], _ => rfl) sc_law_sum_due (fun cdv A outer s H E hr hp =>
  (ass_cons (as_if (at_cmp (opr_eq hr.units) o_eq (av 0) ae_str (nomark _))
  (ass_one (as_ret (c_call h_law_plus (hr.mono (by decide)) T.g__law_plus (aa_cons (ae_ix ixr_all o_ix (av 1) ae_int (fun _ _ => rfl)) (aa_cons (ae_ix ixr_all o_ix (av 1) ae_int (fun _ _ => rfl)) aa_nil)))))
  ass_nil)
  (ass_cons (as_if (at_cmp (opr_eq hr.units) o_eq (av 0) ae_str (nomark _))
  (ass_one (as_ret (c_call h_law_less (hr.mono (by decide)) T.g__law_less (aa_cons (ae_ix ixr_all o_ix (av 1) ae_int (fun _ _ => rfl)) (aa_cons (ae_ix ixr_all o_ix (av 1) ae_int (fun _ _ => rfl)) aa_nil)))))
  ass_nil)
  (ass_cons (as_if (at_cmp (opr_eq hr.units) o_eq (av 0) ae_str (nomark _))
  (ass_one (as_ret (c_call h_law_times (hr.mono (by decide)) T.g__law_times (aa_cons (ae_ix ixr_all o_ix (av 1) ae_int (fun _ _ => rfl)) (aa_cons (ae_ix ixr_all o_ix (av 1) ae_int (fun _ _ => rfl)) aa_nil)))))
  ass_nil)
  (ass_cons (as_if (at_cmp (opr_eq hr.units) o_eq (av 0) ae_str (nomark _))
  (ass_one (as_ret (ae_cmp op_lt o_lt (ae_ix ixr_all o_ix (c_call h_law_less (hr.mono (by decide)) T.g__law_less (aa_cons (ae_ix ixr_all o_ix (av 1) ae_int (fun _ _ => rfl)) (aa_cons (ae_ix ixr_all o_ix (av 1) ae_int (fun _ _ => rfl)) aa_nil))) ae_int (fun _ _ => rfl)) ae_int (nomark _))))
  ass_nil)
  (ass_cons (as_if (at_cmp (opr_eq hr.units) o_eq (av 0) ae_str (nomark _))
  (ass_one (as_ret (c_call h_law_is_shade (hr.mono (by decide)) T.g__law_is_shade (aa_cons (av 1) aa_nil))))
  ass_nil)
  (ass_cons (as_if (at_cmp (opr_eq hr.units) o_eq (av 0) ae_str (nomark _))
  (ass_one (as_ret (c_call h_law_made (hr.mono (by decide)) T.g__law_made (aa_cons (ae_ix ixr_all o_ix (av 1) ae_int (fun _ _ => rfl)) (aa_cons (ae_ix ixr_all o_ix (av 1) ae_int (fun _ _ => rfl)) aa_nil)))))
  ass_nil)
  (ass_one (as_ret (ae_tup (aa_cons (c_call h_law_made (hr.mono (by decide)) T.g__law_made (aa_cons (ae_ix ixr_all o_ix (av 1) ae_int (fun _ _ => rfl)) (aa_cons ae_int aa_nil))) (aa_cons (c_call h_law_made (hr.mono (by decide)) T.g__law_made (aa_cons (ae_ix ixr_all o_ix (av 1) ae_int (fun _ _ => rfl)) (aa_cons ae_int aa_nil))) aa_nil)))))))))))) (sp2_in (T := fun as _ _ _ => as.length = 2) fun _ _ _ _ _ _ => rfl) (sp2_in fun _ _ _ _ _ h => rd_law_sum_due T.toTK h)
theorem ok_law_due (T : Txt K mg) (F : ∃ fd, FunD K d_law_due.name d_law_due.qual d_law_due.params d_law_due.body d_law_due.scope [] [] (f_law_due K) fd) (h_law_sum_due : DefOk P w K mg base (f_law_sum_due K) 4 a_law_sum_due (sp_law_sum_due K)) (h_law_laid : DefOk P w K mg base (f_law_laid K) 3 a_law_laid (sp_law_laid K)) (h_law_behind : DefOk P w K mg base (f_law_behind K) 3 a_law_behind (sp_law_behind K)) (h_law_mixed : DefOk P w K mg base (f_law_mixed K) 3 a_law_mixed (sp_law_mixed K)) (h_law_grounds : DefOk P w K mg base (f_law_grounds K) 1 a_law_grounds (sp_law_grounds K)) (h_law_is_shade : DefOk P w K mg base (f_law_is_shade K) 3 a_law_is_shade (sp_law_is_shade K)) (h_law_manner : DefOk P w K mg base (f_law_manner K) 3 a_law_manner (sp_law_manner K)) (h_law_less : DefOk P w K mg base (f_law_less K) 2 a_law_less (sp_law_less K)) (h_law_times : DefOk P w K mg base (f_law_times K) 2 a_law_times (sp_law_times K)) : DefOk P w K mg base (f_law_due K) 5 a_law_due (sp_law_due K) :=
  defOk2 (k := 4) (t := t_law_due K) F (fun _ _ _ _ _ _ us hl => match us, hl with | [_, _], _ => rfl) sc_law_due (fun cdv A outer s H E hr hp =>
  (ass_cons (as_if (at_cmp op_in_seq (o_in false) (av 0) (ae_tup (aa_cons ae_str (aa_cons ae_str (aa_cons ae_str (aa_cons ae_str (aa_cons ae_str (aa_cons ae_str (aa_cons ae_str aa_nil)))))))) rfl)
  (ass_one (as_ret (c_call h_law_sum_due (hr.mono (by decide)) T.g__law_sum_due (aa_cons (av 0) (aa_cons (av 1) aa_nil)))))
  ass_nil)
  (ass_cons (as_if (at_cmp (opr_eq hr.units) o_eq (av 0) ae_str (nomark _))
  (ass_one (as_ret (c_call h_law_laid (hr.mono (by decide)) T.g__law_laid (aa_cons (ae_ix ixr_all o_ix (av 1) ae_int (fun _ _ => rfl)) (aa_cons (ae_ix ixr_all o_ix (av 1) ae_int (fun _ _ => rfl)) aa_nil)))))
  ass_nil)
  (ass_cons (as_if (at_cmp (opr_eq hr.units) o_eq (av 0) ae_str (nomark _))
  (ass_one (as_ret (c_call h_law_behind (hr.mono (by decide)) T.g__law_behind (aa_cons (ae_ix ixr_all o_ix (av 1) ae_int (fun _ _ => rfl)) (aa_cons (ae_ix ixr_all o_ix (av 1) ae_int (fun _ _ => rfl)) aa_nil)))))
  ass_nil)
  (ass_cons (as_if (at_cmp (opr_eq hr.units) o_eq (av 0) ae_str (nomark _))
  (ass_one (as_ret (c_call h_law_mixed (hr.mono (by decide)) T.g__law_mixed (aa_cons (ae_ix ixr_all o_ix (av 1) ae_int (fun _ _ => rfl)) (aa_cons (ae_ix ixr_all o_ix (av 1) ae_int (fun _ _ => rfl)) aa_nil)))))
  ass_nil)
  (ass_cons (as_if (at_cmp (opr_eq hr.units) o_eq (av 0) ae_str (nomark _))
  (ass_cons (as_setLcF 2 (own := [("one", 9)]) rfl sc_law_due.nd rfl rfl (sw_true rfl rfl rfl (by decide +kernel)) (ai_seq (c_call0 h_law_grounds (hr.mono (by decide)) T.g__law_grounds)) (blkOk_by (N := N_law_due) (sc := defScope s_law_due) (by decide +kernel)) (fun _ _ _ _ _ => (ag_name 9 sc_law_due.nd rfl (Or.inl rfl))) (fun _ _ _ _ _ => (ats_one (at_cmp (opr_ne hr.units) o_ne (c_call h_law_laid (hr.mono (by decide)) T.g__law_laid (aa_cons (ae_ix ixr_all o_ix (av 1) ae_int (fun _ _ => rfl)) (aa_cons (av 9) aa_nil))) (c_call h_law_laid (hr.mono (by decide)) T.g__law_laid (aa_cons (ae_ix ixr_all o_ix (av 1) ae_int (fun _ _ => rfl)) (aa_cons (av 9) aa_nil))) (nomark _)))) (fun _ _ _ _ _ => (av 9)) (by decide))
  (ass_one (as_ret (ae_ix ixr_all o_ix (ae_addF (av 2) (ae_lstF (aa_cons ae_non aa_nil))) ae_int (fun _ _ => rfl)))))
  ass_nil)
  (ass_cons (as_if (at_cmp (opr_eq hr.units) o_eq (av 0) ae_str (nomark _))
  (ass_one (as_ret (ae_cmp (opr_eq hr.units) o_eq (ae_fz (ae_lc (own := [("one", 9)]) rfl sc_law_due.nd (ai_seq (c_call0 h_law_grounds (hr.mono (by decide)) T.g__law_grounds)) (blkOk_by (N := N_law_due) (sc := defScope s_law_due) (by decide +kernel)) (fun _ _ _ _ _ => (ag_name 9 sc_law_due.nd rfl (Or.inl rfl))) (fun _ _ _ _ _ => (ats_one (at_not (at_val (c_call h_law_is_shade (hr.mono (by decide)) T.g__law_is_shade (aa_cons (c_call h_law_laid (hr.mono (by decide)) T.g__law_laid (aa_cons (ae_ix ixr_all o_ix (av 1) ae_int (fun _ _ => rfl)) (aa_cons (av 9) aa_nil))) aa_nil)))))) (fun _ _ _ _ _ => (av 9)) (by decide))) (ae_lstF aa_nil) (nomark _))))
  ass_nil)
  (ass_cons (as_if (at_cmp (opr_eq hr.units) o_eq (av 0) ae_str (nomark _))
  (ass_one (as_ret (ae_tup (aa_cons (ae_ix ixr_all o_ix (av 1) ae_int (fun _ _ => rfl)) (aa_cons (c_call h_law_manner (hr.mono (by decide)) T.g__law_manner (aa_cons (ae_ix ixr_all o_ix (av 1) ae_int (fun _ _ => rfl)) (aa_cons (ae_ix ixr_all o_ix (av 1) ae_int (fun _ _ => rfl)) aa_nil))) aa_nil)))))
  ass_nil)
  (ass_cons (as_if (at_cmp (opr_eq hr.units) o_eq (av 0) ae_str (nomark _))
  (ass_cons (as_asg (ae_ix ixr_all o_ix (av 1) ae_int (fun _ _ => rfl)) (ag_tup rfl (ags_cons (ag_name 3 sc_law_due.nd rfl (Or.inl rfl)) (ags_cons (ag_name 4 sc_law_due.nd rfl (Or.inl rfl)) (ags_cons (ag_name 5 sc_law_due.nd rfl (Or.inl rfl)) (ags_cons (ag_name 6 sc_law_due.nd rfl (Or.inl rfl)) (ags_cons (ag_name 7 sc_law_due.nd rfl (Or.inl rfl)) ags_nil)))))))
  (ass_cons (as_set 8 sc_law_due.nd rfl (Or.inl rfl) (ae_ix ixr_all o_ix (ae_lstF (aa_cons (ae_tup (aa_cons (av 5) (aa_cons (av 7) aa_nil))) (aa_cons (ae_tup (aa_cons (av 4) (aa_cons (c_call h_law_less (hr.mono (by decide)) T.g__law_less (aa_cons (ae_tup (aa_cons ae_int (aa_cons ae_int aa_nil))) (aa_cons (av 3) aa_nil))) aa_nil))) aa_nil))) (ae_callTy call_int1 o_int rfl T.n_int (by decide +kernel) (aa_cons (ae_cmp (opr_eq hr.units) o_eq (ae_ix ixr_all o_ix (av 1) ae_int (fun _ _ => rfl)) ae_str (nomark _)) aa_nil)) (fun _ _ => rfl)))
  (ass_one (as_ret (ae_ix ixr_all o_ix (ae_lstF (aa_cons ae_non (aa_cons (av 8) aa_nil))) (ae_callTy call_int1 o_int rfl T.n_int (by decide +kernel) (aa_cons (c_call h_law_is_shade (hr.mono (by decide)) T.g__law_is_shade (aa_cons (av 8) aa_nil)) aa_nil)) (fun _ _ => rfl))))))
  ass_nil)
  (ass_cons (as_if (at_cmp (opr_eq hr.units) o_eq (av 0) ae_str (nomark _))
  (ass_one (as_ret (ae_tup (aa_cons (c_call h_law_times (hr.mono (by decide)) T.g__law_times (aa_cons (ae_ix ixr_all o_ix (ae_ix ixr_all o_ix (av 1) ae_int (fun _ _ => rfl)) ae_int (fun _ _ => rfl)) (aa_cons (ae_ix ixr_all o_ix (av 1) ae_int (fun _ _ => rfl)) aa_nil))) (aa_cons (c_call h_law_times (hr.mono (by decide)) T.g__law_times (aa_cons (ae_ix ixr_all o_ix (ae_ix ixr_all o_ix (av 1) ae_int (fun _ _ => rfl)) ae_int (fun _ _ => rfl)) (aa_cons (ae_ix ixr_all o_ix (av 1) ae_int (fun _ _ => rfl)) aa_nil))) aa_nil)))))
  ass_nil)
  (ass_cons (as_if (at_cmp (opr_eq hr.units) o_eq (av 0) ae_str (nomark _))
  (ass_one (as_ret (ae_addF (c_call h_law_sum_due (hr.mono (by decide)) T.g__law_sum_due (aa_cons (av 0) (aa_cons (av 1) aa_nil))) (ae_tup (aa_cons (ae_tup (aa_cons ae_int (aa_cons ae_int aa_nil))) (aa_cons (ae_tup (aa_cons ae_int (aa_cons ae_int aa_nil))) (aa_cons (ae_tup (aa_cons ae_int (aa_cons ae_int aa_nil))) aa_nil)))))))
  ass_nil)
  (ass_one (as_ret (c_call0 h_law_grounds (hr.mono (by decide)) T.g__law_grounds)))))))))))))) (sp2_in (T := fun as _ _ _ => as.length = 2) fun _ _ _ _ _ _ => rfl) (sp2_in fun _ _ _ _ _ h => rd_law_due T.toTK h)
theorem ok_law_right (T : Txt K mg) (F : ∃ fd, FunD K d_law_right.name d_law_right.qual d_law_right.params d_law_right.body d_law_right.scope [] [] (f_law_right K) fd) (h_law_asked : DefOk P w K mg base (f_law_asked K) 8 a_law_asked (sp_law_asked K)) (h_law_refusal : DefOk P w K mg base (f_law_refusal K) 1 a_law_refusal (sp_law_refusal K)) (h_law_due : DefOk P w K mg base (f_law_due K) 5 a_law_due (sp_law_due K)) : DefOk P w K mg base (f_law_right K) 9 a_law_right (sp_law_right K) :=
  defOk2 (k := 8) (t := t_law_right K) F (fun _ _ _ _ _ _ us hl => match us, hl with | [_, _], _ => rfl) sc_law_right (fun cdv A outer s H E hr hp =>
  (ass_cons (as_set 2 sc_law_right.nd rfl (Or.inl rfl) (c_call h_law_asked (hr.mono (by decide)) T.g__law_asked (aa_cons (av 0) (aa_cons (av 1) aa_nil))))
  (ass_cons (as_set 3 sc_law_right.nd rfl (Or.inl rfl) (c_call h_law_refusal (hr.mono (by decide)) T.g__law_refusal (aa_cons (av 0) (aa_cons (av 1) aa_nil))))
  (ass_cons (as_if (at_cmp (opr_ne hr.units) o_ne (av 3) ae_str (nomark _))
  (ass_one (as_ret (ae_cmp (opr_eq hr.units) o_eq (av 2) (ae_tup (aa_cons ae_str (aa_cons (av 3) aa_nil))) (nomark _))))
  ass_nil)
  (ass_cons (as_set 4 sc_law_right.nd rfl (Or.inl rfl) (c_call h_law_due (hr.mono (by decide)) T.g__law_due (aa_cons (av 0) (aa_cons (av 1) aa_nil))))
  (ass_cons (as_if (at_cmp (opr_ne hr.units) o_ne (av 2) (ae_tup (aa_cons ae_str (aa_cons (av 4) (aa_cons (ae_callB callr_isi o_isi rfl T.n_isinstance (by decide +kernel) (aa_cons (av 4) (aa_cons (ae_bty rfl T.n_bool (by decide +kernel)) aa_nil))) aa_nil)))) (nomark _))
  (ass_one (as_ret ae_bl))
  ass_nil)
  (ass_cons (as_if (at_val (ae_callB callr_isi o_isi rfl T.n_isinstance (by decide +kernel) (aa_cons (ae_ix ixr_all o_ix (av 2) ae_int (fun _ _ => rfl)) (aa_cons (ae_bty rfl T.n_list (by decide +kernel)) aa_nil))))
  (ass_one (as_expr (ae_bm PySem.F.slot_list_append PySem.F.type_list_append mt_append o_append (ae_ix ixr_all o_ix (av 2) ae_int (fun _ _ => rfl)) (aa_cons (av 4) aa_nil))))
  ass_nil)
  (ass_one (as_ret ae_bl))))))))) (sp2_in (T := fun as _ _ _ => as.length = 2) fun _ _ _ _ _ _ => rfl) (sp2_in fun _ _ _ _ _ h => rd_law_right T.toTK h)
theorem fn_law (T : Txt K mg) {fd : FuncData} (F : FunD K d_law.name d_law.qual d_law.params d_law.body d_law.scope [] [] (f_law K) fd) (h_law_well : DefOk P w K mg base (f_law_well K) 1 a_law_well (sp_law_well K)) (h_law_draw : DefOk P w K mg base (f_law_draw K) 1 a_law_draw (sp_law_draw K)) (h_law_args : DefOk P w K mg base (f_law_args K) 5 a_law_args (sp_law_args K)) (h_law_right : DefOk P w K mg base (f_law_right K) 9 a_law_right (sp_law_right K)) : AFn P w K mg base 10 (f_law K) fd a_law (sp_law K) :=
  fnA2 (t := t_law K) F sc_law (fun X _ _ ⟨cdv, A, outer, s, H, E, e⟩ hr hp => by
    subst e
    exact (ass_cons (as_set 1 sc_law.nd rfl (Or.inl rfl) (ae_lstF (aa_cons ae_str (aa_cons ae_str (aa_cons ae_str (aa_cons ae_str (aa_cons ae_str (aa_cons ae_str (aa_cons ae_str (aa_cons ae_str (aa_cons ae_str (aa_cons ae_str (aa_cons ae_str aa_nil)))))))))))))
      (ass_cons (as_set 1 sc_law.nd rfl (Or.inl rfl) (ae_addF (av 1) (ae_lstF (aa_cons ae_str (aa_cons ae_str (aa_cons ae_str (aa_cons ae_str (aa_cons ae_str (aa_cons ae_str aa_nil)))))))))
      (ass_cons (as_set 2 sc_law.nd rfl (Or.inl rfl) (ae_lstF aa_nil))
      (ass_cons (as_for hp rfl (ai_seq (ae_addF (ae_slF (av 0) ao_none (ao_some ae_int)) (ae_lstF (aa_cons ae_int (aa_cons ae_int (aa_cons ae_int aa_nil)))))) (ag_name 3 sc_law.nd rfl (Or.inl rfl))
      (ass_cons (as_set 4 sc_law.nd rfl (Or.inl rfl) (c_call h_law_well (hr.mono (by decide)) T.g__law_well (aa_cons (av 3) aa_nil)))
      (ass_cons (as_set 5 sc_law.nd rfl (Or.inl rfl) (ae_ix ixr_all o_ix (av 1) (c_call h_law_draw (hr.mono (by decide)) T.g__law_draw (aa_cons (av 4) (aa_cons ae_int aa_nil))) (fun _ _ => rfl)))
      (ass_cons (as_set 6 sc_law.nd rfl (Or.inl rfl) (ae_ix ixr_all o_ix (av 1) (c_call h_law_draw (hr.mono (by decide)) T.g__law_draw (aa_cons (av 4) (aa_cons ae_int aa_nil))) (fun _ _ => rfl)))
      (ass_cons (as_set 7 sc_law.nd rfl (Or.inl rfl) (ae_lstF (aa_cons (ae_tup (aa_cons (av 5) (aa_cons (c_call h_law_args (hr.mono (by decide)) T.g__law_args (aa_cons (av 4) (aa_cons (av 5) aa_nil))) aa_nil))) (aa_cons (ae_tup (aa_cons (av 5) (aa_cons (c_call h_law_args (hr.mono (by decide)) T.g__law_args (aa_cons (av 4) (aa_cons (av 5) aa_nil))) aa_nil))) (aa_cons (ae_tup (aa_cons (av 6) (aa_cons (c_call h_law_args (hr.mono (by decide)) T.g__law_args (aa_cons (av 4) (aa_cons (av 6) aa_nil))) aa_nil))) aa_nil)))))
      (ass_cons (as_for hp rfl (ai_seq (ae_lstF (aa_cons ae_int (aa_cons ae_int (aa_cons ae_int (aa_cons ae_int (aa_cons ae_int (aa_cons ae_int aa_nil)))))))) (ag_name 8 sc_law.nd rfl (Or.inl rfl))
      (ass_one (as_if (at_not (at_val (c_call h_law_right (hr.mono (by decide)) T.g__law_right (aa_cons (ae_ix ixr_all o_ix (ae_ix ixr_all o_ix (av 7) (av 8) (fun _ _ => rfl)) ae_int (fun _ _ => rfl)) (aa_cons (ae_ix ixr_all o_ix (ae_ix ixr_all o_ix (av 7) (av 8) (fun _ _ => rfl)) ae_int (fun _ _ => rfl)) aa_nil)))))
      (ass_one (as_ret ae_bl))
      ass_nil)))
      (ass_one (as_set 2 sc_law.nd rfl (Or.inl rfl) (ae_addF (av 2) (av 7))))))))))
      (ass_one (as_ret (ae_callB (cr_all rfl) o_all rfl T.n_all (by decide +kernel) (aa_cons (ae_fz (ae_lc (own := [("kind", 5), ("args", 9)]) rfl sc_law.nd (ai_seq (ae_revF (av 2))) (blkOk_by (N := N_law) (sc := defScope s_law) (by decide +kernel)) (fun _ _ _ _ _ => (ag_tup rfl (ags_cons (ag_name 5 sc_law.nd rfl (Or.inl rfl)) (ags_cons (ag_name 9 sc_law.nd rfl (Or.inl rfl)) ags_nil)))) (fun _ _ _ _ _ => ats_nil) (fun _ _ _ _ _ => (c_call h_law_right (hr.mono (by decide)) T.g__law_right (aa_cons (av 5) (aa_cons (av 9) aa_nil)))) (by decide))) aa_nil))))))))) (sp1_in (T := fun as _ _ _ => as.length = 1) fun _ _ _ _ _ => rfl) (sp1_in fun _ _ _ _ h => rd_law T.toTK h)
end
theorem facts {P : Program} {w : World} {K : Frg} {h : Heap} {mg : Str → Option Value} {fa : Addr} (X : K.In h) (Gm : h.Ns mainGlobals mg) (hfa : mg ("law" : Str) = some (.ref fa)) (c : SaysG fb fn K) :
    ∃ fd : FuncData, (∀ (s : Shared) (v : Value), BindsTo s fd ⟨[v], []⟩ [("script", v)]) ∧ ∀ base : Heap, K.In base → base.Ns mainGlobals mg → AFn P w K mg base 10 fa fd ["script"] (sp_law K) := by
  have T := txt X Gm c
  have e := hfa.symm.trans T.g_law
  cases e
  obtain ⟨fd, F⟩ := c.def_ 56 (d := d_law) rfl
  have b := FunD.bindsA (ps := ["script"]) F fun _ _ _ _ _ _ us hl => match us, hl with | [_], _ => rfl
  refine ⟨fd, fun s v => b s [v] rfl, fun base _ _ => ?_⟩
  have h_divisor := ok_divisor (P := P) (w := w) (base := base) T (c.def_ 0 (d := d_divisor) rfl) 
  have h_made := ok_made (P := P) (w := w) (base := base) T (c.def_ 1 (d := d_made) rfl) h_divisor
  have h_plus := ok_plus (P := P) (w := w) (base := base) T (c.def_ 2 (d := d_plus) rfl) h_made
  have h_minus := ok_minus (P := P) (w := w) (base := base) T (c.def_ 3 (d := d_minus) rfl) h_made
  have h_times := ok_times (P := P) (w := w) (base := base) T (c.def_ 4 (d := d_times) rfl) h_made
  have h_less := ok_less (P := P) (w := w) (base := base) T (c.def_ 5 (d := d_less) rfl) 
  have h_is_sixteenth := ok_is_sixteenth (P := P) (w := w) (base := base) T (c.def_ 6 (d := d_is_sixteenth) rfl) 
  have h_shade := ok_shade (P := P) (w := w) (base := base) T (c.def_ 7 (d := d_shade) rfl) h_is_sixteenth h_made
  have h_is_shade := ok_is_shade (P := P) (w := w) (base := base) T (c.def_ 8 (d := d_is_shade) rfl) h_less
  have h_grounds := ok_grounds (P := P) (w := w) (base := base) T (c.def_ 9 (d := d_grounds) rfl) 
  have h_laid := ok_laid (P := P) (w := w) (base := base) T (c.def_ 10 (d := d_laid) rfl) h_plus h_times
  have h_behind := ok_behind (P := P) (w := w) (base := base) T (c.def_ 11 (d := d_behind) rfl) h_plus h_times
  have h_mixed := ok_mixed (P := P) (w := w) (base := base) T (c.def_ 12 (d := d_mixed) rfl) h_minus h_plus h_times
  have h_parted := ok_parted (P := P) (w := w) (base := base) T (c.def_ 13 (d := d_parted) rfl) h_grounds h_laid
  have h_stays := ok_stays (P := P) (w := w) (base := base) T (c.def_ 14 (d := d_stays) rfl) h_grounds h_is_shade h_laid
  have h_shade_or_none := ok_shade_or_none (P := P) (w := w) (base := base) T (c.def_ 15 (d := d_shade_or_none) rfl) h_is_shade
  have h_Manner_found := ok_Manner_found (P := P) (w := w) (base := base) T (c.def_ 16 (d := d_Manner_found) rfl) h_shade_or_none
  have h_Over_word := ok_Over_word (P := P) (w := w) (base := base) T (c.def_ 17 (d := d_Over_word) rfl) 
  have h_Over_rule := ok_Over_rule (P := P) (w := w) (base := base) T (c.def_ 18 (d := d_Over_rule) rfl) h_minus
  have h_Under_word := ok_Under_word (P := P) (w := w) (base := base) T (c.def_ 19 (d := d_Under_word) rfl) 
  have h_Under_rule := ok_Under_rule (P := P) (w := w) (base := base) T (c.def_ 20 (d := d_Under_rule) rfl) h_minus
  have h_Screen_word := ok_Screen_word (P := P) (w := w) (base := base) T (c.def_ 21 (d := d_Screen_word) rfl) 
  have h_Screen_rule := ok_Screen_rule (P := P) (w := w) (base := base) T (c.def_ 22 (d := d_Screen_rule) rfl) h_minus
  have h_Times_word := ok_Times_word (P := P) (w := w) (base := base) T (c.def_ 23 (d := d_Times_word) rfl) 
  have h_Times_rule := ok_Times_rule (P := P) (w := w) (base := base) T (c.def_ 24 (d := d_Times_rule) rfl) h_minus h_plus
  have h_Atop_word := ok_Atop_word (P := P) (w := w) (base := base) T (c.def_ 25 (d := d_Atop_word) rfl) 
  have h_Atop_rule := ok_Atop_rule (P := P) (w := w) (base := base) T (c.def_ 26 (d := d_Atop_rule) rfl) h_minus
  have h_Atop_found := ok_Atop_found (P := P) (w := w) (base := base) T (c.def_ 27 (d := d_Atop_found) rfl) h_shade_or_none h_minus
  have h_manner_of := ok_manner_of (P := P) (w := w) (base := base) T (c.def_ 28 (d := d_manner_of) rfl) h_Over_word h_Under_word h_Screen_word h_Times_word h_Atop_word
  have h_weakened := ok_weakened (P := P) (w := w) (base := base) T (c.def_ 29 (d := d_weakened) rfl) h_times
  have h_adjusted := ok_adjusted (P := P) (w := w) (base := base) T (c.def_ 30 (d := d_adjusted) rfl) h_is_sixteenth h_made
  have h_law_well := ok_law_well (P := P) (w := w) (base := base) T (c.def_ 31 (d := d_law_well) rfl) 
  have h_law_draw := ok_law_draw (P := P) (w := w) (base := base) T (c.def_ 32 (d := d_law_draw) rfl) 
  have h_law_made := ok_law_made (P := P) (w := w) (base := base) T (c.def_ 33 (d := d_law_made) rfl) 
  have h_law_plus := ok_law_plus (P := P) (w := w) (base := base) T (c.def_ 34 (d := d_law_plus) rfl) h_law_made
  have h_law_less := ok_law_less (P := P) (w := w) (base := base) T (c.def_ 35 (d := d_law_less) rfl) h_law_made
  have h_law_times := ok_law_times (P := P) (w := w) (base := base) T (c.def_ 36 (d := d_law_times) rfl) h_law_made
  have h_law_is_shade := ok_law_is_shade (P := P) (w := w) (base := base) T (c.def_ 37 (d := d_law_is_shade) rfl) h_law_less
  have h_law_laid := ok_law_laid (P := P) (w := w) (base := base) T (c.def_ 38 (d := d_law_laid) rfl) h_law_plus h_law_times
  have h_law_behind := ok_law_behind (P := P) (w := w) (base := base) T (c.def_ 39 (d := d_law_behind) rfl) h_law_plus h_law_times
  have h_law_mixed := ok_law_mixed (P := P) (w := w) (base := base) T (c.def_ 40 (d := d_law_mixed) rfl) h_law_less h_law_times h_law_plus
  have h_law_manner := ok_law_manner (P := P) (w := w) (base := base) T (c.def_ 41 (d := d_law_manner) rfl) h_law_less h_law_plus
  have h_law_fraction := ok_law_fraction (P := P) (w := w) (base := base) T (c.def_ 42 (d := d_law_fraction) rfl) h_law_draw h_law_made
  have h_law_source := ok_law_source (P := P) (w := w) (base := base) T (c.def_ 43 (d := d_law_source) rfl) h_law_draw h_law_made
  have h_law_word := ok_law_word (P := P) (w := w) (base := base) T (c.def_ 44 (d := d_law_word) rfl) h_law_draw
  have h_law_rule := ok_law_rule (P := P) (w := w) (base := base) T (c.def_ 45 (d := d_law_rule) rfl) h_law_draw h_law_fraction h_law_manner h_law_source h_law_word
  have h_law_thing := ok_law_thing (P := P) (w := w) (base := base) T (c.def_ 46 (d := d_law_thing) rfl) h_law_draw
  have h_law_args := ok_law_args (P := P) (w := w) (base := base) T (c.def_ 47 (d := d_law_args) rfl) h_law_fraction h_law_draw h_law_thing h_law_rule h_law_word h_law_source h_law_manner h_law_behind h_law_made
  have h_law_answer_more := ok_law_answer_more (P := P) (w := w) (base := base) T (c.def_ 49 (d := d_law_answer_more) rfl) h_mixed h_parted h_stays h_manner_of h_Over_rule h_Under_rule h_Screen_rule h_Times_rule h_Atop_rule h_Over_word h_Under_word h_Screen_word h_Times_word h_Atop_word h_Manner_found h_Atop_found h_weakened h_adjusted h_grounds
  have h_law_answer := ok_law_answer (P := P) (w := w) (base := base) T (c.def_ 48 (d := d_law_answer) rfl) h_made h_plus h_minus h_times h_less h_shade h_is_shade h_laid h_behind h_law_answer_more
  have h_law_asked := ok_law_asked (P := P) (w := w) (base := base) T (c.def_ 50 (d := d_law_asked) rfl) h_law_answer
  have h_law_refusal := ok_law_refusal (P := P) (w := w) (base := base) T (c.def_ 51 (d := d_law_refusal) rfl) 
  have h_law_grounds := ok_law_grounds (P := P) (w := w) (base := base) T (c.def_ 52 (d := d_law_grounds) rfl) 
  have h_law_sum_due := ok_law_sum_due (P := P) (w := w) (base := base) T (c.def_ 53 (d := d_law_sum_due) rfl) h_law_plus h_law_less h_law_times h_law_is_shade h_law_made
  have h_law_due := ok_law_due (P := P) (w := w) (base := base) T (c.def_ 54 (d := d_law_due) rfl) h_law_sum_due h_law_laid h_law_behind h_law_mixed h_law_grounds h_law_is_shade h_law_manner h_law_less h_law_times
  have h_law_right := ok_law_right (P := P) (w := w) (base := base) T (c.def_ 55 (d := d_law_right) rfl) h_law_asked h_law_refusal h_law_due
  exact fn_law T F h_law_well h_law_draw h_law_args h_law_right
def loose0 : List Str := ["__name__", "HallError", "NoFraction", "NoShade", "NoManner", "NoGain", "divisor", "made", "plus", "minus", "times", "less", "FULL", "is_sixteenth", "shade", "is_shade", "ZERO", "ONE", "grounds", "laid"]
def loose1 : List Str := ["behind", "mixed", "parted", "stays", "shade_or_none", "Manner", "Over", "Under", "Screen", "Times", "Atop", "manner_of", "weakened", "adjusted", "_law_cell_at", "_law_well", "_law_draw", "_law_made", "_law_plus", "_law_less"]
def loose2 : List Str := ["_law_times", "_law_is_shade", "_law_laid", "_law_behind", "_law_mixed", "_law_manner", "_law_fraction", "_law_source", "_law_word", "_law_rule", "_law_thing", "_law_args", "_law_answer", "_law_answer_more", "_law_asked", "_law_refusal", "_law_grounds", "_law_sum_due", "_law_due", "_law_right"]
def loose : List Str := loose0 ++ loose1 ++ loose2
abbrev R : PySem.W.OpenRow := PySem.W.OpenLaw.row PySem.Challenge.rw_glazehall_k25_whole_small_things_again
abbrev hk : PySem.W.Hook := hookG 5 fb fn
def ob (s : PySem.W.SharedT) : AlG := obsG 5 fb fn (HandSHeadRun.getT s)
theorem ob_eq (s : PySem.W.SharedT) : ob s = hk.obs s.abs := obsG_eq (HandSHeadRun.getT_eq s)
theorem run (w : World) : HandSHeadRun.RunEq R (PySem.W.view R.prog [65]) hk ob 6000 loose w := by
  intro os
  kernel_rfl
end GL
open PySem PySem.W PySem.Calls PyProof.Rows
theorem PySem.Challenge.cw_glazehall_k25_whole_small_things_again_holds : PySem.Challenge.rw_glazehall_k25_whole_small_things_again.Holds := by
  w_on; o_law
  refine HandSHeadRun.head_any (r := OpenLaw.row PySem.Challenge.rw_glazehall_k25_whole_small_things_again) (q := view (OpenLaw.row PySem.Challenge.rw_glazehall_k25_whole_small_things_again).prog [65]) (H := GL.hk) (ob := GL.ob) (M := 6000) (loose := GL.loose) (d := HandSHeadRun.topDef (OpenLaw.row PySem.Challenge.rw_glazehall_k25_whole_small_things_again).prog 65) (kwd := []) GL.ob_eq
    (by kernel_rfl) (fun s => by kernel_rfl) GL.run (by kernel_rfl) (by kernel_rfl) (by kernel_rfl) (by rfl) (by first | assumption | decide +kernel) (by decide +kernel) ⟨rfl, rfl, rfl, rfl, rfl, by decide +kernel⟩ ?hw ?hc
  case hw => w_witness2
  case hc =>
    refine G.law_end (l := PySem.Challenge.rw_glazehall_k25_whole_small_things_again) (k := 10) (sp := GL.sp_law) rfl (by kernel_rfl) ⟨rfl, by decide, by decide⟩ ?F
    intro w mg fa h Y Gm hmg0
    obtain ⟨K, KX, c⟩ := Y
    have hmg : mg ("law" : PySem.Str) = some (.ref fa) := by
      have e : (HandSHeadRun.topDef (OpenLaw.row PySem.Challenge.rw_glazehall_k25_whole_small_things_again).prog 65).name = ("law" : PySem.Str) := by kernel_rfl
      rw [← e]
      exact hmg0
    obtain ⟨fd, hb, hF⟩ := GL.facts (P := (PySem.Challenge.rw_glazehall_k25_whole_small_things_again).prog) (w := w) KX Gm hmg c
    exact ⟨K, fd, KX, hb, fun ns hl hbits => GL.law_reads ns hl hbits, hF⟩
