import PyProof.Rows.All
import Wide.All
import OpenK.AllK
import Wide.FinOn
import HandS.ForMost
import HandS.ForExc
import HandS.ForSpec
import HandS.Walk
import HandS.Defaults
import HandS.IsInst
import HandS.Conv
import HandS.Flow
import HandS.TupAny
import HandS.TupMul
import HandS.TupLe
import HandS.Style
import HandS.Wide
import HandS.RaiseMore
import HandS.Codes
import HandS.Lambda
import HandS.ExcInit
import HandS.ExcField
import HandS.ExcIs
import HandS.TryMany
import HandS.Keys
import KE.KStateDown
import Lean
import HandS.Ends
import HandS.More
import HandS.Words
import HandS.WordsExc
import HandS.Head0
import HandS.Head1
import HandS.Head2
import HandS.HeadEnd
import HandS.HeadHook1
import HandS.HeadHook2
import HandS.HeadHook3
import HandS.HeadHook4
import HandS.HeadWalk
import HandS.EndTab
import KE.GoesEnum
import KE.KSuper
import KE.KExcSuper
import KE.KTupSum
import PySem.Challenge.RW_saidatonce_k44_whole_rounds_and_waiting
set_option Elab.async false
set_option linter.all false
set_option maxRecDepth 100000
set_option maxHeartbeats 4000000
namespace Sa
open PySem PySem.Spec PyProof.Rows L2
/-! ### the text -/
def top (i : Nat) : Stmt := PySem.Challenge.pw_saidatonce_k44_whole_rounds_and_waiting.main.body.getD i (.Pass ⟨0, 0, 0, 0⟩)
/-! ### a frozen part F of the tracked heap H; what a piece of code may do -/
abbrev Sub (F H : Hp) : Prop := ∀ b o, F b = some o → H b = some o
structure Ex (S : Addr → Prop) (F H F' H' : Hp) : Prop where
  f : Sub F F'
  s : Sub F' H'
  n : ∀ b, H b ≠ none → F' b = F b
  k : ∀ b o, ¬ S b → H b = some o → H' b = some o
  l : ∀ b, H b ≠ none → H' b ≠ none
  t : ∀ b, S b → H b ≠ none
/-- nothing may change -/
abbrev S0 : Addr → Prop := fun _ => False
theorem Sub.rfl {H : Hp} : Sub H H := fun _ _ h => h
theorem Sub.tr {A B C : Hp} (a : Sub A B) (b : Sub B C) : Sub A C := fun c o h => b c o (a c o h)
theorem some_ne {α : Type} {x : Option α} {o : α} (h : x = some o) : x ≠ none := by rw [h]; simp
section
variable {S : Addr → Prop} {F H F1 H1 F2 H2 : Hp}
theorem Ex.refl (h : Sub F H) (t : ∀ b, S b → H b ≠ none) : Ex S F H F H := ⟨Sub.rfl, h, fun _ _ => Eq.refl _, fun _ _ _ h => h, fun _ h => h, t⟩
theorem Ex.refl0 (h : Sub F H) : Ex S0 F H F H := Ex.refl h fun _ z => z.elim
theorem Ex.trans (a : Ex S F H F1 H1) (b : Ex S F1 H1 F2 H2) : Ex S F H F2 H2 :=
  ⟨a.f.tr b.f, b.s, fun c h => (b.n c (a.l c h)).trans (a.n c h), fun c o n h => b.k c o n (a.k c o n h), fun c h => b.l c (a.l c h), a.t⟩
theorem Ex.fh (a : Ex S F H F1 H1) : Sub F H1 := a.f.tr a.s
/-- a smaller set -/
theorem Ex.wide {S' : Addr → Prop} (a : Ex S F H F1 H1) (h : ∀ b, S b → S' b) (t : ∀ b, S' b → H b ≠ none) : Ex S' F H F1 H1 :=
  ⟨a.f, a.s, a.n, fun b o n => a.k b o fun z => n (h b z), a.l, t⟩
theorem Ex.of0 (a : Ex S0 F H F1 H1) (t : ∀ b, S b → H b ≠ none) : Ex S F H F1 H1 := a.wide (fun _ z => z.elim) t
theorem Ex.t1 (a : Ex S F H F1 H1) : ∀ b, S b → H1 b ≠ none := fun b z => a.l b (a.t b z)
/-- a step of S0 behind one of S -/
theorem Ex.then0 (a : Ex S F H F1 H1) (b : Ex S0 F1 H1 F2 H2) : Ex S F H F2 H2 := a.trans (b.of0 a.t1)
/-- a new frozen object -/
theorem Ex.new {p : Addr} {o : HO} (h : Sub F H) (hp : H p = none) (t : ∀ b, S b → H b ≠ none) : Ex S F H (upd F p o) (upd H p o) := by
  have fp : F p = none := by
    cases q : F p with
    | none => rfl
    | some u => rw [h p u q] at hp; cases hp
  refine ⟨fun b u e => ?_, fun b u e => ?_, fun b e => ?_, fun b u _ e => ?_, fun b e => ?_, t⟩
  · rw [upd_ne (ne_of_none e fp)]; exact e
  · by_cases hb : b = p
    · subst hb; rw [upd_same] at e ⊢; exact e
    · rw [upd_ne hb] at e ⊢; exact h b u e
  · have hb : b ≠ p := fun z => e (z ▸ hp)
    rw [upd_ne hb]
  · rw [upd_ne (ne_of_none e hp)]; exact e
  · have hb : b ≠ p := fun z => e (z ▸ hp)
    rw [upd_ne hb]; exact e
/-- a new object that is not frozen yet -/
theorem Ex.own {p : Addr} {o : HO} (h : Sub F H) (hp : H p = none) (t : ∀ b, S b → H b ≠ none) : Ex S F H F (upd H p o) := by
  refine ⟨Sub.rfl, fun b u e => ?_, fun b e => rfl, fun b u _ e => ?_, fun b e => ?_, t⟩
  · have z := h b u e
    rw [upd_ne (ne_of_none z hp)]; exact z
  · rw [upd_ne (ne_of_none e hp)]; exact e
  · have hb : b ≠ p := fun z => e (z ▸ hp)
    rw [upd_ne hb]; exact e
/-- an owned object (new since H, or in S) is written -/
theorem Ex.put {p : Addr} {o : HO} (a : Ex S F H F1 H1) (hp : H p = none ∨ S p) (fp : F1 p = none) : Ex S F H F1 (upd H1 p o) := by
  refine ⟨a.f, fun b u e => ?_, a.n, fun b u n e => ?_, fun b e => ?_, a.t⟩
  · rw [upd_ne (ne_of_none e fp)]; exact a.s b u e
  · have hb : b ≠ p := by
      rintro rfl
      rcases hp with z | z
      · rw [z] at e; cases e
      · exact n z
    rw [upd_ne hb]; exact a.k b u n e
  · by_cases hb : b = p
    · subst hb; rw [upd_same]; simp
    · rw [upd_ne hb]; exact a.l b e
/-- an owned new object is frozen -/
theorem Ex.frz {p : Addr} {o : HO} (a : Ex S F H F1 H1) (hp : H p = none) (h1 : H1 p = some o) (fp : F1 p = none) : Ex S F H (upd F1 p o) H1 := by
  refine ⟨fun b u e => ?_, fun b u e => ?_, fun b e => ?_, a.k, a.l, a.t⟩
  · have z := a.f b u e
    rw [upd_ne (ne_of_none z fp)]; exact z
  · by_cases hb : b = p
    · subst hb; rw [upd_same] at e; rw [h1]; exact e
    · rw [upd_ne hb] at e; exact a.s b u e
  · have hb : b ≠ p := fun z => e (z ▸ hp)
    rw [upd_ne hb]; exact a.n b e
/-- an owned object stays -/
theorem Ex.keep {p : Addr} {o : HO} (a : Ex S F H F1 H1) (h : H p = some o) (hs : ¬ S p) (fp : F p = none) : H1 p = some o ∧ F1 p = none :=
  ⟨a.k p o hs h, (a.n p (some_ne h)).trans fp⟩
theorem Ex.old (a : Ex S F H F1 H1) {p : Addr} (h : H1 p = none) : H p = none := by
  cases q : H p with
  | none => rfl
  | some u => exact absurd h (a.l p (some_ne q))
theorem Sub.free (h : Sub F H) {p : Addr} (hp : H p = none) : F p = none := by
  cases q : F p with
  | none => rfl
  | some u => rw [h p u q] at hp; cases hp
theorem Ex.nS (a : Ex S F H F1 H1) {p : Addr} (h : H p = none) : ¬ S p := fun z => a.t p z h
end
theorem Rd.up {F H : Hp} {a : Addr} {u : HO} (e : Sub F H) (h : Rd F a u) : Rd H a u := by
  rcases h with h | ⟨o, h⟩
  · exact .inl (e _ _ h)
  · exact .inr ⟨o, e _ _ h⟩
section
variable {K : PySem.W.Frag} {F H : Hp} {a : Addr} {xs : List V}
theorem SqL.up (e : Sub F H) (h : SqL K F a xs) : SqL K H a xs := h.elim (fun z => .inl (Rd.up e z)) .inr
theorem SqT.up (e : Sub F H) (h : SqT K F a xs) : SqT K H a xs := h.elim (fun z => .inl (Rd.up e z)) .inr
end
/-! ### what a value stands for -/
abbrev Rp (α : Type) := Hp → V → α → Prop
class Mono {α : Type} (r : Rp α) : Prop where
  up : ∀ {F F' : Hp} {v : V} {x : α}, Sub F F' → r F v x → r F' v x
def Ri : Rp Int := fun _ v x => v = .int x
def Rn : Rp Nat := fun _ v x => v = .int (x : Int)
def Rb : Rp Bool := fun _ v x => v = .bl x
def Rs : Rp Str := fun _ v x => v = .str x
def Ro {α : Type} (r : Rp α) : Rp (Option α) := fun F v x => match x with
  | none => v = .non
  | some y => r F v y
def Rl {α : Type} (r : Rp α) : Rp (List α) := fun F v xs => ∃ a vs, v = .ref a ∧ F a = some (.lst vs) ∧ Paired (r F) vs xs
def Rt {α : Type} (r : Rp α) : Rp (List α) := fun F v xs => ∃ a vs, v = .ref a ∧ F a = some (.tup vs) ∧ Paired (r F) vs xs
def R2 {α β : Type} (r : Rp α) (s : Rp β) : Rp (α × β) := fun F v x => ∃ a u w, v = .ref a ∧ F a = some (.tup [u, w]) ∧ r F u x.1 ∧ s F w x.2
def R3 {α β γ : Type} (r : Rp α) (s : Rp β) (t : Rp γ) : Rp (α × β × γ) := fun F v x => ∃ a u w z, v = .ref a ∧ F a = some (.tup [u, w, z]) ∧ r F u x.1 ∧ s F w x.2.1 ∧ t F z x.2.2
theorem tS {K : PySem.W.Frag} {F : Hp} {a : Addr} {xs : List V} (h : F a = some (.tup xs)) : SqT K F a xs := .inl (.inl h)
theorem lS {K : PySem.W.Frag} {F : Hp} {a : Addr} {xs : List V} (h : F a = some (.lst xs)) : SqL K F a xs := .inl (.inl h)
instance : Mono Ri := ⟨fun _ h => h⟩
instance : Mono Rn := ⟨fun _ h => h⟩
instance : Mono Rb := ⟨fun _ h => h⟩
instance : Mono Rs := ⟨fun _ h => h⟩
instance {α : Type} {r : Rp α} [Mono r] : Mono (Ro r) := ⟨fun {F F' v x} e h => by
  cases x with
  | none => exact h
  | some y => exact Mono.up (r := r) e h⟩
theorem Paired.up {α : Type} {r : Rp α} [Mono r] {F F' : Hp} {vs : List V} {xs : List α} (e : Sub F F') (h : Paired (r F) vs xs) : Paired (r F') vs xs := Paired.mono (fun _ _ q => Mono.up e q) h
instance {α : Type} {r : Rp α} [Mono r] : Mono (Rl r) := ⟨fun {F F' v x} e h => by
  obtain ⟨a, vs, rfl, h1, h2⟩ := h
  exact ⟨a, vs, rfl, e _ _ h1, Paired.up e h2⟩⟩
instance {α : Type} {r : Rp α} [Mono r] : Mono (Rt r) := ⟨fun {F F' v x} e h => by
  obtain ⟨a, vs, rfl, h1, h2⟩ := h
  exact ⟨a, vs, rfl, e _ _ h1, Paired.up e h2⟩⟩
instance {α β : Type} {r : Rp α} {s : Rp β} [Mono r] [Mono s] : Mono (R2 r s) := ⟨fun {F F' v x} e h => by
  obtain ⟨a, u, w, rfl, h1, h2, h3⟩ := h
  exact ⟨a, u, w, rfl, e _ _ h1, Mono.up e h2, Mono.up e h3⟩⟩
instance {α β γ : Type} {r : Rp α} {s : Rp β} {t : Rp γ} [Mono r] [Mono s] [Mono t] : Mono (R3 r s t) := ⟨fun {F F' v x} e h => by
  obtain ⟨a, u, w, z, rfl, h1, h2, h3, h4⟩ := h
  exact ⟨a, u, w, z, rfl, e _ _ h1, Mono.up e h2, Mono.up e h3, Mono.up e h4⟩⟩
/-! ### lists of values -/
theorem Paired.get {α β : Type} {F : α → β → Prop} : ∀ {xs : List α} {ys : List β} {i : Nat} {y : β}, Paired F xs ys → ys[i]? = some y → ∃ x, xs[i]? = some x ∧ F x y
  | _, _, _, _, .nil, e => by simp at e
  | _, _, 0, _, .cons r _, e => by simp at e; subst e; exact ⟨_, rfl, r⟩
  | _, _, i + 1, y, .cons _ t, e => by
    obtain ⟨u, h1, h2⟩ := Paired.get (i := i) (y := y) t (by simpa using e)
    exact ⟨u, by simpa using h1, h2⟩
theorem Paired.getL {α β : Type} {F : α → β → Prop} : ∀ {xs : List α} {ys : List β} {i : Nat} {x : α}, Paired F xs ys → xs[i]? = some x → ∃ y, ys[i]? = some y ∧ F x y
  | _, _, _, _, .nil, e => by simp at e
  | _, _, 0, _, .cons r _, e => by simp at e; subst e; exact ⟨_, rfl, r⟩
  | _, _, i + 1, y, .cons _ t, e => by
    obtain ⟨u, h1, h2⟩ := Paired.getL (i := i) (x := y) t (by simpa using e)
    exact ⟨u, by simpa using h1, h2⟩
theorem Paired.app {α β : Type} {F : α → β → Prop} : ∀ {xs xs' : List α} {ys ys' : List β}, Paired F xs ys → Paired F xs' ys' → Paired F (xs ++ xs') (ys ++ ys')
  | _, _, _, _, .nil, h => h
  | _, _, _, _, .cons r t, h => .cons r (Paired.app t h)
theorem Paired.set {α β : Type} {F : α → β → Prop} {x : α} {y : β} (r : F x y) : ∀ {xs : List α} {ys : List β} (i : Nat), Paired F xs ys → Paired F (xs.set i x) (ys.set i y)
  | _, _, _, .nil => .nil
  | _, _, 0, .cons _ t => .cons r t
  | _, _, i + 1, .cons q t => .cons q (Paired.set r i t)
theorem Paired.map2 {α β γ : Type} {F : α → γ → Prop} (f : β → α) (g : β → γ) (h : ∀ b, F (f b) (g b)) : ∀ l : List β, Paired F (l.map f) (l.map g)
  | [] => .nil
  | b :: l => .cons (h b) (Paired.map2 f g h l)
theorem paired_eq {α : Type} {R : V → α → Prop} (f : α → V) (hf : ∀ v x, R v x → v = f x) : ∀ {vs : List V} {xs : List α}, Paired R vs xs → vs = xs.map f
  | _, _, .nil => rfl
  | _, _, .cons r t => by rw [List.map_cons, hf _ _ r, ← paired_eq f hf t]
theorem paired_of {α : Type} {R : V → α → Prop} (f : α → V) (hf : ∀ x, R (f x) x) : ∀ xs : List α, Paired R (xs.map f) xs
  | [] => .nil
  | x :: l => .cons (hf x) (paired_of f hf l)
def ov : Option Int → V
  | none => .non
  | some i => .int i
def nv (n : Nat) : V := .int (n : Int)
theorem paired_ints {F : Hp} {vs : List V} {xs : List Int} (h : Paired (Ri F) vs xs) : vs = xs.map V.int := paired_eq _ (fun _ _ e => e) h
theorem paired_nats {F : Hp} {vs : List V} {xs : List Nat} (h : Paired (Rn F) vs xs) : vs = xs.map nv := paired_eq nv (fun _ _ e => e) h
theorem ro_ov {F : Hp} {v : V} {x : Option Int} (h : Ro Ri F v x) : v = ov x := by
  cases x with
  | none => exact h
  | some i => exact h
theorem ov_ro {F : Hp} (x : Option Int) : Ro Ri F (ov x) x := by
  cases x with
  | none => rfl
  | some i => rfl
theorem paired_ovs {F : Hp} {vs : List V} {xs : List (Option Int)} (h : Paired (Ro Ri F) vs xs) : vs = xs.map ov := paired_eq ov (fun _ _ e => ro_ov e) h
theorem ovs_paired {F : Hp} (xs : List (Option Int)) : Paired (Ro Ri F) (xs.map ov) xs := paired_of ov (fun x => ov_ro x) xs
theorem ints_paired {F : Hp} (xs : List Int) : Paired (Ri F) (xs.map V.int) xs := paired_of V.int (fun _ => rfl) xs
theorem nats_paired {F : Hp} (xs : List Nat) : Paired (Rn F) (xs.map nv) xs := paired_of nv (fun _ => rfl) xs
/-! ### comprehensions over anything that is walked -/
theorem take_snoc {α : Type} {l : List α} {i : Nat} {d : α} (h : l[i]? = some d) : l.take (i + 1) = l.take i ++ [d] := by
  rw [List.take_add_one, h]; rfl
theorem lcX {J : It} {G : Hp → Prop} {Y : Nat → Hp → V → Hp → Prop} {δ ε : Type} {re : Rp ε} [Mono re] {ds : List δ} (w : Walk J ds.length G Y) {S : Addr → Prop} {F1 H1 : Hp} {D : Addr} {g : TG} {tt : TT} {te : TE} {vs : List Nat} {σ : L2.St} {Qd : Hp → Prop}
    (s1 : Sub F1 H1) (t1 : ∀ b, S b → H1 b ≠ none) (hD : H1 D = none) (hn : ds.length < sizeLine) (p : δ → Bool) (f : δ → ε) (hG : ∀ F H, Ex S F1 H1 F H → G H)
    (hs : ∀ i d x F H H', ds[i]? = some d → Ex S F1 H1 F H → Y i H x H' → ∀ (Qy : V → Hp → Prop) (Qn : Hp → Prop),
      (p d = true → ∀ y F' H'', Ex S F H F' H'' → re F' y (f d) → Qy y H'') → (p d = false → ∀ F' H'', Ex S F H F' H'' → Qn H'') →
      g x (wipe σ vs) H' fun σ2 H2 => wipe σ2 vs = wipe σ vs ∧ tt σ2 H2 fun b H3 => if b = true then te σ2 H3 Qy else Qn H3)
    (hd : ∀ F H ys, Ex S F1 H1 F H → F D = none → H D = some (.lst ys) → Paired (re F) ys ((ds.filter p).map f) → Qd H) :
    ∃ W : Nat → Nat → Hp → Prop, (∃ m, W 0 m (upd H1 D (.lst []))) ∧ ∀ i m H, W i m H →
      (J.stop i H ∧ Qd H) ∨ (J.go i H ∧ ∃ Nx : Hp → Prop, (∀ H', Nx H' → ∃ m', m' < m ∧ W (i + 1) m' H') ∧ ∀ x H', J.yld i H x H' → g x (wipe σ vs) H' fun σ2 H2 => wipe σ2 vs = wipe σ vs ∧ tt σ2 H2 fun b H3 =>
        if b = true then te σ2 H3 fun y H4 => ∃ acc, H4 D = some (.lst acc) ∧ acc.length < sizeLine ∧ Nx (upd H4 D (.lst (acc ++ [y]))) else Nx H3) := by
  refine lc_it w (fun i H => ∃ F ys, Ex S F1 H1 F H ∧ F D = none ∧ H D = some (.lst ys) ∧ Paired (re F) ys (((ds.take i).filter p).map f)) ⟨F1, [], Ex.own s1 hD t1, s1.free hD, upd_same, .nil⟩ (fun i H _ ⟨F, ys, e, _⟩ => hG F H e) (fun i x H H' hi P y => ?_) (fun H P => ?_)
  · obtain ⟨F, ys, e, fD, hDy, pr⟩ := P
    have hd' : ds[i]? = some ds[i] := List.getElem?_eq_getElem hi
    refine hs i ds[i] x F H H' hd' e y _ _ (fun hp z F' H'' e' rz => ?_) (fun hp F' H'' e' => ?_)
    · obtain ⟨k1, k2⟩ := e'.keep hDy (e.nS hD) fD
      have hl : ys.length < sizeLine := by
        have h1 := Paired.length pr
        rw [List.length_map] at h1
        have h2 := List.length_filter_le p (ds.take i)
        rw [List.length_take] at h2
        omega
      refine ⟨ys, k1, hl, F', ys ++ [z], (e.trans e').put (.inl hD) k2, k2, upd_same, ?_⟩
      have ef : List.filter p [ds[i]] = [ds[i]] := by simp [hp]
      rw [take_snoc hd', List.filter_append, List.map_append, ef]
      exact Paired.app (Paired.up e'.f pr) (.cons rz .nil)
    · obtain ⟨k1, k2⟩ := e'.keep hDy (e.nS hD) fD
      refine ⟨F', ys, e.trans e', k2, k1, ?_⟩
      have ef : List.filter p [ds[i]] = [] := by simp [hp]
      rw [take_snoc hd', List.filter_append, ef, List.append_nil]
      exact Paired.up e'.f pr
  · obtain ⟨F, ys, e, fD, hDy, pr⟩ := P
    rw [List.take_length] at pr
    exact hd F H ys e fD hDy pr
end Sa
set_option Elab.async false
set_option linter.all false
set_option maxRecDepth 100000
set_option maxHeartbeats 4000000
namespace Sa
open PySem PySem.Spec PyProof.Rows L2
/-! ### statements, names, scopes (printed by gentxt.py) -/
abbrev sisinteger : Stmt := (top 9)
abbrev N_isinteger : List Str := ["value"]
theorem scisinteger : FnScope N_isinteger ["value"] (defScope sisinteger) := C8.fnScope_by (by decide +kernel)
abbrev sisnumber : Stmt := (top 10)
abbrev N_isnumber : List Str := ["value"]
theorem scisnumber : FnScope N_isnumber ["value"] (defScope sisnumber) := C8.fnScope_by (by decide +kernel)
abbrev sisname : Stmt := (top 11)
abbrev N_isname : List Str := ["value", "sign"]
theorem scisname : FnScope N_isname ["value"] (defScope sisname) := C8.fnScope_by (by decide +kernel)
abbrev sisascending : Stmt := (top 12)
abbrev N_isascending : List Str := ["items", "at"]
theorem scisascending : FnScope N_isascending ["items"] (defScope sisascending) := C8.fnScope_by (by decide +kernel)
abbrev sneednumber : Stmt := (top 13)
abbrev N_neednumber : List Str := ["value", "least", "most", "word"]
theorem scneednumber : FnScope N_neednumber ["value", "least", "most", "word"] (defScope sneednumber) := C8.fnScope_by (by decide +kernel)
abbrev sistime : Stmt := (top 18)
abbrev N_istime : List Str := ["value"]
theorem scistime : FnScope N_istime ["value"] (defScope sistime) := C8.fnScope_by (by decide +kernel)
abbrev schecktimes : Stmt := (top 19)
abbrev N_checktimes : List Str := ["table", "value", "thing", "item"]
theorem scchecktimes : FnScope N_checktimes ["table", "value"] (defScope schecktimes) := C8.fnScope_by (by decide +kernel)
abbrev sarebatches : Stmt := (top 20)
abbrev N_arebatches : List Str := ["value", "item"]
theorem scarebatches : FnScope N_arebatches ["value"] (defScope sarebatches) := C8.fnScope_by (by decide +kernel)
abbrev scheckbatches : Stmt := (top 21)
abbrev N_checkbatches : List Str := ["value"]
theorem sccheckbatches : FnScope N_checkbatches ["value"] (defScope scheckbatches) := C8.fnScope_by (by decide +kernel)
abbrev scome : Stmt := (top 22)
abbrev N_come : List Str := ["times", "thing", "time"]
theorem sccome : FnScope N_come ["times"] (defScope scome) := C8.fnScope_by (by decide +kernel)
abbrev smissing : Stmt := (top 23)
abbrev N_missing : List Str := ["times", "thing", "time"]
theorem scmissing : FnScope N_missing ["times"] (defScope smissing) := C8.fnScope_by (by decide +kernel)
abbrev scheckcut : Stmt := (top 25)
abbrev N_checkcut : List Str := ["orders", "many"]
theorem sccheckcut : FnScope N_checkcut ["orders", "many"] (defScope scheckcut) := C8.fnScope_by (by decide +kernel)
abbrev sbestcut : Stmt := (top 26)
abbrev N_bestcut : List Str := ["orders", "many"]
theorem scbestcut : FnScope N_bestcut ["orders", "many"] (defScope sbestcut) := C8.fnScope_by (by decide +kernel)
abbrev sworstcut : Stmt := (top 27)
abbrev N_worstcut : List Str := ["orders", "many", "size", "more"]
theorem scworstcut : FnScope N_worstcut ["orders", "many"] (defScope sworstcut) := C8.fnScope_by (by decide +kernel)
abbrev swaitingof : Stmt := (top 28)
abbrev N_waitingof : List Str := ["cut", "size"]
theorem scwaitingof : FnScope N_waitingof ["cut"] (defScope swaitingof) := C8.fnScope_by (by decide +kernel)
abbrev sstartrow : Stmt := (top 31)
abbrev N_startrow : List Str := ["table", "thing", "other"]
theorem scstartrow : FnScope N_startrow ["table", "thing"] (defScope sstartrow) := C8.fnScope_by (by decide +kernel)
abbrev snextrow : Stmt := (top 32)
abbrev N_nextrow : List Str := ["table", "row", "found", "one", "other", "weight"]
theorem scnextrow : FnScope N_nextrow ["table", "row"] (defScope snextrow) := C8.fnScope_by (by decide +kernel)
abbrev sthinglayers : Stmt := (top 33)
abbrev N_thinglayers : List Str := ["table", "thing", "most", "found", "row"]
theorem scthinglayers : FnScope N_thinglayers ["table", "thing", "most"] (defScope sthinglayers) := C8.fnScope_by (by decide +kernel)
abbrev slayerat : Stmt := (top 34)
abbrev N_layerat : List Str := ["layers", "most"]
theorem sclayerat : FnScope N_layerat ["layers", "most"] (defScope slayerat) := C8.fnScope_by (by decide +kernel)
abbrev salllayers : Stmt := (top 35)
abbrev N_alllayers : List Str := ["table", "many", "thing"]
theorem scalllayers : FnScope N_alllayers ["table"] (defScope salllayers) := C8.fnScope_by (by decide +kernel)
abbrev swalkreach : Stmt := (top 37)
abbrev N_walkreach : List Str := ["batches", "found", "batch"]
theorem scwalkreach : FnScope N_walkreach ["batches"] (defScope swalkreach) := C8.fnScope_by (by decide +kernel)
abbrev sringreach : Stmt := (top 38)
abbrev N_ringreach : List Str := ["batches"]
theorem scringreach : FnScope N_ringreach ["batches"] (defScope sringreach) := C8.fnScope_by (by decide +kernel)
abbrev sistooshort : Stmt := (top 40)
abbrev N_istooshort : List Str := ["every", "times", "most", "one", "row", "other"]
theorem scistooshort : FnScope N_istooshort ["every", "times", "most"] (defScope sistooshort) := C8.fnScope_by (by decide +kernel)
abbrev shasring : Stmt := (top 41)
abbrev N_hasring : List Str := ["every", "times", "most", "thing"]
theorem schasring : FnScope N_hasring ["every", "times", "most"] (defScope shasring) := C8.fnScope_by (by decide +kernel)
abbrev slimits : Stmt := (top 42)
abbrev N_limits : List Str := ["table", "times", "every", "many", "walks", "rings", "most"]
theorem sclimits : FnScope N_limits ["table", "times"] (defScope slimits) := C8.fnScope_by (by decide +kernel)
abbrev sisbelow : Stmt := (top 43)
abbrev N_isbelow : List Str := ["number", "limit"]
theorem scisbelow : FnScope N_isbelow ["number", "limit"] (defScope sisbelow) := C8.fnScope_by (by decide +kernel)
abbrev sreachesfit : Stmt := (top 44)
abbrev N_reachesfit : List Str := ["pair", "walks", "rings"]
theorem screachesfit : FnScope N_reachesfit ["pair", "walks", "rings"] (defScope sreachesfit) := C8.fnScope_by (by decide +kernel)
abbrev siswithin : Stmt := (top 45)
abbrev N_iswithin : List Str := ["pair", "batches"]
theorem sciswithin : FnScope N_iswithin ["pair", "batches"] (defScope siswithin) := C8.fnScope_by (by decide +kernel)
abbrev sroundsby : Stmt := (top 47)
abbrev N_roundsby : List Str := ["pair", "orders", "cut", "found", "many"]
theorem scroundsby : FnScope N_roundsby ["pair", "orders", "cut"] (defScope sroundsby) := C8.fnScope_by (by decide +kernel)
abbrev scheckorders : Stmt := (top 48)
abbrev N_checkorders : List Str := ["table", "times", "orders"]
theorem sccheckorders : FnScope N_checkorders ["table", "times", "orders"] (defScope scheckorders) := C8.fnScope_by (by decide +kernel)
abbrev smostrounds : Stmt := (top 49)
abbrev N_mostrounds : List Str := ["table", "times", "orders"]
theorem scmostrounds : FnScope N_mostrounds ["table", "times", "orders"] (defScope smostrounds) := C8.fnScope_by (by decide +kernel)
abbrev ssurerounds : Stmt := (top 50)
abbrev N_surerounds : List Str := ["table", "times", "orders"]
theorem scsurerounds : FnScope N_surerounds ["table", "times", "orders"] (defScope ssurerounds) := C8.fnScope_by (by decide +kernel)
abbrev sshorterwait : Stmt := (top 51)
abbrev N_shorterwait : List Str := ["one", "other"]
theorem scshorterwait : FnScope N_shorterwait ["one", "other"] (defScope sshorterwait) := C8.fnScope_by (by decide +kernel)
abbrev slaterparts : Stmt := (top 52)
abbrev N_laterparts : List Str := ["pair", "orders", "found", "count", "product", "size", "waiting", "cut", "walks", "told", "rows"]
theorem sclaterparts : FnScope N_laterparts ["pair", "orders"] (defScope slaterparts) := C8.fnScope_by (by decide +kernel)
abbrev sleastwaiting : Stmt := (top 53)
abbrev N_leastwaiting : List Str := ["table", "times", "orders", "pair", "found", "count", "rows", "first", "product", "waiting", "cut"]
theorem scleastwaiting : FnScope N_leastwaiting ["table", "times", "orders"] (defScope sleastwaiting) := C8.fnScope_by (by decide +kernel)
abbrev sarethings : Stmt := (top 58)
abbrev N_arethings : List Str := ["value", "name"]
theorem scarethings : FnScope N_arethings ["value"] (defScope sarethings) := C8.fnScope_by (by decide +kernel)
abbrev sistie : Stmt := (top 59)
abbrev N_istie : List Str := ["value", "many", "one", "other", "weight", "item"]
theorem scistie : FnScope N_istie ["value", "many"] (defScope sistie) := C8.fnScope_by (by decide +kernel)
abbrev sTableinit : Stmt := (inClass (top 60) 0)
abbrev N_Tableinit : List Str := ["self", "things", "ties", "at", "tie"]
theorem scTableinit : FnScope N_Tableinit ["self", "things", "ties"] (defScope sTableinit) := C8.fnScope_by (by decide +kernel)
abbrev sLheap : Stmt := (top 62)
abbrev N_Lheap : List Str := ["_law_script", "_law_cells", "_law_stir", "_law_cell"]
theorem scLheap : FnScope N_Lheap ["_law_script"] (defScope sLheap) := C8.fnScope_by (by decide +kernel)
abbrev sLdraw : Stmt := (top 63)
abbrev N_Ldraw : List Str := ["_law_heap_here", "_law_many", "_law_rest"]
theorem scLdraw : FnScope N_Ldraw ["_law_heap_here", "_law_many"] (defScope sLdraw) := C8.fnScope_by (by decide +kernel)
abbrev sLpick : Stmt := (top 64)
abbrev N_Lpick : List Str := ["_law_heap_here", "_law_some"]
theorem scLpick : FnScope N_Lpick ["_law_heap_here", "_law_some"] (defScope sLpick) := C8.fnScope_by (by decide +kernel)
abbrev sLmixed : Stmt := (top 65)
abbrev N_Lmixed : List Str := ["_law_heap_here", "_law_some", "_law_left", "_law_found", "_law_turn"]
theorem scLmixed : FnScope N_Lmixed ["_law_heap_here", "_law_some"] (defScope sLmixed) := C8.fnScope_by (by decide +kernel)
abbrev sLnames : Stmt := (top 66)
abbrev N_Lnames : List Str := ["_law_heap_here", "_law_many", "_law_letters", "_law_front", "_law_first", "_law_at"]
theorem scLnames : FnScope N_Lnames ["_law_heap_here", "_law_many"] (defScope sLnames) := C8.fnScope_by (by decide +kernel)
abbrev sLtame : Stmt := (top 67)
abbrev N_Ltame : List Str := ["_law_heap_here", "_law_many", "_law_most", "_law_count", "_law_hours", "_law_found", "_law_turn", "_law_one", "_law_other", "_law_thing"]
theorem scLtame : FnScope N_Ltame ["_law_heap_here", "_law_many", "_law_most", "_law_count"] (defScope sLtame) := C8.fnScope_by (by decide +kernel)
abbrev sLrow : Stmt := (top 68)
abbrev N_Lrow : List Str := ["_law_heap_here", "_law_many", "_law_most", "_law_order", "_law_found", "_law_at", "_law_other", "_law_tie"]
theorem scLrow : FnScope N_Lrow ["_law_heap_here", "_law_many", "_law_most"] (defScope sLrow) := C8.fnScope_by (by decide +kernel)
abbrev sLring : Stmt := (top 69)
abbrev N_Lring : List Str := ["_law_heap_here", "_law_many", "_law_most", "_law_order", "_law_found", "_law_over", "_law_at", "_law_step", "_law_tie"]
theorem scLring : FnScope N_Lring ["_law_heap_here", "_law_many", "_law_most"] (defScope sLring) := C8.fnScope_by (by decide +kernel)
abbrev sLties : Stmt := (top 70)
abbrev N_Lties : List Str := ["_law_heap_here", "_law_many", "_law_most", "_law_shape", "_law_found", "_law_pairs", "_law_again", "_law_tie"]
theorem scLties : FnScope N_Lties ["_law_heap_here", "_law_many", "_law_most"] (defScope sLties) := C8.fnScope_by (by decide +kernel)
abbrev sLreaches : Stmt := (top 71)
abbrev N_Lreaches : List Str := ["_law_batches", "_law_walks", "_law_size"]
theorem scLreaches : FnScope N_Lreaches ["_law_batches"] (defScope sLreaches) := C8.fnScope_by (by decide +kernel)
abbrev sLrows : Stmt := (top 72)
abbrev N_Lrows : List Str := ["_law_many", "_law_ties_here", "_law_start", "_law_most", "_law_rows_here", "_law_turn", "_law_row_here", "_law_one", "_law_other", "_law_weight", "_law_thing"]
theorem scLrows : FnScope N_Lrows ["_law_many", "_law_ties_here", "_law_start", "_law_most"] (defScope sLrows) := C8.fnScope_by (by decide +kernel)
abbrev sLallrows : Stmt := (top 73)
abbrev N_Lallrows : List Str := ["_law_many", "_law_ties_here", "_law_thing"]
theorem scLallrows : FnScope N_Lallrows ["_law_many", "_law_ties_here"] (defScope sLallrows) := C8.fnScope_by (by decide +kernel)
abbrev sLtimes : Stmt := (top 74)
abbrev N_Ltimes : List Str := ["_law_heap_here", "_law_rows_here", "_law_times_here", "_law_far", "_law_thing", "_law_said", "_law_time", "_law_one"]
theorem scLtimes : FnScope N_Ltimes ["_law_heap_here", "_law_rows_here"] (defScope sLtimes) := C8.fnScope_by (by decide +kernel)
abbrev sLheld : Stmt := (top 75)
abbrev N_Lheld : List Str := ["_law_rows_here", "_law_times_here", "_law_reaches_here", "_law_walks", "_law_rings", "_law_one", "_law_other", "_law_weight"]
theorem scLheld : FnScope N_Lheld ["_law_rows_here", "_law_times_here", "_law_reaches_here"] (defScope sLheld) := C8.fnScope_by (by decide +kernel)
abbrev sLlimits : Stmt := (top 76)
abbrev N_Llimits : List Str := ["_law_rows_here", "_law_times_here", "_law_many", "_law_found", "_law_missing", "_law_thing", "_law_first", "_law_most"]
theorem scLlimits : FnScope N_Llimits ["_law_rows_here", "_law_times_here"] (defScope sLlimits) := C8.fnScope_by (by decide +kernel)
abbrev sLbelow : Stmt := (top 77)
abbrev N_Lbelow : List Str := ["_law_pair", "_law_reaches_here"]
theorem scLbelow : FnScope N_Lbelow ["_law_pair", "_law_reaches_here"] (defScope sLbelow) := C8.fnScope_by (by decide +kernel)
abbrev sLtold : Stmt := (top 78)
abbrev N_Ltold : List Str := ["_law_deed", "error"]
theorem scLtold : FnScope N_Ltold ["_law_deed"] (defScope sLtold) := C8.fnScope_by (by decide +kernel)
abbrev sLbadtimes : Stmt := (top 79)
abbrev N_Lbadtimes : List Str := ["_law_many", "_law_none", "_law_found"]
theorem scLbadtimes : FnScope N_Lbadtimes ["_law_many"] (defScope sLbadtimes) := C8.fnScope_by (by decide +kernel)
abbrev sLlongring : Stmt := (top 80)
abbrev N_Llongring : List Str := ["_law_heap_here", "_law_many", "_law_size", "_law_order", "_law_over", "_law_found", "_law_at", "_law_weight"]
theorem scLlongring : FnScope N_Llongring ["_law_heap_here", "_law_many"] (defScope sLlongring) := C8.fnScope_by (by decide +kernel)
abbrev sLcuts : Stmt := (top 81)
abbrev N_Lcuts : List Str := ["_law_orders", "_law_found", "_law_at", "_law_cuts_here", "_law_row_here", "_law_ends"]
theorem scLcuts : FnScope N_Lcuts ["_law_orders"] (defScope sLcuts) := C8.fnScope_by (by decide +kernel)
abbrev sLwaiting : Stmt := (top 82)
abbrev N_Lwaiting : List Str := ["_law_cut", "_law_size"]
theorem scLwaiting : FnScope N_Lwaiting ["_law_cut"] (defScope sLwaiting) := C8.fnScope_by (by decide +kernel)
abbrev sLrounds : Stmt := (top 83)
abbrev N_Lrounds : List Str := ["_law_cuts_here", "_law_held_here", "_law_orders", "_law_need_all", "_law_found", "_law_many", "_law_some", "_law_at"]
theorem scLrounds : FnScope N_Lrounds ["_law_cuts_here", "_law_held_here", "_law_orders", "_law_need_all"] (defScope sLrounds) := C8.fnScope_by (by decide +kernel)
abbrev sLcutright : Stmt := (top 84)
abbrev N_Lcutright : List Str := ["_law_rows_here", "_law_times_here", "_law_orders", "_law_told_here", "_law_least", "_law_size"]
theorem scLcutright : FnScope N_Lcutright ["_law_rows_here", "_law_times_here", "_law_orders", "_law_told_here", "_law_least"] (defScope sLcutright) := C8.fnScope_by (by decide +kernel)
abbrev sLright : Stmt := (top 85)
abbrev N_Lright : List Str := ["_law_table", "_law_rows_here", "_law_times_here", "_law_orders", "_law_cuts_here", "_law_pair", "_law_held_here", "_law_told_here", "_law_least", "_law_cut", "_law_at"]
theorem scLright : FnScope N_Lright ["_law_table", "_law_rows_here", "_law_times_here", "_law_orders"] (defScope sLright) := C8.fnScope_by (by decide +kernel)
abbrev sLleastwaiting : Stmt := (top 86)
abbrev N_Lleastwaiting : List Str := ["_law_pair", "_law_orders", "_law_found", "_law_best", "_law_count", "_law_product", "_law_first", "_law_here", "_law_size", "_law_more", "_law_row_here", "_law_cost"]
theorem scLleastwaiting : FnScope N_Lleastwaiting ["_law_pair", "_law_orders"] (defScope sLleastwaiting) := C8.fnScope_by (by decide +kernel)
abbrev sLmanyright : Stmt := (top 87)
abbrev N_Lmanyright : List Str := ["_law_table", "_law_rows_here", "_law_times_here", "_law_orders", "_law_pair", "_law_some", "_law_every", "_law_many", "_law_best", "_law_worst", "_law_told_here", "_law_least"]
theorem scLmanyright : FnScope N_Lmanyright ["_law_table", "_law_rows_here", "_law_times_here", "_law_orders"] (defScope sLmanyright) := C8.fnScope_by (by decide +kernel)
abbrev sLbadright : Stmt := (top 88)
abbrev N_Lbadright : List Str := ["_law_table", "_law_many", "_law_value", "_law_at", "_law_orders", "_law_none"]
theorem scLbadright : FnScope N_Lbadright ["_law_table", "_law_many"] (defScope sLbadright) := C8.fnScope_by (by decide +kernel)
abbrev slaw : Stmt := (top 89)
abbrev N_law : List Str := ["_law_script", "_law_heap_here", "_law_turn", "_law_many", "_law_most", "_law_ties_here", "_law_table", "_law_rows_here", "_law_times_here", "_law_names_here", "_law_ring_here", "_law_at"]
theorem sclaw : FnScope N_law ["_law_script"] (defScope slaw) := C8.fnScope_by (by decide +kernel)
/-- a def of the module as it stands behind the top -/
def Fd (K : PySem.W.Frag) (mg : Str → Option Value) (x : Str) (st : Stmt) : Prop := ∃ f fd, FunD K x x (defArgs st) (defBody st) (defScope st) [] [] f fd ∧ mg x = some (.ref f)
structure Txt (K : PySem.W.Frag) (mg : Str → Option Value) : Prop where
  d_is_integer : Fd K mg "is_integer" sisinteger
  d_is_number : Fd K mg "is_number" sisnumber
  d_is_name : Fd K mg "is_name" sisname
  d_is_ascending : Fd K mg "is_ascending" sisascending
  d_need_number : Fd K mg "need_number" sneednumber
  d_is_time : Fd K mg "is_time" sistime
  d_check_times : Fd K mg "check_times" schecktimes
  d_are_batches : Fd K mg "are_batches" sarebatches
  d_check_batches : Fd K mg "check_batches" scheckbatches
  d_come : Fd K mg "come" scome
  d_missing : Fd K mg "missing" smissing
  d_check_cut : Fd K mg "check_cut" scheckcut
  d_best_cut : Fd K mg "best_cut" sbestcut
  d_worst_cut : Fd K mg "worst_cut" sworstcut
  d_waiting_of : Fd K mg "waiting_of" swaitingof
  d_start_row : Fd K mg "start_row" sstartrow
  d_next_row : Fd K mg "next_row" snextrow
  d_thing_layers : Fd K mg "thing_layers" sthinglayers
  d_layer_at : Fd K mg "layer_at" slayerat
  d_all_layers : Fd K mg "all_layers" salllayers
  d_walk_reach : Fd K mg "walk_reach" swalkreach
  d_ring_reach : Fd K mg "ring_reach" sringreach
  d_is_too_short : Fd K mg "is_too_short" sistooshort
  d_has_ring : Fd K mg "has_ring" shasring
  d_limits : Fd K mg "limits" slimits
  d_is_below : Fd K mg "is_below" sisbelow
  d_reaches_fit : Fd K mg "reaches_fit" sreachesfit
  d_is_within : Fd K mg "is_within" siswithin
  d_rounds_by : Fd K mg "rounds_by" sroundsby
  d_check_orders : Fd K mg "check_orders" scheckorders
  d_most_rounds : Fd K mg "most_rounds" smostrounds
  d_sure_rounds : Fd K mg "sure_rounds" ssurerounds
  d_shorter_wait : Fd K mg "shorter_wait" sshorterwait
  d_later_parts : Fd K mg "later_parts" slaterparts
  d_least_waiting : Fd K mg "least_waiting" sleastwaiting
  d_are_things : Fd K mg "are_things" sarethings
  d_is_tie : Fd K mg "is_tie" sistie
  d__law_heap : Fd K mg "_law_heap" sLheap
  d__law_draw : Fd K mg "_law_draw" sLdraw
  d__law_pick : Fd K mg "_law_pick" sLpick
  d__law_mixed : Fd K mg "_law_mixed" sLmixed
  d__law_names : Fd K mg "_law_names" sLnames
  d__law_tame : Fd K mg "_law_tame" sLtame
  d__law_row : Fd K mg "_law_row" sLrow
  d__law_ring : Fd K mg "_law_ring" sLring
  d__law_ties : Fd K mg "_law_ties" sLties
  d__law_reaches : Fd K mg "_law_reaches" sLreaches
  d__law_rows : Fd K mg "_law_rows" sLrows
  d__law_all_rows : Fd K mg "_law_all_rows" sLallrows
  d__law_times : Fd K mg "_law_times" sLtimes
  d__law_held : Fd K mg "_law_held" sLheld
  d__law_limits : Fd K mg "_law_limits" sLlimits
  d__law_below : Fd K mg "_law_below" sLbelow
  d__law_told : Fd K mg "_law_told" sLtold
  d__law_bad_times : Fd K mg "_law_bad_times" sLbadtimes
  d__law_long_ring : Fd K mg "_law_long_ring" sLlongring
  d__law_cuts : Fd K mg "_law_cuts" sLcuts
  d__law_waiting : Fd K mg "_law_waiting" sLwaiting
  d__law_rounds : Fd K mg "_law_rounds" sLrounds
  d__law_cut_right : Fd K mg "_law_cut_right" sLcutright
  d__law_right : Fd K mg "_law_right" sLright
  d__law_least_waiting : Fd K mg "_law_least_waiting" sLleastwaiting
  d__law_many_right : Fd K mg "_law_many_right" sLmanyright
  d__law_bad_right : Fd K mg "_law_bad_right" sLbadright
  d_law : Fd K mg "law" slaw
  abs : mg "abs" = none
  all : mg "all" = none
  any : mg "any" = none
  bool : mg "bool" = none
  divmod : mg "divmod" = none
  enumerate : mg "enumerate" = none
  int : mg "int" = none
  isinstance : mg "isinstance" = none
  len : mg "len" = none
  list : mg "list" = none
  max : mg "max" = none
  min : mg "min" = none
  range : mg "range" = none
  repr : mg "repr" = none
  sorted : mg "sorted" = none
  str : mg "str" = none
  sum : mg "sum" = none
  super : mg "super" = none
  tuple : mg "tuple" = none
  g_LONGEST_NAME : ∃ u, mg "LONGEST_NAME" = some u ∧ RelV (.int 6) u
  g_MOST_TIME : ∃ u, mg "MOST_TIME" = some u ∧ RelV (.int 1000000000) u
  g_MOST_BATCHES : ∃ u, mg "MOST_BATCHES" = some u ∧ RelV (.int 60) u
  g_MOST_IN_BATCH : ∃ u, mg "MOST_IN_BATCH" = some u ∧ RelV (.int 100) u
  g_MOST_LAYERS : ∃ u, mg "MOST_LAYERS" = some u ∧ RelV (.int 100) u
  g_MOST_THINGS : ∃ u, mg "MOST_THINGS" = some u ∧ RelV (.int 12) u
  g_MOST_TIES : ∃ u, mg "MOST_TIES" = some u ∧ RelV (.int 60) u
  g_MOST_WEIGHT : ∃ u, mg "MOST_WEIGHT" = some u ∧ RelV (.int 1000000) u
  g_LETTERS : ∃ u, mg "LETTERS" = some u ∧ RelV (.str "abcdefghijklmnopqrstuvwxyz") u
section
variable {P : Program} {w : World} {K : PySem.W.Frag} {mg : Str → Option Value} {base : Heap}
theorem mkC {x : Str} {st : Stmt} {N ps : List Str} {k : Nat} {sp : Sp} (F : Fd K mg x st) (S : FnScope N ps (defScope st))
    (hb : ∀ (kV doc pm : Value) (an : Option Addr) (cdv ct : Value) (us : List Value), us.length = ps.length → bindArgs (PySem.W.fnOf x x (defArgs st) (defBody st) (defScope st) .none kV doc pm an cdv ct) ⟨us, []⟩ = pure (ps.zip us))
    (len : ∀ vs H Q E, sp vs H Q E → vs.length = ps.length)
    (hbody : ∀ (f : Addr) (cdv : Value) (A : Around) (outer : List Env) (s : Shared) (H : Hp) (vs : List V) (Q : VK) (E : XK), Room k (A.deeper (envOfC x (defScope st) s.heap.objs.size f cdv)) → sp vs H Q E →
      ∃ t, PSs (cxOf C8.CX0 P w K mg base N x (defScope st) f cdv A outer s H E).nox (defBody st) t ∧ t { nx := fun _ H' => Q .non H', rt := Q } (start N vs) H) : C8.Cal P w K mg base (k + 1) x sp [] := by
  obtain ⟨f, fd, F, hm⟩ := F
  refine ⟨f, fd, ps, [], F.ok S len (fun cdv A outer s H vs Q E hr h => ?_), hm, F.kp, F.bindsN hb, .nil⟩
  obtain ⟨t, h1, h2⟩ := hbody f cdv A outer s H vs Q E hr h
  exact ⟨t, h1.nox, h2⟩
end
end Sa
set_option Elab.async false
set_option linter.all false
set_option maxRecDepth 100000
set_option maxHeartbeats 0
namespace Sa
open PySem PySem.Spec PyProof.Rows L2
def hd_is_integer : He.DefD := ⟨("is_integer", none), "is_integer", "is_integer", defArgs (top 9), defBody (top 9), defScope (top 9), [], []⟩
def hd_is_number : He.DefD := ⟨("is_number", none), "is_number", "is_number", defArgs (top 10), defBody (top 10), defScope (top 10), [], []⟩
def hd_is_name : He.DefD := ⟨("is_name", none), "is_name", "is_name", defArgs (top 11), defBody (top 11), defScope (top 11), [], []⟩
def hd_is_ascending : He.DefD := ⟨("is_ascending", none), "is_ascending", "is_ascending", defArgs (top 12), defBody (top 12), defScope (top 12), [], []⟩
def hd_need_number : He.DefD := ⟨("need_number", none), "need_number", "need_number", defArgs (top 13), defBody (top 13), defScope (top 13), [], []⟩
def hd_is_time : He.DefD := ⟨("is_time", none), "is_time", "is_time", defArgs (top 18), defBody (top 18), defScope (top 18), [], []⟩
def hd_check_times : He.DefD := ⟨("check_times", none), "check_times", "check_times", defArgs (top 19), defBody (top 19), defScope (top 19), [], []⟩
def hd_are_batches : He.DefD := ⟨("are_batches", none), "are_batches", "are_batches", defArgs (top 20), defBody (top 20), defScope (top 20), [], []⟩
def hd_check_batches : He.DefD := ⟨("check_batches", none), "check_batches", "check_batches", defArgs (top 21), defBody (top 21), defScope (top 21), [], []⟩
def hd_come : He.DefD := ⟨("come", none), "come", "come", defArgs (top 22), defBody (top 22), defScope (top 22), [], []⟩
def hd_missing : He.DefD := ⟨("missing", none), "missing", "missing", defArgs (top 23), defBody (top 23), defScope (top 23), [], []⟩
def hd_check_cut : He.DefD := ⟨("check_cut", none), "check_cut", "check_cut", defArgs (top 25), defBody (top 25), defScope (top 25), [], []⟩
def hd_best_cut : He.DefD := ⟨("best_cut", none), "best_cut", "best_cut", defArgs (top 26), defBody (top 26), defScope (top 26), [], []⟩
def hd_worst_cut : He.DefD := ⟨("worst_cut", none), "worst_cut", "worst_cut", defArgs (top 27), defBody (top 27), defScope (top 27), [], []⟩
def hd_waiting_of : He.DefD := ⟨("waiting_of", none), "waiting_of", "waiting_of", defArgs (top 28), defBody (top 28), defScope (top 28), [], []⟩
def hd_start_row : He.DefD := ⟨("start_row", none), "start_row", "start_row", defArgs (top 31), defBody (top 31), defScope (top 31), [], []⟩
def hd_next_row : He.DefD := ⟨("next_row", none), "next_row", "next_row", defArgs (top 32), defBody (top 32), defScope (top 32), [], []⟩
def hd_thing_layers : He.DefD := ⟨("thing_layers", none), "thing_layers", "thing_layers", defArgs (top 33), defBody (top 33), defScope (top 33), [], []⟩
def hd_layer_at : He.DefD := ⟨("layer_at", none), "layer_at", "layer_at", defArgs (top 34), defBody (top 34), defScope (top 34), [], []⟩
def hd_all_layers : He.DefD := ⟨("all_layers", none), "all_layers", "all_layers", defArgs (top 35), defBody (top 35), defScope (top 35), [], []⟩
def hd_walk_reach : He.DefD := ⟨("walk_reach", none), "walk_reach", "walk_reach", defArgs (top 37), defBody (top 37), defScope (top 37), [], []⟩
def hd_ring_reach : He.DefD := ⟨("ring_reach", none), "ring_reach", "ring_reach", defArgs (top 38), defBody (top 38), defScope (top 38), [], []⟩
def hd_is_too_short : He.DefD := ⟨("is_too_short", none), "is_too_short", "is_too_short", defArgs (top 40), defBody (top 40), defScope (top 40), [], []⟩
def hd_has_ring : He.DefD := ⟨("has_ring", none), "has_ring", "has_ring", defArgs (top 41), defBody (top 41), defScope (top 41), [], []⟩
def hd_limits : He.DefD := ⟨("limits", none), "limits", "limits", defArgs (top 42), defBody (top 42), defScope (top 42), [], []⟩
def hd_is_below : He.DefD := ⟨("is_below", none), "is_below", "is_below", defArgs (top 43), defBody (top 43), defScope (top 43), [], []⟩
def hd_reaches_fit : He.DefD := ⟨("reaches_fit", none), "reaches_fit", "reaches_fit", defArgs (top 44), defBody (top 44), defScope (top 44), [], []⟩
def hd_is_within : He.DefD := ⟨("is_within", none), "is_within", "is_within", defArgs (top 45), defBody (top 45), defScope (top 45), [], []⟩
def hd_rounds_by : He.DefD := ⟨("rounds_by", none), "rounds_by", "rounds_by", defArgs (top 47), defBody (top 47), defScope (top 47), [], []⟩
def hd_check_orders : He.DefD := ⟨("check_orders", none), "check_orders", "check_orders", defArgs (top 48), defBody (top 48), defScope (top 48), [], []⟩
def hd_most_rounds : He.DefD := ⟨("most_rounds", none), "most_rounds", "most_rounds", defArgs (top 49), defBody (top 49), defScope (top 49), [], []⟩
def hd_sure_rounds : He.DefD := ⟨("sure_rounds", none), "sure_rounds", "sure_rounds", defArgs (top 50), defBody (top 50), defScope (top 50), [], []⟩
def hd_shorter_wait : He.DefD := ⟨("shorter_wait", none), "shorter_wait", "shorter_wait", defArgs (top 51), defBody (top 51), defScope (top 51), [], []⟩
def hd_later_parts : He.DefD := ⟨("later_parts", none), "later_parts", "later_parts", defArgs (top 52), defBody (top 52), defScope (top 52), [], []⟩
def hd_least_waiting : He.DefD := ⟨("least_waiting", none), "least_waiting", "least_waiting", defArgs (top 53), defBody (top 53), defScope (top 53), [], []⟩
def hd_are_things : He.DefD := ⟨("are_things", none), "are_things", "are_things", defArgs (top 58), defBody (top 58), defScope (top 58), [], []⟩
def hd_is_tie : He.DefD := ⟨("is_tie", none), "is_tie", "is_tie", defArgs (top 59), defBody (top 59), defScope (top 59), [], []⟩
def hd_Table_init : He.DefD := ⟨("Table", some "__init__"), "__init__", "Table.__init__", defArgs (inClass (top 60) 0), defBody (inClass (top 60) 0), defScope (inClass (top 60) 0), [], []⟩
def hd_Table_eq : He.DefD := ⟨("Table", some "__eq__"), "__eq__", "Table.__eq__", defArgs (inClass (top 60) 1), defBody (inClass (top 60) 1), defScope (inClass (top 60) 1), [], []⟩
def hd__law_heap : He.DefD := ⟨("_law_heap", none), "_law_heap", "_law_heap", defArgs (top 62), defBody (top 62), defScope (top 62), [], []⟩
def hd__law_draw : He.DefD := ⟨("_law_draw", none), "_law_draw", "_law_draw", defArgs (top 63), defBody (top 63), defScope (top 63), [], []⟩
def hd__law_pick : He.DefD := ⟨("_law_pick", none), "_law_pick", "_law_pick", defArgs (top 64), defBody (top 64), defScope (top 64), [], []⟩
def hd__law_mixed : He.DefD := ⟨("_law_mixed", none), "_law_mixed", "_law_mixed", defArgs (top 65), defBody (top 65), defScope (top 65), [], []⟩
def hd__law_names : He.DefD := ⟨("_law_names", none), "_law_names", "_law_names", defArgs (top 66), defBody (top 66), defScope (top 66), [], []⟩
def hd__law_tame : He.DefD := ⟨("_law_tame", none), "_law_tame", "_law_tame", defArgs (top 67), defBody (top 67), defScope (top 67), [], []⟩
def hd__law_row : He.DefD := ⟨("_law_row", none), "_law_row", "_law_row", defArgs (top 68), defBody (top 68), defScope (top 68), [], []⟩
def hd__law_ring : He.DefD := ⟨("_law_ring", none), "_law_ring", "_law_ring", defArgs (top 69), defBody (top 69), defScope (top 69), [], []⟩
def hd__law_ties : He.DefD := ⟨("_law_ties", none), "_law_ties", "_law_ties", defArgs (top 70), defBody (top 70), defScope (top 70), [], []⟩
def hd__law_reaches : He.DefD := ⟨("_law_reaches", none), "_law_reaches", "_law_reaches", defArgs (top 71), defBody (top 71), defScope (top 71), [], []⟩
def hd__law_rows : He.DefD := ⟨("_law_rows", none), "_law_rows", "_law_rows", defArgs (top 72), defBody (top 72), defScope (top 72), [], []⟩
def hd__law_all_rows : He.DefD := ⟨("_law_all_rows", none), "_law_all_rows", "_law_all_rows", defArgs (top 73), defBody (top 73), defScope (top 73), [], []⟩
def hd__law_times : He.DefD := ⟨("_law_times", none), "_law_times", "_law_times", defArgs (top 74), defBody (top 74), defScope (top 74), [], []⟩
def hd__law_held : He.DefD := ⟨("_law_held", none), "_law_held", "_law_held", defArgs (top 75), defBody (top 75), defScope (top 75), [], []⟩
def hd__law_limits : He.DefD := ⟨("_law_limits", none), "_law_limits", "_law_limits", defArgs (top 76), defBody (top 76), defScope (top 76), [], []⟩
def hd__law_below : He.DefD := ⟨("_law_below", none), "_law_below", "_law_below", defArgs (top 77), defBody (top 77), defScope (top 77), [], []⟩
def hd__law_told : He.DefD := ⟨("_law_told", none), "_law_told", "_law_told", defArgs (top 78), defBody (top 78), defScope (top 78), [], []⟩
def hd__law_bad_times : He.DefD := ⟨("_law_bad_times", none), "_law_bad_times", "_law_bad_times", defArgs (top 79), defBody (top 79), defScope (top 79), [], []⟩
def hd__law_long_ring : He.DefD := ⟨("_law_long_ring", none), "_law_long_ring", "_law_long_ring", defArgs (top 80), defBody (top 80), defScope (top 80), [], []⟩
def hd__law_cuts : He.DefD := ⟨("_law_cuts", none), "_law_cuts", "_law_cuts", defArgs (top 81), defBody (top 81), defScope (top 81), [], []⟩
def hd__law_waiting : He.DefD := ⟨("_law_waiting", none), "_law_waiting", "_law_waiting", defArgs (top 82), defBody (top 82), defScope (top 82), [], []⟩
def hd__law_rounds : He.DefD := ⟨("_law_rounds", none), "_law_rounds", "_law_rounds", defArgs (top 83), defBody (top 83), defScope (top 83), [], []⟩
def hd__law_cut_right : He.DefD := ⟨("_law_cut_right", none), "_law_cut_right", "_law_cut_right", defArgs (top 84), defBody (top 84), defScope (top 84), [], []⟩
def hd__law_right : He.DefD := ⟨("_law_right", none), "_law_right", "_law_right", defArgs (top 85), defBody (top 85), defScope (top 85), [], []⟩
def hd__law_least_waiting : He.DefD := ⟨("_law_least_waiting", none), "_law_least_waiting", "_law_least_waiting", defArgs (top 86), defBody (top 86), defScope (top 86), [], []⟩
def hd__law_many_right : He.DefD := ⟨("_law_many_right", none), "_law_many_right", "_law_many_right", defArgs (top 87), defBody (top 87), defScope (top 87), [], []⟩
def hd__law_bad_right : He.DefD := ⟨("_law_bad_right", none), "_law_bad_right", "_law_bad_right", defArgs (top 88), defBody (top 88), defScope (top 88), [], []⟩
def hd_law : He.DefD := ⟨("law", none), "law", "law", defArgs (top 89), defBody (top 89), defScope (top 89), [], []⟩
def fnL : List He.DefD := [hd_is_integer, hd_is_number, hd_is_name, hd_is_ascending, hd_need_number, hd_is_time, hd_check_times, hd_are_batches, hd_check_batches, hd_come, hd_missing, hd_check_cut, hd_best_cut, hd_worst_cut, hd_waiting_of, hd_start_row, hd_next_row, hd_thing_layers, hd_layer_at, hd_all_layers, hd_walk_reach, hd_ring_reach, hd_is_too_short, hd_has_ring, hd_limits, hd_is_below, hd_reaches_fit, hd_is_within, hd_rounds_by, hd_check_orders, hd_most_rounds, hd_sure_rounds, hd_shorter_wait, hd_later_parts, hd_least_waiting, hd_are_things, hd_is_tie, hd_Table_init, hd_Table_eq, hd__law_heap, hd__law_draw, hd__law_pick, hd__law_mixed, hd__law_names, hd__law_tame, hd__law_row, hd__law_ring, hd__law_ties, hd__law_reaches, hd__law_rows, hd__law_all_rows, hd__law_times, hd__law_held, hd__law_limits, hd__law_below, hd__law_told, hd__law_bad_times, hd__law_long_ring, hd__law_cuts, hd__law_waiting, hd__law_rounds, hd__law_cut_right, hd__law_right, hd__law_least_waiting, hd__law_many_right, hd__law_bad_right, hd_law]
def faL : List He.Fa := [.glo "is_integer", .glo "is_number", .glo "is_name", .glo "is_ascending", .glo "need_number", .glo "is_time", .glo "check_times", .glo "are_batches", .glo "check_batches", .glo "come", .glo "missing", .glo "check_cut", .glo "best_cut", .glo "worst_cut", .glo "waiting_of", .glo "start_row", .glo "next_row", .glo "thing_layers", .glo "layer_at", .glo "all_layers", .glo "walk_reach", .glo "ring_reach", .glo "is_too_short", .glo "has_ring", .glo "limits", .glo "is_below", .glo "reaches_fit", .glo "is_within", .glo "rounds_by", .glo "check_orders", .glo "most_rounds", .glo "sure_rounds", .glo "shorter_wait", .glo "later_parts", .glo "least_waiting", .glo "are_things", .glo "is_tie", .glo "_law_heap", .glo "_law_draw", .glo "_law_pick", .glo "_law_mixed", .glo "_law_names", .glo "_law_tame", .glo "_law_row", .glo "_law_ring", .glo "_law_ties", .glo "_law_reaches", .glo "_law_rows", .glo "_law_all_rows", .glo "_law_times", .glo "_law_held", .glo "_law_limits", .glo "_law_below", .glo "_law_told", .glo "_law_bad_times", .glo "_law_long_ring", .glo "_law_cuts", .glo "_law_waiting", .glo "_law_rounds", .glo "_law_cut_right", .glo "_law_right", .glo "_law_least_waiting", .glo "_law_many_right", .glo "_law_bad_right", .glo "law", .glo "HourError", .glo "InvalidTable", .glo "InvalidTimes", .glo "InvalidNumber", .glo "Refused", .glo "Table", .free "ValueError", .free "abs", .free "all", .free "any", .free "bool", .free "divmod", .free "enumerate", .free "int", .free "isinstance", .free "len", .free "list", .free "max", .free "min", .free "range", .free "repr", .free "sorted", .free "str", .free "sum", .free "super", .free "tuple", .int "LONGEST_NAME" 6, .int "MOST_TIME" 1000000000, .int "MOST_BATCHES" 60, .int "MOST_IN_BATCH" 100, .int "MOST_LAYERS" 100, .int "MOST_THINGS" 12, .int "MOST_TIES" 60, .int "MOST_WEIGHT" 1000000, .str "LETTERS" "abcdefghijklmnopqrstuvwxyz", .cls "Table", .noat "Table" "things", .noat "Table" "ties", .mkr "Table", .exm "Refused" "Refused" true, .exm "InvalidNumber" "Refused" false, .exm "InvalidTimes" "Refused" false, .exm "InvalidNumber" "InvalidNumber" true, .exm "InvalidTimes" "InvalidNumber" false, .exm "InvalidTimes" "InvalidTimes" true]
def nms0 : List PySem.Str := [("HourError" : PySem.Str), ("InvalidTable" : PySem.Str), ("InvalidTimes" : PySem.Str), ("InvalidNumber" : PySem.Str), ("Refused" : PySem.Str), ("LETTERS" : PySem.Str), ("LONGEST_NAME" : PySem.Str), ("is_integer" : PySem.Str), ("is_number" : PySem.Str), ("is_name" : PySem.Str), ("is_ascending" : PySem.Str), ("need_number" : PySem.Str), ("MOST_TIME" : PySem.Str), ("MOST_BATCHES" : PySem.Str), ("MOST_IN_BATCH" : PySem.Str), ("is_time" : PySem.Str), ("check_times" : PySem.Str), ("are_batches" : PySem.Str), ("check_batches" : PySem.Str), ("come" : PySem.Str), ("missing" : PySem.Str), ("check_cut" : PySem.Str), ("best_cut" : PySem.Str), ("worst_cut" : PySem.Str), ("waiting_of" : PySem.Str), ("MOST_LAYERS" : PySem.Str), ("start_row" : PySem.Str), ("next_row" : PySem.Str), ("thing_layers" : PySem.Str), ("layer_at" : PySem.Str)]
def nms1 : List PySem.Str := [("all_layers" : PySem.Str), ("walk_reach" : PySem.Str), ("ring_reach" : PySem.Str), ("is_too_short" : PySem.Str), ("has_ring" : PySem.Str), ("limits" : PySem.Str), ("is_below" : PySem.Str), ("reaches_fit" : PySem.Str), ("is_within" : PySem.Str), ("rounds_by" : PySem.Str), ("check_orders" : PySem.Str), ("most_rounds" : PySem.Str), ("sure_rounds" : PySem.Str), ("shorter_wait" : PySem.Str), ("later_parts" : PySem.Str), ("least_waiting" : PySem.Str), ("MOST_THINGS" : PySem.Str), ("MOST_TIES" : PySem.Str), ("MOST_WEIGHT" : PySem.Str), ("are_things" : PySem.Str), ("is_tie" : PySem.Str), ("Table" : PySem.Str), ("_law_heap" : PySem.Str), ("_law_draw" : PySem.Str), ("_law_pick" : PySem.Str), ("_law_mixed" : PySem.Str), ("_law_names" : PySem.Str), ("_law_tame" : PySem.Str), ("_law_row" : PySem.Str), ("_law_ring" : PySem.Str)]
def nms2 : List PySem.Str := [("_law_ties" : PySem.Str), ("_law_reaches" : PySem.Str), ("_law_rows" : PySem.Str), ("_law_all_rows" : PySem.Str), ("_law_times" : PySem.Str), ("_law_held" : PySem.Str), ("_law_limits" : PySem.Str), ("_law_below" : PySem.Str), ("_law_told" : PySem.Str), ("_law_bad_times" : PySem.Str), ("_law_long_ring" : PySem.Str), ("_law_cuts" : PySem.Str), ("_law_waiting" : PySem.Str), ("_law_rounds" : PySem.Str), ("_law_cut_right" : PySem.Str), ("_law_right" : PySem.Str), ("_law_least_waiting" : PySem.Str), ("_law_many_right" : PySem.Str), ("_law_bad_right" : PySem.Str)]
def nmsL : List PySem.Str := nms0 ++ nms1 ++ nms2
/-! ### the exceptions' __init__ -/
abbrev SupW : Type := Option (Str × Str × Arguments × FuncBody × Scope × Addr × List Str × Addr)
def supW (K : PySem.W.Frag) (x : Str) : SupW := match K.lookup (He.fAd K (x, some "__init__")) with
  | some ⟨_, _, .func fd, _⟩ => some (fd.name, fd.qualname, fd.params, fd.body, fd.scope, fd.globals, fd.closure.map (·.1), fd.builtins)
  | _ => none
def supV (x : Str) (st : Stmt) : SupW := some ("__init__", x ++ ".__init__", defArgs st, .stmts (defBody st), defScope st, mainGlobals, ["__class__"], builtinsNs)
def theP : Program := (PySem.Challenge.rw_saidatonce_k44_whole_rounds_and_waiting).prog
def codB (K : PySem.W.Frag) (v : Value) (q : Str) : Bool := match v with
  | .ref c => PySem.W.codeIn K (.ref c) q && (match K.lookup c with
    | some ⟨_, _, .fields vs, _⟩ => (match (vs[2]? : Option Value) with
      | some (.str file _) => ((theP.main.file : Str) == file)
      | _ => false)
    | _ => false)
  | _ => false
def celB (K : PySem.W.Frag) (l : List (Str × Addr)) (C : Addr) : Bool := match l with
  | [(_, c)] => (match K.lookup c with
    | some ⟨_, _, .cell (some (.ref D)), _⟩ => decide (D = C)
    | _ => false)
  | _ => false
def nonB (v : Value) : Bool := match v with
  | .none => true
  | _ => false
def fdB (K : PySem.W.Frag) (x : Str) : Bool := match K.lookup (He.fAd K (x, some "__init__")) with
  | some ⟨_, _, .func fd, _⟩ => codB K fd.code (x ++ ".__init__") && (celB K fd.closure (He.ga K x) && nonB fd.defaults)
  | _ => false
def oexB (K : PySem.W.Frag) (C : Addr) : Bool := match K.lookup C with
  | some ⟨.type "type", _, .cls cd, sl⟩ => (match cd.mro, sl.toList with
    | .ref D :: bm, [_, _, _, _, some (.builtin i), _] => decide (D = C) && (decide (i = "ValueError.__new__") && (!cd.hasDel && (cd.hasDict && PySem.HandSPX.refsVE bm)))
    | _, _ => false)
  | _ => false
def clsB (K : PySem.W.Frag) (C I : Addr) (fl : Str) : Bool :=
  (PySem.W.clsIn K C).isSome && (decide (PySem.W.mroIn K C (.ref C) = some true) && (He.eqO (PySem.W.ks_superIn K C C "__init__") (some (some (.builtin "ValueError.__init__"))) && (decide (PySem.W.subIn K (.ref C) (.type "ValueError") = some true) && (He.eqO (PySem.W.nsIn K cStatics "thirdparty.any") (some none) &&
  (He.eqO (PySem.W.findIn K (.ref C) fl) (some none) && (He.eqO (PySem.W.findIn K (.ref C) "__init__") (some (some (.ref I))) && (decide (PySem.W.typeIn K (.ref I) = some (.type "function")) && (xfB K C && (He.eqO (PySem.W.findIn K (.ref C) "__setattr__") (some (some (.builtin "object.__setattr__"))) &&
  (decide (PySem.W.typeIn K (.ref C) = some (.type "type")) && PySem.W.keepIn K (.ref C)))))))))))
def supB (K : PySem.W.Frag) (x fl : Str) : Bool := fdB K x && (oexB K (He.ga K x) && clsB K (He.ga K x) (He.fAd K (x, some "__init__")) fl)
def refB (K : PySem.W.Frag) (C D : Addr) : Bool := He.eqO (PySem.W.findIn K (.ref C) "__class__") (some (some (.builtin "object.__class__"))) && (He.eqO (PySem.W.specialIn K (.builtin "object.__class__") "__get__") (some (some (.builtin "getset_descriptor.__get__"))) &&
  (decide (PySem.W.takesIn K (.builtin "object.__class__") = some true) && (decide (PySem.W.mroIn K C (.type "object") = some true) && decide (PySem.W.kitOne K (.ref C) (.ref D) = some false))))
def tfL : List He.Defn := [("_law_right", none), ("_law_many_right", none), ("_law_bad_right", none)]
def tabAd (K : PySem.W.Frag) (p : He.Defn) : Addr := (He.cT K p).2
def exL (K : PySem.W.Frag) : Bool := supB K "InvalidTimes" "at" && (supB K "InvalidNumber" "word" && (supB K "Refused" "word" && (refB K (He.ga K "Refused") (He.ga K "InvalidNumber") && decide ((tfL.map (tabAd K)).Nodup))))
/-! ### the Hook -/
/-- what these name -/
def refsZ (g : Addr → Option Obj) (l : List Addr) : List Addr := l.flatMap fun a => match g a with
  | some o => He.refsD o
  | none => []
/-- what the dicts among these name -/
def dicsZ (g : Addr → Option Obj) (l : List Addr) : List Addr := l.flatMap fun a => match g a with
  | some ⟨_, _, .dict es _, _⟩ => es.toList.flatMap fun e => He.refV e.val
  | _ => []
def asZ (g : Addr → Option Obj) : List Addr := cStatics :: mainGlobals :: (dicsZ g [mainGlobals] ++ (refsZ g (dicsZ g [mainGlobals]) ++ (dicsZ g (refsZ g (dicsZ g [mainGlobals])) ++ refsZ g (dicsZ g (refsZ g (dicsZ g [mainGlobals]))))))
def frZ (g : Addr → Option Obj) : PySem.W.Frag := He.frT g (asZ g)
def tabZ (g : Addr → Option Obj) (K : PySem.W.Frag) (p : He.Defn) : Bool := PySem.W.codeHdIn K (He.cT K p).1 (tabAd K p) && (match g (tabAd K p) with
  | some o => He.emptyTab o
  | none => false)
abbrev AlZ : Type := He.AlT × Bool × List SupW
def obsZK (g : Addr → Option Obj) (K : PySem.W.Frag) : AlZ := (He.obsT faL fnL [] K, exL K && tfL.all (tabZ g K), [supW K "InvalidTimes", supW K "InvalidNumber", supW K "Refused"])
def obsZ (g : Addr → Option Obj) : AlZ := obsZK g (frZ g)
def valZ (w : World) : AlZ := (He.valT fnL [] w, true, [supV "InvalidTimes" (inClass (top 3) 0), supV "InvalidNumber" (inClass (top 4) 0), supV "Refused" (inClass (top 5) 0)])
structure SaysZ (w : World) (h : Heap) (K : PySem.W.Frag) : Prop where
  t : He.SaysT faL fnL [] w K
  ex : exL K = true
  hd : ∀ p ∈ tfL, PySem.W.codeHdIn K (He.cT K p).1 (tabAd K p) = true
  out : ∀ p ∈ tfL, K.lookup (tabAd K p) = none
  emp : ∀ p ∈ tfL, h.get? (tabAd K p) = some { cls := .none, data := .fields #[] }
  sT : supW K "InvalidTimes" = supV "InvalidTimes" (inClass (top 3) 0)
  sN : supW K "InvalidNumber" = supV "InvalidNumber" (inClass (top 4) 0)
  sR : supW K "Refused" = supV "Refused" (inClass (top 5) 0)
theorem saysZ_of {w : World} {h : Heap} (e : obsZ h.get? = valZ w) : SaysZ w h (frZ h.get?) := by
  have e1 : He.obsT faL fnL [] (frZ h.get?) = He.valT fnL [] w := congrArg (fun z : AlZ => z.1) e
  have e2 : (exL (frZ h.get?) && tfL.all (tabZ h.get? (frZ h.get?))) = true := congrArg (fun z : AlZ => z.2.1) e
  have e3 : [supW (frZ h.get?) "InvalidTimes", supW (frZ h.get?) "InvalidNumber", supW (frZ h.get?) "Refused"] = _ := congrArg (fun z : AlZ => z.2.2) e
  injection e3 with s1 e3
  injection e3 with s2 e3
  injection e3 with s3 e3
  obtain ⟨x1, x2⟩ := He.ba e2
  have key : ∀ p ∈ tfL, PySem.W.codeHdIn (frZ h.get?) (He.cT (frZ h.get?) p).1 (tabAd (frZ h.get?) p) = true ∧ ∃ o, h.get? (tabAd (frZ h.get?) p) = some o ∧ He.emptyTab o = true := by
    intro p hp
    obtain ⟨y1, y2⟩ := He.ba (List.all_eq_true.mp x2 p hp)
    refine ⟨y1, ?_⟩
    split at y2
    · rename_i o ho
      exact ⟨o, ho, y2⟩
    · cases y2
  refine ⟨e1, x1, fun p hp => (key p hp).1, fun p hp => ?_, fun p hp => ?_, s1, s2, s3⟩
  · obtain ⟨_, o, h1, h2⟩ := key p hp
    exact He.frT_none h1 h2
  · obtain ⟨_, o, h1, h2⟩ := key p hp
    rw [h1, He.emptyTab_eq h2]
def hkZ : PySem.W.Hook where
  α := AlZ
  obs := fun s => obsZ s.heap.get?
  val := fun w => valZ w
  says := fun w h => ∃ K : PySem.W.Frag, K.In h ∧ SaysZ w h K
  of := fun _ _ e => ⟨_, He.frT_in, saysZ_of e⟩
  keeps := fun _ _ _ ⟨K, hK, c⟩ k => ⟨K, PySem.W.Frag.In.keeps hK k, ⟨c.t, c.ex, c.hd, c.out, fun p hp => k _ _ (c.emp p hp), c.sT, c.sN, c.sR⟩⟩
def obZ (s : PySem.W.SharedT) : AlZ := obsZ (HandSHeadRun.getT s)
theorem obZ_eq (s : PySem.W.SharedT) : obZ s = hkZ.obs s.abs := by
  have e : HandSHeadRun.getT s = s.abs.heap.get? := funext (HandSHeadRun.getT_eq s)
  show obsZ (HandSHeadRun.getT s) = obsZ s.abs.heap.get?
  rw [e]
abbrev theR : PySem.W.OpenRow := PySem.W.OpenLaw.row PySem.Challenge.rw_saidatonce_k44_whole_rounds_and_waiting
theorem runZ (w : World) : HandSHeadRun.RunEq theR (PySem.W.view theR.prog [89]) hkZ obZ 5000 nmsL w := by
  intro os
  kernel_rfl
end Sa
set_option Elab.async false
set_option linter.all false
set_option maxRecDepth 100000
set_option maxHeartbeats 4000000
namespace Sa
open PySem PySem.Spec PyProof.Rows L2
/-! ### enumerate over a tuple -/
theorem enT_new (t : Addr) (vs : Array Value) :
    Meets (Builtin.«enumerate.__new__» ⟨[.type "enumerate", .ref t], []⟩) (fun _ R s => s.heap.IsTuple t vs ∧
      R (.ok (.ret (.ref (s.heap.push { cls := .type "tuple_iterator", data := .fields #[.ref t, .int 0 0] }).objs.size)))
        { s with heap := (s.heap.push { cls := .type "tuple_iterator", data := .fields #[.ref t, .int 0 0] }).push { cls := .type "enumerate", data := .fields #[.none, .bool false, .ref s.heap.objs.size, rawInt 0, .none, .none] } }) :=
  .of_wp fun prog w A R s hh => by
    obtain ⟨h0, g, d, tk, os⟩ := s
    obtain ⟨ht, h⟩ := hh
    have sub1 := sub_enumerate
    have go : ∀ {A' : Around} {E : Value → Shared → Prop} {Q : Value → Shared → Prop}, Q (.ref h0.objs.size) ⟨h0.push { cls := .type "tuple_iterator", data := .fields #[.ref t, .int 0 0] }, g, d, tk, os⟩ →
        wpAny (model prog w) A' (pyIter (.ref t)) Q E ⟨h0, g, d, tk, os⟩ := fun q => wpAny_pyIter_tuple (s := ⟨h0, g, d, tk, os⟩) ht q
    wp_walk using go
    refine wpAny_stack_any fun st => wpAny_pure ?_
    split
    · rename_i c _ _ _ _ _
      cases (c == Value.type "enumerate")
      · (wp_walk using go); exact ⟨_, rfl, h⟩
      · (wp_walk using go); exact ⟨_, rfl, h⟩
    · (wp_walk using go); exact ⟨_, rfl, h⟩
theorem enT_call {prog : Program} {w : World} {A : Around} {E : Value → Shared → Prop} {s : Shared} {t : Addr} {vs : Array Value} {Q : Value → Shared → Prop} (ht : s.heap.IsTuple t vs)
    (h : ∀ h', IsEnum h' (s.heap.objs.size + 1) s.heap.objs.size 0 .none → h'.IsTupleIter s.heap.objs.size t 0 → h'.objs.size = s.heap.objs.size + 2 → (∀ b o, s.heap.get? b = some o → h'.get? b = some o) → Q (.ref (s.heap.objs.size + 1)) { s with heap := h' }) :
    wpAny (model prog w) A (call (.type "enumerate") [.ref t]) Q E s := by
  refine callType_new F.called_enumerate (by decide) (F.typeCall_enumerate_1 _) (F.newCall_enumerate_1 _) (fun o => F.args_object_init_2 o _) F.entry_enumerate_new (enT_new t vs) ⟨ht, ?_⟩
  have sz : (s.heap.push { cls := .type "tuple_iterator", data := .fields #[.ref t, .int 0 0] }).objs.size = s.heap.objs.size + 1 := Heap.size_push ..
  show _ ∧ _
  rw [sz]
  have e1 := Heap.get?_push_size (s.heap.push { cls := .type "tuple_iterator", data := .fields #[.ref t, .int 0 0] }) (o := { cls := .type "enumerate", data := .fields #[.none, .bool false, .ref s.heap.objs.size, rawInt 0, .none, .none] }) rfl
  rw [sz] at e1
  exact ⟨⟨_, e1, rfl⟩, h _ e1 ⟨_, Heap.get?_push_of_some _ (Heap.get?_push_size _ rfl), rfl, rfl⟩ (by rw [Heap.size_push, sz]) fun b o x => Heap.get?_push_of_some _ (Heap.get?_push_of_some _ x)⟩
theorem enT_end {prog : Program} {w : World} {A : Around} {E : Value → Shared → Prop} {s : Shared} {e it t : Addr} {i : Nat} {vs : Array Value} {old : Value} {Q : Option Value → Shared → Prop} (hh : A.handled = none)
    (he : IsEnum s.heap e it i old) (hit : s.heap.IsTupleIter it t i) (ht : s.heap.IsTuple t vs) (hx : vs[i]? = none) (hQ : ∀ h', Heap.ExtBut it s.heap h' → Q none { s with heap := h' }) : wpAny (model prog w) A (pyNext (.ref e)) Q E s := by
  have ty : s.TypeIs (.ref e) "enumerate" := ⟨_, he, rfl⟩
  unfold pyNext
  refine wpAny_bind (wpAny_attempt (wpAny_callSpecial?_slot (name := Str.ofString "__next__") ty F.slot_enumerate_next (wpAny_call_entry F.slot_enumerate_next ty F.entry_enumerate_next ?_ (F.args_enumerate_next_1 _))))
  show wpAny _ _ (field (.ref e) 2 >>= _) _ _ _
  refine wpAny_bind (wpAny_field he rfl (x := .ref it) rfl ?_)
  refine wpAny_bind (wpAny_nextOf_tuple_end (show A.in1.handled = none from hh) hit ht hx fun h' x e1 hx' => ?_)
  obtain ⟨o, ho, hc⟩ := hx'
  exact wpAny_bind (wpAny_isInstance (T := "StopIteration") (b := true) ⟨o, ho, hc⟩ isSubtype_stop (wpAny_pure (hQ _ e1)))
/-- the tuple at a, each item in a new pair -/
def IteT (K : PySem.W.Frag) (a : Addr) : It :=
  ⟨fun i H => ∃ (xs : List V) (x : V), SqT K H a xs ∧ xs[i]? = some x, fun i H v H' => ∃ T x, v = .ref T ∧ H T = none ∧ H' = upd H T (.tup [.int (i : Nat), x]) ∧ ∀ xs, SqT K H a xs → xs[i]? = some x, fun i H => ∃ xs : List V, SqT K H a xs ∧ xs.length ≤ i⟩
theorem enT_turn {P : Program} {w : World} {K : PySem.W.Frag} {elts : List Expr} {kk : Nat} {tpos : Pos} (a e it : Addr) (hai : a ≠ it) :
    Turn P w K (.Tuple elts kk tpos) (IteT K a) [e, it] e (fun i h => (∃ old, IsEnum h e it ((i : Nat) : Int) old) ∧ h.IsTupleIter it a i ∧ e ≠ it ∧ e ≠ a) where
  mem := by simp
  obj := fun i h st b hb => by
    obtain ⟨⟨old, he⟩, ⟨o, ho, hc, hd⟩, _⟩ := st
    rcases List.mem_cons.mp hb with z | z
    · rw [z]; exact ⟨_, he, fun v q => nomatch q⟩
    · rw [List.mem_singleton.mp z]; exact ⟨o, ho, fun v q => by rw [hd] at q; cases q⟩
  keep := fun i h h' st k => by
    obtain ⟨⟨old, he⟩, hi, h1, h2⟩ := st
    exact ⟨⟨old, k e (by simp) _ he⟩, hi.at fun o q => k it (by simp) o q, h1, h2⟩
  item := by
    intro X hP hw hK hc i pins s σ H E I hf st hg
    subst hP hw hK
    obtain ⟨⟨old, he⟩, hit, hne, hea⟩ := st
    obtain ⟨xs, x, hq, hx⟩ := hg
    obtain ⟨its, rv, p, hz⟩ := I.tuple hq
    obtain ⟨u, hu, ru⟩ := rv.get hx
    have hel : e < s.heap.objs.size := Heap.lt_size he
    have hil : it < s.heap.objs.size := by obtain ⟨_, q, _⟩ := hit; exact Heap.lt_size q
    have lt : i < its.toArray.size := by
      have := (List.getElem?_eq_some_iff.mp hu).1
      simpa using this
    refine wpAny_pyNext_enum_itemD (Draws.tuple (A := X.A.in1) (show X.A.in1.handled = none from I.ok.hd hc) it a hai its.toArray) he ⟨hit, p⟩ lt hne (by simp [hne, hea]) fun y h' tk hy ho hs' hT hsz hk => ?_
    have ey : y = u := by
      have h2 : its.toArray[i]? = some u := by simpa using hu
      rw [h2] at hy
      exact (Option.some.inj hy).symm
    subst ey
    refine ⟨_, rfl, wpAny_letOwnedTupleGo_enum (s := { s with heap := h', toks := tk + 1 }) ho fun h2 he' sb => ?_⟩
    have hT2 : h2.get? s.heap.objs.size = some { cls := .type "tuple", data := .seq #[.int i tk, y] } := (sb.2 _ (Nat.ne_of_gt hel)).trans hT
    have new : ObjOk X.prog X.w (upd H s.heap.objs.size (.tup [.int (i : Nat), x])) h2 s.heap.objs.size (.tup [.int (i : Nat), x]) :=
      ⟨by show 2 ≤ sizeLine; decide, [.int i tk, y], .cons ⟨_, rfl⟩ (.cons ru .nil), ⟨_, hT2, rfl, _, rfl⟩⟩
    have I1 : Inv X pins σ (upd H s.heap.objs.size (.tup [.int (i : Nat), x])) { s with heap := h2, toks := tk + 1 } :=
      I.turnedNew (ch := [e, it]) (fun b ob hb q => (sb.2 b (fun z => hb (by simp [z]))).trans (hk b ob (fun z => hb (by simp [z])) (fun z => hb (by simp [z])) q)) hf (Nat.le_refl _) new
    refine ⟨.ref s.heap.objs.size, _, I1, rfl, ⟨_, x, rfl, I.hok.fresh (Nat.le_refl _), rfl, fun ys hy => by rw [I.tuple_inj hy hq]; exact hx⟩, ⟨⟨y, ?_⟩, hs'.1.at fun o q => (sb.2 it (Ne.symm hne)).trans q, hne, hea⟩, fun b hb => ?_⟩
    · have e1 : ((i + 1 : Nat) : Int) = (i : Int) + 1 := by omega
      rw [e1]
      exact he'
    · have hb2 : b < s.heap.objs.size := by
        rcases List.mem_cons.mp hb with z | z
        · rw [z]; exact hel
        · rw [List.mem_singleton.mp z]; exact hil
      rw [upd_ne (Nat.ne_of_lt hb2)]
      exact (hf b hb).1
  done := by
    intro X hP hw hK hc i pins s σ H E I hf st hg
    subst hP hw hK
    obtain ⟨⟨old, he⟩, hit, hne, hea⟩ := st
    obtain ⟨xs, hq, hx⟩ := hg
    obtain ⟨its, rv, p, hz⟩ := I.tuple hq
    obtain ⟨f0, f1, f2, f3, f4, f5⟩ := hf it (by simp)
    have hl := rv.length
    exact enT_end (I.ok.hd hc) he hit p (by simp; omega) fun h' eb => ⟨rfl, I.turned (t' := s.toks) (fun b o hb q => eb b o hb q) f0 f1 f3 f4 f5⟩
  self := fun A i s Q E st h => let ⟨⟨_, he⟩, _⟩ := st; wpAny_pyIter_enum he h
def iEnT (K : PySem.W.Frag) (ta : TA) : TI := fun σ H R => ta σ H fun vs H1 => ∃ a xs, vs = [.ref a] ∧ SqT K H1 a xs ∧ R (IteT K a) H1
theorem pi_enumT {X : Cx} {e : Expr} {ta : TA} {p pos tpos : Pos} {elts : List Expr} {kk : Nat} (hg : Gl X "enumerate") (hm : X.mg "enumerate" = none) (ha : PA X [e] ta) (hs : starEach [e] X.env = [(false, eval e X.env)] := by rfl) :
    PI X (.Tuple elts kk tpos) (.Call (.Name "enumerate" p) [e] [] pos) (iEnT X.K ta) := by
  refine ⟨fun pins s σ H R I h => ?_⟩
  refine Call_ (ld_blt I hg hm boot_enumerate (PyProof.Rows.callWith_type1 (thn (ha.run pos pins s σ H _ I h) fun us s1 ⟨vs, H1, I1, r1, q1⟩ => ?_) hs rfl))
  obtain ⟨a, xs, ex, hq, q⟩ := q1
  subst ex
  cases r1 with
  | cons r rr =>
    cases rr
    cases r
    obtain ⟨its, rv, pt, hz⟩ := I1.tuple hq
    have la : a < s1.heap.objs.size := by obtain ⟨o, q, _⟩ := pt; exact Heap.lt_size q
    refine enT_call pt fun h' he hit hsz hk => wpAny_pyIter_enum he ?_
    have I2 : Inv X pins σ H1 { s1 with heap := h' } := I1.kept (t' := s1.toks) hk
    refine ⟨s1.heap.objs.size + 1, [s1.heap.objs.size + 1, s1.heap.objs.size], _, _, H1, rfl, I2, enT_turn a (s1.heap.objs.size + 1) s1.heap.objs.size (Nat.ne_of_lt la), ⟨⟨.none, he⟩, hit, Nat.succ_ne_self _, Nat.ne_of_gt (Nat.lt_succ_of_lt la)⟩, fun b hb => ?_, q⟩
    have hle : s1.heap.objs.size ≤ b := by
      rcases List.mem_cons.mp hb with z | z
      · rw [z]; exact Nat.le_add_right _ _
      · rw [List.mem_singleton.mp z]; exact Nat.le_refl _
    exact I1.fpOk hle (I1.hok.fresh hle)
theorem walk_enumT {K : PySem.W.Frag} {a : Addr} {xs : List V} : Walk (IteT K a) xs.length (fun H => SqT K H a xs) (YPair (fun i => some (.int (i : Nat))) (fun i => xs[i]?)) := by
  refine ⟨fun i _ hi q => ⟨xs, xs[i], q, List.getElem?_eq_getElem hi⟩, fun _ q => ⟨xs, q, Nat.le_refl _⟩, fun i H v H' _ q y => ?_⟩
  obtain ⟨T, x, h1, h2, h3, h4⟩ := y
  exact ⟨T, .int (i : Nat), x, h1, h2, h3, rfl, h4 xs q⟩
end Sa
set_option Elab.async false
set_option linter.all false
set_option maxRecDepth 100000
set_option maxHeartbeats 4000000
namespace Sa
open PySem PySem.Spec PyProof.Rows L2
/-! ### t * k for any k from 0 on -/
theorem mulT_one (l : Addr) (vs : Array Value) (n : Nat) (dd : Option Addr) (sl : Array (Option Value)) (u : Tok) :
    Meets (Builtin.«tuple.__mul__» ⟨[.ref l, .int 1 u], []⟩) (fun _ R s => s.heap.get? l = some { cls := .type "tuple", dict := dd, data := .seq vs n, slots := sl } ∧ R (.ok (.ret (.ref l))) s) :=
  .of_wp fun prog w A R s hh => by
    obtain ⟨h0, g, d, tk, os⟩ := s
    obtain ⟨hl, h⟩ := hh
    have f1 := AutoSeq1.idx_int
    wp_walk using wpAny_loadPart' hl
    repeat (first
      | (refine wpAny_ite_true (by simp) ?_; wp_walk using wpAny_loadPart' hl)
      | (refine wpAny_ite_false (by simp) ?_; wp_walk using wpAny_loadPart' hl))
    all_goals exact ⟨_, rfl, h⟩
theorem mulT_zero (l : Addr) (vs : Array Value) (n : Nat) (dd : Option Addr) (sl : Array (Option Value)) (u : Tok) (hv : vs.isEmpty = false) :
    Meets (Builtin.«tuple.__mul__» ⟨[.ref l, .int 0 u], []⟩) (fun _ R s => s.heap.get? l = some { cls := .type "tuple", dict := dd, data := .seq vs n, slots := sl } ∧
      R (.ok (.ret (.ref s.heap.objs.size))) { s with heap := s.heap.push { cls := .type "tuple", data := .seq #[] } }) :=
  .of_wp fun prog w A R s hh => by
    obtain ⟨h0, g, d, tk, os⟩ := s
    obtain ⟨hl, h⟩ := hh
    have f1 := AutoSeq1.idx_int
    wp_walk using wpAny_loadPart' hl
    repeat (first
      | (refine wpAny_ite_false (by simp [hv]) ?_; wp_walk using wpAny_loadPart' hl)
      | (refine wpAny_ite_true (by simp) ?_; wp_walk using wpAny_loadPart' hl))
    all_goals exact ⟨_, rfl, h⟩
def rRepA (K : PySem.W.Frag) : L2.R2 := fun x y H Q => ∃ (l : Addr) (k : Nat) (xs : List V), x = .ref l ∧ y = .int (k : Int) ∧ SqT K H l xs ∧ xs ≠ [] ∧ k ≤ 1000 ∧ xs.length ≤ 1000 ∧ (k = 1 → Q (.ref l) H) ∧
  (k ≠ 1 → ∀ p, H p = none → Q (.ref p) (upd H p (.tup (List.replicate k xs).flatten)))
theorem op_repA {X : Cx} : OpR X (binaryOp .Mult) (rRepA X.K) := by
  intro pins s σ H x y v u Q I rx ry h
  obtain ⟨l, k, xs, rfl, rfl, hT, hne, h2, hz, q1, q⟩ := h
  by_cases hk : 2 ≤ k
  · exact op_repT pins s σ H _ _ v u Q I rx ry ⟨l, k, xs, rfl, rfl, hT, hne, by omega, by omega, hz, fun p hp => by
      have := q (by omega) p hp
      rw [show (k : Int).toNat = k from Int.toNat_natCast k]
      exact this⟩
  · cases rx
    obtain ⟨t, rfl⟩ := ry
    obtain ⟨its, r, ⟨⟨cls, dd, data, sl⟩, ho, hc, n, hd⟩, hs⟩ := I.tuple hT
    simp only at hc hd
    subst hc hd
    have hi : its.toArray.isEmpty = false := by
      cases its with
      | nil => cases r; exact absurd rfl hne
      | cons a b => rfl
    by_cases h1 : k = 1
    · subst h1
      exact wpAny_binaryOp_repeat_ref (T := "tuple") (U := "int") (by decide) ⟨_, ho, rfl⟩ (fun s' => typeIs_int s' _ t) noFill_tuple_mul F.fills_int_mul F.slot_int_rmul repeat_tuple F.slot_int_index.lookup
        (call_meets F.slot_int_rmul (typeIs_int s _ t) F.entry_int_rmul (F.args_int_rmul_2 _ _) (int_rmul_tuple _ t l its.toArray n dd sl)
          ⟨ho, rfl, ⟨_, ho, rfl⟩, call_meets F.slot_tuple_mul ⟨_, ho, rfl⟩ F.entry_tuple_mul (F.args_tuple_mul_2 _ _) (mulT_one l its.toArray n dd sl t) ⟨ho, .ref l, H, I, rfl, q1 rfl⟩⟩)
    · obtain rfl : k = 0 := by omega
      refine wpAny_binaryOp_repeat_ref (T := "tuple") (U := "int") (by decide) ⟨_, ho, rfl⟩ (fun s' => typeIs_int s' _ t) noFill_tuple_mul F.fills_int_mul F.slot_int_rmul repeat_tuple F.slot_int_index.lookup
        (call_meets F.slot_int_rmul (typeIs_int s _ t) F.entry_int_rmul (F.args_int_rmul_2 _ _) (int_rmul_tuple _ t l its.toArray n dd sl)
          ⟨ho, rfl, ⟨_, ho, rfl⟩, call_meets F.slot_tuple_mul ⟨_, ho, rfl⟩ F.entry_tuple_mul (F.args_tuple_mul_2 _ _) (mulT_zero l its.toArray n dd sl t hi) ⟨ho, ?_⟩⟩)
      refine ⟨.ref s.heap.objs.size, _, I.laid (t' := s.toks) (o := .tup []) (fun b ob z => Heap.get?_push_of_some _ z) (Nat.le_refl _) ⟨Nat.zero_le _, [], .nil, IsTup.new _ _⟩, rfl, q (by omega) _ (I.hok.fresh (Nat.le_refl _))⟩
end Sa
set_option Elab.async false
set_option linter.all false
set_option maxRecDepth 100000
set_option maxHeartbeats 4000000
namespace Sa
open PySem PySem.Spec PyProof.Rows L2
/-! ### data, deep == -/
def opy : Option Int → PyData
  | none => .none
  | some i => .int i
theorem dp_up {K : PySem.W.Frag} {F H : Hp} (e : Sub F H) : ∀ (d : PyData) (v : V), Dp K F v d → Dp K H v d := by
  intro d v h
  refine @Dp.rec K F (fun v d _ => Dp K H v d) (fun vs ds _ => DpAll K H vs ds) ?_ ?_ ?_ ?_ ?_ ?_ ?_ ?_ v d h
  · exact .non
  · exact fun b => .bl b
  · exact fun b => .int b
  · exact fun b => .str b
  · exact fun hs _ ih => .lst (SqL.up e hs) ih
  · exact fun hs _ ih => .tup (SqT.up e hs) ih
  · exact .nil
  · exact fun _ _ h1 h2 => .cons h1 h2
theorem dpAll_map {K : PySem.W.Frag} {H : Hp} {α : Type} (f : α → V) (g : α → PyData) (h : ∀ x, Dp K H (f x) (g x)) : ∀ xs : List α, DpAll K H (xs.map f) (xs.map g)
  | [] => .nil
  | x :: xs => .cons (h x) (dpAll_map f g h xs)
theorem dpAll_of {K : PySem.W.Frag} {H : Hp} {α : Type} {r : V → α → Prop} (g : α → PyData) (h : ∀ v x, r v x → Dp K H v (g x)) : ∀ {vs : List V} {xs : List α}, Paired r vs xs → DpAll K H vs (xs.map g)
  | _, _, .nil => .nil
  | _, _, .cons a t => .cons (h _ _ a) (dpAll_of g h t)
theorem dp_ov {K : PySem.W.Frag} {H : Hp} (x : Option Int) : Dp K H (ov x) (opy x) := by
  cases x with
  | none => exact .non
  | some i => exact .int i
theorem dp_tint {K : PySem.W.Frag} {H : Hp} {a : Addr} {ns : List Int} (h : SqT K H a (ns.map V.int)) : Dp K H (.ref a) (.tuple (ns.map PyData.int)) := .tup h (dpAll_map _ _ (fun i => .int i) ns)
theorem dp_lint {K : PySem.W.Frag} {H : Hp} {a : Addr} {ns : List Int} (h : SqL K H a (ns.map V.int)) : Dp K H (.ref a) (.list (ns.map PyData.int)) := .lst h (dpAll_map _ _ (fun i => .int i) ns)
theorem dp_topt {K : PySem.W.Frag} {H : Hp} {a : Addr} {ns : List (Option Int)} (h : SqT K H a (ns.map ov)) : Dp K H (.ref a) (.tuple (ns.map opy)) := .tup h (dpAll_map _ _ dp_ov ns)
theorem canLayAll_map {α : Type} (g : α → PyData) (h : ∀ x, (g x).canLay0 = true) : ∀ xs : List α, PyData.canLayAll0 (xs.map g) = true
  | [] => rfl
  | x :: xs => by
    rw [List.map_cons]
    unfold PyData.canLayAll0
    rw [h x, canLayAll_map g h xs]
    rfl
theorem depthAll_map {α : Type} (g : α → PyData) (n : Nat) (h : ∀ x, (g x).depth ≤ n) : ∀ xs : List α, PyData.depthAll (xs.map g) ≤ n
  | [] => Nat.zero_le _
  | x :: xs => by
    rw [List.map_cons]
    unfold PyData.depthAll
    exact Nat.max_le.mpr ⟨h x, depthAll_map g n h xs⟩
theorem opy_can (x : Option Int) : (opy x).canLay0 = true := by cases x <;> rfl
theorem opy_dep (x : Option Int) : (opy x).depth ≤ 0 := by cases x <;> exact Nat.le_refl _
theorem shaped_of {d : PyData} (h1 : d.canLay0 = true) (h2 : d.depth ≤ 64) : SeqAt.shaped d = true := by
  unfold SeqAt.shaped
  rw [h1, decide_eq_true h2]; rfl
theorem shaped_tup {xs : List PyData} (h1 : PyData.canLayAll0 xs = true) (h2 : PyData.depthAll xs ≤ 63) : SeqAt.shaped (.tuple xs) = true := by
  refine shaped_of (by unfold PyData.canLay0; exact h1) ?_
  unfold PyData.depth
  omega
theorem shaped_lst {xs : List PyData} (h1 : PyData.canLayAll0 xs = true) (h2 : PyData.depthAll xs ≤ 63) : SeqAt.shaped (.list xs) = true := by
  refine shaped_of (by unfold PyData.canLay0; exact h1) ?_
  unfold PyData.depth
  omega
theorem int_can (x : Int) : (PyData.int x).canLay0 = true := rfl
theorem int_dep (x : Int) : (PyData.int x).depth ≤ 0 := Nat.le_refl _
theorem shaped_ti (ns : List Int) : SeqAt.shaped (.tuple (ns.map PyData.int)) = true := shaped_tup (canLayAll_map _ int_can ns) (Nat.le_trans (depthAll_map _ 0 int_dep ns) (by omega))
theorem shaped_li (ns : List Int) : SeqAt.shaped (.list (ns.map PyData.int)) = true := shaped_lst (canLayAll_map _ int_can ns) (Nat.le_trans (depthAll_map _ 0 int_dep ns) (by omega))
theorem shaped_to (ns : List (Option Int)) : SeqAt.shaped (.tuple (ns.map opy)) = true := shaped_tup (canLayAll_map _ opy_can ns) (Nat.le_trans (depthAll_map _ 0 opy_dep ns) (by omega))
theorem eqvAll_map {α : Type} [DecidableEq α] (g : α → PyData) (h : ∀ x y, PyData.eqv (g x) (g y) = decide (x = y)) : ∀ xs ys : List α, PyData.eqvAll (xs.map g) (ys.map g) = decide (xs = ys)
  | [], [] => rfl
  | [], y :: ys => by
    rw [List.map_cons, List.map_nil]
    unfold PyData.eqvAll
    exact (decide_eq_false (by simp)).symm
  | x :: xs, [] => by
    rw [List.map_cons, List.map_nil]
    unfold PyData.eqvAll
    exact (decide_eq_false (by simp)).symm
  | x :: xs, y :: ys => by
    rw [List.map_cons, List.map_cons]
    unfold PyData.eqvAll
    rw [h, eqvAll_map g h xs ys]
    by_cases e : x = y <;> by_cases e2 : xs = ys <;> simp [e, e2]
theorem eqv_tup (xs ys : List PyData) : PyData.eqv (.tuple xs) (.tuple ys) = PyData.eqvAll xs ys := rfl
theorem eqv_lst (xs ys : List PyData) : PyData.eqv (.list xs) (.list ys) = PyData.eqvAll xs ys := rfl
theorem eqv_opy (x y : Option Int) : PyData.eqv (opy x) (opy y) = decide (x = y) := by
  cases x with
  | none => cases y <;> rfl
  | some i => cases y with
    | none => rfl
    | some j =>
      show (i == j) = _
      by_cases e : i = j
      · subst e; simp
      · rw [decide_eq_false (fun z => e (Option.some.inj z))]; exact beq_eq_false_iff_ne.mpr e
theorem eqv_int (i j : Int) : PyData.eqv (.int i) (.int j) = decide (i = j) := by
  show (i == j) = _
  by_cases e : i = j
  · subst e; simp
  · rw [decide_eq_false e]; exact beq_eq_false_iff_ne.mpr e
/-! ### (waiting, cut) <= (waiting, cut): the lesser waiting is less; of equal ones any answer -/
def leC (ns ms : List Int) : Bool := Ob.lexAt (fun n => decide (ns.getD n 0 = ms.getD n 0)) (fun n => decide (ns.getD n 0 ≤ ms.getD n 0)) (decide (ns.length ≤ ms.length)) 0 (min ns.length ms.length)
def leW (i j : Int) (ns ms : List Int) : Bool := Ob.lexAt (fun n => if n = 0 then decide (i = j) else PyData.eqv (.tuple (ns.map PyData.int)) (.tuple (ms.map PyData.int))) (fun n => if n = 0 then decide (i ≤ j) else leC ns ms) true 0 2
def rLeW (K : PySem.W.Frag) : L2.R2 := fun x y H Q => ∃ (a b ca cb : Addr) (i j : Int) (ns ms : List Int), x = .ref a ∧ y = .ref b ∧ SqT K H a [.int i, .ref ca] ∧ SqT K H b [.int j, .ref cb] ∧ SqT K H ca (ns.map V.int) ∧ SqT K H cb (ms.map V.int) ∧
  ∀ k : Bool, k = leW i j ns ms → (k = true → i ≤ j) → (k = false → j ≤ i) → Q (.bl k) H
theorem op_leW {X : Cx} (hu : X.A.units + 100 < cLine) : OpR X (compareOp .LtE) (rLeW X.K) := by
  intro pins s σ H x y v u Q I rx ry h
  obtain ⟨a, b, ca, cb, i, j, ns, ms, rfl, rfl, ha, hb, hca, hcb, q⟩ := h
  cases rx
  cases ry
  obtain ⟨its, r1, p1, _⟩ := I.tuple ha
  obtain ⟨its2, r2, p2, _⟩ := I.tuple hb
  obtain ⟨t, u1, rfl, rt1⟩ : ∃ t u, its = [.int i t, u] ∧ u = .ref ca := by
    cases r1 with
    | cons z1 r1 => cases r1 with
      | cons z2 r1 =>
        cases r1
        obtain ⟨t, rfl⟩ := z1
        exact ⟨t, _, rfl, z2⟩
  obtain ⟨t2, u2, rfl, rt2⟩ : ∃ t u, its2 = [.int j t, u] ∧ u = .ref cb := by
    cases r2 with
    | cons z1 r2 => cases r2 with
      | cons z2 r2 =>
        cases r2
        obtain ⟨t, rfl⟩ := z1
        exact ⟨t, _, rfl, z2⟩
  subst rt1 rt2
  have d1 : Dp X.K H (.ref ca) (.tuple (ns.map PyData.int)) := dp_tint hca
  have d2 : Dp X.K H (.ref cb) (.tuple (ms.map PyData.int)) := dp_tint hcb
  obtain ⟨as, rd1⟩ := Dp.reads I _ _ _ d1 rfl
  obtain ⟨bs, rd2⟩ := Dp.reads I _ _ _ d2 rfl
  have hu1 : X.A.in1.units + 64 < cLine := by
    show X.A.units + 1 + 64 < cLine
    omega
  have eqc := SeqAt.eqAt_reads _ _ X.A.in1 s _ _ _ _ rd1 rd2 (SeqAt.canLay_of_shaped (shaped_ti ns)) (SeqAt.canLay_of_shaped (shaped_ti ms)) (SeqAt.room_of_shaped (shaped_ti ns) hu1)
  obtain ⟨itc, rc, pc, _⟩ := I.tuple hca
  obtain ⟨itc2, rc2, pc2, _⟩ := I.tuple hcb
  have i1 : IntsAre itc ns := Vals.ints rc
  have i2 : IntsAre itc2 ms := Vals.ints rc2
  have inner := Ob.RcOp.tuples_le (A := X.A.in1) (s := s) (e := fun n => decide (ns.getD n 0 = ms.getD n 0)) (r := fun n => decide (ns.getD n 0 ≤ ms.getD n 0)) pc pc2 (by omega) (fun n h1 h2 => by
    obtain ⟨t, et0⟩ := PyProof.Rows.IntsAre.int_at i1 n (itc.toArray[n]) (by simp at h1; simp [h1])
    obtain ⟨t', et1⟩ := PyProof.Rows.IntsAre.int_at i2 n (itc2.toArray[n]) (by simp at h2; simp [h2])
    rw [et0, et1, ← eqv_int]
    exact SeqAt.EqAt.int_int _ _ _ _) (fun n h1 h2 _ => by
    obtain ⟨t, et0⟩ := PyProof.Rows.IntsAre.int_at i1 n (itc.toArray[n]) (by simp at h1; simp [h1])
    obtain ⟨t', et1⟩ := PyProof.Rows.IntsAre.int_at i2 n (itc2.toArray[n]) (by simp at h2; simp [h2])
    rw [et0, et1]
    exact Ob.RcOp.le_int _ _ _ _)
  simp only [List.size_toArray, i1.length, i2.length] at inner
  have two : ∀ n, n < 2 → n = 0 ∨ n = 1 := fun n h => by omega
  have R := Ob.RcOp.tuples_le (A := X.A) (s := s) (e := fun n => if n = 0 then decide (i = j) else PyData.eqv (.tuple (ns.map PyData.int)) (.tuple (ms.map PyData.int))) (r := fun n => if n = 0 then decide (i ≤ j) else leC ns ms) p1 p2 (by omega) (fun n h1 h2 => by
    rcases two n h1 with rfl | rfl
    · show SeqAt.EqAt X.A.in1 s (.int i t) (.int j t2) (decide (i = j))
      rw [← eqv_int]
      exact SeqAt.EqAt.int_int _ _ _ _
    · exact eqc) (fun n h1 h2 _ => by
    rcases two n h1 with rfl | rfl
    · exact Ob.RcOp.le_int _ _ _ _
    · exact inner)
  have z : wpAny (model X.prog X.w) X.A (compareOp .LtE (.ref a) (.ref b)) (EP X pins σ Q) X.xe s := R X.prog X.w X.xe (EP X pins σ Q) ⟨.bl _, H, I, rfl, q _ rfl (fun hk => ?_) (fun hk => ?_)⟩
  · exact z
  · by_cases e : i = j
    · omega
    · have hk2 : (if decide (i = j) = true then _ else decide (i ≤ j)) = true := hk
      rw [if_neg (by simpa using e)] at hk2
      exact of_decide_eq_true hk2
  · by_cases e : i = j
    · omega
    · have hk2 : (if decide (i = j) = true then _ else decide (i ≤ j)) = false := hk
      rw [if_neg (by simpa using e)] at hk2
      have := of_decide_eq_false hk2
      omega
theorem hu_big {A : Around} {k : Nat} (hr : Room k A) : A.units + 100 < cLine := by
  have := hr.un
  omega
end Sa
set_option Elab.async false
set_option linter.all false
set_option maxRecDepth 100000
set_option maxHeartbeats 4000000
namespace Sa
open PySem PySem.Spec PyProof.Rows L2
/-- the kind of a value -/
inductive Kd where
  | non | bl | int | str | tup | lst
  deriving DecidableEq
def Kd.ty : Kd → String
  | .non => "NoneType" | .bl => "bool" | .int => "int" | .str => "str" | .tup => "tuple" | .lst => "list"
def KdOf (H : Hp) (v : V) : Kd → Prop
  | .non => v = .non
  | .bl => ∃ b, v = .bl b
  | .int => ∃ i, v = .int i
  | .str => ∃ x, v = .str x
  | .tup => ∃ a xs, v = .ref a ∧ H a = some (.tup xs)
  | .lst => ∃ a xs, v = .ref a ∧ H a = some (.lst xs)
theorem KdOf.up {F H : Hp} {v : V} {k : Kd} (e : Sub F H) (h : KdOf F v k) : KdOf H v k := by
  cases k with
  | tup => obtain ⟨a, xs, rfl, q⟩ := h; exact ⟨a, xs, rfl, e _ _ q⟩
  | lst => obtain ⟨a, xs, rfl, q⟩ := h; exact ⟨a, xs, rfl, e _ _ q⟩
  | _ => exact h
theorem KdOf.tyx {K : PySem.W.Frag} {H : Hp} {v : V} {k : Kd} (h : KdOf H v k) : TyX K H v (.type k.ty) := by
  cases k with
  | non => cases h; exact .base .non
  | bl => obtain ⟨b, rfl⟩ := h; exact .base (.bl b)
  | int => obtain ⟨b, rfl⟩ := h; exact .base (.int b)
  | str => obtain ⟨b, rfl⟩ := h; exact .base (.str b)
  | tup => obtain ⟨a, xs, rfl, q⟩ := h; exact .base (.tup q)
  | lst => obtain ⟨a, xs, rfl, q⟩ := h; exact .base (.lst q)
theorem kit_kd {K : PySem.W.Frag} (k j : Kd) (hj : j = .int ∨ j = .bl ∨ j = .str ∨ j = .tup) : PySem.W.kitOne K (.type k.ty) (.type j.ty) = some (decide (k = j) || (decide (k = .bl) && decide (j = .int))) := by
  apply kit_ty
  rcases hj with rfl | rfl | rfl | rfl <;> cases k <;> decide +kernel
section
variable {P : Program} {w : World} {K : PySem.W.Frag} {mg : Str → Option Value} {base : Heap}
def sp_is_integer : Sp := fun vs H Q _ => ∃ v k, vs = [v] ∧ KdOf H v k ∧ Q (.bl (decide (k = .int))) H
theorem c_is_integer (T : Txt K mg) : C8.Cal P w K mg base 1 "is_integer" sp_is_integer [] := by
  refine mkC T.d_is_integer scisinteger (fun _ _ _ _ _ _ us hl => match us, hl with | [_], _ => rfl) (fun vs H Q E h => ?_) (fun f cdv A outer s H vs Q E hr h => ?_)
  · obtain ⟨v, k, rfl, _⟩ := h
    rfl
  · obtain ⟨v, k, rfl, hk, q⟩ := h
    refine ⟨_, (pss_one (ps_ret (pe_and (pe_callB call_isi (by rfl) T.isinstance (by decide +kernel) (pa_cons (pv 0) (pa_cons (pe_bltn (v := .ty "int") (u := .type "int") (by rfl) T.int (by decide +kernel) rfl) pa_nil))) (pe_one (pe_not (pe_callB call_isi (by rfl) T.isinstance (by decide +kernel) (pa_cons (pv 0) (pa_cons (pe_bltn (v := .ty "bool") (u := .type "bool") (by rfl) T.bool (by decide +kernel) rfl) pa_nil)))))))), ?_⟩
    refine ⟨v, rfl, v, .ty "int", .type k.ty, .type "int", _, rfl, .ty _, hk.tyx, kit_kd k .int (.inl rfl), _, rfl, ?_⟩
    refine ite2 (fun e => ?_) (fun e => ?_)
    · refine ⟨v, rfl, v, .ty "bool", .type k.ty, .type "bool", _, rfl, .ty _, hk.tyx, kit_kd k .bl (.inr (.inl rfl)), _, rfl, ?_⟩
      cases k <;> first | exact q | (exfalso; revert e; decide)
    · cases k <;> first | exact q | (exfalso; revert e; decide)
def sp_is_number : Sp := fun vs H Q _ => ∃ v k, vs = [v] ∧ KdOf H v k ∧ Q (.bl (match v with | .int i => decide (0 ≤ i) | _ => false)) H
theorem c_is_number (T : Txt K mg) : C8.Cal P w K mg base 2 "is_number" sp_is_number [] := by
  have c_is_integer := c_is_integer (P := P) (w := w) (base := base) T
  refine mkC T.d_is_number scisnumber (fun _ _ _ _ _ _ us hl => match us, hl with | [_], _ => rfl) (fun vs H Q E h => ?_) (fun f cdv A outer s H vs Q E hr h => ?_)
  · obtain ⟨v, k, rfl, _⟩ := h
    rfl
  · obtain ⟨v, k, rfl, hk, q⟩ := h
    refine ⟨_, (pss_one (ps_ret (pe_and (C8.pe_c c_is_integer hr (by decide) (by rfl) (pa_cons (pv 0) pa_nil)) (pe_one (pe_cmpR op_ge (pv 0) pe_int (nomark _)))))), ?_⟩
    refine ⟨v, rfl, v, k, rfl, hk, _, rfl, ?_⟩
    refine ite2 (fun e => ?_) (fun e => ?_)
    · have e := of_decide_eq_true e
      subst e
      obtain ⟨i, rfl⟩ := hk
      exact ⟨_, rfl, _, _, rfl, rfl, q⟩
    · cases k <;> first | (exfalso; revert e; decide; done) | (cases v <;> first | exact q | (exfalso; simp [KdOf] at hk; done))
end
end Sa
set_option Elab.async false
set_option linter.all false
set_option maxRecDepth 100000
set_option maxHeartbeats 4000000
namespace Sa
open PySem PySem.Spec PyProof.Rows L2
local macro_rules | `(tactic| walk_at "vc") => `(tactic| repeat (first | refine ⟨_, rfl, ?_⟩ | refine ⟨_, _, rfl, rfl, ?_⟩ | refine ⟨_, _, rfl, ?_⟩ | refine ⟨rfl, ?_⟩))
theorem kdT {F : Hp} {a : Addr} {vs : List V} (h : F a = some (.tup vs)) : KdOf F (.ref a) .tup := ⟨a, vs, rfl, h⟩
theorem kd_ov {F : Hp} (x : Option Int) : KdOf F (ov x) (if x.isSome then .int else .non) := by
  cases x with
  | none => rfl
  | some i => exact ⟨i, rfl⟩
theorem ifT {c : Prop} [Decidable c] {A B : Prop} (h : c) (a : A) : if c then A else B := by rw [if_pos h]; exact a
theorem ifF {c : Prop} [Decidable c] {A B : Prop} (h : ¬ c) (a : B) : if c then A else B := by rw [if_neg h]; exact a
theorem atI_nat {α : Type} {xs : List α} {i : Nat} {v : α} (h : xs[i]? = some v) : atI xs (i : Int) = some v := by
  have hi : i < xs.length := (List.getElem?_eq_some_iff.mp h).1
  unfold atI ixN
  rw [if_pos (by omega), if_pos (by omega)]
  show xs[(i : Int).toNat]? = some v
  rw [Int.toNat_natCast]; exact h
section
variable {K : PySem.W.Frag} {F H : Hp}
theorem lenT {a : Addr} {xs : List V} (h : SqT K H a xs) : LenV K (.ref a) H xs.length := .inr ⟨xs, h, rfl⟩
theorem lenL {a : Addr} {xs : List V} (h : SqL K H a xs) : LenV K (.ref a) H xs.length := .inl ⟨xs, h, rfl⟩
theorem lenT' {a : Addr} {xs : List V} {n : Nat} (h : SqT K H a xs) (e : xs.length = n) : LenV K (.ref a) H n := .inr ⟨xs, h, e.symm⟩
theorem lenL' {a : Addr} {xs : List V} {n : Nat} (h : SqL K H a xs) (e : xs.length = n) : LenV K (.ref a) H n := .inl ⟨xs, h, e.symm⟩
/-- a Table: how many things, the ties -/
def RTab (K : PySem.W.Frag) (F : Hp) (v : V) (n : Nat) (ties : List (Nat × Nat × Int)) : Prop :=
  ∃ (a C dx : Addr) (fs : List (Str × V)) (at1 : Addr) (vs : List V) (vu : V), v = .ref a ∧ F a = some (.ins C dx fs) ∧ Cls K C ∧ NoAttr K C "things" ∧ NoAttr K C "ties" ∧
    fs.lookup ("things" : Str) = some (V.ref at1) ∧ fs.lookup ("ties" : Str) = some vu ∧ F at1 = some (.tup vs) ∧ vs.length = n ∧ Rt (R3 Rn Rn Ri) F vu ties
theorem RTab.up {F F' : Hp} {v : V} {n : Nat} {ties : List (Nat × Nat × Int)} (e : Sub F F') (h : RTab K F v n ties) : RTab K F' v n ties := by
  obtain ⟨a, C, dx, fs, at1, vs, vu, h1, h2, h3, h4, h5, h6, h7, h8, h9, h10⟩ := h
  exact ⟨a, C, dx, fs, at1, vs, vu, h1, e _ _ h2, h3, h4, h5, h6, h7, e _ _ h8, h9, Mono.up (r := Rt (R3 Rn Rn Ri)) e h10⟩
def TiesOk (n : Nat) (ties : List (Nat × Nat × Int)) : Prop := ∀ t ∈ ties, t.1 < n ∧ t.2.1 < n
/-- a new tuple, frozen -/
theorem newT {S : Addr → Prop} {F H F1 H1 : Hp} (e : Ex S F H F1 H1) {p : Addr} {xs : List V} (hp : H1 p = none) : Ex S F H (upd F1 p (.tup xs)) (upd H1 p (.tup xs)) ∧ (upd F1 p (.tup xs)) p = some (.tup xs) ∧ Sub F1 (upd F1 p (.tup xs)) :=
  have z := Ex.new (S := S) (p := p) (o := .tup xs) e.s hp e.t1
  ⟨e.trans z, upd_same, z.f⟩
/-- a new list, frozen -/
theorem newL {S : Addr → Prop} {F H F1 H1 : Hp} (e : Ex S F H F1 H1) {p : Addr} {xs : List V} (hp : H1 p = none) : Ex S F H (upd F1 p (.lst xs)) (upd H1 p (.lst xs)) ∧ (upd F1 p (.lst xs)) p = some (.lst xs) ∧ Sub F1 (upd F1 p (.lst xs)) :=
  have z := Ex.new (S := S) (p := p) (o := .lst xs) e.s hp e.t1
  ⟨e.trans z, upd_same, z.f⟩
/-- an own list, frozen now -/
theorem frzL {S : Addr → Prop} {F H F1 H1 : Hp} (e : Ex S F H F1 H1) {p : Addr} {xs : List V} (hp : H p = none) (h1 : H1 p = some (.lst xs)) (fp : F1 p = none) : Ex S F H (upd F1 p (.lst xs)) H1 ∧ (upd F1 p (.lst xs)) p = some (.lst xs) ∧ Sub F1 (upd F1 p (.lst xs)) := by
  refine ⟨e.frz hp h1 fp, upd_same, fun b u q => ?_⟩
  rw [upd_ne (ne_of_none q fp)]; exact q
end
/-! ### steps that make something -/
section
variable {K : PySem.W.Frag} {S : Addr → Prop} {F H F1 H1 : Hp} {Q : VK}
theorem go_tup {R : Addr → Prop} {xs : List V} (e : Ex S F H F1 H1) (hz : xs.length ≤ sizeLine) (q : ∀ p F', Ex S F H F' (upd H1 p (.tup xs)) → Sub F1 F' → F' p = some (.tup xs) → R p) : xs.length ≤ sizeLine ∧ ∀ p, H1 p = none → R p :=
  ⟨hz, fun p hp => let z := newT e (p := p) (xs := xs) hp; q p _ z.1 z.2.2 z.2.1⟩
theorem go_t1 {R : Addr → Prop} {x : V} (e : Ex S F H F1 H1) (q : ∀ p F', Ex S F H F' (upd H1 p (.tup [x])) → Sub F1 F' → F' p = some (.tup [x]) → R p) : [x].length ≤ sizeLine ∧ ∀ p, H1 p = none → R p := go_tup e (by show 1 ≤ sizeLine; decide) q
theorem go_t2 {R : Addr → Prop} {x y : V} (e : Ex S F H F1 H1) (q : ∀ p F', Ex S F H F' (upd H1 p (.tup [x, y])) → Sub F1 F' → F' p = some (.tup [x, y]) → R p) : [x, y].length ≤ sizeLine ∧ ∀ p, H1 p = none → R p := go_tup e (by show 2 ≤ sizeLine; decide) q
theorem go_t3 {R : Addr → Prop} {x y z : V} (e : Ex S F H F1 H1) (q : ∀ p F', Ex S F H F' (upd H1 p (.tup [x, y, z])) → Sub F1 F' → F' p = some (.tup [x, y, z]) → R p) : [x, y, z].length ≤ sizeLine ∧ ∀ p, H1 p = none → R p := go_tup e (by show 3 ≤ sizeLine; decide) q
/-- a list display, frozen at once -/
theorem go_lst {R : Addr → Prop} {xs : List V} (e : Ex S F H F1 H1) (hz : xs.length ≤ sizeLine) (q : ∀ p F', Ex S F H F' (upd H1 p (.lst xs)) → Sub F1 F' → F' p = some (.lst xs) → R p) : xs.length ≤ sizeLine ∧ ∀ p, H1 p = none → R p :=
  ⟨hz, fun p hp => let z := newL e (p := p) (xs := xs) hp; q p _ z.1 z.2.2 z.2.1⟩
theorem go_l2 {R : Addr → Prop} {x y : V} (e : Ex S F H F1 H1) (q : ∀ p F', Ex S F H F' (upd H1 p (.lst [x, y])) → Sub F1 F' → F' p = some (.lst [x, y]) → R p) : [x, y].length ≤ sizeLine ∧ ∀ p, H1 p = none → R p := go_lst e (by show 2 ≤ sizeLine; decide) q
theorem go_cat {a b : Addr} {xs ys : List V} (e : Ex S F H F1 H1) (ha : F1 a = some (.tup xs)) (hb : F1 b = some (.tup ys)) (hz : xs.length + ys.length ≤ sizeLine) (q : ∀ p F' H', Ex S F H F' H' → Sub F1 F' → F' p = some (.tup (xs ++ ys)) → Q (.ref p) H') : rCatA K (.ref a) (.ref b) H1 Q := by
  refine ⟨a, b, xs, ys, rfl, rfl, tS (e.s _ _ ha), tS (e.s _ _ hb), hz, fun z => ?_, fun _ z => ?_, fun _ _ p hp => ?_⟩
  · subst z; exact q b F1 H1 e Sub.rfl hb
  · subst z; rw [List.append_nil] at q; exact q a F1 H1 e Sub.rfl ha
  · let z := newT e (p := p) (xs := xs ++ ys) hp; exact q p _ _ z.1 z.2.2 z.2.1
theorem go_rep {a : Addr} {k : Nat} {x : V} (e : Ex S F H F1 H1) (ha : F1 a = some (.tup [x])) (hk : k ≤ 1000) (q : ∀ p F' H', Ex S F H F' H' → Sub F1 F' → F' p = some (.tup (List.replicate k x)) → Q (.ref p) H') : rRepA K (.ref a) (.int (k : Int)) H1 Q := by
  refine ⟨a, k, [x], rfl, rfl, tS (e.s _ _ ha), by simp, hk, by simp, fun z => ?_, fun _ p hp => ?_⟩
  · subst z; exact q a F1 H1 e Sub.rfl ha
  · have ef : (List.replicate k [x]).flatten = List.replicate k x := by
      induction k with
      | zero => rfl
      | succ n ih => rw [List.replicate_succ, List.flatten_cons, List.replicate_succ]; simp
    rw [ef]
    let z := newT e (p := p) (xs := List.replicate k x) hp; exact q p _ _ z.1 z.2.2 z.2.1
/-- tuple(own list) -/
theorem go_tupOf {R R' : Addr → List V → Prop} {a : Addr} {xs : List V} (e : Ex S F H F1 H1) (ha : H1 a = some (.lst xs)) (q : ∀ p F', Ex S F H F' (upd H1 p (.tup xs)) → Sub F1 F' → F' p = some (.tup xs) → R p xs) :
    ∃ p ys, [V.ref a] = [.ref p] ∧ ((SqL K H1 p ys ∧ ∀ l, H1 l = none → R l ys) ∨ (SqT K H1 p ys ∧ R' p ys)) :=
  ⟨a, xs, rfl, .inl ⟨lS ha, fun p hp => let z := newT e (p := p) (xs := xs) hp; q p _ z.1 z.2.2 z.2.1⟩⟩
theorem walk_rg {n : Nat} {j : Int} (h : j.toNat = n) : Walk (Itr 0 j.toNat) (List.range n).length (fun _ => True) (YFn fun i => .int (i : Nat)) := by
  rw [List.length_range, ← h]
  exact (walk_range (lo := 0)).mono (fun _ h => h) fun i H x H1 _ _ y => ⟨y.1, by rw [y.2]; show V.int (0 + (i : Int)) = V.int (i : Int); rw [Int.zero_add]⟩
theorem walk_tm {δ : Type} {a : Addr} (ds : List δ) (f : δ → V) : Walk (Itt K a) ds.length (fun H => SqT K H a (ds.map f)) (YAt (ds.map f)) := by
  have z := walk_tup (K := K) (a := a) (xs := ds.map f)
  rwa [List.length_map] at z
theorem walk_lm {δ : Type} {a : Addr} (ds : List δ) (f : δ → V) : Walk (Itl K a) ds.length (fun H => SqL K H a (ds.map f)) (YAt (ds.map f)) := by
  have z := walk_list (K := K) (a := a) (xs := ds.map f)
  rwa [List.length_map] at z
/-- a walk over what stands for ds -/
theorem walk_tp {δ : Type} {a : Addr} {vs : List V} {ds : List δ} {r : V → δ → Prop} (h : Paired r vs ds) : Walk (Itt K a) ds.length (fun H => SqT K H a vs) (YAt vs) := by
  have z := walk_tup (K := K) (a := a) (xs := vs)
  rwa [Paired.length h] at z
theorem walk_lp {δ : Type} {a : Addr} {vs : List V} {ds : List δ} {r : V → δ → Prop} (h : Paired r vs ds) : Walk (Itl K a) ds.length (fun H => SqL K H a vs) (YAt vs) := by
  have z := walk_list (K := K) (a := a) (xs := vs)
  rwa [Paired.length h] at z
theorem ex0 {F H : Hp} (h : Sub F H) : Ex S0 F H F H := Ex.refl0 h
end
theorem paired_bls {F : Hp} {vs : List V} {xs : List Bool} (h : Paired (Rb F) vs xs) : vs = xs.map V.bl := paired_eq _ (fun _ _ e => e) h
theorem paired_strs {F : Hp} {vs : List V} {xs : List Str} (h : Paired (Rs F) vs xs) : vs = xs.map V.str := paired_eq _ (fun _ _ e => e) h
theorem filter_tt {α : Type} (xs : List α) : xs.filter (fun _ => true) = xs := by simp
def comeOf (ts : List (Option Int)) : List Nat := (List.range ts.length).filter fun i => (ts.getD i none).isSome
def missOf (ts : List (Option Int)) : List Nat := (List.range ts.length).filter fun i => !(ts.getD i none).isSome
theorem range_get {n i d : Nat} (h : (List.range n)[i]? = some d) : d = i ∧ i < n := by
  have hi := (List.getElem?_eq_some_iff.mp h).1
  rw [List.length_range] at hi
  rw [List.getElem?_range hi] at h
  exact ⟨(Option.some.inj h).symm, hi⟩
theorem map_get {α β : Type} {xs : List α} {f : α → β} {i : Nat} {v : β} (h : (xs.map f)[i]? = some v) : ∃ x, xs[i]? = some x ∧ v = f x := by
  rw [List.getElem?_map] at h
  cases q : xs[i]? with
  | none => rw [q] at h; cases h
  | some x => rw [q] at h; exact ⟨x, rfl, (Option.some.inj h).symm⟩
theorem getD_some {α : Type} {xs : List α} {i : Nat} {x d : α} (h : xs[i]? = some x) : xs.getD i d = x := by
  rw [List.getD_eq_getElem?_getD, h]; rfl
section
variable {P : Program} {w : World} {K : PySem.W.Frag} {mg : Str → Option Value} {base : Heap}
def sp_need_number : Sp := fun vs H Q _ => ∃ (i l m : Int) (s : Str), vs = [.int i, .int l, .int m, .str s] ∧ 0 ≤ i ∧ l ≤ i ∧ i ≤ m ∧ Q .non H
theorem c_need_number (T : Txt K mg) : C8.Cal P w K mg base 3 "need_number" sp_need_number [] := by
  have c_is_number := c_is_number (P := P) (w := w) (base := base) T
  refine mkC T.d_need_number scneednumber (fun _ _ _ _ _ _ us hl => match us, hl with | [_, _, _, _], _ => rfl) (fun vs H Q E h => ?_) (fun f cdv A outer s H vs Q E hr h => ?_)
  · obtain ⟨i, l, m, s, rfl, _⟩ := h
    rfl
  · obtain ⟨i, l, m, s, rfl, h0, h1, h2, q⟩ := h
    refine ⟨_, (pss_one (ps_if (PW.pt (pw_or (pt_not (pt_val (C8.pe_c c_is_number hr (by decide) (by rfl) (pa_cons (pv 0) pa_nil)))) (pw_or (pt_cmpR op_lt (pv 0) (pv 1) (nomark _)) (pw_or1 (PW.pt (pw_and (pt_cmpR op_notN (pv 2) pe_non (nomark _)) (pw_and1 (pt_cmpR op_gt (pv 0) (pv 2) (nomark _))))))))) (pss_one ps_never) pss_nil)), ?_⟩
    walk_at "vc"
    refine ⟨_, .int, rfl, ⟨_, rfl⟩, ?_⟩
    walk_at "vc"
    refine ifF (by simp [h0]) ?_
    walk_at "vc"
    refine ifF (by simp [h1]) ?_
    walk_at "vc"
    exact ifF (by simp [h2]) q
def isTime (v : V) : Bool := match v with | .int i => decide (-1000000000 ≤ i) && decide (i ≤ 1000000000) | _ => false
def sp_is_time : Sp := fun vs H Q _ => ∃ v k, vs = [v] ∧ KdOf H v k ∧ Q (.bl (isTime v)) H
theorem c_is_time (T : Txt K mg) : C8.Cal P w K mg base 2 "is_time" sp_is_time [] := by
  have c_is_integer := c_is_integer (P := P) (w := w) (base := base) T
  refine mkC T.d_is_time scistime (fun _ _ _ _ _ _ us hl => match us, hl with | [_], _ => rfl) (fun vs H Q E h => ?_) (fun f cdv A outer s H vs Q E hr h => ?_)
  · obtain ⟨v, k, rfl, _⟩ := h
    rfl
  · obtain ⟨v, k, rfl, hk, q⟩ := h
    refine ⟨_, (pss_one (ps_ret (pe_and (C8.pe_c c_is_integer hr (by decide) (by rfl) (pa_cons (pv 0) pa_nil)) (pe_one (pe_cmpR op_le (pe_callB call_abs (by rfl) T.abs (by decide +kernel) (pa_cons (pv 0) pa_nil)) (C8.pe_gc rfl T.g_MOST_TIME) (nomark _)))))), ?_⟩
    walk_at "vc"
    refine ⟨v, k, rfl, hk, ?_⟩
    walk_at "vc"
    refine ite2 (fun e => ?_) (fun e => ?_)
    · have e := of_decide_eq_true e
      subst e
      obtain ⟨i, rfl⟩ := hk
      walk_at "vc"
      have z : decide ((if i < 0 then -i else i) ≤ 1000000000) = isTime (.int i) := by
        show _ = (decide (-1000000000 ≤ i) && decide (i ≤ 1000000000))
        rw [Bool.eq_iff_iff]
        by_cases h : i < 0
        · simp [h]; omega
        · simp [h]; omega
      rw [← z] at q
      exact q
    · cases k <;> first | (exfalso; revert e; decide; done) | (cases v <;> first | exact q | (exfalso; simp [KdOf] at hk; done))
def sp_check_times : Sp := fun vs H Q _ => ∃ F vt vv n ties ts, vs = [vt, vv] ∧ Sub F H ∧ RTab K F vt n ties ∧ Rt (Ro Ri) F vv ts ∧ ts.length = n ∧ (∀ t, some t ∈ ts → -1000000000 ≤ t ∧ t ≤ 1000000000) ∧ ∀ H', Ex S0 F H F H' → Q .non H'
theorem c_check_times (T : Txt K mg) : C8.Cal P w K mg base 3 "check_times" (sp_check_times (K := K)) [] := by
  have c_is_time := c_is_time (P := P) (w := w) (base := base) T
  refine mkC T.d_check_times scchecktimes (fun _ _ _ _ _ _ us hl => match us, hl with | [_, _], _ => rfl) (fun vs H Q E h => ?_) (fun f cdv A outer s H vs Q E hr h => ?_)
  · obtain ⟨F, vt, vv, n, ties, ts, rfl, _⟩ := h
    rfl
  · obtain ⟨F, vt, vv, n, ties, ts, rfl, sb, ht, hv, hn, hb, q⟩ := h
    refine ⟨_, ((pss_cons (ps_if (PW.pt (pw_or (pt_not (pt_val (pe_callB call_isi (by rfl) T.isinstance (by decide +kernel) (pa_cons (pv 1) (pa_cons (pe_bltn (v := .ty "tuple") (u := .type "tuple") (by rfl) T.tuple (by decide +kernel) rfl) pa_nil))))) (pw_or1 (pt_cmpR op_ne (pe_callB call_len (by rfl) T.len (by decide +kernel) (pa_cons (pv 1) pa_nil)) (pe_callB call_len (by rfl) T.len (by decide +kernel) (pa_cons (pe_fld (pv 0) rfl) pa_nil)) (nomark _))))) (pss_one ps_never) pss_nil)
    (pss_one (ps_for PassesOwn.never rfl (pi_enumT (by rfl) T.enumerate (pa_cons (pv 1) pa_nil)) (pg_tup rfl (pgs_cons ((pg_name (i := 2) scchecktimes.nd rfl (Or.inl rfl))) (pgs_cons ((pg_name (i := 3) scchecktimes.nd rfl (Or.inl rfl))) pgs_nil))) (pss_one (ps_if (PW.pt (pw_and (pt_cmpR op_notN (pv 3) pe_non (nomark _)) (pw_and1 (pt_not (pt_val (C8.pe_c c_is_time hr (by decide) (by rfl) (pa_cons (pv 3) pa_nil))))))) (pss_one ps_never) pss_nil)))))), ?_⟩
    obtain ⟨av, wv, rfl, sv, pv1⟩ := hv
    have ew : wv = ts.map ov := paired_ovs pv1
    subst ew
    obtain ⟨a, C, dx, fs, at1, us, vu, rfl, h2, h3, h4, h5, h6, h7, h8, h9, h10⟩ := ht
    walk_at "vc"
    refine ⟨_, _, .type Kd.tup.ty, .type "tuple", _, rfl, .ty _, (kdT (sb _ _ sv)).tyx, kit_kd .tup .tup (by simp), ?_⟩
    walk_at "vc"
    refine ⟨_, _, rfl, lenT (tS (sb _ _ sv)), ?_⟩
    walk_at "vc"
    refine ⟨_, C, dx, fs, _, rfl, sb _ _ h2, h3, h4, h6, ?_⟩
    refine ⟨_, _, rfl, lenT (tS (sb _ _ h8)), ?_⟩
    walk_at "vc"
    refine ifF (by simp [h9, hn]) ?_
    walk_at "vc"
    refine ⟨_, _, rfl, tS (sb _ _ sv), ?_⟩
    refine for_it (walk_enumT (xs := ts.map ov)) (fun i σ H1 => ∃ u v, σ = [some (.ref a), some (.ref av), u, v] ∧ Ex S0 F H F H1) ⟨none, none, rfl, Ex.refl0 sb⟩ (fun i σ H1 _ h => ?_) (fun i x σ H1 H2 hi h y => ?_) (fun σ H1 h => ?_)
    · obtain ⟨u, v, rfl, e⟩ := h
      exact tS (e.s _ _ sv)
    · obtain ⟨u, v, rfl, e⟩ := h
      obtain ⟨T0, x1, y1, rfl, e1, rfl, e2, e3⟩ := y
      cases e2
      obtain ⟨z, ez, rfl⟩ := map_get e3
      have e4 : Ex S0 F H F (upd H1 T0 (.tup [.int (i : Nat), ov z])) := e.trans (Ex.own e.s e1 e.t1)
      refine ⟨_, _, rfl, tS upd_same, rfl, ?_⟩
      walk_at "vc"
      cases z with
      | none => exact ⟨_, _, rfl, e4⟩
      | some t =>
        walk_at "vc"
        have hm : some t ∈ ts := List.mem_of_getElem? ez
        obtain ⟨b1, b2⟩ := hb t hm
        refine ⟨_, .int, rfl, ⟨_, rfl⟩, ?_⟩
        walk_at "vc"
        have ht : isTime (V.int t) = true := by simp [isTime, b1, b2]
        refine ifF (by show ¬ (!isTime (V.int t)) = true; simp [ht]) ?_
        exact ⟨_, _, rfl, e4⟩
    · obtain ⟨u, v, rfl, e⟩ := h
      exact q _ e
def sp_come : Sp := fun vs H Q _ => ∃ F v ts, vs = [v] ∧ Sub F H ∧ Rt (Ro Ri) F v ts ∧ ts.length ≤ 12 ∧ ∀ r F' H', Ex S0 F H F' H' → Rt Rn F' r (comeOf ts) → Q r H'
theorem c_come (T : Txt K mg) : C8.Cal P w K mg base 1 "come" sp_come [] := by
  refine mkC T.d_come sccome (fun _ _ _ _ _ _ us hl => match us, hl with | [_], _ => rfl) (fun vs H Q E h => ?_) (fun f cdv A outer s H vs Q E hr h => ?_)
  · obtain ⟨F, v, ts, rfl, _⟩ := h
    rfl
  · obtain ⟨F, v, ts, rfl, sb, ⟨a, vs, rfl, ha, pr⟩, hz, q⟩ := h
    have ew : vs = ts.map ov := paired_ovs pr
    subst ew
    refine ⟨_, (pss_one (ps_ret (pe_callTy call_tuple_of (by rfl) T.tuple (by decide +kernel) (pa_cons (pe_lc (own := [("thing", 1), ("time", 2)]) (g := gTup K 2 (gCons (gName 1) (gCons (gName 2) gNil))) rfl sccome.nd (pi_enumT (by rfl) T.enumerate (pa_cons (pv 0) pa_nil)) (blkOk_by (N := N_come) (sc := defScope scome) (by decide +kernel)) (fun _ _ _ _ _ => (pg_tup (n := 2) rfl (pgs_cons (pg_name (i := 1) sccome.nd rfl (Or.inl rfl) (Or.inr rfl)) (pgs_cons (pg_name (i := 2) sccome.nd rfl (Or.inl rfl) (Or.inr rfl)) pgs_nil)))) (fun _ _ _ _ _ => (pts_one (pt_cmpR op_notN (pv 2) pe_non (nomark _)))) (fun _ _ _ _ _ => (pv 1))) pa_nil)))), ?_⟩
    walk_at "vc"
    refine ⟨_, _, rfl, tS (sb _ _ ha), ?_⟩
    intro D hD
    have hl : (List.range ts.length).length = (ts.map ov).length := by simp
    refine lcX (re := Rn) (ds := List.range ts.length) (hl ▸ walk_enumT (xs := ts.map ov)) sb (fun b z => z.elim) hD (by simp; exact Nat.lt_of_le_of_lt hz (by decide)) (fun i => (ts.getD i none).isSome) id (S := S0) (fun F1 H1 e => tS (e.fh _ _ ha)) (fun i d x F1 H1 H2 hd e y Qy Qn q1 q2 => ?_) (fun F1 H1 ys e fD hDD pr1 => ?_)
    · obtain ⟨T0, x1, y1, rfl, e1, rfl, e2, e3⟩ := y
      cases e2
      obtain ⟨z, ez, rfl⟩ := map_get e3
      obtain ⟨rfl, hi⟩ := range_get hd
      have e4 : Ex S0 F1 H1 F1 (upd H1 T0 (.tup [.int (d : Nat), ov z])) := Ex.own e.s e1 (fun b z => z.elim)
      refine ⟨_, _, rfl, tS upd_same, rfl, ?_⟩
      walk_at "vc"
      have eg : ts.getD d none = z := getD_some ez
      rw [eg] at q1 q2
      cases z with
      | none => exact q2 rfl _ _ e4
      | some t =>
        refine ⟨_, rfl, q1 rfl _ _ _ e4 rfl⟩
    · refine go_tupOf e hDD fun p F' e' s' h' => q _ _ _ e' ⟨p, ys, rfl, h', ?_⟩
      have := Paired.up s' pr1
      rw [List.map_id] at this
      exact this
end
end Sa
set_option Elab.async false
set_option linter.all false
set_option maxRecDepth 100000
set_option maxHeartbeats 4000000
namespace Sa
open PySem PySem.Spec PyProof.Rows L2
local macro_rules | `(tactic| walk_at "vc") => `(tactic| repeat (first | refine ⟨_, rfl, ?_⟩ | refine ⟨_, _, rfl, rfl, ?_⟩ | refine ⟨_, _, rfl, ?_⟩ | refine ⟨rfl, ?_⟩))
theorem Ex.low {S : Addr → Prop} {F H F1 H1 : Hp} (e : Ex S F H F1 H1) : Ex S F H F H1 := ⟨Sub.rfl, e.fh, fun _ _ => rfl, e.k, e.l, e.t⟩
theorem paired_len {α : Type} {r : V → α → Prop} {vs : List V} {xs : List α} (h : Paired r vs xs) : vs.length = xs.length := Paired.length h
theorem all_tt {xs : List Bool} (h : ∀ x ∈ xs, x = true) : xs.all id = true := by
  rw [List.all_eq_true]; exact h
theorem filter_tt' {α : Type} (xs : List α) : xs.filter (fun _ => true) = xs := by simp
theorem szk {n : Nat} (h : n ≤ 1000) : n ≤ sizeLine := Nat.le_trans h (by decide)
theorem lt_sz {n : Nat} (h : n ≤ 1000) : n < sizeLine := Nat.lt_of_le_of_lt h (by decide)
def bestCut (o m : Nat) : List Nat := if m = 1 then [o] else [1, o - m + 1] ++ List.replicate (m - 2) 1
def worstCut (o m : Nat) : List Nat := List.replicate (o % m) (o / m + 1) ++ List.replicate (m - o % m) (o / m)
def waitN (c : List Nat) : Nat := (c.map fun n => n * (n - 1) / 2).sum
theorem paired_rep {F : Hp} {k n : Nat} {v : V} (h : v = .int (n : Int)) : Paired (Rn F) (List.replicate k v) (List.replicate k n) := by
  induction k with
  | zero => exact .nil
  | succ k ih => exact .cons h ih
theorem go_rep' {K : PySem.W.Frag} {S : Addr → Prop} {F H F1 H1 : Hp} {Q : VK} {a : Addr} {k : Nat} {z : Int} {x : V} (e : Ex S F H F1 H1) (ha : F1 a = some (.tup [x])) (hz : z = (k : Int)) (hk : k ≤ 1000) (q : ∀ p F' H', Ex S F H F' H' → Sub F1 F' → F' p = some (.tup (List.replicate k x)) → Q (.ref p) H') : rRepA K (.ref a) (.int z) H1 Q := by
  subst hz; exact go_rep e ha hk q
section
variable {P : Program} {w : World} {K : PySem.W.Frag} {mg : Str → Option Value} {base : Heap}
def sp_missing : Sp := fun vs H Q _ => ∃ F v ts, vs = [v] ∧ Sub F H ∧ Rt (Ro Ri) F v ts ∧ ts.length ≤ 12 ∧ ∀ r F' H', Ex S0 F H F' H' → Rt Rn F' r (missOf ts) → Q r H'
theorem c_missing (T : Txt K mg) : C8.Cal P w K mg base 1 "missing" sp_missing [] := by
  refine mkC T.d_missing scmissing (fun _ _ _ _ _ _ us hl => match us, hl with | [_], _ => rfl) (fun vs H Q E h => ?_) (fun f cdv A outer s H vs Q E hr h => ?_)
  · obtain ⟨F, v, ts, rfl, _⟩ := h
    rfl
  · obtain ⟨F, v, ts, rfl, sb, ⟨a, vs, rfl, ha, pr⟩, hz, q⟩ := h
    have ew : vs = ts.map ov := paired_ovs pr
    subst ew
    refine ⟨_, (pss_one (ps_ret (pe_callTy call_tuple_of (by rfl) T.tuple (by decide +kernel) (pa_cons (pe_lc (own := [("thing", 1), ("time", 2)]) (g := gTup K 2 (gCons (gName 1) (gCons (gName 2) gNil))) rfl scmissing.nd (pi_enumT (by rfl) T.enumerate (pa_cons (pv 0) pa_nil)) (blkOk_by (N := N_missing) (sc := defScope smissing) (by decide +kernel)) (fun _ _ _ _ _ => (pg_tup (n := 2) rfl (pgs_cons (pg_name (i := 1) scmissing.nd rfl (Or.inl rfl) (Or.inr rfl)) (pgs_cons (pg_name (i := 2) scmissing.nd rfl (Or.inl rfl) (Or.inr rfl)) pgs_nil)))) (fun _ _ _ _ _ => (pts_one (pt_cmpR op_isN (pv 2) pe_non (nomark _)))) (fun _ _ _ _ _ => (pv 1))) pa_nil)))), ?_⟩
    walk_at "vc"
    refine ⟨_, _, rfl, tS (sb _ _ ha), ?_⟩
    intro D hD
    have hl : (List.range ts.length).length = (ts.map ov).length := by simp
    refine lcX (re := Rn) (ds := List.range ts.length) (hl ▸ walk_enumT (xs := ts.map ov)) sb (fun b z => False.elim z) hD (by simp; exact lt_sz (by omega)) (fun i => !(ts.getD i none).isSome) id (S := S0) (fun F1 H1 e => tS (e.fh _ _ ha)) (fun i d x F1 H1 H2 hd e y Qy Qn q1 q2 => ?_) (fun F1 H1 ys e fD hDD pr1 => ?_)
    · obtain ⟨T0, x1, y1, rfl, e1, rfl, e2, e3⟩ := y
      cases e2
      obtain ⟨z, ez, rfl⟩ := map_get e3
      obtain ⟨rfl, hi⟩ := range_get hd
      have e4 : Ex S0 F1 H1 F1 (upd H1 T0 (.tup [.int (d : Nat), ov z])) := Ex.own e.s e1 (fun b z => False.elim z)
      refine ⟨_, _, rfl, tS upd_same, rfl, ?_⟩
      walk_at "vc"
      have eg : ts.getD d none = z := getD_some ez
      rw [eg] at q1 q2
      cases z with
      | none => refine ⟨_, rfl, q1 rfl _ _ _ e4 rfl⟩
      | some t => exact q2 rfl _ _ e4
    · refine go_tupOf e hDD fun p F' e' s' h' => q _ _ _ e' ⟨p, ys, rfl, h', ?_⟩
      have := Paired.up s' pr1
      rw [List.map_id] at this
      exact this
def GoodB (ns : List Nat) : Prop := ns.length ≤ 60 ∧ ∀ x ∈ ns, 1 ≤ x ∧ x ≤ 100
def sp_are_batches : Sp := fun vs H Q _ => ∃ F v ns, vs = [v] ∧ Sub F H ∧ Rt Rn F v ns ∧ GoodB ns ∧ ∀ H', Ex S0 F H F H' → Q (.bl true) H'
theorem c_are_batches (T : Txt K mg) : C8.Cal P w K mg base 3 "are_batches" sp_are_batches [] := by
  have c_is_number := c_is_number (P := P) (w := w) (base := base) T
  refine mkC T.d_are_batches scarebatches (fun _ _ _ _ _ _ us hl => match us, hl with | [_], _ => rfl) (fun vs H Q E h => ?_) (fun f cdv A outer s H vs Q E hr h => ?_)
  · obtain ⟨F, v, ns, rfl, _⟩ := h
    rfl
  · obtain ⟨F, v, ns, rfl, sb, ⟨a, vs, rfl, ha, pr⟩, ⟨hz, hb⟩, q⟩ := h
    have ew : vs = ns.map nv := paired_nats pr
    subst ew
    refine ⟨_, (pss_cons (ps_if (PW.pt (pw_or (pt_not (pt_val (pe_callB call_isi (by rfl) T.isinstance (by decide +kernel) (pa_cons (pv 0) (pa_cons (pe_bltn (v := .ty "tuple") (u := .type "tuple") (by rfl) T.tuple (by decide +kernel) rfl) pa_nil))))) (pw_or1 (pt_cmpR op_gt (pe_callB call_len (by rfl) T.len (by decide +kernel) (pa_cons (pv 0) pa_nil)) (C8.pe_gc rfl T.g_MOST_BATCHES) (nomark _))))) (pss_one (ps_ret pe_bl)) pss_nil)
    (pss_one (ps_ret (pe_callB (cr_all rfl) (by rfl) T.all (by decide +kernel) (pa_cons (pe_lc (own := [("item", 1)]) (tt := tYes) rfl scarebatches.nd (pi_tup (pv 0)) (blkOk_by (N := N_arebatches) (sc := defScope sarebatches) (by decide +kernel)) (fun _ _ _ _ _ => pg_name (i := 1) scarebatches.nd rfl (Or.inl rfl) (Or.inr rfl)) (fun _ _ _ _ _ => pts_nil) (fun _ _ _ _ _ => (pe_and (C8.pe_c c_is_number hr (by decide) (by rfl) (pa_cons (pv 1) pa_nil)) (pe_one (pe_chain op_le op_le pe_int (pv 1) (C8.pe_gc rfl T.g_MOST_IN_BATCH)))))) pa_nil))))), ?_⟩
    walk_at "vc"
    refine ⟨_, _, .type Kd.tup.ty, .type "tuple", _, rfl, .ty _, (kdT (sb _ _ ha)).tyx, kit_kd .tup .tup (by simp), ?_⟩
    walk_at "vc"
    refine ⟨_, _, rfl, lenT (tS (sb _ _ ha)), ?_⟩
    walk_at "vc"
    refine ifF (by simp; omega) ?_
    walk_at "vc"
    refine ⟨⟨_, tS (sb _ _ ha)⟩, ?_⟩
    intro D hD
    have hl : ns.length = (ns.map nv).length := by simp
    refine lcX (re := Rb) (ds := ns) (hl ▸ walk_tup (xs := ns.map nv)) sb (fun b z => False.elim z) hD (lt_sz (by omega)) (fun _ => true) (fun _ => true) (S := S0) (fun F1 H1 e => tS (e.fh _ _ ha)) (fun i d x F1 H1 H2 hd e y Qy Qn q1 q2 => ?_) (fun F1 H1 ys e fD hDD pr1 => ?_)
    · obtain ⟨rfl, e3⟩ := y
      obtain ⟨z, ez, rfl⟩ := map_get e3
      have ed : z = d := by rw [hd] at ez; exact (Option.some.inj ez).symm
      subst ed
      have hm : z ∈ ns := List.mem_of_getElem? hd
      obtain ⟨b1, b2⟩ := hb z hm
      walk_at "vc"
      refine ⟨_, .int, rfl, ⟨_, rfl⟩, ?_⟩
      walk_at "vc"
      refine ifT (by simp; omega) ?_
      walk_at "vc"
      have e5 : decide ((z : Int) ≤ 100) = true := by simp; omega
      have q3 := q1 rfl (.bl (decide ((z : Int) ≤ 100))) F1 _ (Ex.refl e.s (fun b z => False.elim z)) (by rw [e5]; rfl)
      exact q3
    · have := paired_bls pr1
      subst this
      refine ⟨_, _, rfl, lS hDD, ?_⟩
      rw [all_tt (by simp)]
      exact q _ e.low
def sp_check_batches : Sp := fun vs H Q _ => ∃ F v ns, vs = [v] ∧ Sub F H ∧ Rt Rn F v ns ∧ GoodB ns ∧ ∀ H', Ex S0 F H F H' → Q .non H'
theorem c_check_batches (T : Txt K mg) : C8.Cal P w K mg base 4 "check_batches" sp_check_batches [] := by
  have c_are_batches := c_are_batches (P := P) (w := w) (base := base) T
  refine mkC T.d_check_batches sccheckbatches (fun _ _ _ _ _ _ us hl => match us, hl with | [_], _ => rfl) (fun vs H Q E h => ?_) (fun f cdv A outer s H vs Q E hr h => ?_)
  · obtain ⟨F, v, ns, rfl, _⟩ := h
    rfl
  · obtain ⟨F, v, ns, rfl, sb, hr1, hg, q⟩ := h
    refine ⟨_, (pss_one (ps_if (pt_not (pt_val (C8.pe_c c_are_batches hr (by decide) (by rfl) (pa_cons (pv 0) pa_nil)))) (pss_one ps_never) pss_nil)), ?_⟩
    walk_at "vc"
    refine ⟨F, _, ns, rfl, sb, hr1, hg, fun H' e => ?_⟩
    walk_at "vc"
    exact q _ e
def sp_check_cut : Sp := fun vs H Q _ => ∃ (o m : Nat), vs = [.int o, .int m] ∧ o ≤ 60 ∧ 1 ≤ m ∧ m ≤ o ∧ Q .non H
theorem c_check_cut (T : Txt K mg) : C8.Cal P w K mg base 4 "check_cut" sp_check_cut [] := by
  have c_need_number := c_need_number (P := P) (w := w) (base := base) T
  refine mkC T.d_check_cut sccheckcut (fun _ _ _ _ _ _ us hl => match us, hl with | [_, _], _ => rfl) (fun vs H Q E h => ?_) (fun f cdv A outer s H vs Q E hr h => ?_)
  · obtain ⟨o, m, rfl, _⟩ := h
    rfl
  · obtain ⟨o, m, rfl, h1, h2, h3, q⟩ := h
    refine ⟨_, (pss_cons (ps_expr (C8.pe_c c_need_number hr (by decide) (by rfl) (pa_cons (pv 0) (pa_cons pe_int (pa_cons (C8.pe_gc rfl T.g_MOST_BATCHES) (pa_cons pe_str pa_nil))))))
    (pss_one (ps_expr (C8.pe_c c_need_number hr (by decide) (by rfl) (pa_cons (pv 1) (pa_cons pe_int (pa_cons (pv 0) (pa_cons pe_str pa_nil)))))))), ?_⟩
    walk_at "vc"
    refine ⟨o, 1, 60, _, rfl, by omega, by omega, by omega, ?_⟩
    walk_at "vc"
    refine ⟨m, 1, o, _, rfl, by omega, by omega, by omega, ?_⟩
    exact q
def sp_best_cut : Sp := fun vs H Q _ => ∃ F, ∃ (o m : Nat), vs = [.int o, .int m] ∧ Sub F H ∧ o ≤ 60 ∧ 1 ≤ m ∧ m ≤ o ∧ ∀ r F' H', Ex S0 F H F' H' → Rt Rn F' r (bestCut o m) → Q r H'
theorem c_best_cut (T : Txt K mg) : C8.Cal P w K mg base 5 "best_cut" sp_best_cut [] := by
  have c_check_cut := c_check_cut (P := P) (w := w) (base := base) T
  refine mkC T.d_best_cut scbestcut (fun _ _ _ _ _ _ us hl => match us, hl with | [_, _], _ => rfl) (fun vs H Q E h => ?_) (fun f cdv A outer s H vs Q E hr h => ?_)
  · obtain ⟨F, o, m, rfl, _⟩ := h
    rfl
  · obtain ⟨F, o, m, rfl, sb, h1, h2, h3, q⟩ := h
    refine ⟨_, (pss_cons (ps_expr (C8.pe_c c_check_cut hr (by decide) (by rfl) (pa_cons (pv 0) (pa_cons (pv 1) pa_nil))))
    (pss_cons (ps_if (pt_cmpR op_eq (pv 1) pe_int (nomark _)) (pss_one (ps_ret (pe_tup (pa_cons (pv 0) pa_nil)))) pss_nil)
    (pss_one (ps_ret (pe_op op_catA (pe_tup (pa_cons pe_int (pa_cons (pe_op op_add (pe_op op_sub (pv 0) (pv 1)) pe_int) pa_nil))) (pe_op op_repA (pe_tup (pa_cons pe_int pa_nil)) (pe_op op_sub (pv 1) pe_int))))))), ?_⟩
    walk_at "vc"
    refine ⟨h1, h2, h3, ?_⟩
    walk_at "vc"
    refine ite2 (fun e => ?_) (fun e => ?_)
    · have z : (m : Int) = 1 := by simpa using e
      have e1 : m = 1 := by omega
      subst e1
      walk_at "vc"
      refine go_t1 (ex0 sb) fun p F' e' s' h' => q _ _ _ e' ⟨p, _, rfl, h', ?_⟩
      exact .cons rfl .nil
    · have e1 : m ≠ 1 := fun z => e (by simp [z])
      walk_at "vc"
      refine go_t2 (ex0 sb) fun p F' e' s' h' => ?_
      refine go_t1 e' fun p1 F1 e1' s1 h1' => ?_
      walk_at "vc"
      refine go_rep' (k := m - 2) e1' h1' (by show (m : Int) - 2 = _; omega) (by omega) fun p2 F2 H2 e2 s2 h2' => ?_
      refine go_cat e2 (s2 _ _ (s1 _ _ h')) h2' (by rw [List.length_replicate]; exact Nat.le_trans (m := 1000) (by show 2 + (m - 2) ≤ 1000; omega) (by decide)) fun p3 F3 H3 e3 s3 h3' => ?_
      refine q _ _ _ e3 ⟨_, _, rfl, h3', ?_⟩
      unfold bestCut
      rw [if_neg e1]
      refine Paired.app (.cons rfl (.cons ?_ .nil)) (paired_rep rfl)
      show V.int _ = V.int _
      congr 1
      omega
def sp_worst_cut : Sp := fun vs H Q _ => ∃ F, ∃ (o m : Nat), vs = [.int o, .int m] ∧ Sub F H ∧ o ≤ 60 ∧ 1 ≤ m ∧ m ≤ o ∧ ∀ r F' H', Ex S0 F H F' H' → Rt Rn F' r (worstCut o m) → Q r H'
theorem c_worst_cut (T : Txt K mg) : C8.Cal P w K mg base 5 "worst_cut" sp_worst_cut [] := by
  have c_check_cut := c_check_cut (P := P) (w := w) (base := base) T
  refine mkC T.d_worst_cut scworstcut (fun _ _ _ _ _ _ us hl => match us, hl with | [_, _], _ => rfl) (fun vs H Q E h => ?_) (fun f cdv A outer s H vs Q E hr h => ?_)
  · obtain ⟨F, o, m, rfl, _⟩ := h
    rfl
  · obtain ⟨F, o, m, rfl, sb, h1, h2, h3, q⟩ := h
    refine ⟨_, (pss_cons (ps_expr (C8.pe_c c_check_cut hr (by decide) (by rfl) (pa_cons (pv 0) (pa_cons (pv 1) pa_nil))))
    (pss_cons (ps_asg (pe_callB call_divmod (by rfl) T.divmod (by decide +kernel) (pa_cons (pv 0) (pa_cons (pv 1) pa_nil))) (pg_tup rfl (pgs_cons ((pg_name (i := 2) scworstcut.nd rfl (Or.inl rfl))) (pgs_cons ((pg_name (i := 3) scworstcut.nd rfl (Or.inl rfl))) pgs_nil))))
    (pss_one (ps_ret (pe_op op_catA (pe_op op_repA (pe_tup (pa_cons (pe_op op_add (pv 2) pe_int) pa_nil)) (pv 3)) (pe_op op_repA (pe_tup (pa_cons (pv 2) pa_nil)) (pe_op op_sub (pv 1) (pv 3)))))))), ?_⟩
    walk_at "vc"
    refine ⟨h1, h2, h3, ?_⟩
    walk_at "vc"
    refine ⟨⟨by omega, by omega⟩, ?_⟩
    intro p hp
    obtain ⟨e, hp1, _⟩ := newT (ex0 sb) (xs := [.int ((o : Int) / m), .int ((o : Int) % m)]) hp
    refine ⟨_, _, rfl, tS upd_same, rfl, ?_⟩
    walk_at "vc"
    refine go_t1 e fun p1 F1 e1 s1 h1' => ?_
    walk_at "vc"
    have lt : o % m < m := Nat.mod_lt _ (by omega)
    refine go_rep' (k := o % m) e1 h1' (by omega) (by omega) fun p2 F2 H2 e2 s2 h2' => ?_
    walk_at "vc"
    refine go_t1 e2 fun p3 F3 e3 s3 h3' => ?_
    walk_at "vc"
    refine go_rep' (k := m - o % m) e3 h3' (by show (m : Int) - (o : Int) % m = _; omega) (by omega) fun p4 F4 H4 e4 s4 h4' => ?_
    refine go_cat e4 (s4 _ _ (s3 _ _ h2')) h4' (by rw [List.length_replicate, List.length_replicate]; exact Nat.le_trans (m := 1000) (by omega) (by decide)) fun p5 F5 H5 e5 s5 h5' => ?_
    refine q _ _ _ e5 ⟨_, _, rfl, h5', ?_⟩
    unfold worstCut
    exact Paired.app (paired_rep (by show V.int _ = V.int _; congr 1)) (paired_rep (by show V.int _ = V.int _; congr 1))
def sp_waiting_of : Sp := fun vs H Q _ => ∃ F v ns, vs = [v] ∧ Sub F H ∧ Rt Rn F v ns ∧ ns.length ≤ 1000 ∧ (∀ n ∈ ns, n ≤ 1000) ∧ ∀ H', Ex S0 F H F H' → Q (.int (waitN ns : Nat)) H'
theorem sum_nat (ns : List Nat) : (ns.map fun n : Nat => (n : Int)).sum = ((ns.sum : Nat) : Int) := by
  induction ns with
  | nil => rfl
  | cons a t ih => simp [ih]
theorem wait1 (n : Nat) : (n : Int) * ((n : Int) - 1) / 2 = ((n * (n - 1) / 2 : Nat) : Int) := by
  cases n with
  | zero => rfl
  | succ k =>
    have : ((k + 1 : Nat) : Int) - 1 = (k : Int) := by omega
    rw [this]
    simp
theorem c_waiting_of (T : Txt K mg) : C8.Cal P w K mg base 1 "waiting_of" sp_waiting_of [] := by
  refine mkC T.d_waiting_of scwaitingof (fun _ _ _ _ _ _ us hl => match us, hl with | [_], _ => rfl) (fun vs H Q E h => ?_) (fun f cdv A outer s H vs Q E hr h => ?_)
  · obtain ⟨F, v, ns, rfl, _⟩ := h
    rfl
  · obtain ⟨F, v, ns, rfl, sb, ⟨a, vs, rfl, ha, pr⟩, hz, hb, q⟩ := h
    have ew : vs = ns.map nv := paired_nats pr
    subst ew
    refine ⟨_, (pss_one (ps_ret (pe_callB (cr_sum rfl) (by rfl) T.sum (by decide +kernel) (pa_cons (pe_lc (own := [("size", 1)]) (tt := tYes) rfl scwaitingof.nd (pi_tup (pv 0)) (blkOk_by (N := N_waitingof) (sc := defScope swaitingof) (by decide +kernel)) (fun _ _ _ _ _ => pg_name (i := 1) scwaitingof.nd rfl (Or.inl rfl) (Or.inr rfl)) (fun _ _ _ _ _ => pts_nil) (fun _ _ _ _ _ => (pe_op op_fdiv (pe_op op_mul (pv 1) (pe_op op_sub (pv 1) pe_int)) pe_int))) pa_nil)))), ?_⟩
    walk_at "vc"
    refine ⟨⟨_, tS (sb _ _ ha)⟩, ?_⟩
    intro D hD
    have hl : ns.length = (ns.map nv).length := by simp
    refine lcX (re := Rn) (ds := ns) (hl ▸ walk_tup (xs := ns.map nv)) sb (fun b z => False.elim z) hD (lt_sz (by omega)) (fun _ => true) (fun n => n * (n - 1) / 2) (S := S0) (fun F1 H1 e => tS (e.fh _ _ ha)) (fun i d x F1 H1 H2 hd e y Qy Qn q1 q2 => ?_) (fun F1 H1 ys e fD hDD pr1 => ?_)
    · obtain ⟨rfl, e3⟩ := y
      obtain ⟨z, ez, rfl⟩ := map_get e3
      have ed : z = d := by rw [hd] at ez; exact (Option.some.inj ez).symm
      subst ed
      have hm : z ∈ ns := List.mem_of_getElem? hd
      have b1 := hb z hm
      walk_at "vc"
      refine ⟨.inl ⟨by omega, by omega⟩, ?_⟩
      walk_at "vc"
      refine ⟨⟨by omega, by omega⟩, ?_⟩
      exact q1 rfl (.int ((z : Int) * ((z : Int) - 1) / 2)) F1 _ (Ex.refl e.s (fun b z => False.elim z)) (by show V.int _ = V.int _; rw [wait1])
    · have := paired_nats pr1
      subst this
      rw [filter_tt'] at hDD
      refine ⟨_, (ns.map fun n => n * (n - 1) / 2).map fun n : Nat => (n : Int), rfl, lS (by rw [hDD, List.map_map, List.map_map, List.map_map]; rfl), ?_⟩
      rw [sum_nat]
      exact q _ e.low
def startRow (n t : Nat) : List (Option Int) := (List.range n).map fun o => if o = t then some 0 else none
def sp_start_row : Sp := fun vs H Q _ => ∃ F v n ties, ∃ t : Nat, vs = [v, .int t] ∧ Sub F H ∧ RTab K F v n ties ∧ n ≤ 12 ∧ ∀ r F' H', Ex S0 F H F' H' → Rt (Ro Ri) F' r (startRow n t) → Q r H'
theorem c_start_row (T : Txt K mg) : C8.Cal P w K mg base 1 "start_row" (sp_start_row (K := K)) [] := by
  refine mkC T.d_start_row scstartrow (fun _ _ _ _ _ _ us hl => match us, hl with | [_, _], _ => rfl) (fun vs H Q E h => ?_) (fun f cdv A outer s H vs Q E hr h => ?_)
  · obtain ⟨F, v, n, ties, t, rfl, _⟩ := h
    rfl
  · obtain ⟨F, v, n, ties, t, rfl, sb, ht, hn, q⟩ := h
    obtain ⟨a, C, dx, fs, at1, us, vu, rfl, h2, h3, h4, h5, h6, h7, h8, h9, h10⟩ := ht
    refine ⟨_, (pss_one (ps_ret (pe_callTy call_tuple_of (by rfl) T.tuple (by decide +kernel) (pa_cons (pe_lc (own := [("other", 2)]) (tt := tYes) rfl scstartrow.nd (pi_range1 (by rfl) T.range (pa_cons (pe_callB call_len (by rfl) T.len (by decide +kernel) (pa_cons (pe_fld (pv 0) rfl) pa_nil)) pa_nil)) (blkOk_by (N := N_startrow) (sc := defScope sstartrow) (by decide +kernel)) (fun _ _ _ _ _ => pg_name (i := 2) scstartrow.nd rfl (Or.inl rfl) (Or.inr rfl)) (fun _ _ _ _ _ => pts_nil) (fun _ _ _ _ _ => (pe_ifExp (pt_cmpR op_eq (pv 2) (pv 1) (nomark _)) pe_int pe_non))) pa_nil)))), ?_⟩
    walk_at "vc"
    refine ⟨_, C, dx, fs, _, rfl, sb _ _ h2, h3, h4, h6, ?_⟩
    refine ⟨_, _, rfl, lenT (tS (sb _ _ h8)), ?_⟩
    refine ⟨_, rfl, by omega, by omega, ?_⟩
    intro D hD
    refine lcX (re := Ro Ri) (ds := List.range n) (walk_rg (by simp [h9])) sb (fun b z => False.elim z) hD (lt_sz (by simp; omega)) (fun _ => true) (fun o => if o = t then some 0 else none) (S := S0) (fun F1 H1 e => trivial) (fun i d x F1 H1 H2 hd e y Qy Qn q1 q2 => ?_) (fun F1 H1 ys e fD hDD pr1 => ?_)
    · obtain ⟨rfl, rfl⟩ := y
      obtain ⟨rfl, hi⟩ := range_get hd
      walk_at "vc"
      refine ite2 (fun z => ?_) (fun z => ?_)
      · have z2 : (d : Int) = t := by simpa using z
        have z1 : d = t := by omega
        exact q1 rfl (.int 0) _ _ (Ex.refl e.s (fun b z => False.elim z)) (by rw [if_pos z1]; rfl)
      · have z1 : ¬ d = t := fun z2 => z (by simp [z2])
        exact q1 rfl .non _ _ (Ex.refl e.s (fun b z => False.elim z)) (by rw [if_neg z1]; rfl)
    · rw [filter_tt'] at pr1
      exact go_tupOf e hDD fun p F' e' s' h' => q _ _ _ e' ⟨p, ys, rfl, h', Paired.up s' pr1⟩
def relax (row fd : List (Option Int)) (t : Nat × Nat × Int) : List (Option Int) :=
  match row.getD t.1 none with
  | none => fd
  | some a => match fd.getD t.2.1 none with
    | none => fd.set t.2.1 (some (a + t.2.2))
    | some b => if b < a + t.2.2 then fd.set t.2.1 (some (a + t.2.2)) else fd
def nextRow (ties : List (Nat × Nat × Int)) (row : List (Option Int)) : List (Option Int) := ties.foldl (relax row) row
theorem relax_len (row fd : List (Option Int)) (t : Nat × Nat × Int) : (relax row fd t).length = fd.length := by
  unfold relax
  split
  · rfl
  · split
    · simp
    · split <;> simp
theorem foldl_len (row : List (Option Int)) : ∀ (ties : List (Nat × Nat × Int)) (fd : List (Option Int)), (ties.foldl (relax row) fd).length = fd.length
  | [], fd => rfl
  | t :: ts, fd => by rw [List.foldl_cons, foldl_len row ts, relax_len]
theorem nextRow_len (ties : List (Nat × Nat × Int)) (row : List (Option Int)) : (nextRow ties row).length = row.length := foldl_len row ties row
theorem getD_get {xs : List (Option Int)} {i : Nat} (h : i < xs.length) : xs[i]? = some (xs.getD i none) := by
  rw [List.getD_eq_getElem?_getD, List.getElem?_eq_getElem h]; rfl
def sp_next_row : Sp := fun vs H Q _ => ∃ F v u n ties row, vs = [v, u] ∧ Sub F H ∧ RTab K F v n ties ∧ TiesOk n ties ∧ Rt (Ro Ri) F u row ∧ row.length = n ∧ ∀ r F' H', Ex S0 F H F' H' → Rt (Ro Ri) F' r (nextRow ties row) → Q r H'
theorem c_next_row (T : Txt K mg) : C8.Cal P w K mg base 1 "next_row" (sp_next_row (K := K)) [] := by
  refine mkC T.d_next_row scnextrow (fun _ _ _ _ _ _ us hl => match us, hl with | [_, _], _ => rfl) (fun vs H Q E h => ?_) (fun f cdv A outer s H vs Q E hr h => ?_)
  · obtain ⟨F, v, u, n, ties, row, rfl, _⟩ := h
    rfl
  · obtain ⟨F, v, u, n, ties, row, rfl, sb, ht, hto, ⟨ra, rvs, rfl, hra, prr⟩, hrl, q⟩ := h
    have ew : rvs = row.map ov := paired_ovs prr
    subst ew
    obtain ⟨a, C, dx, fs, at1, us, vu, rfl, h2, h3, h4, h5, h6, h7, h8, h9, ⟨ta, tvs, rfl, hta, prt⟩⟩ := ht
    refine ⟨_, (pss_cons (ps_set (i := 2) scnextrow.nd rfl (Or.inl rfl) (pe_callTy call_list_of (by rfl) T.list (by decide +kernel) (pa_cons (pv 1) pa_nil)))
    (pss_cons (ps_for PassesOwn.never rfl (pi_tup (pe_fld (pv 0) rfl)) (pg_tup rfl (pgs_cons ((pg_name (i := 3) scnextrow.nd rfl (Or.inl rfl))) (pgs_cons ((pg_name (i := 4) scnextrow.nd rfl (Or.inl rfl))) (pgs_cons ((pg_name (i := 5) scnextrow.nd rfl (Or.inl rfl))) pgs_nil)))) (pss_one (ps_if (PW.pt (pw_and (pt_cmpR op_notN (pe_ix ix_tup (pv 1) (pv 3) (fun _ _ => rfl)) pe_non (nomark _)) (pw_and1 (PW.pt (pw_or (pt_cmpR op_isN (pe_ix ix_list (pv 2) (pv 4) (fun _ _ => rfl)) pe_non (nomark _)) (pw_or1 (pt_cmpR op_lt (pe_ix ix_list (pv 2) (pv 4) (fun _ _ => rfl)) (pe_op op_add (pe_ix ix_tup (pv 1) (pv 3) (fun _ _ => rfl)) (pv 5)) (nomark _)))))))) (pss_one (ps_asg (pe_op op_add (pe_ix ix_tup (pv 1) (pv 3) (fun _ _ => rfl)) (pv 5)) (pg_sub (pv 2) (pv 4) set_list))) pss_nil)))
    (pss_one (ps_ret (pe_callTy call_tuple_of (by rfl) T.tuple (by decide +kernel) (pa_cons (pv 2) pa_nil)))))), ?_⟩
    walk_at "vc"
    refine ⟨_, _, rfl, .inr (tS (sb _ _ hra)), ?_⟩
    intro L hL
    walk_at "vc"
    have e0 : Ex S0 F H F (upd H L (.lst (row.map ov))) := Ex.own sb hL (fun b z => False.elim z)
    have fL : F L = none := sb.free hL
    refine ⟨_, C, dx, fs, _, rfl, e0.s _ _ h2, h3, h5, h7, ?_⟩
    refine ⟨_, rfl, ⟨_, tS (e0.s _ _ hta)⟩, ?_⟩
    refine for_it (walk_tp prt) (fun i σ H1 => ∃ u v w, ∃ fd : List (Option Int), σ = [some (.ref a), some (.ref ra), some (.ref L), u, v, w] ∧ Ex S0 F H F H1 ∧ H1 L = some (.lst (fd.map ov)) ∧ fd = (ties.take i).foldl (relax row) row) ⟨none, none, none, row, rfl, e0, upd_same, rfl⟩ (fun i σ H1 _ h => ?_) (fun i x σ H1 H2 hi h y => ?_) (fun σ H1 h => ?_)
    · obtain ⟨u, v, w, fd, rfl, e, hL1, hfd⟩ := h
      exact tS (e.s _ _ hta)
    · obtain ⟨u, v, w, fd, rfl, e, hL1, hfd⟩ := h
      obtain ⟨rfl, e3⟩ := y
      obtain ⟨⟨p1, p2, wt⟩, ez, ⟨ta1, u1, u2, u3, rfl, hq, rfl, rfl, rfl⟩⟩ := Paired.getL prt e3
      have fdl : fd.length = n := by rw [hfd, foldl_len, hrl]
      have htm := hto _ (List.mem_of_getElem? ez)
      simp only at htm
      have r1 : row[p1]? = some (row.getD p1 none) := getD_get (by omega)
      have r2 : fd[p2]? = some (fd.getD p2 none) := getD_get (by omega)
      have hnx : (ties.take (i + 1)).foldl (relax row) row = relax row fd (p1, p2, wt) := by rw [take_snoc ez, List.foldl_append, ← hfd]; rfl
      refine ⟨_, _, rfl, tS (e.s _ _ hq), rfl, ?_⟩
      walk_at "vc"
      have rr1 : atI (row.map ov) (p1 : Int) = some (ov (row.getD p1 none)) := atI_nat (by rw [List.getElem?_map, r1]; rfl)
      have rr2 : atI (fd.map ov) (p2 : Int) = some (ov (fd.getD p2 none)) := atI_nat (by rw [List.getElem?_map, r2]; rfl)
      have rr3 : ixN (fd.map ov).length (p2 : Int) = some p2 := by
        unfold ixN
        rw [if_pos (by omega), if_pos (by rw [List.length_map]; omega), Int.toNat_natCast]
      refine ⟨_, _, _, _, rfl, rfl, tS (e.s _ _ hra), rr1, ?_⟩
      have key : ∀ z, row.getD p1 none = some z → (fd.getD p2 none = none ∨ ∃ b, fd.getD p2 none = some b ∧ b < z + wt) → relax row fd (p1, p2, wt) = fd.set p2 (some (z + wt)) := by
        intro z hz1 hz2
        unfold relax
        simp only [hz1]
        rcases hz2 with hz2 | ⟨b, hz2, hz3⟩
        · simp only [hz2]
        · simp only [hz2]; rw [if_pos hz3]
      cases hr1' : row.getD p1 none with
      | none =>
        walk_at "vc"
        exact ⟨_, _, _, fd, rfl, e, hL1, by rw [hnx]; unfold relax; simp only [hr1']⟩
      | some z =>
        rw [hr1'] at rr1
        walk_at "vc"
        refine ⟨_, _, _, _, rfl, rfl, lS hL1, rr2, ?_⟩
        have fin : relax row fd (p1, p2, wt) = fd.set p2 (some (z + wt)) → ∃ p xs k j, V.ref L = .ref p ∧ V.int (p2 : Int) = .int k ∧ H2 p = some (.lst xs) ∧ ixN xs.length k = some j ∧ ∃ u v w, ∃ fd : List (Option Int), [some (V.ref a), some (V.ref ra), some (V.ref L), some (V.int p1), some (V.int p2), some (V.int wt)] = [some (.ref a), some (.ref ra), some (.ref L), u, v, w] ∧ Ex S0 F H F (upd H2 p (.lst (xs.set j (.int (z + wt))))) ∧ (upd H2 p (.lst (xs.set j (.int (z + wt))))) L = some (.lst (fd.map ov)) ∧ fd = (ties.take (i + 1)).foldl (relax row) row := by
          intro hz
          refine ⟨L, _, _, p2, rfl, rfl, hL1, rr3, _, _, _, fd.set p2 (some (z + wt)), rfl, e.put (.inl hL) fL, ?_, ?_⟩
          · rw [upd_same, List.map_set]; rfl
          · rw [hnx, hz]
        cases hr2' : fd.getD p2 none with
        | none =>
          walk_at "vc"
          refine ⟨_, _, _, _, rfl, rfl, tS (e.s _ _ hra), rr1, ?_⟩
          walk_at "vc"
          exact fin (key z hr1' (.inl hr2'))
        | some b =>
          rw [hr2'] at rr2
          walk_at "vc"
          refine ⟨_, _, _, _, rfl, rfl, lS hL1, rr2, ?_⟩
          walk_at "vc"
          refine ⟨_, _, _, _, rfl, rfl, tS (e.s _ _ hra), rr1, ?_⟩
          walk_at "vc"
          refine ite2 (fun hc => ?_) (fun hc => ?_)
          · have hc : b < z + wt := of_decide_eq_true hc
            walk_at "vc"
            refine ⟨_, _, _, _, rfl, rfl, tS (e.s _ _ hra), rr1, ?_⟩
            walk_at "vc"
            exact fin (key z hr1' (.inr ⟨b, hr2', hc⟩))
          · have hc : ¬ b < z + wt := fun z => hc (decide_eq_true z)
            exact ⟨_, _, _, fd, rfl, e, hL1, by rw [hnx]; unfold relax; simp only [hr1', hr2']; rw [if_neg hc]⟩
    · obtain ⟨u, v, w, fd, rfl, e, hL1, hfd⟩ := h
      walk_at "vc"
      refine go_tupOf e hL1 fun p F' e' s' h' => q _ _ _ e' ⟨p, _, rfl, h', ?_⟩
      rw [List.take_length] at hfd
      rw [hfd]
      exact ovs_paired _
end
end Sa
set_option Elab.async false
set_option linter.all false
set_option maxRecDepth 100000
set_option maxHeartbeats 4000000
namespace Sa
open PySem PySem.Spec PyProof.Rows L2
local macro_rules | `(tactic| walk_at "vc") => `(tactic| repeat (first | refine ⟨_, rfl, ?_⟩ | refine ⟨_, _, rfl, rfl, ?_⟩ | refine ⟨_, _, rfl, ?_⟩ | refine ⟨rfl, ?_⟩))
theorem while_it {c : TT} {tb : TS} {D : Ends} {σ : L2.St} {H : Hp} (W : Nat → L2.St → Hp → Prop) (Pe : L2.St → Hp → Prop) (m0 : Nat) (h0 : W m0 σ H) (hd : ∀ σ H, Pe σ H → D.nx σ H)
    (hs : (∀ σ H, Pe σ H → D.nx σ H) → ∀ m σ H, W m σ H → c σ H fun b H1 => if b = true then ∃ N : L2.St → Hp → Prop, (∀ σ' H', N σ' H' → ∃ m', m' < m ∧ W m' σ' H') ∧ tb { D with nx := N, ct := N, bk := D.nx } σ H1 else D.nx σ H1) : tWhile c tb D σ H :=
  ⟨W, ⟨m0, h0⟩, hs hd⟩
theorem for_itB {J : It} {n : Nat} {G : Hp → Prop} {Y : Nat → Hp → V → Hp → Prop} (w : Walk J n G Y) {g : TG} {tb : TS} {D : Ends} {σ : L2.St} {H : Hp} (Pv : Nat → L2.St → Hp → Prop) (Pe : L2.St → Hp → Prop) (h0 : Pv 0 σ H) (hG : ∀ i σ H, i ≤ n → Pv i σ H → G H) (hd : ∀ σ H, Pe σ H → D.nx σ H)
    (hs : (∀ σ H, Pe σ H → D.nx σ H) → ∀ i x σ H H', i < n → Pv i σ H → Y i H x H' → g x σ H' fun σ2 H2 => tb { D with nx := Pv (i + 1), ct := Pv (i + 1), bk := D.nx } σ2 H2) (he : ∀ σ H, Pv n σ H → Pe σ H) :
    ∃ W : Nat → Nat → L2.St → Hp → Prop, (∃ m, W 0 m σ H) ∧ ∀ i m σ H, W i m σ H →
      (J.stop i H ∧ D.nx σ H) ∨ (J.go i H ∧ ∃ N : L2.St → Hp → Prop, (∀ σ' H', N σ' H' → ∃ m', m' < m ∧ W (i + 1) m' σ' H') ∧ ∀ x H', J.yld i H x H' → g x σ H' fun σ2 H2 => tb { D with nx := N, ct := N, bk := D.nx } σ2 H2) :=
  for_it w Pv h0 hG (hs hd) fun σ H p => hd σ H (he σ H p)
abbrev Row := List (Option Int)
abbrev Ties := List (Nat × Nat × Int)
def layFrom (ties : Ties) (row : Row) : Nat → List Row
  | 0 => [row]
  | f + 1 => if nextRow ties row = row then [row] else row :: layFrom ties (nextRow ties row) f
def layersOf (n : Nat) (ties : Ties) (t : Nat) : List Row := layFrom ties (startRow n t) (2 * n)
def layerAt (rows : List Row) (m : Nat) : Row := rows.getD (min m (rows.length - 1)) []
def evOf (n : Nat) (ties : Ties) : List (List Row) := (List.range n).map (layersOf n ties)
abbrev RRow : Rp Row := Rt (Ro Ri)
abbrev RLay : Rp (List Row) := Rt RRow
abbrev REv : Rp (List (List Row)) := Rt RLay
theorem startRow_len (n t : Nat) : (startRow n t).length = n := by unfold startRow; simp
theorem layFrom_ne (ties : Ties) (row : Row) (f : Nat) : layFrom ties row f ≠ [] := by
  cases f with
  | zero => simp [layFrom]
  | succ k => unfold layFrom; split <;> simp
theorem layFrom_len (ties : Ties) : ∀ (f : Nat) (row : Row), (layFrom ties row f).length ≤ f + 1
  | 0, row => by simp [layFrom]
  | k + 1, row => by
    unfold layFrom
    split
    · simp
    · have := layFrom_len ties k (nextRow ties row)
      simp; omega
theorem layFrom_rows (ties : Ties) (n : Nat) : ∀ (f : Nat) (row : Row), row.length = n → ∀ r ∈ layFrom ties row f, r.length = n
  | 0, row, h, r, hm => by simp [layFrom] at hm; rw [hm]; exact h
  | k + 1, row, h, r, hm => by
    unfold layFrom at hm
    split at hm
    · simp at hm; rw [hm]; exact h
    · rcases List.mem_cons.mp hm with rfl | hm
      · exact h
      · exact layFrom_rows ties n k _ (by rw [nextRow_len, h]) r hm
def EvOk (n : Nat) (every : List (List Row)) : Prop := every.length = n ∧ ∀ rows ∈ every, rows ≠ [] ∧ rows.length ≤ 100 ∧ ∀ r ∈ rows, r.length = n
theorem evOf_ok (n : Nat) (ties : Ties) (hn : n ≤ 12) : EvOk n (evOf n ties) := by
  refine ⟨by simp [evOf], fun rows hm => ?_⟩
  unfold evOf at hm
  obtain ⟨t, ht, rfl⟩ := List.mem_map.mp hm
  exact ⟨layFrom_ne _ _ _, Nat.le_trans (layFrom_len _ _ _) (by omega), layFrom_rows _ _ _ _ (startRow_len n t)⟩
theorem dp_row {K : PySem.W.Frag} {H : Hp} {v : V} {r : Row} (h : RRow H v r) : Dp K H v (.tuple (r.map opy)) := by
  obtain ⟨a, vs, rfl, h1, h2⟩ := h
  have := paired_ovs h2
  subst this
  exact dp_topt (tS h1)
theorem atI_last {α : Type} {xs : List α} {v : α} (h : xs.getLast? = some v) : atI xs (-1) = some v := by
  have hn : xs ≠ [] := by rintro rfl; simp at h
  have hl : 0 < xs.length := List.length_pos_iff.mpr hn
  unfold atI ixN
  rw [if_neg (by omega), if_pos (by omega)]
  show xs[((-1 : Int) + xs.length).toNat]? = some v
  rw [List.getLast?_eq_getElem?] at h
  rw [show ((-1 : Int) + xs.length).toNat = xs.length - 1 by omega]
  exact h
theorem Paired.last {α β : Type} {R : α → β → Prop} {xs : List α} {ys : List β} {y : β} (h : Paired R xs (ys ++ [y])) : ∃ x, xs.getLast? = some x ∧ R x y := by
  have hl := Paired.length h
  obtain ⟨x, h1, h2⟩ := Paired.get (i := ys.length) (y := y) h (by simp)
  refine ⟨x, ?_, h2⟩
  rw [List.getLast?_eq_getElem?, hl, List.length_append]
  simpa using h1
section
variable {P : Program} {w : World} {K : PySem.W.Frag} {mg : Str → Option Value} {base : Heap}
def sp_thing_layers : Sp := fun vs H Q _ => ∃ F v n ties, ∃ t most : Nat, vs = [v, .int t, .int most] ∧ Sub F H ∧ RTab K F v n ties ∧ TiesOk n ties ∧ n ≤ 12 ∧ most ≤ 100 ∧ ∀ r F' H', Ex S0 F H F' H' → RLay F' r (layFrom ties (startRow n t) most) → Q r H'
theorem c_thing_layers (T : Txt K mg) : C8.Cal P w K mg base 4 "thing_layers" (sp_thing_layers (K := K)) [] := by
  have c_need_number := c_need_number (P := P) (w := w) (base := base) T
  have c_start_row := c_start_row (P := P) (w := w) (base := base) T
  have c_next_row := c_next_row (P := P) (w := w) (base := base) T
  refine mkC T.d_thing_layers scthinglayers (fun _ _ _ _ _ _ us hl => match us, hl with | [_, _, _], _ => rfl) (fun vs H Q E h => ?_) (fun f cdv A outer s H vs Q E hr h => ?_)
  · obtain ⟨F, v, n, ties, t, most, rfl, _⟩ := h
    rfl
  · obtain ⟨F, v, n, ties, t, most, rfl, sb, ht, hto, hn, hm, q⟩ := h
    refine ⟨_, (pss_cons (ps_expr (C8.pe_c c_need_number hr (by decide) (by rfl) (pa_cons (pv 2) (pa_cons pe_int (pa_cons (C8.pe_gc rfl T.g_MOST_LAYERS) (pa_cons pe_str pa_nil))))))
    (pss_cons (ps_set (i := 3) scthinglayers.nd rfl (Or.inl rfl) (pe_lst (pa_cons (C8.pe_c c_start_row hr (by decide) (by rfl) (pa_cons (pv 0) (pa_cons (pv 1) pa_nil))) pa_nil)))
    (pss_cons (ps_while PassesOwn.never (pt_cmpR op_le (pe_callB call_len (by rfl) T.len (by decide +kernel) (pa_cons (pv 3) pa_nil)) (pv 2) (nomark _)) (pss_cons (ps_set (i := 4) scthinglayers.nd rfl (Or.inl rfl) (C8.pe_c c_next_row hr (by decide) (by rfl) (pa_cons (pv 0) (pa_cons (pe_ix ix_list (pv 3) (pe_un un_neg pe_int) (fun _ _ => rfl)) pa_nil))))
    (pss_cons (ps_if (pt_cmpR (op_eqD (hr.units)) (pv 4) (pe_ix ix_list (pv 3) (pe_un un_neg pe_int) (fun _ _ => rfl)) (nomark _)) (pss_one ps_break) pss_nil)
    (pss_one (ps_expr (pe_bm PySem.F.plainAttrs_list PySem.F.slot_list_append PySem.F.type_list_append mt_append (pv 3) (pa_cons (pv 4) pa_nil)))))))
    (pss_one (ps_ret (pe_callTy call_tuple_of (by rfl) T.tuple (by decide +kernel) (pa_cons (pv 3) pa_nil))))))), ?_⟩
    walk_at "vc"
    refine ⟨_, 0, 100, _, rfl, by omega, by omega, by omega, ?_⟩
    walk_at "vc"
    refine ⟨F, _, n, ties, t, rfl, sb, ht, hn, fun r F1 H1 e1 r1 => ?_⟩
    refine ⟨by show 1 ≤ sizeLine; decide, fun L hL => ?_⟩
    have e2 : Ex S0 F H F1 (upd H1 L (.lst [r])) := e1.trans (Ex.own e1.s hL (fun b z => False.elim z))
    have fL : F1 L = none := e1.s.free hL
    have hLo : H L = none := e1.old hL
    refine while_it (fun m σ H2 => ∃ u F2 done cur vs, σ = [some v, some (.int t), some (.int most), some (.ref L), u] ∧ Ex S0 F H F2 H2 ∧ F2 L = none ∧ H2 L = some (.lst vs) ∧ Paired (RRow F2) vs (done ++ [cur]) ∧ cur.length = n ∧ done.length ≤ most ∧ m = most - done.length ∧ layFrom ties (startRow n t) most = done ++ layFrom ties cur (most - done.length))
      (fun σ H2 => ∃ u F2 vs, σ = [some v, some (.int t), some (.int most), some (.ref L), u] ∧ Ex S0 F H F2 H2 ∧ F2 L = none ∧ H2 L = some (.lst vs) ∧ Paired (RRow F2) vs (layFrom ties (startRow n t) most)) most ⟨none, F1, [], startRow n t, [r], rfl, e2, fL, upd_same, .cons r1 .nil, startRow_len n t, Nat.zero_le _, by simp, by simp⟩ (fun σ H2 h => ?_) (fun fin m σ H2 h => ?_)
    · obtain ⟨u, F2, vs, rfl, e, f2, h2, pr⟩ := h
      walk_at "vc"
      exact go_tupOf e h2 fun p F' e' s' h' => q _ _ _ e' ⟨p, _, rfl, h', Paired.up s' pr⟩
    · obtain ⟨u, F2, done, cur, vs, rfl, e, f2, h2, pr, hc, hd, rfl, hly⟩ := h
      have hvl : vs.length = done.length + 1 := by rw [Paired.length pr]; simp
      walk_at "vc"
      refine ⟨_, _, rfl, lenL (lS h2), ?_⟩
      walk_at "vc"
      refine ite2 (fun z => ?_) (fun z => ?_)
      · have z1 : done.length < most := by have := of_decide_eq_true z; omega
        obtain ⟨lv, hlv, rlv⟩ := Paired.last pr
        refine ⟨fun σ' H' => ∃ m', m' < most - done.length ∧ ∃ u F2 done cur vs, σ' = [some v, some (.int t), some (.int most), some (.ref L), u] ∧ Ex S0 F H F2 H' ∧ F2 L = none ∧ H' L = some (.lst vs) ∧ Paired (RRow F2) vs (done ++ [cur]) ∧ cur.length = n ∧ done.length ≤ most ∧ m' = most - done.length ∧ layFrom ties (startRow n t) most = done ++ layFrom ties cur (most - done.length), fun _ _ h => h, ?_⟩
        walk_at "vc"
        refine ⟨_, _, _, _, rfl, rfl, lS h2, atI_last hlv, ?_⟩
        refine ⟨F2, v, lv, n, ties, cur, rfl, e.s, RTab.up e.f ht, hto, rlv, hc, fun r3 F3 H3 e3 r3' => ?_⟩
        have h3 := e3.keep h2 (fun z => z) f2
        have pr3 := Paired.up e3.f pr
        have e13 := e.trans e3
        have rlv3 : RRow F3 lv cur := Mono.up e3.f rlv
        walk_at "vc"
        refine ⟨_, _, _, _, rfl, rfl, lS h3.1, atI_last hlv, ?_⟩
        refine ⟨_, _, dp_row (Mono.up (r := RRow) e3.s r3'), dp_row (Mono.up (r := RRow) e3.s rlv3), shaped_to _, shaped_to _, ?_⟩
        rw [eqv_tup, eqvAll_map opy eqv_opy]
        walk_at "vc"
        refine ite2 (fun z2 => ?_) (fun z2 => ?_)
        · have z3 : nextRow ties cur = cur := of_decide_eq_true z2
          refine fin _ _ ⟨_, F3, vs, rfl, e13, h3.2, h3.1, ?_⟩
          rw [hly]
          have ek : most - done.length = (most - done.length - 1) + 1 := by omega
          rw [ek]
          unfold layFrom
          rw [if_pos z3]
          exact pr3
        · have z3 : ¬ nextRow ties cur = cur := fun z4 => z2 (decide_eq_true z4)
          walk_at "vc"
          refine ⟨.inl ⟨rfl, _, lS h3.1⟩, ?_⟩
          walk_at "vc"
          refine ⟨_, _, _, rfl, rfl, h3.1, lt_sz (by omega), ?_⟩
          have e4 := e13.put (o := .lst (vs ++ [r3])) (.inl hLo) h3.2
          refine ⟨_, by show most - (done ++ [cur]).length < _; rw [List.length_append]; show most - (done.length + 1) < _; omega, _, F3, done ++ [cur], nextRow ties cur, vs ++ [r3], rfl, e4, h3.2, upd_same, Paired.app pr3 (.cons r3' .nil), by rw [nextRow_len, hc], by rw [List.length_append]; show done.length + 1 ≤ most; omega, rfl, ?_⟩
          rw [hly]
          have ek : most - done.length = (most - (done ++ [cur]).length) + 1 := by rw [List.length_append]; show _ = most - (done.length + 1) + 1; omega
          rw [ek]
          conv => lhs; unfold layFrom
          rw [if_neg z3, List.append_assoc]
          rfl
      · have z1 : done.length = most := by
          have : ¬ ((vs.length : Int) ≤ most) := fun z4 => z (decide_eq_true z4)
          omega
        refine fin _ _ ⟨u, F2, vs, rfl, e, f2, h2, ?_⟩
        rw [hly, z1, Nat.sub_self]
        exact pr
end
end Sa
set_option Elab.async false
set_option linter.all false
set_option maxRecDepth 100000
set_option maxHeartbeats 4000000
namespace Sa
open PySem PySem.Spec PyProof.Rows L2
local macro_rules | `(tactic| walk_at "vc") => `(tactic| repeat (first | refine ⟨_, rfl, ?_⟩ | refine ⟨_, _, rfl, rfl, ?_⟩ | refine ⟨_, _, rfl, ?_⟩ | refine ⟨rfl, ?_⟩))
theorem getD_getG {α : Type} {xs : List α} {i : Nat} {d : α} (h : i < xs.length) : xs[i]? = some (xs.getD i d) := by
  rw [List.getD_eq_getElem?_getD, List.getElem?_eq_getElem h]; rfl
def walkR (c : List Nat) : Nat := c.foldl (fun a b => a * (b + 1)) 1
def ringR : List Nat → Nat
  | [] => 0
  | b :: t => b * walkR t
def below (x : Nat) : Option Nat → Bool
  | none => true
  | some z => decide (x < z)
abbrev Pr := Option Nat × Option Nat
def fitB (p : Pr) (a b : Nat) : Bool := below a p.1 && below b p.2
def fits (p : Pr) (c : List Nat) : Bool := fitB p (walkR c) (ringR c)
abbrev RPr : Rp Pr := R2 (Ro Rn) (Ro Rn)
def onv : Option Nat → V
  | none => .non
  | some n => .int (n : Int)
theorem ro_onv {F : Hp} {v : V} {x : Option Nat} (h : Ro Rn F v x) : v = onv x := by
  cases x with
  | none => exact h
  | some i => exact h
theorem onv_ro {F : Hp} (x : Option Nat) : Ro Rn F (onv x) x := by
  cases x with
  | none => rfl
  | some i => rfl
def roundsGo (f : Nat → Bool) : Nat → Nat → Nat
  | 0, k => k
  | n + 1, k => if f (k + 1) then roundsGo f n (k + 1) else k
theorem comeOf_lt {ts : List (Option Int)} {i : Nat} (h : i ∈ comeOf ts) : i < ts.length ∧ ∃ t, ts[i]? = some (some t) := by
  unfold comeOf at h
  obtain ⟨h1, h2⟩ := List.mem_filter.mp h
  have hi := List.mem_range.mp h1
  refine ⟨hi, ?_⟩
  rw [getD_getG (d := none) hi]
  cases q : ts.getD i none with
  | none => simp only [q] at h2; cases h2
  | some t => exact ⟨t, rfl⟩
theorem missOf_lt {ts : List (Option Int)} {i : Nat} (h : i ∈ missOf ts) : i < ts.length := by
  unfold missOf at h
  exact List.mem_range.mp (List.mem_filter.mp h).1
def tval (ts : List (Option Int)) (i : Nat) : Int := (ts.getD i none).getD 0
def pairBad (every : List (List Row)) (ts : List (Option Int)) (m a b : Nat) : Bool :=
  match (layerAt (every.getD a []) m).getD b none with
  | none => false
  | some w => decide (tval ts b - tval ts a < w)
def tooShort (every : List (List Row)) (ts : List (Option Int)) (m : Nat) : Bool := (comeOf ts).any fun a => (comeOf ts).any fun b => pairBad every ts m a b
def rowPos (every : List (List Row)) (m t : Nat) : Bool :=
  match (layerAt (every.getD t []) m).getD t none with
  | none => false
  | some w => decide (0 < w)
def hasRing (every : List (List Row)) (ts : List (Option Int)) (m : Nat) : Bool := (missOf ts).any fun t => rowPos every m t
theorem layerAt_len {n : Nat} {every : List (List Row)} (h : EvOk n every) {a m : Nat} (ha : a < n) : (layerAt (every.getD a []) m).length = n := by
  obtain ⟨h1, h2⟩ := h
  have ha' : a < every.length := by omega
  have hm : every.getD a [] ∈ every := List.mem_of_getElem? (getD_getG (d := []) ha')
  obtain ⟨h3, _, h4⟩ := h2 _ hm
  have hl : 0 < (every.getD a []).length := List.length_pos_iff.mpr h3
  have : layerAt (every.getD a []) m ∈ every.getD a [] := by
    unfold layerAt
    exact List.mem_of_getElem? (getD_getG (d := []) (by omega))
  exact h4 _ this
/-- the diagonal stands -/
def Diag (n : Nat) (every : List (List Row)) : Prop := ∀ t m, t < n → ∃ w, (layerAt (every.getD t []) m).getD t none = some w
theorem cut_tail (x : V) (xs : List V) : cutV (x :: xs) (some 1) none = xs := by
  unfold cutV
  rw [show ((1 : Int)) = ((1 : Nat) : Int) from rfl, HT.sIx_nat, HT.sIx_none]
  have e : min 1 (x :: xs).length = 1 := by simp
  rw [e, List.drop_succ_cons, List.drop_zero, List.length_cons]
  exact List.take_of_length_le (by omega)
section
variable {P : Program} {w : World} {K : PySem.W.Frag} {mg : Str → Option Value} {base : Heap}
def sp_layer_at : Sp := fun vs H Q _ => ∃ F v rows, ∃ m : Nat, vs = [v, .int m] ∧ Sub F H ∧ RLay F v rows ∧ rows ≠ [] ∧ rows.length ≤ 1000 ∧ ∀ r, RRow F r (layerAt rows m) → Q r H
theorem c_layer_at (T : Txt K mg) : C8.Cal P w K mg base 1 "layer_at" sp_layer_at [] := by
  refine mkC T.d_layer_at sclayerat (fun _ _ _ _ _ _ us hl => match us, hl with | [_, _], _ => rfl) (fun vs H Q E h => ?_) (fun f cdv A outer s H vs Q E hr h => ?_)
  · obtain ⟨F, v, rows, m, rfl, _⟩ := h
    rfl
  · obtain ⟨F, v, rows, m, rfl, sb, ⟨a, vs, rfl, ha, pr⟩, hne, hz, q⟩ := h
    have hl : 0 < rows.length := List.length_pos_iff.mpr hne
    have hvl := Paired.length pr
    obtain ⟨u, hu, ru⟩ := Paired.get (i := min m (rows.length - 1)) (y := layerAt rows m) pr (getD_getG (d := []) (by omega))
    refine ⟨_, (pss_one (ps_ret (pe_ix ix_tup (pv 0) (pe_callB (call_min2 rfl) (by rfl) T.min (by decide +kernel) (pa_cons (pv 1) (pa_cons (pe_op op_sub (pe_callB call_len (by rfl) T.len (by decide +kernel) (pa_cons (pv 0) pa_nil)) pe_int) pa_nil))) (fun _ _ => rfl)))), ?_⟩
    walk_at "vc"
    refine ⟨_, _, rfl, lenT (tS (sb _ _ ha)), ?_⟩
    walk_at "vc"
    refine ⟨_, _, _, _, rfl, rfl, tS (sb _ _ ha), ?_, q u ru⟩
    have e : (if ((vs.length : Int) - 1 < (m : Int)) then ((vs.length : Int) - 1) else (m : Int)) = ((min m (rows.length - 1) : Nat) : Int) := by
      split <;> omega
    exact e ▸ atI_nat hu
def sp_all_layers : Sp := fun vs H Q _ => ∃ F v n ties, vs = [v] ∧ Sub F H ∧ RTab K F v n ties ∧ TiesOk n ties ∧ n ≤ 12 ∧ ∀ r F' H', Ex S0 F H F' H' → REv F' r (evOf n ties) → Q r H'
theorem c_all_layers (T : Txt K mg) : C8.Cal P w K mg base 5 "all_layers" (sp_all_layers (K := K)) [] := by
  have c_thing_layers := c_thing_layers (P := P) (w := w) (base := base) T
  refine mkC T.d_all_layers scalllayers (fun _ _ _ _ _ _ us hl => match us, hl with | [_], _ => rfl) (fun vs H Q E h => ?_) (fun f cdv A outer s H vs Q E hr h => ?_)
  · obtain ⟨F, v, n, ties, rfl, _⟩ := h
    rfl
  · obtain ⟨F, v, n, ties, rfl, sb, ht, hto, hn, q⟩ := h
    obtain ⟨a, C, dx, fs, at1, us, vu, rfl, h2, h3, h4, h5, h6, h7, h8, h9, h10⟩ := id ht
    refine ⟨_, (pss_cons (ps_set (i := 1) scalllayers.nd rfl (Or.inr rfl) (pe_callB call_len (by rfl) T.len (by decide +kernel) (pa_cons (pe_fld (pv 0) rfl) pa_nil)))
    (pss_one (ps_ret (pe_callTy call_tuple_of (by rfl) T.tuple (by decide +kernel) (pa_cons (pe_lc (own := [("thing", 2)]) (tt := tYes) rfl scalllayers.nd (pi_range1 (by rfl) T.range (pa_cons (pv 1) pa_nil)) (blkOk_by (N := N_alllayers) (sc := defScope salllayers) (by decide +kernel)) (fun _ _ _ _ _ => pg_name (i := 2) scalllayers.nd rfl (Or.inl rfl) (Or.inr rfl)) (fun _ _ _ _ _ => pts_nil) (fun _ _ _ _ _ => (C8.pe_c c_thing_layers hr (by decide) (by rfl) (pa_cons (pv 0) (pa_cons (pv 2) (pa_cons (pe_op op_mul pe_int (pv 1)) pa_nil)))))) pa_nil))))), ?_⟩
    walk_at "vc"
    refine ⟨_, C, dx, fs, _, rfl, sb _ _ h2, h3, h4, h6, ?_⟩
    refine ⟨_, _, rfl, lenT' (tS (sb _ _ h8)) h9, ?_⟩
    walk_at "vc"
    refine ⟨by omega, by omega, ?_⟩
    intro D hD
    refine lcX (re := RLay) (ds := List.range n) (walk_rg (by simp)) sb (fun b z => False.elim z) hD (lt_sz (by simp; omega)) (fun _ => true) (fun t => layersOf n ties t) (S := S0) (fun F1 H1 e => trivial) (fun i d x F1 H1 H2 hd e y Qy Qn q1 q2 => ?_) (fun F1 H1 ys e fD hDD pr1 => ?_)
    · obtain ⟨rfl, rfl⟩ := y
      obtain ⟨rfl, hi⟩ := range_get hd
      walk_at "vc"
      refine ⟨.inl ⟨by omega, by omega⟩, ?_⟩
      refine ⟨F1, _, n, ties, d, 2 * n, by rw [show ((2 * n : Nat) : Int) = 2 * (n : Int) by omega]; rfl, e.s, RTab.up e.f ht, hto, hn, by omega, fun r F3 H3 e3 r3 => ?_⟩
      exact q1 rfl _ _ _ e3 r3
    · rw [filter_tt'] at pr1
      exact go_tupOf e hDD fun p F' e' s' h' => q _ _ _ e' ⟨p, ys, rfl, h', Paired.up s' pr1⟩
def sp_walk_reach : Sp := fun vs H Q _ => ∃ F v ns, vs = [v] ∧ Sub F H ∧ Rt Rn F v ns ∧ GoodB ns ∧ Q (.int (walkR ns : Nat)) H
theorem c_walk_reach (T : Txt K mg) : C8.Cal P w K mg base 1 "walk_reach" sp_walk_reach [] := by
  refine mkC T.d_walk_reach scwalkreach (fun _ _ _ _ _ _ us hl => match us, hl with | [_], _ => rfl) (fun vs H Q E h => ?_) (fun f cdv A outer s H vs Q E hr h => ?_)
  · obtain ⟨F, v, ns, rfl, _⟩ := h
    rfl
  · obtain ⟨F, v, ns, rfl, sb, ⟨a, vs, rfl, ha, pr⟩, ⟨hz, hb⟩, q⟩ := h
    have ew : vs = ns.map nv := paired_nats pr
    subst ew
    refine ⟨_, (pss_cons (ps_set (i := 1) scwalkreach.nd rfl (Or.inl rfl) pe_int)
    (pss_cons (ps_for PassesOwn.never rfl (pi_tup (pv 0)) (pg_name (i := 2) scwalkreach.nd rfl (Or.inl rfl)) (pss_one (ps_set (i := 1) scwalkreach.nd rfl (Or.inl rfl) (pe_op op_mul (pv 1) (pe_op op_add (pv 2) pe_int)))))
    (pss_one (ps_ret (pv 1))))), ?_⟩
    walk_at "vc"
    refine ⟨⟨_, tS (sb _ _ ha)⟩, ?_⟩
    refine for_it (walk_tm ns nv) (fun i σ H1 => ∃ u, σ = [some (.ref a), some (nv ((ns.take i).foldl (fun a b => a * (b + 1)) 1)), u] ∧ H1 = H) ⟨none, rfl, rfl⟩ (fun i σ H1 _ h => ?_) (fun i x σ H1 H2 hi h y => ?_) (fun σ H1 h => ?_)
    · obtain ⟨u, rfl, rfl⟩ := h
      exact tS (sb _ _ ha)
    · obtain ⟨u, rfl, rfl⟩ := h
      obtain ⟨rfl, e3⟩ := y
      obtain ⟨z, ez, rfl⟩ := map_get e3
      have b1 := hb z (List.mem_of_getElem? ez)
      walk_at "vc"
      refine ⟨.inr ⟨by omega, by omega⟩, ?_⟩
      refine ⟨some (nv z), ?_, rfl⟩
      rw [take_snoc ez, List.foldl_append]
      show [_, some (V.int _), _] = [_, some (V.int _), _]
      simp [List.foldl]
    · obtain ⟨u, rfl, rfl⟩ := h
      rw [List.take_length]
      exact ⟨_, rfl, q⟩
def sp_ring_reach : Sp := fun vs H Q _ => ∃ F v ns, vs = [v] ∧ Sub F H ∧ Rt Rn F v ns ∧ GoodB ns ∧ ∀ H', Ex S0 F H F H' → Q (.int (ringR ns : Nat)) H'
theorem c_ring_reach (T : Txt K mg) : C8.Cal P w K mg base 2 "ring_reach" sp_ring_reach [] := by
  have c_walk_reach := c_walk_reach (P := P) (w := w) (base := base) T
  refine mkC T.d_ring_reach scringreach (fun _ _ _ _ _ _ us hl => match us, hl with | [_], _ => rfl) (fun vs H Q E h => ?_) (fun f cdv A outer s H vs Q E hr h => ?_)
  · obtain ⟨F, v, ns, rfl, _⟩ := h
    rfl
  · obtain ⟨F, v, ns, rfl, sb, ⟨a, vs, rfl, ha, pr⟩, ⟨hz, hb⟩, q⟩ := h
    have ew : vs = ns.map nv := paired_nats pr
    subst ew
    refine ⟨_, (pss_cons (ps_if (pt_cmpR (op_eqD (hr.units)) (pv 0) (pe_tup pa_nil) (nomark _)) (pss_one (ps_ret pe_int)) pss_nil)
    (pss_one (ps_ret (pe_op op_mul (pe_ix ix_tup (pv 0) pe_int (fun _ _ => rfl)) (C8.pe_c c_walk_reach hr (by decide) (by rfl) (pa_cons (pe_slice sl_tupA (pv 0) (po_some pe_int) po_none) pa_nil)))))), ?_⟩
    walk_at "vc"
    refine ⟨by decide, fun p hp => ?_⟩
    have e1 := Ex.own (S := S0) (o := .tup []) sb hp (fun b z => False.elim z)
    have d1 := dpAll_map (K := K) (H := upd H p (.tup [])) (fun n => nv n) (fun n => PyData.int (n : Nat)) (fun n => .int _) ns
    refine ⟨.tuple (ns.map fun n : Nat => PyData.int (n : Int)), .tuple [], .tup (tS (e1.s _ _ ha)) d1, .tup (tS upd_same) .nil, ?_, ?_, ?_⟩
    · exact shaped_tup (canLayAll_map _ (fun _ => rfl) ns) (Nat.le_trans (depthAll_map _ 0 (fun _ => Nat.le_refl _) ns) (by omega))
    · exact shaped_tup rfl (Nat.zero_le _)
    · walk_at "vc"
      cases ns with
      | nil =>
        refine ifT rfl ?_
        exact q _ e1
      | cons b t =>
        refine ifF (fun z => by cases z) ?_
        walk_at "vc"
        refine ⟨_, _, _, _, rfl, rfl, tS (e1.s _ _ ha), (atI_nat (i := 0) (v := nv b) rfl : _), ?_⟩
        refine ⟨_, rfl, ?_⟩
        refine ⟨_, rfl, ?_⟩
        refine ⟨_, _, rfl, tS (e1.s _ _ ha), fun z => ?_, fun _ p1 hp1 => ?_⟩
        · exfalso
          have z1 := z.1
          rw [show ((1 : Int)) = ((1 : Nat) : Int) from rfl, HT.sIx_nat] at z1
          simp at z1
        · rw [List.map_cons, cut_tail]
          obtain ⟨e2, h2, _⟩ := newT e1 (xs := t.map nv) hp1
          have hbt : GoodB t := ⟨by simp at hz; omega, fun x hx => hb x (List.mem_cons_of_mem _ hx)⟩
          refine ⟨_, _, t, rfl, e2.s, ⟨p1, _, rfl, h2, nats_paired _⟩, hbt, ?_⟩
          have b1 := hb b (List.mem_cons_self ..)
          refine ⟨_, _, rfl, rfl, .inl ⟨by omega, by omega⟩, ?_⟩
          have q1 := q _ e2.low
          rw [show ((ringR (b :: t) : Nat) : Int) = (b : Int) * (walkR t : Int) by simp [ringR]] at q1
          exact q1
def sp_is_below : Sp := fun vs H Q _ => ∃ (x : Nat) (l : Option Nat), vs = [.int x, onv l] ∧ Q (.bl (below x l)) H
theorem c_is_below (T : Txt K mg) : C8.Cal P w K mg base 1 "is_below" sp_is_below [] := by
  refine mkC T.d_is_below scisbelow (fun _ _ _ _ _ _ us hl => match us, hl with | [_, _], _ => rfl) (fun vs H Q E h => ?_) (fun f cdv A outer s H vs Q E hr h => ?_)
  · obtain ⟨x, l, rfl, _⟩ := h
    rfl
  · obtain ⟨x, l, rfl, q⟩ := h
    refine ⟨_, (pss_one (ps_ret (pe_or (pe_cmpR op_isN (pv 1) pe_non (nomark _)) (pe_one (pe_cmpR op_lt (pv 0) (pv 1) (nomark _)))))), ?_⟩
    cases l with
    | none =>
      walk_at "vc"
      exact q
    | some z =>
      walk_at "vc"
      have e : decide ((x : Int) < z) = decide (x < z) := by simp
      have q : Q (.bl (decide (x < z))) H := q
      rw [← e] at q
      exact q
def sp_reaches_fit : Sp := fun vs H Q _ => ∃ F v p, ∃ x y : Nat, vs = [v, .int x, .int y] ∧ Sub F H ∧ RPr F v p ∧ Q (.bl (fitB p x y)) H
theorem c_reaches_fit (T : Txt K mg) : C8.Cal P w K mg base 2 "reaches_fit" sp_reaches_fit [] := by
  have c_is_below := c_is_below (P := P) (w := w) (base := base) T
  refine mkC T.d_reaches_fit screachesfit (fun _ _ _ _ _ _ us hl => match us, hl with | [_, _, _], _ => rfl) (fun vs H Q E h => ?_) (fun f cdv A outer s H vs Q E hr h => ?_)
  · obtain ⟨F, v, p, x, y, rfl, _⟩ := h
    rfl
  · obtain ⟨F, v, ⟨p1, p2⟩, x, y, rfl, sb, ⟨a, u, w0, rfl, ha, r1, r2⟩, q⟩ := h
    have r1 := ro_onv r1
    have r2 := ro_onv r2
    simp only at r1 r2
    subst r1 r2
    refine ⟨_, (pss_one (ps_ret (pe_and (C8.pe_c c_is_below hr (by decide) (by rfl) (pa_cons (pv 1) (pa_cons (pe_ix ix_tup (pv 0) pe_int (fun _ _ => rfl)) pa_nil))) (pe_one (C8.pe_c c_is_below hr (by decide) (by rfl) (pa_cons (pv 2) (pa_cons (pe_ix ix_tup (pv 0) pe_int (fun _ _ => rfl)) pa_nil))))))), ?_⟩
    walk_at "vc"
    refine ⟨_, _, _, _, rfl, rfl, tS (sb _ _ ha), (atI_nat (i := 0) (v := onv p1) rfl : _), ?_⟩
    refine ⟨_, _, rfl, ?_⟩
    walk_at "vc"
    refine ite2 (fun z => ?_) (fun z => ?_)
    · walk_at "vc"
      refine ⟨_, _, _, _, rfl, rfl, tS (sb _ _ ha), (atI_nat (i := 1) (v := onv p2) rfl : _), ?_⟩
      refine ⟨_, _, rfl, ?_⟩
      unfold fitB at q
      simp only [z, Bool.true_and] at q
      exact q
    · unfold fitB at q
      simp only [Bool.not_eq_true] at z
      simp only [z, Bool.false_and] at q
      exact q
def sp_is_within : Sp := fun vs H Q _ => ∃ F v u p c, vs = [v, u] ∧ Sub F H ∧ RPr F v p ∧ Rt Rn F u c ∧ GoodB c ∧ ∀ H', Ex S0 F H F H' → Q (.bl (fits p c)) H'
theorem c_is_within (T : Txt K mg) : C8.Cal P w K mg base 5 "is_within" sp_is_within [] := by
  have c_check_batches := c_check_batches (P := P) (w := w) (base := base) T
  have c_reaches_fit := c_reaches_fit (P := P) (w := w) (base := base) T
  have c_walk_reach := c_walk_reach (P := P) (w := w) (base := base) T
  have c_ring_reach := c_ring_reach (P := P) (w := w) (base := base) T
  refine mkC T.d_is_within sciswithin (fun _ _ _ _ _ _ us hl => match us, hl with | [_, _], _ => rfl) (fun vs H Q E h => ?_) (fun f cdv A outer s H vs Q E hr h => ?_)
  · obtain ⟨F, v, u, p, c, rfl, _⟩ := h
    rfl
  · obtain ⟨F, v, u, p, c, rfl, sb, hp, hc, hg, q⟩ := h
    refine ⟨_, (pss_cons (ps_expr (C8.pe_c c_check_batches hr (by decide) (by rfl) (pa_cons (pv 1) pa_nil)))
    (pss_one (ps_ret (C8.pe_c c_reaches_fit hr (by decide) (by rfl) (pa_cons (pv 0) (pa_cons (C8.pe_c c_walk_reach hr (by decide) (by rfl) (pa_cons (pv 1) pa_nil)) (pa_cons (C8.pe_c c_ring_reach hr (by decide) (by rfl) (pa_cons (pv 1) pa_nil)) pa_nil))))))), ?_⟩
    walk_at "vc"
    refine ⟨F, _, c, rfl, sb, hc, hg, fun H1 e1 => ?_⟩
    walk_at "vc"
    refine ⟨F, _, c, rfl, e1.s, hc, hg, ?_⟩
    walk_at "vc"
    refine ⟨F, _, c, rfl, e1.s, hc, hg, fun H2 e2 => ?_⟩
    refine ⟨F, _, p, _, _, rfl, e2.s, hp, ?_⟩
    exact q _ (e1.trans e2)
end
end Sa
set_option Elab.async false
set_option linter.all false
set_option maxRecDepth 100000
set_option maxHeartbeats 4000000
namespace Sa
open PySem PySem.Spec PyProof.Rows L2
local macro_rules | `(tactic| walk_at "vc") => `(tactic| repeat (first | refine ⟨_, rfl, ?_⟩ | refine ⟨_, _, rfl, rfl, ?_⟩ | refine ⟨_, _, rfl, ?_⟩ | refine ⟨rfl, ?_⟩))
section
variable {X : Cx}
theorem kx_ix_tup (K : PySem.W.Frag) (h : X.K = K) : IxR X (rIxT K) := h ▸ ix_tup
theorem kx_ix_list (K : PySem.W.Frag) (h : X.K = K) : IxR X (rIxL K) := h ▸ ix_list
theorem kx_call_len (K : PySem.W.Frag) (h : X.K = K) : CallR X (.builtin "len") (fun xs H Q => ∃ x n, xs = [x] ∧ LenV K x H n ∧ Q (.int n) H) := h ▸ call_len
theorem kx_call_tuple_of (K : PySem.W.Frag) (h : X.K = K) : CallR X (.type "tuple") (fun xs H Q => ∃ p ys, xs = [.ref p] ∧ ((SqL K H p ys ∧ ∀ l, H l = none → Q (.ref l) (upd H l (.tup ys))) ∨ (SqT K H p ys ∧ Q (.ref p) H))) := h ▸ call_tuple_of
theorem kx_call_list_of (K : PySem.W.Frag) (h : X.K = K) : CallR X (.type "list") (fun xs H Q => ∃ p ys, xs = [.ref p] ∧ (SqL K H p ys ∨ SqT K H p ys) ∧ ∀ l, H l = none → Q (.ref l) (upd H l (.lst ys))) := h ▸ call_list_of
theorem kx_sl_tupA (K : PySem.W.Frag) (h : X.K = K) : SlR X (rSlA K) := h ▸ sl_tupA
theorem kx_sl_list (K : PySem.W.Frag) (h : X.K = K) : SlR X (rSlL K) := h ▸ sl_list
theorem kx_op_catA (K : PySem.W.Frag) (h : X.K = K) : OpR X (binaryOp .Add) (rCatA K) := h ▸ op_catA
theorem kx_op_repA (K : PySem.W.Frag) (h : X.K = K) : OpR X (binaryOp .Mult) (rRepA K) := h ▸ op_repA
theorem kx_cr_sum (K : PySem.W.Frag) (h : X.K = K) (hc : X.calm = true) : CallR X (.builtin "sum") (rSum K) := h ▸ cr_sum hc
theorem kx_cr_max (K : PySem.W.Frag) (h : X.K = K) (hc : X.calm = true) : CallR X (.builtin "max") (rMax K) := h ▸ cr_max hc
end
theorem any_take {α : Type} {xs : List α} {f : α → Bool} {i : Nat} {x : α} (h : xs[i]? = some x) (h1 : (xs.take i).any f = false) (h2 : f x = false) : (xs.take (i + 1)).any f = false := by
  rw [take_snoc h, List.any_append, h1]
  simp [h2]
theorem any_hit {α : Type} {xs : List α} {f : α → Bool} {x : α} (h : x ∈ xs) (h2 : f x = true) : xs.any f = true := List.any_eq_true.mpr ⟨x, h, h2⟩
section
variable {P : Program} {w : World} {K : PySem.W.Frag} {mg : Str → Option Value} {base : Heap}
def sp_is_too_short : Sp := fun vs H Q _ => ∃ F ve vt every ts, ∃ m : Nat, vs = [ve, vt, .int m] ∧ Sub F H ∧ REv F ve every ∧ RRow F vt ts ∧ EvOk ts.length every ∧ ts.length ≤ 12 ∧ ∀ H', Ex S0 F H F H' → Q (.bl (tooShort every ts m)) H'
theorem c_is_too_short (T : Txt K mg) : C8.Cal P w K mg base 2 "is_too_short" sp_is_too_short [] := by
  have c_come := c_come (P := P) (w := w) (base := base) T
  have c_layer_at := c_layer_at (P := P) (w := w) (base := base) T
  refine mkC T.d_is_too_short scistooshort (fun _ _ _ _ _ _ us hl => match us, hl with | [_, _, _], _ => rfl) (fun vs H Q E h => ?_) (fun f cdv A outer s H vs Q E hr h => ?_)
  · obtain ⟨F, ve, vt, every, ts, m, rfl, _⟩ := h
    rfl
  · obtain ⟨F, ve, vt, every, ts, m, rfl, sb, ⟨ea, evs, rfl, hea, pre⟩, ht, hev, hn, q⟩ := h
    obtain ⟨ta, tvs, rfl, hta, prt⟩ := id ht
    have ew : tvs = ts.map ov := paired_ovs prt
    subst ew
    have hev1 : every.length = ts.length := hev.1
    refine ⟨_, (pss_cons (ps_for PassesOwn.never rfl (pi_tup (C8.pe_c c_come hr (by decide) (by rfl) (pa_cons (pv 1) pa_nil))) (pg_name (i := 3) scistooshort.nd rfl (Or.inl rfl)) (pss_cons (ps_set (i := 4) scistooshort.nd rfl (Or.inl rfl) (C8.pe_c c_layer_at hr (by decide) (by rfl) (pa_cons (pe_ix ix_tup (pv 0) (pv 3) (fun _ _ => rfl)) (pa_cons (pv 2) pa_nil))))
    (pss_one (ps_for PassesOwn.never rfl (pi_tup (C8.pe_c c_come hr (by decide) (by rfl) (pa_cons (pv 1) pa_nil))) (pg_name (i := 5) scistooshort.nd rfl (Or.inl rfl)) (pss_one (ps_if (PW.pt (pw_and (pt_cmpR op_notN (pe_ix ix_tup (pv 4) (pv 5) (fun _ _ => rfl)) pe_non (nomark _)) (pw_and1 (pt_cmpR op_gt (pe_ix ix_tup (pv 4) (pv 5) (fun _ _ => rfl)) (pe_op op_sub (pe_ix ix_tup (pv 1) (pv 5) (fun _ _ => rfl)) (pe_ix ix_tup (pv 1) (pv 3) (fun _ _ => rfl))) (nomark _))))) (pss_one (ps_ret pe_bl)) pss_nil))))))
    (pss_one (ps_ret pe_bl))), ?_⟩
    walk_at "vc"
    refine ⟨F, _, ts, rfl, sb, ht, hn, fun r F1 H1 e1 r1 => ?_⟩
    obtain ⟨ca, cvs, rfl, hca, prc⟩ := r1
    have ew : cvs = (comeOf ts).map nv := paired_nats prc
    subst ew
    refine ⟨_, rfl, ⟨_, tS (e1.s _ _ hca)⟩, ?_⟩
    refine for_it (walk_tm (comeOf ts) nv) (fun i σ H2 => ∃ u v w F2, σ = [some (.ref ea), some (.ref ta), some (.int m), u, v, w] ∧ Ex S0 F1 H1 F2 H2 ∧ ((comeOf ts).take i).any (fun a => (comeOf ts).any fun b => pairBad every ts m a b) = false) ⟨none, none, none, F1, rfl, ex0 e1.s, rfl⟩ (fun i σ H2 _ h => ?_) (fun i x σ H2 H3 hi h y => ?_) (fun σ H2 h => ?_)
    · obtain ⟨u, v, w, F2, rfl, e2, hfa⟩ := h
      exact tS (e2.fh _ _ hca)
    · obtain ⟨u, v, w, F2, rfl, e2, hfa⟩ := h
      obtain ⟨rfl, e3⟩ := y
      obtain ⟨a, ez, rfl⟩ := map_get e3
      obtain ⟨la, tva, hta1⟩ := comeOf_lt (List.mem_of_getElem? ez)
      have e02 := e1.trans e2
      obtain ⟨ru, hru, rru⟩ := Paired.get (i := a) (y := every.getD a []) pre (getD_getG (by omega))
      have hmem : every.getD a [] ∈ every := List.mem_of_getElem? (getD_getG (d := []) (by omega))
      obtain ⟨hne, hz, _⟩ := hev.2 _ hmem
      walk_at "vc"
      refine ⟨_, _, _, _, rfl, rfl, tS (e02.fh _ _ hea), atI_nat hru, ?_⟩
      walk_at "vc"
      refine ⟨F2, _, _, m, rfl, e2.s, Mono.up (r := RLay) e02.f rru, hne, by omega, fun r rr => ?_⟩
      obtain ⟨rowa, rvs, rfl, hrow, prr⟩ := rr
      have ew : rvs = (layerAt (every.getD a []) m).map ov := paired_ovs prr
      subst ew
      have hll := layerAt_len (m := m) hev la
      walk_at "vc"
      refine ⟨F2, _, ts, rfl, e2.s, Mono.up (r := RRow) e02.f ht, hn, fun r3 F3 H4 e3 r3' => ?_⟩
      obtain ⟨ca3, cvs3, rfl, hca3, prc3⟩ := r3'
      have ew : cvs3 = (comeOf ts).map nv := paired_nats prc3
      subst ew
      have e03 := e02.trans e3
      refine ⟨_, rfl, ⟨_, tS (e3.s _ _ hca3)⟩, ?_⟩
      refine for_it (walk_tm (comeOf ts) nv) (fun j σ H5 => ∃ w, σ = [some (.ref ea), some (.ref ta), some (.int m), some (nv a), some (.ref rowa), w] ∧ Ex S0 F3 H4 F3 H5 ∧ ((comeOf ts).take j).any (fun b => pairBad every ts m a b) = false) ⟨w, rfl, ex0 e3.s, rfl⟩ (fun j σ H5 _ h => ?_) (fun j x σ H5 H6 hj h y => ?_) (fun σ H5 h => ?_)
      · obtain ⟨w, rfl, e4, hfb⟩ := h
        exact tS (e4.s _ _ hca3)
      · obtain ⟨w, rfl, e4, hfb⟩ := h
        obtain ⟨rfl, e5⟩ := y
        obtain ⟨b, ezb, rfl⟩ := map_get e5
        obtain ⟨lb, tvb, htb1⟩ := comeOf_lt (List.mem_of_getElem? ezb)
        have hx : ((layerAt (every.getD a []) m).map ov)[b]? = some (ov ((layerAt (every.getD a []) m).getD b none)) := by rw [List.getElem?_map, getD_getG (d := none) (by omega)]; rfl
        walk_at "vc"
        refine ⟨_, _, _, _, rfl, rfl, tS (e4.s _ _ (e3.f _ _ hrow)), atI_nat hx, ?_⟩
        have hb0 : pairBad every ts m a b = (match (layerAt (every.getD a []) m).getD b none with | none => false | some w => decide (tval ts b - tval ts a < w)) := rfl
        cases hg : (layerAt (every.getD a []) m).getD b none with
        | none =>
          rw [hg] at hb0
          walk_at "vc"
          exact ⟨e4, any_take ezb hfb hb0⟩
        | some z =>
          rw [hg] at hb0 hx
          walk_at "vc"
          refine ⟨_, _, _, _, rfl, rfl, tS (e4.s _ _ (e3.f _ _ hrow)), atI_nat hx, ?_⟩
          walk_at "vc"
          refine ⟨_, _, _, _, rfl, rfl, tS (e4.s _ _ (e03.f _ _ hta)), atI_nat (v := ov (some tvb)) (by rw [List.getElem?_map, htb1]; rfl), ?_⟩
          walk_at "vc"
          refine ⟨_, _, _, _, rfl, rfl, tS (e4.s _ _ (e03.f _ _ hta)), atI_nat (v := ov (some tva)) (by rw [List.getElem?_map, hta1]; rfl), ?_⟩
          walk_at "vc"
          have ea1 : tval ts a = tva := by unfold tval; rw [getD_some hta1]; rfl
          have eb1 : tval ts b = tvb := by unfold tval; rw [getD_some htb1]; rfl
          rw [ea1, eb1] at hb0
          refine ite2 (fun hc => ?_) (fun hc => ?_)
          · have hc1 : pairBad every ts m a b = true := hb0.trans hc
            have q1 := q _ (e03.trans e4).low
            rw [show tooShort every ts m = true from any_hit (List.mem_of_getElem? ez) (any_hit (List.mem_of_getElem? ezb) hc1)] at q1
            exact q1
          · have hc1 : pairBad every ts m a b = false := hb0.trans (by simpa using hc)
            exact ⟨some (nv b), rfl, e4, any_take ezb hfb hc1⟩
      · obtain ⟨w, rfl, e4, hfb⟩ := h
        rw [List.take_length] at hfb
        refine ⟨_, _, _, F3, rfl, e2.trans (e3.trans e4), any_take ez hfa hfb⟩
    · obtain ⟨u, v, w, F2, rfl, e2, hfa⟩ := h
      rw [List.take_length] at hfa
      have q1 := q _ (e1.trans e2).low
      rw [show tooShort every ts m = false from hfa] at q1
      exact q1
def sp_has_ring : Sp := fun vs H Q _ => ∃ F ve vt every ts, ∃ m : Nat, vs = [ve, vt, .int m] ∧ Sub F H ∧ REv F ve every ∧ RRow F vt ts ∧ EvOk ts.length every ∧ Diag ts.length every ∧ ts.length ≤ 12 ∧ ∀ H', Ex S0 F H F H' → Q (.bl (hasRing every ts m)) H'
theorem c_has_ring (T : Txt K mg) : C8.Cal P w K mg base 2 "has_ring" sp_has_ring [] := by
  have c_missing := c_missing (P := P) (w := w) (base := base) T
  have c_layer_at := c_layer_at (P := P) (w := w) (base := base) T
  refine mkC T.d_has_ring schasring (fun _ _ _ _ _ _ us hl => match us, hl with | [_, _, _], _ => rfl) (fun vs H Q E h => ?_) (fun f cdv A outer s H vs Q E hr h => ?_)
  · obtain ⟨F, ve, vt, every, ts, m, rfl, _⟩ := h
    rfl
  · obtain ⟨F, ve, vt, every, ts, m, rfl, sb, ⟨ea, evs, rfl, hea, pre⟩, ht, hev, hdi, hn, q⟩ := h
    have hev1 : every.length = ts.length := hev.1
    refine ⟨_, (pss_one (ps_ret (pe_callB (cr_any rfl) (by rfl) T.any (by decide +kernel) (pa_cons (pe_lc (own := [("thing", 3)]) (tt := tYes) rfl schasring.nd (pi_tup (C8.pe_c c_missing hr (by decide) (by rfl) (pa_cons (pv 1) pa_nil))) (blkOk_by (N := N_hasring) (sc := defScope shasring) (by decide +kernel)) (fun _ _ _ _ _ => pg_name (i := 3) schasring.nd rfl (Or.inl rfl) (Or.inr rfl)) (fun _ _ _ _ _ => pts_nil) (fun _ _ _ _ _ => (pe_cmpR op_gt (pe_ix (kx_ix_tup K rfl) (C8.pe_c c_layer_at hr (by decide) (by rfl) (pa_cons (pe_ix (kx_ix_tup K rfl) (pv 0) (pv 3) (fun _ _ => rfl)) (pa_cons (pv 2) pa_nil))) (pv 3) (fun _ _ => rfl)) pe_int (nomark _)))) pa_nil)))), ?_⟩
    walk_at "vc"
    refine ⟨F, _, ts, rfl, sb, ht, hn, fun r F1 H1 e1 r1 => ?_⟩
    obtain ⟨ca, cvs, rfl, hca, prc⟩ := r1
    have ew : cvs = (missOf ts).map nv := paired_nats prc
    subst ew
    refine ⟨_, rfl, ⟨_, tS (e1.s _ _ hca)⟩, ?_⟩
    intro D hD
    have hml : (missOf ts).length ≤ 12 := Nat.le_trans (List.length_filter_le _ _) (by simp; exact hn)
    refine lcX (re := Rb) (ds := missOf ts) (walk_tm (missOf ts) nv) e1.s (fun b z => False.elim z) hD (lt_sz (by omega)) (fun _ => true) (fun t => rowPos every m t) (S := S0) (fun F2 H2 e => tS (e.fh _ _ hca)) (fun i d x F2 H2 H3 hd e y Qy Qn q1 q2 => ?_) (fun F2 H2 ys e fD hDD pr1 => ?_)
    · obtain ⟨rfl, e3⟩ := y
      obtain ⟨z, ez, rfl⟩ := map_get e3
      have ed : z = d := by rw [hd] at ez; exact (Option.some.inj ez).symm
      subst ed
      have la : z < ts.length := missOf_lt (List.mem_of_getElem? hd)
      have e02 := e1.trans e
      obtain ⟨ru, hru, rru⟩ := Paired.get (i := z) (y := every.getD z []) pre (getD_getG (by omega))
      have hmem : every.getD z [] ∈ every := List.mem_of_getElem? (getD_getG (d := []) (by omega))
      obtain ⟨hne, hz, _⟩ := hev.2 _ hmem
      have hll := layerAt_len (m := m) hev la
      obtain ⟨wv, hwv⟩ := hdi z m la
      walk_at "vc"
      refine ⟨_, _, _, _, rfl, rfl, tS (e02.fh _ _ hea), atI_nat hru, ?_⟩
      walk_at "vc"
      refine ⟨F2, _, _, m, rfl, e.s, Mono.up (r := RLay) e02.f rru, hne, by omega, fun r rr => ?_⟩
      obtain ⟨rowa, rvs, rfl, hrow, prr⟩ := rr
      have ew : rvs = (layerAt (every.getD z []) m).map ov := paired_ovs prr
      subst ew
      have hx : ((layerAt (every.getD z []) m).map ov)[z]? = some (ov (some wv)) := by rw [List.getElem?_map, getD_getG (d := none) (by omega), hwv]; rfl
      walk_at "vc"
      refine ⟨_, _, _, _, rfl, rfl, tS (e.s _ _ hrow), atI_nat hx, ?_⟩
      walk_at "vc"
      have hp : rowPos every m z = decide (0 < wv) := by unfold rowPos; rw [hwv]
      exact q1 rfl (.bl (decide (0 < wv))) _ _ (Ex.refl e.s (fun b z => False.elim z)) (by rw [hp]; rfl)
    · have := paired_bls pr1
      subst this
      rw [filter_tt'] at hDD
      refine ⟨_, _, rfl, lS hDD, ?_⟩
      have q1 := q _ (e1.trans e).low
      have eh : ((missOf ts).map fun t => rowPos every m t).any id = hasRing every ts m := by
        unfold hasRing
        rw [List.any_map]
        rfl
      rw [← eh] at q1
      exact q1
theorem first_go {S : Addr → Prop} {F0 H0 F H : Hp} {σ : L2.St} {i : Nat} {D : Addr} {l : List Nat} {Q : VK} (e : Ex S F0 H0 F H) (hs : σ[i]? = some (some (.ref D))) (hD : F D = some (.lst (l.map nv)))
    (q : ∀ F' H', Ex S F0 H0 F' H' → Sub F F' → Q (onv l.head?) H') : tIf (tTest (tOp (rEqD K) (tVar i) (tLst tNil))) (tC .non) (tOp (rIxL K) (tVar i) (tC (.int 0))) σ H Q := by
  refine ⟨_, hs, szk (by simp), fun p hp => ?_⟩
  obtain ⟨e1, h1, s1⟩ := newL e (xs := []) hp
  have d1 := dpAll_map (K := K) (H := upd H p (.lst [])) nv (fun n => PyData.int (n : Nat)) (fun n => .int _) l
  refine ⟨.list (l.map fun n : Nat => PyData.int (n : Int)), .list [], .lst (lS (e1.s _ _ (s1 _ _ hD))) d1, .lst (lS upd_same) .nil, ?_, shaped_lst rfl (Nat.zero_le _), _, rfl, ?_⟩
  · exact shaped_lst (canLayAll_map _ (fun _ => rfl) l) (Nat.le_trans (depthAll_map _ 0 (fun _ => Nat.le_refl _) l) (by omega))
  · cases l with
    | nil => exact ifT rfl (q _ _ e1 s1)
    | cons b t =>
      refine ifF (fun z => by cases z) ?_
      exact ⟨_, hs, _, _, _, _, rfl, rfl, lS (e1.s _ _ (s1 _ _ hD)), (atI_nat (i := 0) (v := nv b) rfl : _), q _ _ e1 s1⟩
def limOf (n : Nat) (every : List (List Row)) (ts : List (Option Int)) : Pr :=
  (((List.range (2 * n + 1)).filter (tooShort every ts)).head?, ((List.range (n + 1)).filter (hasRing every ts)).head?)
def sp_limits : Sp := fun vs H Q _ => ∃ F v vt n ties ts, vs = [v, vt] ∧ Sub F H ∧ RTab K F v n ties ∧ TiesOk n ties ∧ n ≤ 12 ∧ RRow F vt ts ∧ ts.length = n ∧ (∀ t, some t ∈ ts → -1000000000 ≤ t ∧ t ≤ 1000000000) ∧ Diag n (evOf n ties) ∧ ∀ r F' H', Ex S0 F H F' H' → RPr F' r (limOf n (evOf n ties) ts) → Q r H'
theorem c_limits (T : Txt K mg) : C8.Cal P w K mg base 6 "limits" (sp_limits (K := K)) [] := by
  have c_check_times := c_check_times (P := P) (w := w) (base := base) T
  have c_all_layers := c_all_layers (P := P) (w := w) (base := base) T
  have c_is_too_short := c_is_too_short (P := P) (w := w) (base := base) T
  have c_has_ring := c_has_ring (P := P) (w := w) (base := base) T
  refine mkC T.d_limits sclimits (fun _ _ _ _ _ _ us hl => match us, hl with | [_, _], _ => rfl) (fun vs H Q E h => ?_) (fun f cdv A outer s H vs Q E hr h => ?_)
  · obtain ⟨F, v, vt, n, ties, ts, rfl, _⟩ := h
    rfl
  · obtain ⟨F, v, vt, n, ties, ts, rfl, sb, ht, hto, hn, hts, hl, hb, hdi, q⟩ := h
    refine ⟨_, (pss_cons (ps_expr (C8.pe_c c_check_times hr (by decide) (by rfl) (pa_cons (pv 0) (pa_cons (pv 1) pa_nil))))
    (pss_cons (ps_asg (pe_tup (pa_cons (C8.pe_c c_all_layers hr (by decide) (by rfl) (pa_cons (pv 0) pa_nil)) (pa_cons (pe_callB call_len (by rfl) T.len (by decide +kernel) (pa_cons (pe_fld (pv 0) rfl) pa_nil)) pa_nil))) (pg_tup rfl (pgs_cons ((pg_name (i := 2) sclimits.nd rfl (Or.inr rfl))) (pgs_cons ((pg_name (i := 3) sclimits.nd rfl (Or.inl rfl))) pgs_nil))))
    (pss_cons (ps_setLc (i := 4) (own := [("most", 6)]) rfl sclimits.nd rfl rfl (sw_true rfl rfl rfl (by decide +kernel)) (pi_range1 (by rfl) T.range (pa_cons (pe_op op_add (pe_op op_mul pe_int (pv 3)) pe_int) pa_nil)) (blkOk_by (N := N_limits) (sc := defScope slimits) (by decide +kernel)) (fun _ _ _ _ _ => pg_name (i := 6) sclimits.nd rfl (Or.inl rfl) (Or.inr rfl)) (fun _ _ _ _ _ => (pts_one (pt_val (C8.pe_c c_is_too_short hr (by decide) (by rfl) (pa_cons (pv 2) (pa_cons (pv 1) (pa_cons (pv 6) pa_nil))))))) (fun _ _ _ _ _ => (pv 6)))
    (pss_cons (ps_setLc (i := 5) (own := [("most", 6)]) rfl sclimits.nd rfl rfl (sw_true rfl rfl rfl (by decide +kernel)) (pi_range1 (by rfl) T.range (pa_cons (pe_op op_add (pv 3) pe_int) pa_nil)) (blkOk_by (N := N_limits) (sc := defScope slimits) (by decide +kernel)) (fun _ _ _ _ _ => pg_name (i := 6) sclimits.nd rfl (Or.inl rfl) (Or.inr rfl)) (fun _ _ _ _ _ => (pts_one (pt_val (C8.pe_c c_has_ring hr (by decide) (by rfl) (pa_cons (pv 2) (pa_cons (pv 1) (pa_cons (pv 6) pa_nil))))))) (fun _ _ _ _ _ => (pv 6)))
    (pss_one (ps_ret (pe_tup (pa_cons (pe_ifExp (pt_cmpR (op_eqD (hr.units)) (pv 4) (pe_lst pa_nil) (nomark _)) pe_non (pe_ix ix_list (pv 4) pe_int (fun _ _ => rfl))) (pa_cons (pe_ifExp (pt_cmpR (op_eqD (hr.units)) (pv 5) (pe_lst pa_nil) (nomark _)) pe_non (pe_ix ix_list (pv 5) pe_int (fun _ _ => rfl))) pa_nil))))))))), ?_⟩
    walk_at "vc"
    refine ⟨F, _, _, n, ties, ts, rfl, sb, ht, hts, hl, hb, fun H1 e1 => ?_⟩
    walk_at "vc"
    refine ⟨F, _, n, ties, rfl, e1.s, ht, hto, hn, fun r F2 H2 e2 re => ?_⟩
    obtain ⟨a, C, dx, fs, at1, us, vu, rfl, h2, h3, h4, h5, h6, h7, h8, h9, h10⟩ := id ht
    walk_at "vc"
    refine ⟨_, C, dx, fs, _, rfl, e2.fh _ _ h2, h3, h4, h6, ?_⟩
    refine ⟨_, _, rfl, lenT' (tS (e2.fh _ _ h8)) h9, ?_⟩
    refine go_t2 (e1.trans e2) fun p F3 e3 s3 h3p => ?_
    refine ⟨_, _, rfl, tS (e3.s _ _ h3p), rfl, ?_⟩
    walk_at "vc"
    refine ⟨.inl ⟨by omega, by omega⟩, ?_⟩
    walk_at "vc"
    refine ⟨by omega, by omega, ?_⟩
    intro D hD
    have e03 := e3
    have hev := evOf_ok n ties hn
    refine lcX (re := Rn) (ds := List.range (2 * n + 1)) (walk_rg (by omega)) e3.s (fun b z => False.elim z) hD (lt_sz (by simp; omega)) (fun m => tooShort (evOf n ties) ts m) id (S := S0) (fun F1 H1 e => trivial) (fun i d x F1 H3 H4 hd e y Qy Qn q1 q2 => ?_) (fun F4 H4 ys e4 fD hDD pr1 => ?_)
    · obtain ⟨rfl, rfl⟩ := y
      obtain ⟨rfl, hi⟩ := range_get hd
      walk_at "vc"
      refine ⟨F1, _, _, evOf n ties, ts, d, rfl, e.s, Mono.up (r := REv) (s3.tr e.f) re, Mono.up (r := RRow) (e3.f.tr e.f) hts, hl.symm ▸ hev, by omega, fun H5 e5 => ?_⟩
      walk_at "vc"
      cases hb1 : tooShort (evOf n ties) ts d with
      | false => exact q2 hb1 _ _ e5
      | true => exact ⟨_, rfl, q1 hb1 _ _ _ e5 rfl⟩
    · have ew := paired_nats pr1
      rw [List.map_id] at ew
      subst ew
      obtain ⟨e4', h4D, s4⟩ := frzL e4 hD hDD fD
      have e04 := e3.trans e4'
      walk_at "vc"
      refine ⟨by omega, by omega, ?_⟩
      intro D2 hD2
      refine lcX (re := Rn) (ds := List.range (n + 1)) (walk_rg (by omega)) e04.s (fun b z => False.elim z) hD2 (lt_sz (by simp; omega)) (fun m => hasRing (evOf n ties) ts m) id (S := S0) (fun F1 H1 e => trivial) (fun i d x F1 H3 H6 hd e y Qy Qn q1 q2 => ?_) (fun F6 H6 ys e6 fD6 hDD6 pr6 => ?_)
      · obtain ⟨rfl, rfl⟩ := y
        obtain ⟨rfl, hi⟩ := range_get hd
        walk_at "vc"
        refine ⟨F1, _, _, evOf n ties, ts, d, rfl, e.s, Mono.up (r := REv) (s3.tr (e4'.f.tr e.f)) re, Mono.up (r := RRow) (e04.f.tr e.f) hts, hl.symm ▸ hev, hl.symm ▸ hdi, by omega, fun H5 e5 => ?_⟩
        walk_at "vc"
        cases hb1 : hasRing (evOf n ties) ts d with
        | false => exact q2 hb1 _ _ e5
        | true => exact ⟨_, rfl, q1 hb1 _ _ _ e5 rfl⟩
      · have ew := paired_nats pr6
        rw [List.map_id] at ew
        subst ew
        obtain ⟨e6', h6D, s6⟩ := frzL e6 hD2 hDD6 fD6
        have e06 := e04.trans e6'
        refine first_go (l := (List.range (2 * n + 1)).filter (tooShort (evOf n ties) ts)) e06 rfl (e6'.f _ _ h4D) fun F7 H7 e7 s7 => ?_
        refine first_go (l := (List.range (n + 1)).filter (hasRing (evOf n ties) ts)) e7 rfl (s7 _ _ h6D) fun F8 H8 e8 s8 => ?_
        refine go_t2 e8 fun p9 F9 e9 s9 h9p => ?_
        exact q _ _ _ e9 ⟨p9, _, _, rfl, h9p, onv_ro _, onv_ro _⟩
end
end Sa
set_option Elab.async false
set_option linter.all false
set_option maxRecDepth 100000
set_option maxHeartbeats 4000000
namespace Sa
open PySem PySem.Spec PyProof.Rows L2
local macro_rules | `(tactic| walk_at "vc") => `(tactic| repeat (first | refine ⟨_, rfl, ?_⟩ | refine ⟨_, _, rfl, rfl, ?_⟩ | refine ⟨_, _, rfl, ?_⟩ | refine ⟨rfl, ?_⟩))
theorem walk_rg2 {lo : Nat} {i j : Int} {n : Nat} (hi : i = lo) (h : (j - i).toNat = n) : Walk (Itr i (j - i).toNat) n (fun _ => True) (YFn fun k => .int ((lo + k : Nat) : Int)) := by
  rw [h]
  subst hi
  exact (walk_range (lo := (lo : Int))).mono (fun _ h => h) fun i H x H1 _ _ y => ⟨y.1, by rw [y.2]; show V.int _ = V.int _; congr 1⟩
theorem bestCut_good {o m : Nat} (ho : o ≤ 60) (h1 : 1 ≤ m) (h2 : m ≤ o) : GoodB (bestCut o m) := by
  unfold bestCut
  by_cases e : m = 1
  · rw [if_pos e]
    exact ⟨by simp, fun x hx => by simp at hx; omega⟩
  · rw [if_neg e]
    refine ⟨by simp; omega, fun x hx => ?_⟩
    simp at hx
    rcases hx with h | h | h <;> omega
theorem worstCut_good {o m : Nat} (ho : o ≤ 60) (h1 : 1 ≤ m) (h2 : m ≤ o) : GoodB (worstCut o m) := by
  unfold worstCut
  have h3 : 1 ≤ o / m := (Nat.le_div_iff_mul_le (by omega)).mpr (by omega)
  have h4 : o / m ≤ o := Nat.div_le_self _ _
  have h5 : o % m < m := Nat.mod_lt _ (by omega)
  refine ⟨by simp; omega, fun x hx => ?_⟩
  rcases List.mem_append.mp hx with h | h
  · have := List.eq_of_mem_replicate h; omega
  · have := List.eq_of_mem_replicate h; omega
def roundsN (p : Pr) (o : Nat) (cut : Nat → Nat → List Nat) : Nat := roundsGo (fun k => fits p (cut o k)) o 0
def cutOf (best : Bool) : Nat → Nat → List Nat := if best = true then bestCut else worstCut
def cutName (best : Bool) : Str := if best = true then "best_cut" else "worst_cut"
section
variable {P : Program} {w : World} {K : PySem.W.Frag} {mg : Str → Option Value} {base : Heap}
theorem calAt {k : Nat} {x : Str} {sp : Sp} (c : C8.Cal P w K mg base k x sp []) : ∃ f, mg x = some (.ref f) ∧ C8.CalAt P w K mg base k f sp := by
  obtain ⟨f, fd, ps, ds, F, hm, kp, b, d⟩ := c.ex
  cases d
  exact ⟨f, hm, fd, ps, F, kp, b⟩
def sp_rounds_by (mg : Str → Option Value) : Sp := fun vs H Q _ => ∃ F vp p, ∃ o : Nat, ∃ f best, vs = [vp, .int o, .ref f] ∧ Sub F H ∧ RPr F vp p ∧ 1 ≤ o ∧ o ≤ 60 ∧ mg (cutName best) = some (.ref f) ∧ ∀ H', Ex S0 F H F H' → Q (.int (roundsN p o (cutOf best) : Nat)) H'
theorem c_rounds_by (T : Txt K mg) : C8.Cal P w K mg base 6 "rounds_by" (sp_rounds_by mg) [] := by
  have c_is_within := c_is_within (P := P) (w := w) (base := base) T
  refine mkC T.d_rounds_by scroundsby (fun _ _ _ _ _ _ us hl => match us, hl with | [_, _, _], _ => rfl) (fun vs H Q E h => ?_) (fun f cdv A outer s H vs Q E hr h => ?_)
  · obtain ⟨F, vp, p, o, f, best, rfl, _⟩ := h
    rfl
  · obtain ⟨F, vp, p, o, fc, best, rfl, sb, hp, h1, h2, hmg, q⟩ := h
    obtain ⟨fb, hfb, cb⟩ := calAt (c_best_cut (P := P) (w := w) (base := base) T)
    obtain ⟨fw, hfw, cw⟩ := calAt (c_worst_cut (P := P) (w := w) (base := base) T)
    refine ⟨_, (pss_cons (ps_set (i := 3) scroundsby.nd rfl (Or.inl rfl) pe_int)
    (pss_cons (ps_for PassesOwn.never rfl (pi_range2 (by rfl) T.range (pa_cons pe_int (pa_cons (pe_op op_add (pv 1) pe_int) pa_nil))) (pg_name (i := 4) scroundsby.nd rfl (Or.inl rfl)) (pss_cons (ps_if (pt_not (pt_val (C8.pe_c c_is_within hr (by decide) (by rfl) (pa_cons (pv 0) (pa_cons (C8.pe_cv (i := 2) cb cw hr (by decide) (by decide) rfl (Or.inl rfl) (pa_cons (pv 1) (pa_cons (pv 4) pa_nil))) pa_nil))))) (pss_one ps_break) pss_nil)
    (pss_one (ps_set (i := 3) scroundsby.nd rfl (Or.inl rfl) (pv 4)))))
    (pss_one (ps_ret (pv 3))))), ?_⟩
    walk_at "vc"
    refine ⟨by omega, ?_⟩
    refine for_itB (walk_rg2 (lo := 1) (n := o) rfl (by omega)) (fun i σ H2 => ∃ u, σ = [some vp, some (.int o), some (.ref fc), some (nv i), u] ∧ Ex S0 F H F H2 ∧ i ≤ o ∧ roundsN p o (cutOf best) = roundsGo (fun k => fits p (cutOf best o k)) (o - i) i)
      (fun σ H2 => ∃ u, σ = [some vp, some (.int o), some (.ref fc), some (nv (roundsN p o (cutOf best))), u] ∧ Ex S0 F H F H2) ⟨none, rfl, ex0 sb, Nat.zero_le _, rfl⟩ (fun i σ H2 _ h => trivial) (fun σ H2 h => ?_) (fun fin i x σ H2 H3 hi h y => ?_) (fun σ H2 h => ?_)
    · obtain ⟨u, rfl, e⟩ := h
      exact ⟨_, rfl, q _ e⟩
    · obtain ⟨u, rfl, e, _, hrn⟩ := h
      obtain ⟨rfl, rfl⟩ := y
      have ek : o - i = (o - (i + 1)) + 1 := by omega
      cases best with
      | true =>
        have ef : fc = fb := by
          have z : some (Value.ref fb) = some (Value.ref fc) := hfb.symm.trans hmg
          cases z; rfl
        subst ef
        walk_at "vc"
        refine .inl ⟨rfl, ?_⟩
        walk_at "vc"
        refine ⟨F, o, 1 + i, rfl, e.s, h2, by omega, by omega, fun r F4 H4 e4 r4 => ?_⟩
        have e04 := e.trans e4
        refine ⟨F4, _, r, p, _, rfl, e4.s, Mono.up (r := RPr) e4.f hp, r4, bestCut_good h2 (by omega) (by omega), fun H5 e5 => ?_⟩
        have e05 := (e04.trans e5).low
        walk_at "vc"
        rw [ek] at hrn
        unfold roundsGo at hrn
        rw [Nat.add_comm i 1] at hrn
        refine ite2 (fun z => ?_) (fun z => ?_)
        · have z1 : fits p (bestCut o (1 + i)) = false := by simpa using z
          refine fin _ _ ⟨some (nv (1 + i)), ?_, e05⟩
          have z2 : fits p (cutOf true o (1 + i)) = false := z1
          rw [if_neg (by rw [z2]; simp)] at hrn
          rw [hrn]
          rfl
        · have z1 : fits p (bestCut o (1 + i)) = true := by simpa using z
          have z2 : fits p (cutOf true o (1 + i)) = true := z1
          rw [if_pos z2] at hrn
          walk_at "vc"
          refine ⟨some (nv (1 + i)), ?_, e05, by omega, ?_⟩
          · rw [Nat.add_comm i 1]; rfl
          · rw [Nat.add_comm i 1]; exact hrn
      | false =>
        have ef : fc = fw := by
          have z : some (Value.ref fw) = some (Value.ref fc) := hfw.symm.trans hmg
          cases z; rfl
        subst ef
        walk_at "vc"
        refine .inr ⟨rfl, ?_⟩
        walk_at "vc"
        refine ⟨F, o, 1 + i, rfl, e.s, h2, by omega, by omega, fun r F4 H4 e4 r4 => ?_⟩
        have e04 := e.trans e4
        refine ⟨F4, _, r, p, _, rfl, e4.s, Mono.up (r := RPr) e4.f hp, r4, worstCut_good h2 (by omega) (by omega), fun H5 e5 => ?_⟩
        have e05 := (e04.trans e5).low
        walk_at "vc"
        rw [ek] at hrn
        unfold roundsGo at hrn
        rw [Nat.add_comm i 1] at hrn
        refine ite2 (fun z => ?_) (fun z => ?_)
        · have z1 : fits p (worstCut o (1 + i)) = false := by simpa using z
          refine fin _ _ ⟨some (nv (1 + i)), ?_, e05⟩
          have z2 : fits p (cutOf false o (1 + i)) = false := z1
          rw [if_neg (by rw [z2]; simp)] at hrn
          rw [hrn]
          rfl
        · have z1 : fits p (worstCut o (1 + i)) = true := by simpa using z
          have z2 : fits p (cutOf false o (1 + i)) = true := z1
          rw [if_pos z2] at hrn
          walk_at "vc"
          refine ⟨some (nv (1 + i)), ?_, e05, by omega, ?_⟩
          · rw [Nat.add_comm i 1]; rfl
          · rw [Nat.add_comm i 1]; exact hrn
    · obtain ⟨u, rfl, e, _, hrn⟩ := h
      rw [Nat.sub_self] at hrn
      exact ⟨u, by rw [hrn]; rfl, e⟩
/-- a table and times that pass -/
structure Ok (K : PySem.W.Frag) (F : Hp) (v vt : V) (n : Nat) (ties : Ties) (ts : List (Option Int)) : Prop where
  ht : RTab K F v n ties
  hto : TiesOk n ties
  hn : n ≤ 12
  hts : RRow F vt ts
  hl : ts.length = n
  hb : ∀ t, some t ∈ ts → -1000000000 ≤ t ∧ t ≤ 1000000000
  hdi : Diag n (evOf n ties)
theorem Ok.up {F F' : Hp} {v vt : V} {n : Nat} {ties : Ties} {ts : List (Option Int)} (e : Sub F F') (h : Ok K F v vt n ties ts) : Ok K F' v vt n ties ts := ⟨RTab.up e h.ht, h.hto, h.hn, Mono.up (r := RRow) e h.hts, h.hl, h.hb, h.hdi⟩
/-- a def's promise, with its object -/
def FnD (P : Program) (w : World) (K : PySem.W.Frag) (mg : Str → Option Value) (base : Heap) (CX : CXT) (k : Nat) (x : Str) (st : Stmt) (ps : List Str) (sp : Sp) : Prop := ∃ f fd, FunD K x x (defArgs st) (defBody st) (defScope st) [] [] f fd ∧ mg x = some (.ref f) ∧ FnOk P w K mg base CX k f fd ps sp
theorem mkF {x : Str} {st : Stmt} {N ps : List Str} {k : Nat} {sp : Sp} (F : Fd K mg x st) (S : FnScope N ps (defScope st))
    (len : ∀ vs H Q E, sp vs H Q E → vs.length = ps.length)
    (hbody : ∀ (f : Addr) (cdv : Value) (A : Around) (outer : List Env) (s : Shared) (H : Hp) (vs : List V) (Q : VK) (E : XK), Room k (A.deeper (envOfC x (defScope st) s.heap.objs.size f cdv)) → sp vs H Q E →
      ∃ t, PSs (cxOf C8.CX0 P w K mg base N x (defScope st) f cdv A outer s H E).nox (defBody st) t ∧ t { nx := fun _ H' => Q .non H', rt := Q } (start N vs) H) : FnD P w K mg base C8.CX0 (k + 1) x st ps sp := by
  obtain ⟨f, fd, F, hm⟩ := F
  refine ⟨f, fd, F, hm, F.ok S len (fun cdv A outer s H vs Q E hr h => ?_)⟩
  obtain ⟨t, h1, h2⟩ := hbody f cdv A outer s H vs Q E hr h
  exact ⟨t, h1.nox, h2⟩
theorem FnD.cal {x : Str} {st : Stmt} {ps : List Str} {k : Nat} {sp : Sp} (F : FnD P w K mg base C8.CX0 k x st ps sp)
    (hb : ∀ (kV doc pm : Value) (an : Option Addr) (cdv ct : Value) (us : List Value), us.length = ps.length → bindArgs (PySem.W.fnOf x x (defArgs st) (defBody st) (defScope st) .none kV doc pm an cdv ct) ⟨us, []⟩ = pure (ps.zip us)) : C8.Cal P w K mg base k x sp [] := by
  obtain ⟨f, fd, F, hm, G⟩ := F
  exact ⟨f, fd, ps, [], G, hm, F.kp, F.bindsN hb, .nil⟩
def sp_check_orders : Sp := fun vs H Q _ => ∃ F v vt n ties ts, ∃ o : Nat, vs = [v, vt, .int o] ∧ Sub F H ∧ Ok K F v vt n ties ts ∧ 1 ≤ o ∧ o ≤ 60 ∧ ∀ H', Ex S0 F H F H' → Q .non H'
theorem c_check_orders (T : Txt K mg) : C8.Cal P w K mg base 4 "check_orders" (sp_check_orders (K := K)) [] := by
  have c_check_times := c_check_times (P := P) (w := w) (base := base) T
  have c_need_number := c_need_number (P := P) (w := w) (base := base) T
  refine mkC T.d_check_orders sccheckorders (fun _ _ _ _ _ _ us hl => match us, hl with | [_, _, _], _ => rfl) (fun vs H Q E h => ?_) (fun f cdv A outer s H vs Q E hr h => ?_)
  · obtain ⟨F, v, vt, n, ties, ts, o, rfl, _⟩ := h
    rfl
  · obtain ⟨F, v, vt, n, ties, ts, o, rfl, sb, ⟨ht, hto, hn, hts, hl, hb, hdi⟩, h1, h2, q⟩ := h
    refine ⟨_, (pss_cons (ps_expr (C8.pe_c c_check_times hr (by decide) (by rfl) (pa_cons (pv 0) (pa_cons (pv 1) pa_nil))))
    (pss_one (ps_expr (C8.pe_c c_need_number hr (by decide) (by rfl) (pa_cons (pv 2) (pa_cons pe_int (pa_cons (C8.pe_gc rfl T.g_MOST_BATCHES) (pa_cons pe_str pa_nil)))))))), ?_⟩
    walk_at "vc"
    refine ⟨F, _, _, n, ties, ts, rfl, sb, ht, hts, hl, hb, fun H1 e1 => ?_⟩
    walk_at "vc"
    refine ⟨o, 1, 60, _, rfl, by omega, by omega, by omega, ?_⟩
    exact q _ e1
def sp_most_rounds : Sp := fun vs H Q _ => ∃ F v vt n ties ts, ∃ o : Nat, vs = [v, vt, .int o] ∧ Sub F H ∧ Ok K F v vt n ties ts ∧ 1 ≤ o ∧ o ≤ 60 ∧ ∀ H', Ex S0 F H F H' → Q (.int (roundsN (limOf n (evOf n ties) ts) o bestCut : Nat)) H'
theorem f_most_rounds (T : Txt K mg) : FnD P w K mg base C8.CX0 7 "most_rounds" smostrounds ["table", "times", "orders"] (sp_most_rounds (K := K)) := by
  have c_check_orders := c_check_orders (P := P) (w := w) (base := base) T
  have c_rounds_by := c_rounds_by (P := P) (w := w) (base := base) T
  have c_limits := c_limits (P := P) (w := w) (base := base) T
  refine mkF T.d_most_rounds scmostrounds (fun vs H Q E h => ?_) (fun f cdv A outer s H vs Q E hr h => ?_)
  · obtain ⟨F, v, vt, n, ties, ts, o, rfl, _⟩ := h
    rfl
  · obtain ⟨F, v, vt, n, ties, ts, o, rfl, sb, ⟨ht, hto, hn, hts, hl, hb, hdi⟩, h1, h2, q⟩ := h
    obtain ⟨fb, fdb, Fb, hmb⟩ := T.d_best_cut
    have gbest_cut : ∃ u, mg "best_cut" = some u ∧ RelV (.ref fb) u := ⟨_, hmb, rfl⟩
    refine ⟨_, (pss_cons (ps_expr (C8.pe_c c_check_orders hr (by decide) (by rfl) (pa_cons (pv 0) (pa_cons (pv 1) (pa_cons (pv 2) pa_nil)))))
    (pss_one (ps_ret (C8.pe_c c_rounds_by hr (by decide) (by rfl) (pa_cons (C8.pe_c c_limits hr (by decide) (by rfl) (pa_cons (pv 0) (pa_cons (pv 1) pa_nil))) (pa_cons (pv 2) (pa_cons (C8.pe_gc rfl gbest_cut) pa_nil))))))), ?_⟩
    walk_at "vc"
    refine ⟨F, _, _, n, ties, ts, o, rfl, sb, ⟨ht, hto, hn, hts, hl, hb, hdi⟩, h1, h2, fun H1 e1 => ?_⟩
    walk_at "vc"
    refine ⟨F, _, _, n, ties, ts, rfl, e1.s, ht, hto, hn, hts, hl, hb, hdi, fun r F2 H2 e2 r2 => ?_⟩
    walk_at "vc"
    refine ⟨F2, r, _, o, fb, true, rfl, e2.s, r2, h1, h2, hmb, fun H3 e3 => ?_⟩
    exact q _ (e1.trans (e2.trans e3)).low
theorem c_most_rounds (T : Txt K mg) : C8.Cal P w K mg base 7 "most_rounds" (sp_most_rounds (K := K)) [] := (f_most_rounds T).cal (fun _ _ _ _ _ _ us hl => match us, hl with | [_, _, _], _ => rfl)
def sp_sure_rounds : Sp := fun vs H Q _ => ∃ F v vt n ties ts, ∃ o : Nat, vs = [v, vt, .int o] ∧ Sub F H ∧ Ok K F v vt n ties ts ∧ 1 ≤ o ∧ o ≤ 60 ∧ ∀ H', Ex S0 F H F H' → Q (.int (roundsN (limOf n (evOf n ties) ts) o worstCut : Nat)) H'
theorem f_sure_rounds (T : Txt K mg) : FnD P w K mg base C8.CX0 7 "sure_rounds" ssurerounds ["table", "times", "orders"] (sp_sure_rounds (K := K)) := by
  have c_check_orders := c_check_orders (P := P) (w := w) (base := base) T
  have c_rounds_by := c_rounds_by (P := P) (w := w) (base := base) T
  have c_limits := c_limits (P := P) (w := w) (base := base) T
  refine mkF T.d_sure_rounds scsurerounds (fun vs H Q E h => ?_) (fun f cdv A outer s H vs Q E hr h => ?_)
  · obtain ⟨F, v, vt, n, ties, ts, o, rfl, _⟩ := h
    rfl
  · obtain ⟨F, v, vt, n, ties, ts, o, rfl, sb, ⟨ht, hto, hn, hts, hl, hb, hdi⟩, h1, h2, q⟩ := h
    obtain ⟨fb, fdb, Fb, hmb⟩ := T.d_worst_cut
    have gworst_cut : ∃ u, mg "worst_cut" = some u ∧ RelV (.ref fb) u := ⟨_, hmb, rfl⟩
    refine ⟨_, (pss_cons (ps_expr (C8.pe_c c_check_orders hr (by decide) (by rfl) (pa_cons (pv 0) (pa_cons (pv 1) (pa_cons (pv 2) pa_nil)))))
    (pss_one (ps_ret (C8.pe_c c_rounds_by hr (by decide) (by rfl) (pa_cons (C8.pe_c c_limits hr (by decide) (by rfl) (pa_cons (pv 0) (pa_cons (pv 1) pa_nil))) (pa_cons (pv 2) (pa_cons (C8.pe_gc rfl gworst_cut) pa_nil))))))), ?_⟩
    walk_at "vc"
    refine ⟨F, _, _, n, ties, ts, o, rfl, sb, ⟨ht, hto, hn, hts, hl, hb, hdi⟩, h1, h2, fun H1 e1 => ?_⟩
    walk_at "vc"
    refine ⟨F, _, _, n, ties, ts, rfl, e1.s, ht, hto, hn, hts, hl, hb, hdi, fun r F2 H2 e2 r2 => ?_⟩
    walk_at "vc"
    refine ⟨F2, r, _, o, fb, false, rfl, e2.s, r2, h1, h2, hmb, fun H3 e3 => ?_⟩
    exact q _ (e1.trans (e2.trans e3)).low
theorem c_sure_rounds (T : Txt K mg) : C8.Cal P w K mg base 7 "sure_rounds" (sp_sure_rounds (K := K)) [] := (f_sure_rounds T).cal (fun _ _ _ _ _ _ us hl => match us, hl with | [_, _, _], _ => rfl)
abbrev WC := Nat × List Nat
abbrev RWC : Rp WC := R2 Rn (Rt Rn)
def pickW (x : WC) : Option WC → WC
  | none => x
  | some y => if leW (x.1 : Int) (y.1 : Int) (x.2.map fun n : Nat => (n : Int)) (y.2.map fun n : Nat => (n : Int)) = true then x else y
def sp_shorter_wait : Sp := fun vs H Q _ => ∃ F u v, ∃ (x : WC) (y : Option WC), vs = [u, v] ∧ Sub F H ∧ RWC F u x ∧ Ro RWC F v y ∧ ∀ r z, RWC F r z → (z = x ∨ some z = y) → z.1 ≤ x.1 → (∀ t, y = some t → z.1 ≤ t.1) → z = pickW x y → Q r H
theorem c_shorter_wait (T : Txt K mg) : C8.Cal P w K mg base 1 "shorter_wait" sp_shorter_wait [] := by
  refine mkC T.d_shorter_wait scshorterwait (fun _ _ _ _ _ _ us hl => match us, hl with | [_, _], _ => rfl) (fun vs H Q E h => ?_) (fun f cdv A outer s H vs Q E hr h => ?_)
  · obtain ⟨F, u, v, x, y, rfl, _⟩ := h
    rfl
  · obtain ⟨F, u, v, ⟨x1, x2⟩, y, rfl, sb, hx, hy, q⟩ := h
    obtain ⟨a, u1, u2, rfl, ha, rfl, ⟨ca, cvs, rfl, hca, prc⟩⟩ := id hx
    have ew : cvs = x2.map nv := paired_nats prc
    subst ew
    refine ⟨_, (pss_one (ps_ret (pe_ifExp (PW.pt (pw_or (pt_cmpR op_isN (pv 1) pe_non (nomark _)) (pw_or1 (PW.pt (pw_and (pt_cmpR op_notN (pv 0) pe_non (nomark _)) (pw_and1 (pt_cmpR (op_leW (hu_big hr)) (pv 0) (pv 1) (nomark _)))))))) (pv 0) (pv 1)))), ?_⟩
    cases y with
    | none =>
      have hy : v = .non := hy
      subst hy
      walk_at "vc"
      exact q _ _ hx (.inl rfl) (Nat.le_refl _) (fun t z => by cases z) rfl
    | some y =>
      obtain ⟨b, w1, w2, rfl, hb, rfl, ⟨cb, dvs, rfl, hcb, prd⟩⟩ := id hy
      have ew : dvs = y.2.map nv := paired_nats prd
      subst ew
      walk_at "vc"
      refine ⟨a, b, ca, cb, (x1 : Int), (y.1 : Int), x2.map fun n : Nat => (n : Int), y.2.map fun n : Nat => (n : Int), rfl, rfl, tS (sb _ _ ha), tS (sb _ _ hb), tS (by rw [List.map_map]; exact sb _ _ hca), tS (by rw [List.map_map]; exact sb _ _ hcb), fun k hk0 hk1 hk2 => ?_⟩
      walk_at "vc"
      cases k with
      | true =>
        have hk1 := hk1 rfl
        exact ⟨_, rfl, q _ _ hx (.inl rfl) (Nat.le_refl _) (fun t z => by cases z; show x1 ≤ _; omega) (by show _ = if _ then _ else _; exact (if_pos hk0.symm).symm)⟩
      | false =>
        have hk2 := hk2 rfl
        exact ⟨_, rfl, q _ _ hy (.inr rfl) (by show y.1 ≤ x1; omega) (fun t z => by cases z; exact Nat.le_refl _) (by show _ = if _ then _ else _; exact (if_neg (fun z => Bool.false_ne_true (hk0.trans z))).symm)⟩
end
end Sa
set_option Elab.async false
set_option linter.all false
set_option maxRecDepth 100000
set_option maxHeartbeats 4000000
namespace Sa
open PySem PySem.Spec PyProof.Rows L2
/-! ### dicts with counts for keys -/
abbrev En (α : Type) := List (Nat × α)
section
variable {α : Type}
def getE (es : En α) (k : Nat) : Option α := (es.find? fun e => decide (e.1 = k)).map (·.2)
def putE (es : En α) (k : Nat) (x : α) : En α := if (es.any fun e => decide (e.1 = k)) = true then es.map (fun e => if e.1 = k then (e.1, x) else e) else es ++ [(k, x)]
def RD (r : Rp α) (F : Hp) (kvs : List (Key × V)) (es : En α) : Prop := Paired (fun (kv : Key × V) (e : Nat × α) => kv.1 = Sum.inl (e.1 : Int) ∧ r F kv.2 e.2) kvs es
theorem RD.up {r : Rp α} [Mono r] {F F' : Hp} {kvs : List (Key × V)} {es : En α} (s : Sub F F') (h : RD r F kvs es) : RD r F' kvs es := Paired.mono (fun _ _ q => ⟨q.1, Mono.up s q.2⟩) h
theorem keyd {a : Key} {n k : Nat} (h : a = Sum.inl (n : Int)) : decide (a = Sum.inl (k : Int)) = decide (n = k) := by
  subst h
  by_cases e : n = k
  · subst e; simp
  · have : ¬ (Sum.inl (n : Int) : Key) = Sum.inl (k : Int) := by
      intro z
      have := Sum.inl.inj z
      omega
    rw [decide_eq_false e, decide_eq_false this]
theorem RD.any {r : Rp α} {F : Hp} (k : Nat) : ∀ {kvs : List (Key × V)} {es : En α}, RD r F kvs es → (kvs.any fun kv => decide (kv.1 = Sum.inl (k : Int))) = es.any fun e => decide (e.1 = k)
  | _, _, .nil => rfl
  | _, _, .cons a t => by rw [List.any_cons, List.any_cons, RD.any k t, keyd a.1]
theorem RD.get {r : Rp α} {F : Hp} (k : Nat) : ∀ {kvs : List (Key × V)} {es : En α}, RD r F kvs es → Ro r F ((valV kvs (Sum.inl (k : Int))).getD .non) (getE es k) ∧ ((valV kvs (Sum.inl (k : Int))).isSome = (getE es k).isSome)
  | _, _, .nil => ⟨rfl, rfl⟩
  | (kv :: kvs), (e :: es), .cons a t => by
    have ih := RD.get k t
    by_cases q : e.1 = k
    · have q2 : kv.1 = Sum.inl (k : Int) := by rw [a.1, q]
      rw [valV_pos q2]
      have : getE (e :: es) k = some e.2 := by unfold getE; simp [q]
      rw [this]
      exact ⟨a.2, rfl⟩
    · have q2 : ¬ kv.1 = Sum.inl (k : Int) := by
        rw [a.1]; intro z
        have := Sum.inl.inj z
        omega
      rw [valV_neg q2]
      have : getE (e :: es) k = getE es k := by unfold getE; simp [q]
      rw [this]
      exact ih
theorem RD.putM {r : Rp α} {F : Hp} (k : Nat) {v : V} {x : α} (hv : r F v x) : ∀ {kvs : List (Key × V)} {es : En α}, RD r F kvs es → RD r F (kvs.map fun kv => if kv.1 = Sum.inl (k : Int) then (kv.1, v) else kv) (es.map fun e => if e.1 = k then (e.1, x) else e)
  | _, _, .nil => .nil
  | (kv :: kvs), (e :: es), .cons a t => by
    refine .cons ?_ (RD.putM k hv t)
    show (if kv.1 = Sum.inl (k : Int) then (kv.1, v) else kv).1 = Sum.inl (((if e.1 = k then (e.1, x) else e).1 : Nat) : Int) ∧ r F (if kv.1 = Sum.inl (k : Int) then (kv.1, v) else kv).2 (if e.1 = k then (e.1, x) else e).2
    by_cases q : e.1 = k
    · have q2 : kv.1 = Sum.inl (k : Int) := by rw [a.1, q]
      rw [if_pos q, if_pos q2]
      exact ⟨a.1, hv⟩
    · have q2 : ¬ kv.1 = Sum.inl (k : Int) := by
        rw [a.1]; intro z
        have := Sum.inl.inj z
        omega
      rw [if_neg q, if_neg q2]
      exact a
theorem RD.put {r : Rp α} {F : Hp} (k : Nat) {v : V} {x : α} (hv : r F v x) {kvs : List (Key × V)} {es : En α} (h : RD r F kvs es) : RD r F (putK kvs (Sum.inl (k : Int)) v) (putE es k x) := by
  unfold putK putE
  rw [h.any k]
  split
  · exact RD.putM k hv h
  · exact Paired.app h (.cons ⟨rfl, hv⟩ .nil)
def keysE (es : En α) : List Nat := es.map (·.1)
theorem putE_keys (es : En α) (k : Nat) (x : α) : keysE (putE es k x) = keysE es ∨ (keysE (putE es k x) = keysE es ++ [k] ∧ k ∉ keysE es) := by
  unfold putE
  split
  · left
    unfold keysE
    rw [List.map_map]
    refine List.map_congr_left fun e _ => ?_
    show (if e.1 = k then (e.1, x) else e).1 = e.1
    split <;> rfl
  · rename_i h
    right
    refine ⟨by simp [keysE], fun z => h ?_⟩
    obtain ⟨e, h1, h2⟩ := List.mem_map.mp z
    exact List.any_eq_true.mpr ⟨e, h1, by simp [h2]⟩
theorem putE_nodup {es : En α} {k : Nat} {x : α} (h : (keysE es).Nodup) : (keysE (putE es k x)).Nodup := by
  rcases putE_keys es k x with e | ⟨e, n⟩
  · rw [e]; exact h
  · rw [e, List.nodup_append]
    exact ⟨h, by simp, fun a ha b hb => by simp at hb; subst hb; rintro rfl; exact n ha⟩
theorem putE_mem {es : En α} {k : Nat} {x : α} {e : Nat × α} (h : e ∈ putE es k x) : e = (k, x) ∨ (e ∈ es ∧ e.1 ≠ k) := by
  unfold putE at h
  split at h
  · obtain ⟨e0, h1, h2⟩ := List.mem_map.mp h
    by_cases q : e0.1 = k
    · rw [if_pos q] at h2
      left; rw [← h2, q]
    · rw [if_neg q] at h2
      right; subst h2; exact ⟨h1, q⟩
  · rename_i hn
    rcases List.mem_append.mp h with h | h
    · right
      refine ⟨h, fun q => hn ?_⟩
      exact List.any_eq_true.mpr ⟨e, h, by simp [q]⟩
    · left; simpa using h
theorem putE_new (es : En α) (k : Nat) (x : α) : (k, x) ∈ putE es k x := by
  unfold putE
  split
  · rename_i h
    obtain ⟨e, h1, h2⟩ := List.any_eq_true.mp h
    have h2 : e.1 = k := by simpa using h2
    exact List.mem_map.mpr ⟨e, h1, by rw [if_pos h2, h2]⟩
  · exact List.mem_append.mpr (.inr (by simp))
theorem putE_old {es : En α} {k : Nat} {x : α} {e : Nat × α} (h : e ∈ es) (n : e.1 ≠ k) : e ∈ putE es k x := by
  unfold putE
  split
  · exact List.mem_map.mpr ⟨e, h, by rw [if_neg n]⟩
  · exact List.mem_append.mpr (.inl h)
theorem getE_mem {es : En α} {k : Nat} {x : α} (h : getE es k = some x) : (k, x) ∈ es := by
  unfold getE at h
  cases q : es.find? fun e => decide (e.1 = k) with
  | none => rw [q] at h; cases h
  | some e =>
    rw [q] at h
    have h1 := List.mem_of_find?_eq_some q
    have h2 := List.find?_some q
    simp at h2
    have : e.2 = x := Option.some.inj h
    rw [← h2, ← this]; exact h1
theorem nodup_inj {es : En α} (h : (keysE es).Nodup) {e f : Nat × α} (h1 : e ∈ es) (h2 : f ∈ es) (h3 : e.1 = f.1) : e = f := by
  induction es with
  | nil => cases h1
  | cons a t ih =>
    unfold keysE at h
    rw [List.map_cons, List.nodup_cons] at h
    rcases List.mem_cons.mp h1 with h1 | h1 <;> rcases List.mem_cons.mp h2 with h2 | h2
    · rw [h1, h2]
    · exact absurd (List.mem_map.mpr ⟨f, h2, by rw [← h3, h1]⟩) h.1
    · exact absurd (List.mem_map.mpr ⟨e, h1, by rw [h3, h2]⟩) h.1
    · exact ih h.2 h1 h2
theorem getE_of {es : En α} (h : (keysE es).Nodup) {k : Nat} {x : α} (h1 : (k, x) ∈ es) : getE es k = some x := by
  cases q : getE es k with
  | some y =>
    have := nodup_inj h h1 (getE_mem q) rfl
    cases this; rfl
  | none =>
    unfold getE at q
    have q := Option.map_eq_none_iff.mp q
    rw [List.find?_eq_none] at q
    exact absurd (by simp) (q _ h1)
theorem nd_len : ∀ (B : Nat) (l : List Nat), l.Nodup → (∀ x ∈ l, x < B) → l.length ≤ B
  | 0, [], _, _ => Nat.le_refl _
  | 0, x :: l, _, h => absurd (h x (List.mem_cons_self ..)) (by omega)
  | B + 1, l, hn, h => by
    have h1 := nd_len B (l.erase B) (hn.erase B) fun x hx => by
      have h2 := h x (List.mem_of_mem_erase hx)
      have h3 : x ≠ B := fun z => by
        subst z
        exact (List.Nodup.not_mem_erase hn) hx
      omega
    have h2 := List.length_erase (a := B) (l := l)
    split at h2 <;> omega
theorem len_bound {es : En α} {B : Nat} (h : (keysE es).Nodup) (hb : ∀ e ∈ es, e.1 < B) : es.length ≤ B := by
  have := nd_len B (keysE es) h fun k hk => by
    obtain ⟨e, he, rfl⟩ := List.mem_map.mp hk
    exact hb e he
  unfold keysE at this
  rwa [List.length_map] at this
end
end Sa
set_option Elab.async false
set_option linter.all false
set_option maxRecDepth 100000
set_option maxHeartbeats 4000000
namespace Sa
open PySem PySem.Spec PyProof.Rows L2
/-! ### the least waiting, by products -/
theorem walkR_foldl (c : List Nat) : ∀ a : Nat, c.foldl (fun a b => a * (b + 1)) a = a * walkR c := by
  induction c with
  | nil => intro a; simp [walkR]
  | cons b t ih =>
    intro a
    unfold walkR
    rw [List.foldl_cons, List.foldl_cons, ih, ih, Nat.one_mul, Nat.mul_assoc]
theorem walkR_cons (b : Nat) (t : List Nat) : walkR (b :: t) = (b + 1) * walkR t := by
  show t.foldl (fun a b => a * (b + 1)) (1 * (b + 1)) = _
  rw [walkR_foldl, Nat.one_mul]
theorem walkR_pos (c : List Nat) : 1 ≤ walkR c := by
  induction c with
  | nil => exact Nat.le_refl _
  | cons b t ih => rw [walkR_cons]; exact Nat.mul_pos (by omega) ih
theorem waitN_cons (b : Nat) (t : List Nat) : waitN (b :: t) = b * (b - 1) / 2 + waitN t := by unfold waitN; simp
theorem below_mono {a b : Nat} {l : Option Nat} (h : below b l = true) (e : a ≤ b) : below a l = true := by
  cases l with
  | none => rfl
  | some z =>
    have := of_decide_eq_true h
    exact decide_eq_true (by omega)
theorem fitB_mono {p : Pr} {a b c d : Nat} (h : fitB p b d = true) (e1 : a ≤ b) (e2 : c ≤ d) : fitB p a c = true := by
  unfold fitB at h ⊢
  rw [Bool.and_eq_true] at h ⊢
  exact ⟨below_mono h.1 e1, below_mono h.2 e2⟩
/-- a part behind the first batch fits -/
def fit2 (p : Pr) (a : Nat) : Bool := fitB p (2 * a) a
theorem fit2_mono {p : Pr} {a b : Nat} (h : fit2 p b = true) (e : a ≤ b) : fit2 p a = true := fitB_mono h (by omega) e
/-- a cut of o orders that holds -/
structure Held (p : Pr) (o : Nat) (c : List Nat) : Prop where
  sum : c.sum = o
  pos : ∀ x ∈ c, 1 ≤ x
  fit : fits p c = true
def Least (p : Pr) (o : Nat) : Option WC → Prop
  | none => ∀ c, ¬ Held p o c
  | some x => Held p o x.2 ∧ waitN x.2 = x.1 ∧ ∀ c, Held p o c → x.1 ≤ waitN c
structure DpI {α : Type} (cost : α → Nat) (good : Nat → Nat × α → Prop) (p : Pr) (o : Nat) (dn : Nat → Nat → Nat → Prop) (D : Nat → En α) : Prop where
  nd : ∀ c, (keysE (D c)).Nodup
  lt : ∀ c e, e ∈ D c → e.1 < 30
  ok : ∀ c e, e ∈ D c → good c e
  z : ∃ e, e ∈ D 0 ∧ e.1 = 1 ∧ cost e.2 = 0
  cov : ∀ c e s, e ∈ D c → dn c e.1 s → 1 ≤ s → c + s < o → fit2 p (e.1 * (s + 1)) = true → ∃ f, f ∈ D (c + s) ∧ f.1 = e.1 * (s + 1) ∧ cost f.2 ≤ cost e.2 + s * (s - 1) / 2
section
variable {α : Type} {cost : α → Nat} {good : Nat → Nat × α → Prop} {p : Pr} {o : Nat} {dn dn' : Nat → Nat → Nat → Prop} {D : Nat → En α}
theorem DpI.more (h : DpI cost good p o dn D) (m : ∀ c e s, e ∈ D c → dn' c e.1 s → 1 ≤ s → c + s < o → fit2 p (e.1 * (s + 1)) = true → dn c e.1 s) : DpI cost good p o dn' D :=
  ⟨h.nd, h.lt, h.ok, h.z, fun c e s h1 h2 h3 h4 h5 => h.cov c e s h1 (m c e s h1 h2 h3 h4 h5) h3 h4 h5⟩
def setD (D : Nat → En α) (c k : Nat) (z : α) : Nat → En α := fun x => if x = c then putE (D c) k z else D x
theorem DpI.step (h : DpI cost good p o dn D) {i s : Nat} {e : Nat × α} {z : α} (he : e ∈ D i) (hs : 1 ≤ s) (hi : ∀ c k s, dn c k s → c ≤ i) (hk : e.1 * (s + 1) < 30) (hg : good (i + s) (e.1 * (s + 1), z))
    (hz : cost z ≤ cost e.2 + s * (s - 1) / 2) (hold : ∀ x, getE (D (i + s)) (e.1 * (s + 1)) = some x → cost z ≤ cost x) : DpI cost good p o (fun c k t => dn c k t ∨ (c = i ∧ k = e.1 ∧ t = s)) (setD D (i + s) (e.1 * (s + 1)) z) := by
  have hne : i ≠ i + s := by omega
  refine ⟨fun c => ?_, fun c f hf => ?_, fun c f hf => ?_, ?_, fun c f t hf hd ht hc hfit => ?_⟩
  · unfold setD
    split
    · exact putE_nodup (h.nd _)
    · exact h.nd c
  · unfold setD at hf
    split at hf
    · rcases putE_mem hf with rfl | ⟨hf, _⟩
      · exact hk
      · exact h.lt _ _ hf
    · exact h.lt _ _ hf
  · unfold setD at hf
    split at hf
    · rename_i hc; subst hc
      rcases putE_mem hf with rfl | ⟨hf, _⟩
      · exact hg
      · exact h.ok _ _ hf
    · exact h.ok _ _ hf
  · obtain ⟨e0, h1, h2, h3⟩ := h.z
    refine ⟨e0, ?_, h2, h3⟩
    unfold setD
    rw [if_neg (by omega)]
    exact h1
  · -- f stands at c ≤ i, where nothing changed
    have hci : c ≤ i := by
      rcases hd with hd | hd
      · exact hi _ _ _ hd
      · omega
    have hfD : f ∈ D c := by
      unfold setD at hf
      rw [if_neg (by omega)] at hf
      exact hf
    have key : ∃ g, g ∈ D (c + t) ∧ g.1 = f.1 * (t + 1) ∧ cost g.2 ≤ cost f.2 + t * (t - 1) / 2 ∨ (c = i ∧ f.1 = e.1 ∧ t = s) := by
      rcases hd with hd | hd
      · obtain ⟨g, g1, g2, g3⟩ := h.cov c f t hfD hd ht hc hfit
        exact ⟨g, .inl ⟨g1, g2, g3⟩⟩
      · exact ⟨f, .inr hd⟩
    obtain ⟨g, key⟩ := key
    rcases key with ⟨g1, g2, g3⟩ | ⟨rfl, h2, rfl⟩
    · by_cases hct : c + t = i + s
      · by_cases hgk : g.1 = e.1 * (s + 1)
        · refine ⟨(e.1 * (s + 1), z), ?_, ?_, ?_⟩
          · unfold setD; rw [if_pos hct]; exact putE_new _ _ _
          · rw [← g2, hgk]
          · have : getE (D (i + s)) (e.1 * (s + 1)) = some g.2 := getE_of (h.nd _) (by rw [← hgk, ← hct]; exact g1)
            exact Nat.le_trans (hold _ this) g3
        · refine ⟨g, ?_, g2, g3⟩
          unfold setD; rw [if_pos hct]
          exact putE_old (hct ▸ g1) hgk
      · refine ⟨g, ?_, g2, g3⟩
        unfold setD; rw [if_neg hct]; exact g1
    · have hfe : f = e := nodup_inj (h.nd _) hfD he h2
      subst hfe
      refine ⟨(f.1 * (t + 1), z), ?_, rfl, hz⟩
      unfold setD
      rw [if_pos rfl]
      exact putE_new _ _ _
/-- every part of o > its sum that fits is there, none dearer -/
theorem DpI.all (h : DpI cost good p o (fun c _ _ => c < o) D) : ∀ r : List Nat, (∀ x ∈ r, 1 ≤ x) → r.sum < o → fit2 p (walkR r) = true → ∃ e, e ∈ D r.sum ∧ e.1 = walkR r ∧ cost e.2 ≤ waitN r
  | [], _, _, _ => by
    obtain ⟨e, h1, h2, h3⟩ := h.z
    exact ⟨e, h1, h2, by rw [h3]; exact Nat.zero_le _⟩
  | s :: r, hp, hs, hf => by
    rw [List.sum_cons] at hs
    have hs1 : 1 ≤ s := hp s (List.mem_cons_self ..)
    rw [walkR_cons] at hf
    have hle : walkR r ≤ (s + 1) * walkR r := Nat.le_mul_of_pos_left _ (by omega)
    obtain ⟨e, h1, h2, h3⟩ := DpI.all h r (fun x hx => hp x (List.mem_cons_of_mem _ hx)) (by omega) (fit2_mono hf hle)
    obtain ⟨f, f1, f2, f3⟩ := h.cov r.sum e s h1 (by omega) hs1 (by omega) (by rw [h2, Nat.mul_comm]; exact hf)
    refine ⟨f, ?_, ?_, ?_⟩
    · rw [List.sum_cons, Nat.add_comm]; exact f1
    · rw [f2, h2, walkR_cons, Nat.mul_comm]
    · rw [waitN_cons]; omega
end
/-- what a part is, the program's -/
def goodP (c : Nat) (e : Nat × WC) : Prop := e.2.2.sum = c ∧ (∀ x ∈ e.2.2, 1 ≤ x) ∧ walkR e.2.2 = e.1 ∧ waitN e.2.2 = e.2.1
/-- .. the law's -/
def goodL (c : Nat) (e : Nat × Nat) : Prop := ∃ t : List Nat, t.sum = c ∧ (∀ x ∈ t, 1 ≤ x) ∧ walkR t = e.1 ∧ waitN t = e.2
theorem goodP.cons {c s : Nat} {e : Nat × WC} (h : goodP c e) (hs : 1 ≤ s) : goodP (c + s) (e.1 * (s + 1), (e.2.1 + s * (s - 1) / 2, s :: e.2.2)) := by
  obtain ⟨h1, h2, h3, h4⟩ := h
  refine ⟨by rw [List.sum_cons, h1]; omega, fun x hx => ?_, by rw [walkR_cons, h3, Nat.mul_comm], by rw [waitN_cons, h4]; exact Nat.add_comm _ _⟩
  rcases List.mem_cons.mp hx with rfl | hx
  · exact hs
  · exact h2 x hx
theorem goodL.cons {c s : Nat} {e : Nat × Nat} (h : goodL c e) (hs : 1 ≤ s) : goodL (c + s) (e.1 * (s + 1), e.2 + s * (s - 1) / 2) := by
  obtain ⟨t, h1, h2, h3, h4⟩ := h
  refine ⟨s :: t, by rw [List.sum_cons, h1]; omega, fun x hx => ?_, by rw [walkR_cons, h3, Nat.mul_comm], by rw [waitN_cons, h4]; exact Nat.add_comm _ _⟩
  rcases List.mem_cons.mp hx with rfl | hx
  · exact hs
  · exact h2 x hx
/-- the first batch before a part -/
theorem held_cons {p : Pr} {o c f : Nat} {t : List Nat} (h1 : t.sum = c) (h2 : ∀ x ∈ t, 1 ≤ x) (hc : c + f = o) (hf : 1 ≤ f) (hfit : fitB p (walkR t * (f + 1)) (walkR t * f) = true) : Held p o (f :: t) := by
  refine ⟨by rw [List.sum_cons, h1]; omega, fun x hx => ?_, ?_⟩
  · rcases List.mem_cons.mp hx with rfl | hx
    · exact hf
    · exact h2 x hx
  · unfold fits
    rw [walkR_cons]
    show fitB p _ (f * walkR t) = true
    rw [Nat.mul_comm (f + 1), Nat.mul_comm f]
    exact hfit
theorem held_split {p : Pr} {o : Nat} {c : List Nat} (ho : 1 ≤ o) (h : Held p o c) : ∃ f t, c = f :: t ∧ 1 ≤ f ∧ (∀ x ∈ t, 1 ≤ x) ∧ t.sum + f = o ∧ t.sum < o ∧ fitB p (walkR t * (f + 1)) (walkR t * f) = true ∧ fit2 p (walkR t) = true := by
  obtain ⟨h1, h2, h3⟩ := h
  cases c with
  | nil => simp at h1; omega
  | cons f t =>
    have hf : 1 ≤ f := h2 f (List.mem_cons_self ..)
    rw [List.sum_cons] at h1
    unfold fits at h3
    rw [walkR_cons] at h3
    have h4 : fitB p (walkR t * (f + 1)) (walkR t * f) = true := by
      rw [Nat.mul_comm _ (f + 1), Nat.mul_comm _ f]; exact h3
    refine ⟨f, t, rfl, hf, fun x hx => h2 x (List.mem_cons_of_mem _ hx), by omega, by omega, h4, fitB_mono h4 ?_ ?_⟩
    · rw [Nat.mul_comm]; exact Nat.mul_le_mul_left _ (by omega)
    · exact Nat.le_mul_of_pos_right _ (by omega)
end Sa
set_option Elab.async false
set_option linter.all false
set_option maxRecDepth 100000
set_option maxHeartbeats 4000000
namespace Sa
open PySem PySem.Spec PyProof.Rows L2
local macro_rules | `(tactic| walk_at "vc") => `(tactic| repeat (first | refine ⟨_, rfl, ?_⟩ | refine ⟨_, _, rfl, rfl, ?_⟩ | refine ⟨_, _, rfl, ?_⟩ | refine ⟨rfl, ?_⟩))
section
variable {α : Type} {r : Rp α} {H0 F H F' H' : Hp} {ds : List Addr} {D : Nat → En α} {ob : Nat → List (Key × V) → HO}
/-- own dicts at ds; how each stands: ob -/
def Dics (r : Rp α) (H0 F H : Hp) (ds : List Addr) (D : Nat → En α) (ob : Nat → List (Key × V) → HO) : Prop :=
  ds.Nodup ∧ ∀ c d, ds[c]? = some d → H0 d = none ∧ F d = none ∧ ∃ kvs, H d = some (ob c kvs) ∧ RD r F kvs (D c)
def plain : Nat → List (Key × V) → HO := fun _ kvs => .dK kvs
def locked (i : Nat) (od : Obj) : Nat → List (Key × V) → HO := fun c kvs => if c = i then .frz od (.dK kvs) else .dK kvs
theorem Dics.up [Mono r] (h : Dics r H0 F H ds D ob) (e : Ex S0 F H F' H') : Dics r H0 F' H' ds D ob := by
  refine ⟨h.1, fun c d hd => ?_⟩
  obtain ⟨h1, h2, kvs, h3, h4⟩ := h.2 c d hd
  have z := e.keep h3 (fun z => z) h2
  exact ⟨h1, z.2, kvs, z.1, RD.up e.f h4⟩
theorem nd_inj {xs : List Addr} (h : xs.Nodup) {i j : Nat} {d : Addr} (h1 : xs[i]? = some d) (h2 : xs[j]? = some d) : i = j := by
  have a := List.getElem?_eq_some_iff.mp h1
  have b := List.getElem?_eq_some_iff.mp h2
  obtain ⟨a1, a2⟩ := a
  obtain ⟨b1, b2⟩ := b
  exact (List.getElem_inj h).mp (a2.trans b2.symm)
theorem Dics.put (h : Dics r H0 F H ds D ob) {c : Nat} {d : Addr} (hd : ds[c]? = some d) {k : Nat} {v : V} {x : α} (hv : r F v x) {kvs : List (Key × V)} (hk : RD r F kvs (D c)) (hp : ∀ kvs, ob c kvs = .dK kvs) :
    Dics r H0 F (upd H d (.dK (putK kvs (Sum.inl (k : Int)) v))) ds (setD D c k x) ob := by
  refine ⟨h.1, fun c2 d2 hd2 => ?_⟩
  by_cases hc : c2 = c
  · subst hc
    have : d2 = d := by rw [hd] at hd2; exact (Option.some.inj hd2).symm
    subst this
    obtain ⟨h1, h2, kvs', h3, h4⟩ := h.2 _ _ hd
    refine ⟨h1, h2, putK kvs (Sum.inl (k : Int)) v, by rw [upd_same, hp], ?_⟩
    unfold setD
    rw [if_pos rfl]
    exact RD.put k hv hk
  · obtain ⟨h1, h2, kvs', h3, h4⟩ := h.2 _ _ hd2
    have hne : d2 ≠ d := fun z => hc (nd_inj h.1 hd2 (z ▸ hd))
    refine ⟨h1, h2, kvs', by rw [upd_ne hne]; exact h3, ?_⟩
    unfold setD
    rw [if_neg hc]
    exact h4
/-- lock one -/
theorem Dics.lock (h : Dics r H0 F H ds D plain) {i : Nat} {d : Addr} (hd : ds[i]? = some d) {kvs : List (Key × V)} (hk : RD r F kvs (D i)) (od : Obj) : Dics r H0 F (upd H d (.frz od (.dK kvs))) ds D (locked i od) := by
  refine ⟨h.1, fun c2 d2 hd2 => ?_⟩
  obtain ⟨h1, h2, kvs', h3, h4⟩ := h.2 _ _ hd2
  by_cases hc : c2 = i
  · subst hc
    have : d2 = d := by rw [hd] at hd2; exact (Option.some.inj hd2).symm
    subst this
    exact ⟨h1, h2, kvs, by rw [upd_same]; unfold locked; rw [if_pos rfl], hk⟩
  · have hne : d2 ≠ d := fun z => hc (nd_inj h.1 hd2 (z ▸ hd))
    exact ⟨h1, h2, kvs', by rw [upd_ne hne]; unfold locked; rw [if_neg hc]; exact h3, h4⟩
theorem Dics.unlock {i : Nat} {od : Obj} (h : Dics r H0 F H ds D (locked i od)) {d : Addr} (hd : ds[i]? = some d) {kvs : List (Key × V)} (hk : RD r F kvs (D i)) : Dics r H0 F (upd H d (.dK kvs)) ds D plain := by
  refine ⟨h.1, fun c2 d2 hd2 => ?_⟩
  obtain ⟨h1, h2, kvs', h3, h4⟩ := h.2 _ _ hd2
  by_cases hc : c2 = i
  · subst hc
    have : d2 = d := by rw [hd] at hd2; exact (Option.some.inj hd2).symm
    subst this
    exact ⟨h1, h2, kvs, by rw [upd_same]; rfl, hk⟩
  · have hne : d2 ≠ d := fun z => hc (nd_inj h.1 hd2 (z ▸ hd))
    refine ⟨h1, h2, kvs', ?_, h4⟩
    rw [upd_ne hne, h3]
    unfold locked
    rw [if_neg hc]; rfl
end
theorem walk_r0 {n : Nat} {j : Int} (h : j.toNat = n) : Walk (Itr 0 j.toNat) n (fun _ => True) (YFn fun i => .int (i : Nat)) := by
  rw [h]
  exact (walk_range (lo := 0)).mono (fun _ h => h) fun i H x H1 _ _ y => ⟨y.1, by rw [y.2]; show V.int (0 + (i : Int)) = V.int (i : Int); rw [Int.zero_add]⟩
theorem atI_z {α : Type} {xs : List α} {z : Int} {i : Nat} {v : α} (hz : z = (i : Int)) (h : xs[i]? = some v) : atI xs z = some v := by subst hz; exact atI_nat h
theorem len_le_sum : ∀ {l : List Nat}, (∀ x ∈ l, 1 ≤ x) → l.length ≤ l.sum
  | [], _ => Nat.le_refl _
  | a :: l, h => by
    have h1 := h a (List.mem_cons_self ..)
    have h2 := len_le_sum (l := l) fun x hx => h x (List.mem_cons_of_mem _ hx)
    simp; omega
theorem dp_start {p : Pr} {o : Nat} : DpI (fun x : WC => x.1) goodP p o (fun c _ _ => c < 0) (setD (fun _ => []) 0 1 ((0, []) : WC)) := by
  have hD : ∀ c e, e ∈ setD (fun _ => []) 0 1 ((0, []) : WC) c → c = 0 ∧ e = (1, ((0, []) : WC)) := by
    intro c e he
    unfold setD at he
    by_cases hc : c = 0
    · rw [if_pos hc] at he
      rcases putE_mem he with z | z
      · exact ⟨hc, z⟩
      · cases z.1
    · rw [if_neg hc] at he
      cases he
  refine ⟨fun c => ?_, fun c e he => ?_, fun c e he => ?_, ⟨(1, ((0, []) : WC)), ?_, rfl, rfl⟩, fun c e s _ h => by omega⟩
  · unfold setD
    split
    · exact putE_nodup List.nodup_nil
    · exact List.nodup_nil
  · rw [(hD c e he).2]; show 1 < 30; omega
  · obtain ⟨rfl, rfl⟩ := hD c e he
    refine ⟨rfl, ?_, rfl, rfl⟩
    intro x hx
    cases hx
  · unfold setD
    rw [if_pos rfl]
    exact putE_new _ _ _
/-! ### exactly what is laid -/
def stepS (p : Pr) (i k wt : Nat) (ct : List Nat) (D : Nat → En WC) (t : Nat) : Nat → En WC :=
  if fit2 p (k * (1 + t + 1)) = true then setD D (i + (1 + t)) (k * (1 + t + 1)) (pickW ((wt + (1 + t) * (1 + t - 1) / 2, (1 + t) :: ct) : WC) (getE (D (i + (1 + t))) (k * (1 + t + 1)))) else D
def stepE (p : Pr) (o i : Nat) (D : Nat → En WC) (e : Nat × WC) : Nat → En WC := (List.range (o - i - 1)).foldl (stepS p i e.1 e.2.1 e.2.2) D
def stepC (p : Pr) (o : Nat) (D : Nat → En WC) (i : Nat) : Nat → En WC := (D i).foldl (stepE p o i) D
def lateG (p : Pr) (o i : Nat) : Nat → En WC := (List.range i).foldl (stepC p o) (setD (fun _ => []) 0 1 ((0, []) : WC))
def lateF (p : Pr) (o : Nat) : Nat → En WC := lateG p o o
theorem foldl_snoc {α β : Type} (f : α → β → α) (a : α) (l : List β) (b : β) : (l ++ [b]).foldl f a = f (l.foldl f a) b := by rw [List.foldl_append]; rfl
theorem foldl_rs {α : Type} (f : α → Nat → α) (a : α) (n : Nat) : (List.range (n + 1)).foldl f a = f ((List.range n).foldl f a) n := by rw [List.range_succ, foldl_snoc]
section
variable {P : Program} {w : World} {K : PySem.W.Frag} {mg : Str → Option Value} {base : Heap}
def sp_later_parts : Sp := fun vs H Q _ => ∃ F vp p, ∃ o : Nat, vs = [vp, .int o] ∧ Sub F H ∧ RPr F vp p ∧ 1 ≤ o ∧ o ≤ 60 ∧ (∀ a, fit2 p a = true → a < 30) ∧
  ∀ L F' H' ds D, Ex S0 F H F' H' → F' L = some (.lst (ds.map V.ref)) → ds.length = o → Dics RWC H F' H' ds D plain → DpI (fun x : WC => x.1) goodP p o (fun c _ _ => c < o) D → D = lateF p o → Q (.ref L) H'
theorem c_later_parts (T : Txt K mg) : C8.Cal P w K mg base 3 "later_parts" sp_later_parts [] := by
  have c_reaches_fit := c_reaches_fit (P := P) (w := w) (base := base) T
  have c_shorter_wait := c_shorter_wait (P := P) (w := w) (base := base) T
  have c_waiting_of := c_waiting_of (P := P) (w := w) (base := base) T
  refine mkC T.d_later_parts sclaterparts (fun _ _ _ _ _ _ us hl => match us, hl with | [_, _], _ => rfl) (fun vs H Q E h => ?_) (fun f cdv A outer s H vs Q E hr h => ?_)
  · obtain ⟨F, vp, p, o, rfl, _⟩ := h
    rfl
  · obtain ⟨F, vp, p, o, rfl, sb, hp, h1, h2, h30, q⟩ := h
    refine ⟨_, (pss_cons (ps_setLc (i := 2) (own := [("count", 3)]) (tt := tYes) rfl sclaterparts.nd rfl rfl (sw_true rfl rfl rfl (by decide +kernel)) (pi_range1 (by rfl) T.range (pa_cons (pv 1) pa_nil)) (blkOk_by (N := N_laterparts) (sc := defScope slaterparts) (by decide +kernel)) (fun _ _ _ _ _ => pg_name (i := 3) sclaterparts.nd rfl (Or.inl rfl) (Or.inr rfl)) (fun _ _ _ _ _ => pts_nil) (fun _ _ _ _ _ => pe_dnewK))
    (pss_cons (ps_dput (hu_of hr) (pe_ix ix_list (pv 2) pe_int (fun _ _ => rfl)) pe_int (pe_tup (pa_cons pe_int (pa_cons (pe_tup pa_nil) pa_nil))) rfl)
    (pss_cons (ps_for PassesOwn.never rfl (pi_range1 (by rfl) T.range (pa_cons (pv 1) pa_nil)) (pg_name (i := 3) sclaterparts.nd rfl (Or.inl rfl)) (pss_one (ps_lock (ps_for PassesOwn.never rfl (pi_items (pe_ix ix_list (pv 2) (pv 3) (fun _ _ => rfl))) (pg_tup rfl (pgs_cons ((pg_name (i := 4) sclaterparts.nd rfl (Or.inl rfl))) (pgs_cons ((pg_tup rfl (pgs_cons ((pg_name (i := 6) sclaterparts.nd rfl (Or.inl rfl))) (pgs_cons ((pg_name (i := 7) sclaterparts.nd rfl (Or.inl rfl))) pgs_nil)))) pgs_nil))) (pss_one (ps_for PassesOwn.never rfl (pi_range2 (by rfl) T.range (pa_cons pe_int (pa_cons (pe_op op_sub (pv 1) (pv 3)) pa_nil))) (pg_name (i := 5) sclaterparts.nd rfl (Or.inl rfl)) (pss_cons (ps_set (i := 8) sclaterparts.nd rfl (Or.inl rfl) (pe_op op_mul (pv 4) (pe_op op_add (pv 5) pe_int)))
    (pss_one (ps_if (pt_val (C8.pe_c c_reaches_fit hr (by decide) (by rfl) (pa_cons (pv 0) (pa_cons (pe_op op_mul pe_int (pv 8)) (pa_cons (pv 8) pa_nil))))) (pss_cons (ps_set (i := 9) sclaterparts.nd rfl (Or.inl rfl) (pe_tup (pa_cons (pe_op op_add (pv 6) (C8.pe_c c_waiting_of hr (by decide) (by rfl) (pa_cons (pe_tup (pa_cons (pv 5) pa_nil)) pa_nil))) (pa_cons (pe_op op_catA (pe_tup (pa_cons (pv 5) pa_nil)) (pv 7)) pa_nil))))
    (pss_cons (ps_set (i := 10) sclaterparts.nd rfl (Or.inl rfl) (pe_ix ix_list (pv 2) (pe_op op_add (pv 3) (pv 5)) (fun _ _ => rfl)))
    (pss_one (ps_dput (hu_of hr) (pv 10) (pv 8) (C8.pe_c c_shorter_wait hr (by decide) (by rfl) (pa_cons (pv 9) (pa_cons (pe_dget1 (hu_of hr) (pv 10) (pv 8) ⟨rfl, rfl, rfl, rfl⟩) pa_nil))) rfl)))) pss_nil)))))))))
    (pss_one (ps_ret (pv 2)))))), ?_⟩
    walk_at "vc"
    refine ⟨by omega, by omega, ?_⟩
    intro L hL
    refine lc_it (walk_range (lo := 0) (n := o)) (fun i H1 => ∃ ds : List Addr, ds.length = i ∧ (L :: ds).Nodup ∧ Ex S0 F H F H1 ∧ H1 L = some (.lst (ds.map V.ref)) ∧ ∀ d ∈ ds, H d = none ∧ H1 d = some (.dK [])) ⟨[], rfl, by simp, Ex.own sb hL (fun b z => False.elim z), upd_same, fun d z => by cases z⟩ (fun i H1 _ h => trivial) (fun i x H1 H2 hi h y => ?_) (fun H1 h => ?_)
    · obtain ⟨ds, hl, hnd, e, hL1, hds⟩ := h
      obtain ⟨rfl, rfl⟩ := y
      walk_at "vc"
      intro d hd
      have hdH : H d = none := e.old hd
      have hne : L ≠ d := by rintro rfl; rw [hL1] at hd; cases hd
      refine ⟨ds.map V.ref, by rw [upd_ne hne]; exact hL1, lt_sz (by rw [List.length_map]; omega), ds ++ [d], by simp [hl], ?_, ?_, ?_, ?_⟩
      · rw [← List.cons_append, List.nodup_append]
        refine ⟨hnd, by simp, fun a ha b hb => ?_⟩
        have hb : b = d := by simpa using hb
        subst hb
        rintro rfl
        rcases List.mem_cons.mp ha with z | z
        · exact hne z.symm
        · rw [(hds _ z).2] at hd; cases hd
      · exact (e.trans (Ex.own e.s hd (fun b z => False.elim z))).put (.inl hL) (sb.free hL)
      · rw [upd_same]; simp
      · intro a ha
        rcases List.mem_append.mp ha with z | z
        · have z2 := hds a z
          have hn2 : a ≠ d := by rintro rfl; rw [z2.2] at hd; cases hd
          have hn3 : a ≠ L := fun q => (List.nodup_cons.mp hnd).1 (q ▸ z)
          exact ⟨z2.1, by rw [upd_ne hn3, upd_ne hn2]; exact z2.2⟩
        · have z : a = d := by simpa using z
          subst z
          exact ⟨hdH, by rw [upd_ne hne.symm]; exact upd_same⟩
    · obtain ⟨ds, hl, hnd, e, hL1, hds⟩ := h
      have fL : F L = none := sb.free hL
      obtain ⟨e1, hFL, sF⟩ := frzL e hL hL1 fL
      have hndd := (List.nodup_cons.mp hnd).2
      have hDs : Dics RWC H (upd F L (.lst (ds.map V.ref))) H1 ds (fun _ => []) plain := by
        refine ⟨hndd, fun c d hd => ?_⟩
        have hm := List.mem_of_getElem? hd
        have z := hds d hm
        have hne : d ≠ L := fun q => (List.nodup_cons.mp hnd).1 (q ▸ hm)
        exact ⟨z.1, by rw [upd_ne hne]; exact sb.free z.1, [], z.2, .nil⟩
      clear hds hL1
      generalize (upd F L (.lst (ds.map V.ref))) = F1 at e1 hFL sF hDs
      have hp1 : RPr F1 vp p := Mono.up sF hp
      walk_at "vc"
      refine go_tup (xs := []) (ex0 e1.s) (szk (by simp)) fun p0 F2 e2 s2 h2p => ?_
      refine go_t2 e2 fun p1 F3 e13 s3 h3p => ?_
      have e3 := e1.trans e13
      walk_at "vc"
      have hz : 0 < ds.length := by omega
      have hd0 : ds[0]? = some ds[0] := List.getElem?_eq_getElem hz
      refine ⟨_, _, _, _, rfl, rfl, lS (e3.s _ _ (s3 _ _ (s2 _ _ hFL))), (atI_nat (i := 0) (v := V.ref ds[0]) (by rw [List.getElem?_map, hd0]; rfl) : _), ?_⟩
      have hDs3 := hDs.up e13
      obtain ⟨g1, g2, kvs, g3, g4⟩ := hDs3.2 0 _ hd0
      cases g4
      have hw : RWC F3 (.ref p1) ((0, []) : WC) := ⟨p1, _, _, rfl, h3p, rfl, p0, [], rfl, s3 _ _ h2p, .nil⟩
      refine ⟨_, _, rfl, DPut.k (k := Sum.inl ((1 : Nat) : Int)) g3 (by show 0 < sizeLine; decide), ?_⟩
      have hDs4 := hDs3.put hd0 (k := 1) hw .nil (fun _ => rfl)
      have e4 := e3.put (o := .dK (putK [] (Sum.inl ((1 : Nat) : Int)) (V.ref p1))) (.inl g1) g2
      have hL4 : F3 L = some (.lst (ds.map V.ref)) := s3 _ _ (s2 _ _ hFL)
      have hp4 : RPr F3 vp p := Mono.up (s2.tr s3) hp1
      clear hDs3 hDs e13 g3
      generalize (upd (upd (upd H1 p0 (.tup [])) p1 (.tup [V.int 0, V.ref p0])) ds[0] (.dK (putK [] (Sum.inl ((1 : Nat) : Int)) (V.ref p1)))) = H4 at e4 hDs4
      clear e3 e2 s2 s3 h2p h3p hw g2
      walk_at "vc"
      refine ⟨by omega, by omega, ?_⟩
      refine for_it (walk_r0 (n := o) (by omega)) (fun i σ H5 => ∃ u3 u4 u5 u6 u7 u8 u9 u10, ∃ F5 D, σ = [some vp, some (.int o), some (.ref L), u3, u4, u5, u6, u7, u8, u9, u10] ∧ Ex S0 F H F5 H5 ∧ RPr F5 vp p ∧ F5 L = some (.lst (ds.map V.ref)) ∧ Dics RWC H F5 H5 ds D plain ∧ DpI (fun x : WC => x.1) goodP p o (fun c _ _ => c < i) D ∧ D = lateG p o i)
        ⟨none, none, none, none, none, none, none, none, F3, _, rfl, e4, hp4, hL4, hDs4, dp_start, rfl⟩ (fun i σ H5 _ h => trivial) (fun i x σ H5 H6 hi h y => ?_) (fun σ H5 h => ?_)
      · obtain ⟨u3, u4, u5, u6, u7, u8, u9, u10, F5, D, rfl, e5, hp5, hL5, hDs5, hdp, hex⟩ := h
        obtain ⟨rfl, rfl⟩ := y
        have hi2 : i < ds.length := by omega
        have hdi : ds[i]? = some ds[i] := List.getElem?_eq_getElem hi2
        generalize ds[i] = d at hdi
        obtain ⟨k1, k2, kvs, k3, k4⟩ := hDs5.2 i d hdi
        refine ⟨d, .dK kvs, k3, trivial, fun od => ?_⟩
        have hDs6 := hDs5.lock hdi k4 od
        have e6 := e5.put (o := .frz od (.dK kvs)) (.inl k1) k2
        have hlen : (D i).length = kvs.length := (Paired.length k4).symm
        walk_at "vc"
        refine ⟨_, _, _, _, rfl, rfl, lS (e6.s _ _ hL5), atI_nat (v := V.ref d) (by rw [List.getElem?_map, hdi]; rfl), ?_⟩
        refine ⟨_, _, _, rfl, upd_same, ?_⟩
        generalize hes : D i = es at k4 hlen
        refine for_it walk_items (fun j σ H7 => ∃ u4 u5 u6 u7 u8 u9 u10, ∃ F7 D7, σ = [some vp, some (.int o), some (.ref L), some (nv i), u4, u5, u6, u7, u8, u9, u10] ∧ Ex S0 F H F7 H7 ∧ RPr F7 vp p ∧ F7 L = some (.lst (ds.map V.ref)) ∧ H7 d = some (.frz od (.dK kvs)) ∧ F7 d = none ∧ RD RWC F7 kvs es ∧ D7 i = es ∧ Dics RWC H F7 H7 ds D7 (locked i od) ∧ DpI (fun x : WC => x.1) goodP p o (fun c k _ => c < i ∨ (c = i ∧ k ∈ keysE (es.take j))) D7 ∧ D7 = (es.take j).foldl (stepE p o i) D)
          ⟨u4, u5, u6, u7, u8, u9, u10, F5, D, rfl, e6, hp5, hL5, upd_same, k2, k4, hes, hDs6, hdp.more fun c e t _ h _ _ _ => ?_, rfl⟩ (fun j σ H7 _ h => ?_) (fun j x σ H7 H8 hj h y => ?_) (fun σ H7 h => ?_)
        · rcases h with h | ⟨_, h⟩
          · exact h
          · simp [keysE] at h
        · obtain ⟨u4, u5, u6, u7, u8, u9, u10, F7, D7, rfl, e7, hp7, hL7, hd7, hF7, hr7, hes7, hDs7, hdp7, hex7⟩ := h
          exact hd7
        · obtain ⟨u4, u5, u6, u7, u8, u9, u10, F7, D7, rfl, e7, hp7, hL7, hd7, hF7, hr7, hes7, hDs7, hdp7, hex7⟩ := h
          obtain ⟨T0, x1, y1, rfl, t1, rfl, t2, t3⟩ := y
          have hkj : kvs[j]? = some kvs[j] := List.getElem?_eq_getElem hj
          obtain ⟨e, he, hke, hre⟩ := Paired.getL hr7 hkj
          have t2 : (kvs[j]?.map fun kv => kV kv.1) = some x1 := t2
          have t3 : kvs[j]?.map Prod.snd = some y1 := t3
          rw [hkj] at t2 t3
          have t2 : x1 = nv e.1 := by
            have z : kV kvs[j].1 = x1 := Option.some.inj t2
            rw [← z, hke]; rfl
          have t3 : y1 = kvs[j].2 := (Option.some.inj t3).symm
          subst t2 t3
          obtain ⟨k, wt, ct⟩ := e
          obtain ⟨ra, v1, v2, hra, hra2, hv1, ca, cvs, hv2, hca, prc⟩ := hre
          have hv1 : v1 = nv wt := hv1
          subst hv1 hv2
          rw [hra]
          have hmem : (k, wt, ct) ∈ es := List.mem_of_getElem? he
          have er8 : Ex S0 F7 H7 F7 (upd H7 T0 (.tup [nv k, .ref ra])) := Ex.own e7.s t1 (fun b z => False.elim z)
          have hDs8 := hDs7.up er8
          have e8 := e7.trans er8
          have hd8 := (er8.keep hd7 (fun z => z) hF7).1
          refine ⟨_, _, rfl, tS upd_same, rfl, ?_⟩
          walk_at "vc"
          refine ⟨_, _, rfl, tS (e8.s _ _ hra2), rfl, ?_⟩
          generalize (upd H7 T0 (.tup [nv k, .ref ra])) = H8 at e8 hDs8 hd8
          walk_at "vc"
          refine ⟨⟨by omega, by omega, by omega, by omega⟩, ?_⟩
          have hes_nd : (keysE es).Nodup := hes7 ▸ hdp7.nd i
          refine for_it (walk_rg2 (lo := 1) (n := o - i - 1) rfl (by omega)) (fun t σ H9 => ∃ u5 u8 u9 u10, ∃ F9 D9, σ = [some vp, some (.int o), some (.ref L), some (nv i), some (nv k), u5, some (nv wt), some (.ref ca), u8, u9, u10] ∧ Ex S0 F H F9 H9 ∧ RPr F9 vp p ∧ F9 L = some (.lst (ds.map V.ref)) ∧ H9 d = some (.frz od (.dK kvs)) ∧ F9 d = none ∧ RD RWC F9 kvs es ∧ F9 ca = some (.tup cvs) ∧ Paired (Rn F9) cvs ct ∧ D9 i = es ∧ Dics RWC H F9 H9 ds D9 (locked i od) ∧ DpI (fun x : WC => x.1) goodP p o (fun c k' s => c < i ∨ (c = i ∧ (k' ∈ keysE (es.take j) ∨ (k' = k ∧ s < 1 + t)))) D9 ∧ D9 = (List.range t).foldl (stepS p i k wt ct) D7)
            ⟨u5, u8, u9, u10, F7, D7, rfl, e8, hp7, hL7, hd8, hF7, hr7, hca, prc, hes7, hDs8, hdp7.more fun c f t _ h h1 _ _ => ?_, rfl⟩ (fun t σ H9 _ h => trivial) (fun t x σ H9 H10 ht h y => ?_) (fun σ H9 h => ?_)
          · rcases h with h | ⟨hc, h | h⟩
            · exact .inl h
            · exact .inr ⟨hc, h⟩
            · omega
          · obtain ⟨u5, u8, u9, u10, F9, D9, rfl, e9, hp9, hL9, hd9, hF9, hr9, hca9, prc9, hes9, hDs9, hdp9, hex9⟩ := h
            obtain ⟨rfl, rfl⟩ := y
            have hmem9 : (k, wt, ct) ∈ D9 i := hes9.symm ▸ hmem
            have ew : (k : Int) * (((1 + t : Nat) : Int) + 1) = ((k * (1 + t + 1) : Nat) : Int) := by
              rw [Int.natCast_mul]; rfl
            have ew2 : 2 * ((k : Int) * (((1 + t : Nat) : Int) + 1)) = ((2 * (k * (1 + t + 1)) : Nat) : Int) := by
              rw [ew]; omega
            have hk30 := hdp9.lt i _ hmem9
            walk_at "vc"
            refine ⟨.inr ⟨by omega, by omega⟩, ?_⟩
            walk_at "vc"
            refine ⟨.inl ⟨by omega, by omega⟩, ?_⟩
            walk_at "vc"
            refine ⟨F9, _, p, 2 * (k * (1 + t + 1)), k * (1 + t + 1), congrArg (fun z : Int × Int => [vp, V.int z.1, V.int z.2]) (Prod.ext ew2 ew : ((2 * ((k : Int) * (((1 + t : Nat) : Int) + 1)), (k : Int) * (((1 + t : Nat) : Int) + 1)) : Int × Int) = (((2 * (k * (1 + t + 1)) : Nat) : Int), ((k * (1 + t + 1) : Nat) : Int))), e9.s, hp9, ?_⟩
            walk_at "vc"
            refine ite2 (fun hfit => ?_) (fun hfit => ?_)
            · have hfit : fit2 p (k * (1 + t + 1)) = true := hfit
              have hw30 := h30 _ hfit
              have hi3 : i + (1 + t) < ds.length := by omega
              have hd2 : ds[i + (1 + t)]? = some ds[i + (1 + t)] := List.getElem?_eq_getElem hi3
              generalize ds[i + (1 + t)] = d2 at hd2
              walk_at "vc"
              refine go_t1 (ex0 e9.s) fun pa Fa ea sa hpa => ?_
              refine ⟨Fa, _, [1 + t], rfl, ea.s, ⟨pa, _, rfl, hpa, .cons rfl .nil⟩, by simp, by simp; omega, fun Hb eb => ?_⟩
              have eab := ea.trans eb
              walk_at "vc"
              refine go_t1 eab fun pc Fc ec sc hpc => ?_
              walk_at "vc"
              refine go_cat ec hpc (sc _ _ (sa _ _ hca9)) (szk (by have hle := Paired.length prc9; have hct := len_le_sum (hdp9.ok i _ hmem9).2.1; rw [(hdp9.ok i _ hmem9).1] at hct; simp at hct ⊢; omega)) fun pd Fd Hd ed sd hpd => ?_
              refine go_t2 ed fun pe Fe ee se hpe => ?_
              have hDse := hDs9.up ee
              have eE := e9.trans ee
              have hwe : RWC Fe (.ref pe) ((wt + (1 + t) * (1 + t - 1) / 2, (1 + t) :: ct) : WC) := by
                refine ⟨pe, _, _, rfl, hpe, ?_, pd, _, rfl, se _ _ hpd, .cons rfl (Paired.up ee.f prc9)⟩
                show V.int _ = V.int _
                simp [waitN]
              walk_at "vc"
              refine ⟨_, _, _, _, rfl, rfl, lS (eE.s _ _ (ee.f _ _ hL9)), atI_z (i := i + (1 + t)) (by omega) (v := V.ref d2) (by rw [List.getElem?_map, hd2]; rfl), ?_⟩
              walk_at "vc"
              obtain ⟨m1, m2, kvs2, m3, m4⟩ := hDse.2 _ _ hd2
              have hne : i + (1 + t) ≠ i := by omega
              have m3' : (locked i od) (i + (1 + t)) kvs2 = .dK kvs2 := by unfold locked; rw [if_neg hne]
              rw [m3'] at m3
              refine ⟨.inl ⟨kvs2, .inl m3⟩, ?_⟩
              walk_at "vc"
              refine ⟨_, .inl ⟨kvs2, Sum.inl ((k * (1 + t + 1) : Nat) : Int), .inl m3, congrArg V.int ew, rfl⟩, ?_⟩
              refine ⟨Fe, _, _, _, getE (D9 (i + (1 + t))) (k * (1 + t + 1)), rfl, eE.s, hwe, (m4.get _).1, fun r z hr hzx hz1 hz2 hze => ?_⟩
              walk_at "vc"
              have hkl : kvs2.length < sizeLine := by
                rw [Paired.length m4]
                exact lt_sz (Nat.le_trans (len_bound (hdp9.nd _) (hdp9.lt _)) (by omega))
              refine ⟨_, _, rfl, .inl ⟨kvs2, Sum.inl ((k * (1 + t + 1) : Nat) : Int), m3, congrArg V.int ew, hkl, rfl⟩, ?_⟩
              have hgd : goodP (i + (1 + t)) (k * (1 + t + 1), z) := by
                rcases hzx with rfl | hzx
                · exact (hdp9.ok i _ hmem9).cons (s := 1 + t) (by omega)
                · exact hdp9.ok _ _ (getE_mem hzx.symm)
              have hstep := hdp9.step (i := i) (s := 1 + t) (e := (k, wt, ct)) (z := z) hmem9 (by omega) (fun c k' s h => by rcases h with h | ⟨h, _⟩ <;> omega) hw30 hgd hz1 (fun x hx => hz2 x hx)
              have hdd : d ≠ d2 := fun q => hne (nd_inj hDse.1 hd2 (q ▸ hdi))
              have hke := ee.keep hd9 (fun z => z) hF9
              refine ⟨_, _, _, _, Fe, _, rfl, eE.put (.inl m1) m2, Mono.up (r := RPr) ee.f hp9, ee.f _ _ hL9, by rw [upd_ne hdd]; exact hke.1, hke.2, RD.up ee.f hr9, ee.f _ _ hca9, Paired.up ee.f prc9, ?_, hDse.put hd2 hr m4 (fun kvs => by unfold locked; rw [if_neg hne]), hstep.more fun c f t' hf h _ _ _ => ?_, ?_⟩
              · unfold setD; rw [if_neg (by omega)]; exact hes9
              · rcases h with h | ⟨h, h4 | ⟨h4, h5⟩⟩
                · exact .inl (.inl h)
                · exact .inl (.inr ⟨h, .inl h4⟩)
                · by_cases htt : t' = 1 + t
                  · exact .inr ⟨h, h4, htt⟩
                  · exact .inl (.inr ⟨h, .inr ⟨h4, by omega⟩⟩)
              · rw [foldl_rs, ← hex9]
                unfold stepS
                rw [if_pos hfit, hze]
            · refine ⟨_, _, _, _, F9, D9, rfl, e9, hp9, hL9, hd9, hF9, hr9, hca9, prc9, hes9, hDs9, hdp9.more fun c f t' hf h h1 h2 h3 => ?_, by rw [foldl_rs, ← hex9]; unfold stepS; rw [if_neg (show ¬ (fit2 p (k * (1 + t + 1)) = true) from hfit)]⟩
              rcases h with h | ⟨h, h4 | ⟨h4, h5⟩⟩
              · exact .inl h
              · exact .inr ⟨h, .inl h4⟩
              · refine .inr ⟨h, .inr ⟨h4, ?_⟩⟩
                by_cases htt : t' = 1 + t
                · subst htt
                  rw [h4] at h3
                  exact absurd h3 hfit
                · omega
          · obtain ⟨u5, u8, u9, u10, F9, D9, rfl, e9, hp9, hL9, hd9, hF9, hr9, hca9, prc9, hes9, hDs9, hdp9, hex9⟩ := h
            refine ⟨_, _, _, _, _, _, _, F9, D9, rfl, e9, hp9, hL9, hd9, hF9, hr9, hes9, hDs9, hdp9.more fun c f t hf h h1 h2 _ => ?_, by rw [take_snoc he, foldl_snoc, ← hex7]; exact hex9⟩
            rcases h with h | ⟨h, h3⟩
            · exact .inl h
            · refine .inr ⟨h, ?_⟩
              unfold keysE at h3 ⊢
              rw [take_snoc he, List.map_append] at h3
              rcases List.mem_append.mp h3 with h3 | h3
              · exact .inl h3
              · exact .inr ⟨by simpa using h3, by omega⟩
        · obtain ⟨u4, u5, u6, u7, u8, u9, u10, F7, D7, rfl, e7, hp7, hL7, hd7, hF7, hr7, hes7, hDs7, hdp7, hex7⟩ := h
          refine ⟨hd7, _, _, _, _, _, _, _, _, F7, D7, rfl, e7.put (.inl k1) hF7, hp7, hL7, hDs7.unlock hdi (hes7.symm ▸ hr7), hdp7.more fun c f t hf h _ _ _ => ?_, ?_⟩
          · by_cases hc : c < i
            · exact .inl hc
            · have hc : c = i := by omega
              subst hc
              refine .inr ⟨rfl, ?_⟩
              rw [hes7] at hf
              rw [← hlen, List.take_length]
              exact List.mem_map.mpr ⟨f, hf, rfl⟩
          · unfold lateG
            rw [foldl_rs]
            show _ = stepC p o (lateG p o i) i
            rw [← hex]
            unfold stepC
            rw [hes, hex7, ← hlen, List.take_length]
      · obtain ⟨u3, u4, u5, u6, u7, u8, u9, u10, F5, D, rfl, e5, hp5, hL5, hDs5, hdp, hex⟩ := h
        exact ⟨_, rfl, q L F5 _ ds D e5 hL5 hl hDs5 hdp hex⟩
end
end Sa
set_option Elab.async false
set_option linter.all false
set_option maxRecDepth 100000
set_option maxHeartbeats 4000000
namespace Sa
open PySem PySem.Spec PyProof.Rows L2
/-! ### an exception's __init__ that says super().__init__(x); self.x = x -/
/-- what the written part must say of it -/
structure SupC (prog : Program) (K : PySem.W.Frag) (qual : Str) (params : Arguments) (body : List Stmt) (scope : Scope) (fl : Str) (C f : Addr) (fd : FuncData) : Prop where
  ex : ∃ (oc : Value) (od : Option Addr) (dV kV doc pm : Value) (an : Option Addr) (cda cc : Addr) (ct : Value) (osl : Array (Option Value)), fd = PySem.W.ksFn "__init__" qual params body scope dV kV doc pm an (.ref cda) ct cc ∧ K.lookup f = some ⟨oc, od, .func fd, osl⟩ ∧ PySem.W.codeIn K (.ref cda) qual = true ∧
    (∃ (vs : Array Value) (file : Str) (tf : Tok) (ccl : Value) (cdd : Option Addr) (ccs : Array (Option Value)), K.lookup cda = some ⟨ccl, cdd, .fields vs, ccs⟩ ∧ vs[2]? = some (.str file tf) ∧ ((prog.main.file : Str) == file) = true) ∧
    ∃ (cl : Value) (cld : Option Addr) (csl : Array (Option Value)), K.lookup cc = some ⟨cl, cld, .cell (some (.ref C)), csl⟩
  cls : (PySem.W.clsIn K C).isSome = true
  sub : PySem.W.mroIn K C (.ref C) = some true
  sup : PySem.W.ks_superIn K C C "__init__" = some (some (.builtin "ValueError.__init__"))
  val : PySem.W.subIn K (.ref C) (.type "ValueError") = some true
  opq : PySem.W.nsIn K cStatics "thirdparty.any" = some none
  oex : OexC K C
  fld : PySem.W.findIn K (.ref C) fl = some none
  top : (prog.main.scope.names.lookup ("super" : Str)).isSome = false
/-- .. of its names -/
structure SupS (scope : Scope) (fl : Str) : Prop where
  kind : scope.kind = .function
  co : scope.isCoroutine = false
  gen : scope.isGenerator = false
  self : scope.names.lookup ("self" : Str) = some .local
  par : scope.names.lookup fl = some .local
  cls : scope.names.lookup ("__class__" : Str) = some .free
  sup : scope.names.lookup ("super" : Str) = some .globalImplicit
  nocell : ∀ y ∈ scope.names, y.2 ≠ .cell
  free : ∀ y : Str, scope.names.lookup y = some .free → y = "__class__"
def cxSup (P : Program) (w : World) (K : PySem.W.Frag) (mg : Str → Option Value) (base : Heap) (N : List Str) (qual : Str) (scope : Scope) (f : Addr) (cd : Value) (cc : Addr) (A : Around) (outer : List Env) (s : Shared) (H : Hp) (xe : Value → Shared → Prop) : Cx where
  prog := P
  w := w
  K := K
  mg := mg
  base := base
  A := A.deeper (PySem.W.ksEnv qual scope s.heap.objs.size f cd cc)
  N := N
  s_0 := s
  H_0 := H
  env := PySem.W.ksEnv qual scope s.heap.objs.size f cd cc
  outer := outer
  stack := PySem.W.ksEnv qual scope s.heap.objs.size f cd cc :: outer
  ex := []
  calm := true
  fn := fun _ => false
  pn := []
  xe := xe
theorem sup_start {P : Program} {w : World} {K : PySem.W.Frag} {mg : Str → Option Value} {base : Heap} {fl qual : Str} {scope : Scope} {f : Addr} {cd : Value} {cc : Addr} {A : Around} {outer : List Env} {s : Shared} {H : Hp} {xe : Value → Shared → Prop} {us : List Value} {vs : List V} {h₁ : Heap} {tk : Nat} {ov : Option Value}
    (S : SupS scope fl) (hne : fl ≠ ("self" : Str)) (hd : A.handled = none) (e0 : Env0 P w K mg base A outer s H) (hl : vs.length = 2) (r : Vals vs us) (hcc : base.IsCell cc ov)
    (hns : h₁.Ns s.heap.objs.size (fun x => ([("self" : Str), fl].zip us).reverse.lookup x)) (hk : ∀ b o, s.heap.get? b = some o → h₁.get? b = some o) :
    Inv (cxSup P w K mg base ["self", fl] qual scope f cd cc A outer s H xe) [] (vs.map some) H { s with heap := h₁, toks := tk } := by
  have noA : ∀ b : Addr, b ∉ (cxSup P w K mg base ["self", fl] qual scope f cd cc A outer s H xe).ex := fun b z => absurd (show b ∈ ([] : List Addr) from z) (by simp)
  have cl : ∀ y c, (cxSup P w K mg base ["self", fl] qual scope f cd cc A outer s H xe).env.cells.lookup y = some c → y = "__class__" ∧ c = cc := fun y c h => by
    have h : List.lookup y [(("__class__" : Str), cc)] = some c := h
    rw [List.lookup_cons] at h
    split at h
    · rename_i q
      exact ⟨by simpa using q, (Option.some.inj h).symm⟩
    · cases h
  obtain ⟨oc, hoc, hdc⟩ := hcc
  have hcs := e0.bs cc oc hoc
  obtain ⟨v1, v2, rfl⟩ : ∃ a b, vs = [a, b] := by
    match vs, hl with
    | [a, b], _ => exact ⟨a, b, rfl⟩
  obtain ⟨u1, u2, rfl, r1, r2⟩ := vals2 r
  refine ⟨⟨e0.mod, S.kind, rfl, rfl, Nat.le_refl _, fun y z c h1 h2 => ?_, fun y hy => ?_, fun y c h _ => ?_, fun _ => hd, Around.frames_deeper e0.frames, .inr ⟨rfl, rfl⟩, fun b z => absurd z (noA b), e0.bs, e0.bsz, fun b _ _ => noA b, fun b z => absurd z (noA b), e0.funs, e0.frf⟩,
    rfl, e0.bare, Un.kept hk, ⟨_, hns, fun i y v h1 h2 h3 => ?_⟩, fun y c h => ?_, e0.hok.fresh (Nat.le_refl _), fun y c h => ?_, fun p hp => absurd (show p ∈ ([] : List (Addr × Obj)) from hp) (by simp), e0.hok.kept hk, rfl⟩
  · rw [(cl y c h1).1, (cl z c h2).1]
  · have hy : scope.names.lookup y = some .cell ∨ scope.names.lookup y = some .free := hy
    rcases hy with hy | hy
    · exact absurd rfl (S.nocell _ (PySem.mem_of_lookup hy))
    · have e := S.free y hy
      subst e
      exact ⟨cc, rfl⟩
  · cases h
  · have two : (i = 0 ∧ y = "self" ∧ v = v1) ∨ (i = 1 ∧ y = fl ∧ v = v2) := by
      match i, h1, h2 with
      | 0, h1, h2 => exact .inl ⟨rfl, (Option.some.inj h1).symm, (Option.some.inj (Option.some.inj h2)).symm⟩
      | 1, h1, h2 => exact .inr ⟨rfl, (Option.some.inj h1).symm, (Option.some.inj (Option.some.inj h2)).symm⟩
      | n + 2, h1, h2 => simp at h2
    have q : (("self" : Str) == fl) = false := by simpa using fun z => hne z.symm
    have q' : ((fl : Str) == "self") = false := by simpa using hne
    rcases two with ⟨_, rfl, rfl⟩ | ⟨_, rfl, rfl⟩
    · refine ⟨u1, r1, .inl ⟨S.self, ?_⟩⟩
      show List.lookup ("self" : Str) [(fl, u2), ("self", u1)] = some u1
      rw [List.lookup_cons, q]
      rfl
    · refine ⟨u2, r2, .inl ⟨S.par, ?_⟩⟩
      show List.lookup y [(y, u2), ("self", u1)] = some u2
      rw [List.lookup_cons]
      simp
  · obtain ⟨_, rfl⟩ := cl y c h
    exact ⟨ov, oc, hk _ _ hcs.1, hdc⟩
  · obtain ⟨_, rfl⟩ := cl y c h
    exact hcs.2
def sp_sup (fl : Str) (C : Addr) : Sp := fun vs H Q _ => ∃ a v, vs = [.ref a, v] ∧ H a = some (exo a C none) ∧ ∀ dx, H dx = none → dx ≠ a → Q .non (upd (upd H dx (exd dx [(fl, v)])) a (exo a C (some dx)))
theorem sup_fn {P : Program} {w : World} {K : PySem.W.Frag} {mg : Str → Option Value} {base : Heap} {qual fl : Str} {params : Arguments} {scope : Scope} {C f : Addr} {fd : FuncData} {ar : Arg} {p0 p1 p2 p3 p4 p5 p6 p7 p8 p9 : Pos}
    (D : SupC P K qual params [.Expr (.Call (.Attribute (.Call (.Name "super" p0) [] [] p1) "__init__" p2) [.Name fl p3] [] p4) p5, .Assign [.Attribute (.Name "self" p6) fl p7] (.Name fl p8) p9] scope fl C f fd) (S : SupS scope fl) (hne : fl ≠ ("self" : Str)) (hm : mg "super" = none)
    (hp : (params.posonlyargs ++ params.args).head? = some ar) (har : ar.arg = "self") (hd1 : (fl == ("__debug__" : Str)) = false) (hd2 : (fl == ("__classdict__" : Str)) = false) {pl : Sem Bool}
    (he : ∀ (L : Addr) (cd : Value) (cc : Addr), eval (.Call (.Attribute (.Call (.Name "super" p0) [] [] p1) "__init__" p2) [.Name fl p3] [] p4) (PySem.W.ksEnv qual scope L f cd cc) = (do
      let ov ← attributeBase (.Call (.Name "super" p0) [] [] p1) "__init__" (PySem.W.ksEnv qual scope L f cd cc) (eval (.Call (.Name "super" p0) [] [] p1) (PySem.W.ksEnv qual scope L f cd cc))
      standAt p2.atName
      let (g, first) ← holding [ov] (getMethod ov "__init__" pl)
      callWith p4 g first (backTo p4 (starEach [.Name fl p3] (PySem.W.ksEnv qual scope L f cd cc))) [])) :
    FnOk P w K mg base C8.CX0 1 f fd ["self", fl] (sp_sup fl C) := by
  obtain ⟨knd, nms, isg, isc, s5⟩ := scope
  have sk : knd = .function := S.kind
  have sg : isg = false := S.gen
  have sc : isc = false := S.co
  subst sk sg sc
  generalize hsc : (⟨.function, nms, false, false, s5⟩ : Scope) = scope at D S he
  obtain ⟨⟨oc, od, dV, kV, doc, pm, an, cda, cc, ct, osl, rfl, lk, hcd, ⟨vs0, file, tf, ccl, cdd, ccs, lkc, hvs, hfile⟩, cl, cld, csl, lkcell⟩, hcls, hsub, hsup, hval, hopq, hoex, hfld, htop⟩ := D
  refine ⟨fun vs H Q E h => by obtain ⟨a, v, rfl, _⟩ := h; rfl, fun A outer s H args us vs Q E hr e0 hb r hsp => ?_⟩
  obtain ⟨a, v, rfl, ha, q⟩ := hsp
  have KX : K.In s.heap := e0.mod.kin.keeps fun b o e => (e0.bs b o e).1
  have lim : s.heap.NoLimit := e0.mod.nolimit.keeps fun b o e => (e0.bs b o e).1
  have hcc : base.IsCell cc (some (.ref C)) := ⟨_, e0.mod.kin _ _ lkcell, rfl⟩
  obtain ⟨u1, u2, rfl, r1, r2⟩ := vals2 r
  have r1 : u1 = .ref a := r1
  subst r1
  have hloc : ∀ x ∈ [("self" : Str), fl].zip [Value.ref a, u2], scope.names.lookup x.1 = some .local := fun x hx => by
    have hx : x = (("self" : Str), Value.ref a) ∨ x = (fl, u2) := by simpa using hx
    rcases hx with rfl | rfl
    · exact S.self
    · exact S.par
  refine PySem.ks_codeAny_call_defAt hr.depth (KX _ _ lk) rfl lim (PySem.W.codeRec_of KX hcd) rfl hb S.nocell hloc (fun h₁ hns hk => ?_) S.co S.gen S.kind
  have I := sup_start (K := K) (mg := mg) (qual := qual) (f := f) (cd := .ref cda) (tk := s.toks + 2) (xe := fun e s' => wpAny (model P w) (A.deeper (PySem.W.ksEnv qual scope s.heap.objs.size f (.ref cda) cc)) (leaving (PySem.W.ksEnv qual scope s.heap.objs.size f (.ref cda) cc) e) (fun _ s'' => False) (fun e' s'' => False) s') S hne hr.hd e0 rfl r hcc hns hk
  generalize hX : cxSup P w K mg base ["self", fl] qual scope f (.ref cda) cc A outer s H (fun e s' => wpAny (model P w) (A.deeper (PySem.W.ksEnv qual scope s.heap.objs.size f (.ref cda) cc)) (leaving (PySem.W.ksEnv qual scope s.heap.objs.size f (.ref cda) cc) e) (fun _ s'' => False) (fun e' s'' => False) s') = X at I
  have XP : X.prog = P := by rw [← hX]; rfl
  have XK : X.K = K := by rw [← hX]; rfl
  have IK : K.In h₁ := by have z := I.kIn; rw [XK] at z; exact z
  have IM : Mod K mg base := e0.mod
  obtain ⟨mb, hb1, hb2⟩ := IM.blt
  have bk : ∀ b o, base.get? b = some o → h₁.get? b = some o := fun b o e => hk _ _ (e0.bs b o e).1
  obtain ⟨cdC, hcC⟩ := Option.isSome_iff_exists.mp hcls
  obtain ⟨oC, hC1, hC2⟩ : ∃ oD, h₁.get? C = some oD ∧ oD.data = .cls cdC := by
    unfold PySem.W.clsIn at hcC
    split at hcC
    · rename_i c d cd' sl ho
      cases hcC
      exact ⟨_, IK _ _ ho, rfl⟩
    · cases hcC
  obtain ⟨t1, ho⟩ := exo_at I.hok ha
  obtain ⟨nm, q0, N, bs, bm, sn, sub, ab, col, dd, k0, k1, k2, k3, k5, lkC, hbm⟩ := hoex.cls
  have hself : (fun x => ([("self" : Str), fl].zip [Value.ref a, u2]).reverse.lookup x) ("self" : Str) = some (.ref a) := by
    show List.lookup ("self" : Str) [(fl, u2), (("self" : Str), Value.ref a)] = some (.ref a)
    have q : (("self" : Str) == fl) = false := by simpa using fun z => hne z.symm
    rw [List.lookup_cons, q]; rfl
  have hpar : (fun x => ([("self" : Str), fl].zip [Value.ref a, u2]).reverse.lookup x) fl = some u2 := by
    show List.lookup fl [(fl, u2), (("self" : Str), Value.ref a)] = some u2
    rw [List.lookup_cons]; simp
  show _root_.PySem.wpAt (model P w) (A.deeper (PySem.W.ksEnv qual scope s.heap.objs.size f (.ref cda) cc)) _ _ _ _ ({ s with heap := h₁, toks := s.toks + 2 } : Shared)
  refine PySem.ks_wpAt_execs_cons (PySem.ks_wpAt_Expr_any (PySem.ks_wpAt_MethodCall ?_ (he _ _ _)) (by subst hsc; rfl) (by subst hsc; rfl))
  refine PySem.ks_wpAt_super_base S.sup S.cls (by decide) rfl (IK _ _ lk) rfl hp rfl (IK _ _ lkc) rfl hvs hfile htop ?_
  refine PySem.W.ks_loadName_global S.kind S.sup (Calls.loadGlobal_builtin (IM.glob.keeps bk) hm (hb1.keeps bk) ((hb2 "super" (by decide)).trans (show bootBuiltins "super" = some (.type "super") from by kernel_rfl)) ⟨rfl, ?_⟩)
  refine wpAny_loadName_free S.kind S.cls rfl ⟨_, IK _ _ lkcell, rfl⟩ ?_
  rw [har]
  refine wpAny_loadName_local S.kind S.self hns hself ?_
  refine PySem.ks_wpAny_isType_cls hC1 hC2 ⟨rfl, ?_⟩
  refine PySem.ks_wpAny_call_super hC1 hC2 ho rfl (fun c e => by cases e) (PySem.W.looks_mroIn IK hsub) (fun h2 e2 kk2 => ?_)
  have I2 : Inv X [] _ H { s with heap := h2, toks := s.toks + 2 } := I.kept (t' := s.toks + 2) kk2
  have IK2 : K.In h2 := IK.keeps kk2
  have hneC : a ≠ C := by
    rintro rfl
    rw [ho] at hC1
    cases hC1
    cases hC2
  have hal : PySem.W.alongIn K "__init__" ((cdC.mro.dropWhile (· != .ref C)).drop 1) = some (some (.builtin "ValueError.__init__")) := by
    unfold PySem.W.ks_superIn at hsup
    rw [hcC] at hsup
    exact hsup
  have hx2 := kk2 _ _ ho
  have IA : PySem.W.InstAt h2 a _ C none := ⟨hx2, rfl, rfl, trivial⟩
  refine PySem.W.kxs_getMethod PySem.W.kxs_ValueError e2 (PySem.W.looks_opaque IK2 hopq) (l₀ := cdC.mro) (fun A Q E s k q => wpAny_bind ((PySem.W.looks_clsIn IK2 hcC) A _ E s k (wpAny_pure q))) rfl IK2 hal (IA.type.andThen (PySem.W.looks_subIn IK2 hval)) hneC (by decide) ?_
  generalize hu : h2.objs.size = u
  have kk3 : ∀ b o, h2.get? b = some o → (h2.push (PySem.W.kxs_mw "ValueError.__init__" a)).get? b = some o := fun b o e => Heap.get?_push_of_some _ e
  have hmw : (h2.push (PySem.W.kxs_mw "ValueError.__init__" a)).get? u = some (PySem.W.kxs_mw "ValueError.__init__" a) := by rw [← hu]; exact Heap.get?_push_size _ rfl
  have I3 : Inv X [] _ H { s with heap := h2.push (PySem.W.kxs_mw "ValueError.__init__" a), toks := s.toks + 2 + 1 } := I2.kept (t' := s.toks + 2 + 1) kk3
  generalize h2.push (PySem.W.kxs_mw "ValueError.__init__" a) = h3 at kk3 hmw I3
  refine PySem.W.kxs_callWith (i := "ValueError.__init__") (x := a) rfl (Calls.evalArgs_plain (Calls.spliced_cons (wpAny_Name (wpAny_loadName_local S.kind S.par ((hns.keeps kk2).keeps kk3) hpar (Calls.spliced_nil ⟨hmw, ?_⟩)) hd1)))
  show wpAny _ _ (call (.ref u) [u2]) _ _ ({ s with heap := h3, toks := s.toks + 2 + 1 } : Shared)
  have IK3 : K.In h3 := IK2.keeps kk3
  have ho3 := kk3 _ _ hx2
  have hz3 : [u2].length ≤ sizeLine := by show 1 ≤ sizeLine; decide
  refine wpAny_call (codeAny_of_tree ?_)
  show wpAny _ (A.deeper (PySem.W.ksEnv qual scope s.heap.objs.size f (.ref cda) cc)).in1 (callAny (.ref u) ⟨[u2], []⟩) _ _ _
  simp only [callAny]
  refine wpAny_bind (wpAny_load hmw ?_)
  simp only [PySem.W.kxs_mw, show (Value.type "method-wrapper" == Value.type "method" || Value.type "method-wrapper" == Value.type "builtin_function_or_method" || Value.type "method-wrapper" == Value.type "method-wrapper") = true by decide, if_true]
  refine PySem.W.KFB.if_so (by decide) ?_
  refine wpAny_bind (PySem.W.check_bound_init F.excBase_ValueError.toExcCallFacts (IK3 _ _ lkC) ho3 rfl ?_)
  refine wpAny_bind (wpAny_pure (wpAny_pure ?_))
  refine ⟨plainId_quiet F.excBase_ValueError.init.plain _, codeAny_builtin F.excBase_ValueError.initEntry ?_⟩
  refine PySem.W.exc_init_tree (cls := .ref C) (t0 := t1) (dv := none) (c2 := .none) (c3 := .none) (b4 := .bool false) ho3 hz3 fun h4 kk4 hx4 _ => ?_
  have J0 := I3.write (h' := h4) (t' := s.toks + 2 + 1) (x := a) (e := a) (o := exo a C none) (by rw [ha]; exact True.intro) (.inl rfl) kk4 ⟨_, hx4⟩ (exo_ok hx4)
  have eu : upd H a (exo a C none) = H := by
    funext b
    by_cases hb : b = a
    · rw [hb, upd_same, ha]
    · rw [upd_ne hb]
  rw [eu] at J0
  have hN : X.N = [("self" : Str), fl] := by rw [← hX]; rfl
  have hE : X.env = PySem.W.ksEnv qual scope s.heap.objs.size f (.ref cda) cc := by rw [← hX]; rfl
  have hSc : X.env.scope = scope := by rw [hE]
  have asg := pss_one (ps_ost (X := X) (p' := p7) (pos := p9) (f := fl) (pe_var (pos := p6) (i := 0) (x := "self") (by rw [hN]; rfl) (by rw [hSc]; exact .inl S.self)) (pe_var (pos := p8) (i := 1) (x := fl) (by rw [hN]; rfl) (by rw [hSc]; exact .inl S.par) hd1 hd2) (by rw [hE]; subst hsc; rfl))
  have run := asg.run [] _ _ H { nx := fun _ H' => Q .non H', rt := Q } J0 ⟨v, rfl, .ref a, rfl, a, C, rfl, by rw [XK]; exact hoex, by rw [XK]; exact hfld, .inl ⟨ha, fun dx h1 h2 => q dx h1 h2⟩⟩
  clear hN hE hSc asg XP XK
  subst hX
  refine wpAt_of_wpAny (wpAny_mono run (fun fw s' hs => ?_) fun e s' hs => hs)
  have fin : ∀ {xe : Value → Shared → Prop} {σ' : L2.St} {H' : Hp} {v : V} {u : Value}, Inv (cxSup P w K mg base [("self" : Str), fl] qual scope f (.ref cda) cc A outer s H xe) [] σ' H' s' → RelV v u → Q v H' → CE outer P w H s Q u s' :=
    fun {xe σ' H' v u} J rv q => ⟨v, H', J.os, J.bare, J.base, J.hok, rv, q⟩
  cases fw with
  | ret u =>
    obtain ⟨v, σ', H', J, rv, q⟩ := hs
    exact fin J rv q
  | next =>
    obtain ⟨σ', H', J, q⟩ := hs
    exact fin (v := V.non) (u := Value.none) J rfl q
  | brk =>
    obtain ⟨_, _, _, q⟩ := hs
    exact False.elim q
  | cont =>
    obtain ⟨_, _, _, q⟩ := hs
    exact False.elim q
end Sa
set_option Elab.async false
set_option linter.all false
set_option maxRecDepth 100000
set_option maxHeartbeats 4000000
namespace Sa
open PySem PySem.Spec PyProof.Rows L2
local macro_rules | `(tactic| walk_at "vc") => `(tactic| repeat (first | refine ⟨_, rfl, ?_⟩ | refine ⟨_, _, rfl, rfl, ?_⟩ | refine ⟨_, _, rfl, ?_⟩ | refine ⟨rfl, ?_⟩))
/-! ### defs that may raise -/
/-- a def that may be called by its name and may raise -/
structure CalX (P : Program) (w : World) (K : PySem.W.Frag) (mg : Str → Option Value) (base : Heap) (k : Nat) (x : Str) (sp : Sp) : Prop where
  ex : ∃ (f : Addr) (fd : FuncData) (ps : List Str), FnOk P w K mg base (L2.CX P w) k f fd ps sp ∧ mg x = some (.ref f) ∧ PySem.W.keepIn K (.ref f) = true ∧ Binds K fd ps []
section
variable {P : Program} {w : World} {K : PySem.W.Frag} {mg : Str → Option Value} {base : Heap}
theorem mkX {x : Str} {st : Stmt} {N ps : List Str} {k : Nat} {sp : Sp} (F : Fd K mg x st) (S : FnScope N ps (defScope st))
    (hb : ∀ (kV doc pm : Value) (an : Option Addr) (cdv ct : Value) (us : List Value), us.length = ps.length → bindArgs (PySem.W.fnOf x x (defArgs st) (defBody st) (defScope st) .none kV doc pm an cdv ct) ⟨us, []⟩ = pure (ps.zip us))
    (len : ∀ vs H Q E, sp vs H Q E → vs.length = ps.length)
    (hbody : ∀ (f : Addr) (cdv : Value) (A : Around) (outer : List Env) (s : Shared) (H : Hp) (vs : List V) (Q : VK) (E : XK), Room k (A.deeper (envOfC x (defScope st) s.heap.objs.size f cdv)) → sp vs H Q E →
      ∃ t, PSs (cxOf (L2.CX P w) P w K mg base N x (defScope st) f cdv A outer s H E) (defBody st) t ∧ t { nx := fun _ H' => Q .non H', rt := Q } (start N vs) H) : CalX P w K mg base (k + 1) x sp := by
  obtain ⟨f, fd, F, hm⟩ := F
  exact ⟨f, fd, ps, F.ok S len (fun cdv A outer s H vs Q E hr h => hbody f cdv A outer s H vs Q E hr h), hm, F.kp, F.bindsN hb⟩
theorem mkFX {x : Str} {st : Stmt} {N ps : List Str} {k : Nat} {sp : Sp} (F : Fd K mg x st) (S : FnScope N ps (defScope st))
    (len : ∀ vs H Q E, sp vs H Q E → vs.length = ps.length)
    (hbody : ∀ (f : Addr) (cdv : Value) (A : Around) (outer : List Env) (s : Shared) (H : Hp) (vs : List V) (Q : VK) (E : XK), Room k (A.deeper (envOfC x (defScope st) s.heap.objs.size f cdv)) → sp vs H Q E →
      ∃ t, PSs (cxOf (L2.CX P w) P w K mg base N x (defScope st) f cdv A outer s H E) (defBody st) t ∧ t { nx := fun _ H' => Q .non H', rt := Q } (start N vs) H) : FnD P w K mg base (L2.CX P w) (k + 1) x st ps sp := by
  obtain ⟨f, fd, F, hm⟩ := F
  exact ⟨f, fd, F, hm, F.ok S len (fun cdv A outer s H vs Q E hr h => hbody f cdv A outer s H vs Q E hr h)⟩
theorem FnD.calX {x : Str} {st : Stmt} {ps : List Str} {k : Nat} {sp : Sp} (F : FnD P w K mg base (L2.CX P w) k x st ps sp)
    (hb : ∀ (kV doc pm : Value) (an : Option Addr) (cdv ct : Value) (us : List Value), us.length = ps.length → bindArgs (PySem.W.fnOf x x (defArgs st) (defBody st) (defScope st) .none kV doc pm an cdv ct) ⟨us, []⟩ = pure (ps.zip us)) : CalX P w K mg base k x sp := by
  obtain ⟨f, fd, F, hm, G⟩ := F
  exact ⟨f, fd, ps, G, hm, F.kp, F.bindsN hb⟩
/-- an own exception class, made by its name -/
structure ExKl (P : Program) (w : World) (K : PySem.W.Frag) (mg : Str → Option Value) (base : Heap) (x fl : Str) (C : Addr) : Prop where
  ex : ∃ (fI : Addr) (fd : FuncData), OexC K C ∧ PySem.W.findIn K (.ref C) "__init__" = some (some (.ref fI)) ∧ PySem.W.typeIn K (.ref fI) = some (.type "function") ∧ FnOk P w K mg base C8.CX0 1 fI fd ["self", fl] (sp_sup fl C) ∧ Binds K fd ["self", fl] [] ∧ mg x = some (.ref C)
end
section
variable {X : Cx} {k j : Nat} {C : Addr} {x fl : Str} {sp : Sp} {p pos : Pos} {e : Expr} {es : List Expr} {t ta : TA} {W : WX}
theorem pe_cx (c : CalX X.prog X.w X.K X.mg X.base k x sp) (tk : Takes X W) (hr : Room j X.A) (hk : k ≤ j) (hg : Gl X x) (ha : PA X (e :: es) t)
    (hdb : (x == ("__debug__" : Str)) = false := by decide) (he : starEach (e :: es) X.env = (false, eval e X.env) :: starEach es X.env := by rfl) (hpl : (backTo pos (starEach es X.env)).any (·.1) = false := by rfl) :
    PE X (.Call (.Name x p) (e :: es) [] pos) (tCallS sp (WE W) t) := by
  obtain ⟨f, fd, ps, F, hm, kp, b⟩ := c.ex
  exact pe_callS F (hr.mono hk) hg hm kp b (fun σ => passAt tk σ) ha hdb he hpl
theorem pmk_k (T : ExKl X.prog X.w X.K X.mg X.base x fl C) (hr : Room j X.A) (hj : 2 ≤ j) (hg : Gl X x) (ha : PA X (e :: es) ta)
    (hdb : (x == ("__debug__" : Str)) = false := by decide) (he : starEach (e :: es) X.env = (false, eval e X.env) :: starEach es X.env := by rfl) (hpl : (backTo pos (starEach es X.env)).any (·.1) = false := by rfl) :
    PMk X (.Call (.Name x p) (e :: es) [] pos) (tMkO C (sp_sup fl C) [] ta) := by
  obtain ⟨fI, fd, oex, ini, tI, F1, hb, hm⟩ := T.ex
  exact pmk_oex oex ini tI F1 (hr.mono hj) hb .nil C8.pass0 hg hm ha hdb he hpl
end
/-- C(v) is made -/
theorem go_raise {fl : Str} {C : Addr} {v : V} {H1 : Hp} {Q : XK} (q : ∀ d, H1 d = none → Q (.ref C) (some d) (upd H1 d (.xd [(fl, v)]))) : ([v].length ≤ 1000 ∧ ∀ a, H1 a = none → sp_sup fl C (.ref a :: ([v] ++ [])) (upd H1 a (exo a C none))
  (fun v' H2 => v' = .non ∧ ∃ (d : Addr) (fs : List (Str × V)), H2 a = some (exo a C (some d)) ∧ H2 d = some (exd d fs) ∧ H1 d = none ∧ Q (.ref C) (some d) (upd (del H2 a) d (.xd fs))) (fun _ _ _ => False)) := by
  refine ⟨by simp, fun a ha => ⟨a, v, rfl, upd_same, fun dx hdx hne => ⟨rfl, dx, [(fl, v)], upd_same, by rw [upd_ne hne]; exact upd_same, ?_, ?_⟩⟩⟩
  · rw [upd_ne hne] at hdx; exact hdx
  · have hd1 : H1 dx = none := by rw [upd_ne hne] at hdx; exact hdx
    have e : upd (del (upd (upd (upd H1 a (exo a C none)) dx (exd dx [(fl, v)])) a (exo a C (some dx))) a) dx (.xd [(fl, v)]) = upd H1 dx (.xd [(fl, v)]) := by
      funext b
      by_cases hb : b = dx
      · rw [hb, upd_same, upd_same]
      · rw [upd_ne hb, upd_ne hb]
        by_cases hb2 : b = a
        · rw [hb2, del_same, ha]
        · rw [del_ne hb2, upd_ne hb2, upd_ne hb, upd_ne hb2]
    rw [e]
    exact q dx hd1
section
variable {P : Program} {w : World} {K : PySem.W.Frag} {mg : Str → Option Value} {base : Heap}
def sp_need_bad (CN : Addr) : Sp := fun vs H _ E => ∃ v k, ∃ (l m : Int) (s : Str), vs = [v, .int l, .int m, .str s] ∧ KdOf H v k ∧ (∀ i, v = .int i → ¬ (0 ≤ i ∧ l ≤ i ∧ i ≤ m)) ∧ ∀ d, H d = none → E (.ref CN) (some d) (upd H d (.xd [("word", .str s)]))
theorem x_need_number (T : Txt K mg) {CN : Addr} (kInvalidNumber : ExKl P w K mg base "InvalidNumber" "word" CN) : CalX P w K mg base 3 "need_number" (fun vs H Q E => sp_need_number vs H Q E ∨ sp_need_bad CN vs H Q E) := by
  have c_is_number := c_is_number (P := P) (w := w) (base := base) T
  refine mkX T.d_need_number scneednumber (fun _ _ _ _ _ _ us hl => match us, hl with | [_, _, _, _], _ => rfl) (fun vs H Q E h => ?_) (fun f cdv A outer s H vs Q E hr h => ?_)
  · rcases h with h | h
    · obtain ⟨i, l, m, s, rfl, _⟩ := h
      rfl
    · obtain ⟨v, k, l, m, s, rfl, _⟩ := h
      rfl
  · refine ⟨_, (pss_one (ps_if (PW.pt (pw_or (pt_not (pt_val (C8.pe_c c_is_number hr (by decide) (by rfl) (pa_cons (pv 0) pa_nil)))) (pw_or (pt_cmpR op_lt (pv 0) (pv 1) (nomark _)) (pw_or1 (PW.pt (pw_and (pt_cmpR op_notN (pv 2) pe_non (nomark _)) (pw_and1 (pt_cmpR op_gt (pv 0) (pv 2) (nomark _))))))))) (pss_one (ps_raise rfl (takes_of rfl rfl rfl rfl) (pmk_k kInvalidNumber hr (by decide) (by rfl) (pa_cons (pv 3) pa_nil)))) pss_nil)), ?_⟩
    rcases h with h | h
    · obtain ⟨i, l, m, s, rfl, h0, h1, h2, q⟩ := h
      walk_at "vc"
      refine ⟨_, .int, rfl, ⟨_, rfl⟩, ?_⟩
      walk_at "vc"
      refine ifF (by simp [h0]) ?_
      walk_at "vc"
      refine ifF (by simp [h1]) ?_
      walk_at "vc"
      exact ifF (by simp [h2]) q
    · obtain ⟨v, k, l, m, s, rfl, hk, hbad, q⟩ := h
      walk_at "vc"
      refine ⟨_, k, rfl, hk, ?_⟩
      cases k with
      | int =>
        obtain ⟨i, rfl⟩ := hk
        have hb := hbad i rfl
        walk_at "vc"
        by_cases h0 : 0 ≤ i
        · refine ifF (by simp [h0]) ?_
          walk_at "vc"
          by_cases h1 : i < l
          · refine ifT (by simp [h1]) ?_
            walk_at "vc"
            exact go_raise q
          · refine ifF (by simp; omega) ?_
            walk_at "vc"
            refine ifT (by simp; omega) ?_
            walk_at "vc"
            exact go_raise q
        · refine ifT (by simp [h0]) ?_
          walk_at "vc"
          exact go_raise q
      | non =>
        cases hk
        walk_at "vc"
        exact go_raise q
      | bl =>
        obtain ⟨b, rfl⟩ := hk
        walk_at "vc"
        exact go_raise q
      | str =>
        obtain ⟨b, rfl⟩ := hk
        walk_at "vc"
        exact go_raise q
      | tup =>
        obtain ⟨b, xs, rfl, _⟩ := hk
        walk_at "vc"
        exact go_raise q
      | lst =>
        obtain ⟨b, xs, rfl, _⟩ := hk
        walk_at "vc"
        exact go_raise q
/-- times that are refused, and where -/
def BadT (F : Hp) (vv : V) (n : Nat) (at_ : Int) : Prop :=
  (∃ k, KdOf F vv k ∧ k ≠ .tup ∧ at_ = -1) ∨ (∃ a xs, vv = .ref a ∧ F a = some (.tup xs) ∧ xs.length ≠ n ∧ at_ = -1) ∨
  ∃ a xs, ∃ i : Nat, ∃ v k, vv = .ref a ∧ F a = some (.tup xs) ∧ xs.length = n ∧ at_ = (i : Int) ∧ xs[i]? = some v ∧ KdOf F v k ∧ v ≠ .non ∧ isTime v = false ∧ ∀ j, j < i → xs[j]? = some .non
theorem BadT.up {F F' : Hp} {vv : V} {n : Nat} {at_ : Int} (e : Sub F F') (h : BadT F vv n at_) : BadT F' vv n at_ := by
  rcases h with ⟨k, h1, h2⟩ | ⟨a, xs, h1, h2, h3⟩ | ⟨a, xs, i, v, k, h1, h2, h3, h4, h5, h6, h7⟩
  · exact .inl ⟨k, KdOf.up e h1, h2⟩
  · exact .inr (.inl ⟨a, xs, h1, e _ _ h2, h3⟩)
  · exact .inr (.inr ⟨a, xs, i, v, k, h1, e _ _ h2, h3, h4, h5, KdOf.up e h6, h7⟩)
def sp_times_bad (CT : Addr) : Sp := fun vs H _ E => ∃ F vt vv n ties at_, vs = [vt, vv] ∧ Sub F H ∧ RTab K F vt n ties ∧ n ≤ 12 ∧ BadT F vv n at_ ∧ ∀ d H1, Ex S0 F H F H1 → H1 d = none → E (.ref CT) (some d) (upd H1 d (.xd [("at", .int at_)]))
theorem x_check_times (T : Txt K mg) {CT : Addr} (kInvalidTimes : ExKl P w K mg base "InvalidTimes" "at" CT) : CalX P w K mg base 3 "check_times" (fun vs H Q E => sp_check_times (K := K) vs H Q E ∨ sp_times_bad (K := K) CT vs H Q E) := by
  have c_is_time := c_is_time (P := P) (w := w) (base := base) T
  refine mkX T.d_check_times scchecktimes (fun _ _ _ _ _ _ us hl => match us, hl with | [_, _], _ => rfl) (fun vs H Q E h => ?_) (fun f cdv A outer s H vs Q E hr h => ?_)
  · rcases h with h | h
    · obtain ⟨F, vt, vv, n, ties, ts, rfl, _⟩ := h
      rfl
    · obtain ⟨F, vt, vv, n, ties, at_, rfl, _⟩ := h
      rfl
  · refine ⟨_, (pss_cons (ps_if (PW.pt (pw_or (pt_not (pt_val (pe_callB call_isi (by rfl) T.isinstance (by decide +kernel) (pa_cons (pv 1) (pa_cons (pe_bltn (v := .ty "tuple") (u := .type "tuple") (by rfl) T.tuple (by decide +kernel) rfl) pa_nil))))) (pw_or1 (pt_cmpR op_ne (pe_callB call_len (by rfl) T.len (by decide +kernel) (pa_cons (pv 1) pa_nil)) (pe_callB call_len (by rfl) T.len (by decide +kernel) (pa_cons (pe_fld (pv 0) rfl) pa_nil)) (nomark _))))) (pss_one (ps_raise rfl (takes_of rfl rfl rfl rfl) (pmk_k kInvalidTimes hr (by decide) (by rfl) (pa_cons (pe_un un_neg pe_int) pa_nil)))) pss_nil)
    (pss_one (ps_for (passes_of rfl) rfl (pi_enumT (by rfl) T.enumerate (pa_cons (pv 1) pa_nil)) (pg_tup rfl (pgs_cons ((pg_name (i := 2) scchecktimes.nd rfl (Or.inl rfl))) (pgs_cons ((pg_name (i := 3) scchecktimes.nd rfl (Or.inl rfl))) pgs_nil))) (pss_one (ps_if (PW.pt (pw_and (pt_cmpR op_notN (pv 3) pe_non (nomark _)) (pw_and1 (pt_not (pt_val (C8.pe_c c_is_time hr (by decide) (by rfl) (pa_cons (pv 3) pa_nil))))))) (pss_one (ps_raise rfl (takes_of rfl rfl rfl rfl) (pmk_k kInvalidTimes hr (by decide) (by rfl) (pa_cons (pv 2) pa_nil)))) pss_nil))))), ?_⟩
    rcases h with h | h
    · obtain ⟨F, vt, vv, n, ties, ts, rfl, sb, ht, hv, hn, hb, q⟩ := h
      obtain ⟨av, wv, rfl, sv, pv1⟩ := hv
      have ew : wv = ts.map ov := paired_ovs pv1
      subst ew
      obtain ⟨a, C, dx, fs, at1, us, vu, rfl, h2, h3, h4, h5, h6, h7, h8, h9, h10⟩ := ht
      walk_at "vc"
      refine ⟨_, _, .type Kd.tup.ty, .type "tuple", _, rfl, .ty _, (kdT (sb _ _ sv)).tyx, kit_kd .tup .tup (by simp), ?_⟩
      walk_at "vc"
      refine ⟨_, _, rfl, lenT (tS (sb _ _ sv)), ?_⟩
      walk_at "vc"
      refine ⟨_, C, dx, fs, _, rfl, sb _ _ h2, h3, h4, h6, ?_⟩
      refine ⟨_, _, rfl, lenT (tS (sb _ _ h8)), ?_⟩
      walk_at "vc"
      refine ifF (by simp [h9, hn]) ?_
      walk_at "vc"
      refine ⟨_, _, rfl, tS (sb _ _ sv), ?_⟩
      refine for_it (walk_enumT (xs := ts.map ov)) (fun i σ H1 => ∃ u v, σ = [some (.ref a), some (.ref av), u, v] ∧ Ex S0 F H F H1) ⟨none, none, rfl, Ex.refl0 sb⟩ (fun i σ H1 _ h => ?_) (fun i x σ H1 H2 hi h y => ?_) (fun σ H1 h => ?_)
      · obtain ⟨u, v, rfl, e⟩ := h
        exact tS (e.s _ _ sv)
      · obtain ⟨u, v, rfl, e⟩ := h
        obtain ⟨T0, x1, y1, rfl, e1, rfl, e2, e3⟩ := y
        cases e2
        obtain ⟨z, ez, rfl⟩ := map_get e3
        have e4 : Ex S0 F H F (upd H1 T0 (.tup [.int (i : Nat), ov z])) := e.trans (Ex.own e.s e1 e.t1)
        refine ⟨_, _, rfl, tS upd_same, rfl, ?_⟩
        walk_at "vc"
        cases z with
        | none => exact ⟨_, _, rfl, e4⟩
        | some t =>
          walk_at "vc"
          have hm : some t ∈ ts := List.mem_of_getElem? ez
          obtain ⟨b1, b2⟩ := hb t hm
          refine ⟨_, .int, rfl, ⟨_, rfl⟩, ?_⟩
          walk_at "vc"
          have ht : isTime (V.int t) = true := by simp [isTime, b1, b2]
          refine ifF (by show ¬ (!isTime (V.int t)) = true; simp [ht]) ?_
          exact ⟨_, _, rfl, e4⟩
      · obtain ⟨u, v, rfl, e⟩ := h
        exact q _ e
    · obtain ⟨F, vt, vv, n, ties, at_, rfl, sb, ht, hn12, hbad, q⟩ := h
      obtain ⟨a, C, dx, fs, at1, us, vu, rfl, h2, h3, h4, h5, h6, h7, h8, h9, h10⟩ := ht
      rcases hbad with ⟨k, hk, hkt, rfl⟩ | ⟨va, xs, rfl, hva, hxl, rfl⟩ | ⟨va, xs, bi, v, k, rfl, hva, hxl, rfl, hxi, hk, hvn, hvt, hpre⟩
      · walk_at "vc"
        refine ⟨_, _, .type k.ty, .type "tuple", _, rfl, .ty _, (KdOf.up sb hk).tyx, kit_kd k .tup (by simp), ?_⟩
        walk_at "vc"
        refine ifT (by cases k <;> first | rfl | exact absurd rfl hkt) ?_
        walk_at "vc"
        exact go_raise fun d hd => q d H (ex0 sb) hd
      · walk_at "vc"
        refine ⟨_, _, .type Kd.tup.ty, .type "tuple", _, rfl, .ty _, (kdT (sb _ _ hva)).tyx, kit_kd .tup .tup (by simp), ?_⟩
        walk_at "vc"
        refine ⟨_, _, rfl, lenT (tS (sb _ _ hva)), ?_⟩
        walk_at "vc"
        refine ⟨_, C, dx, fs, _, rfl, sb _ _ h2, h3, h4, h6, ?_⟩
        refine ⟨_, _, rfl, lenT (tS (sb _ _ h8)), ?_⟩
        walk_at "vc"
        refine ifT (by simp [h9]; omega) ?_
        walk_at "vc"
        exact go_raise fun d hd => q d H (ex0 sb) hd
      · walk_at "vc"
        refine ⟨_, _, .type Kd.tup.ty, .type "tuple", _, rfl, .ty _, (kdT (sb _ _ hva)).tyx, kit_kd .tup .tup (by simp), ?_⟩
        walk_at "vc"
        refine ⟨_, _, rfl, lenT (tS (sb _ _ hva)), ?_⟩
        walk_at "vc"
        refine ⟨_, C, dx, fs, _, rfl, sb _ _ h2, h3, h4, h6, ?_⟩
        refine ⟨_, _, rfl, lenT (tS (sb _ _ h8)), ?_⟩
        walk_at "vc"
        refine ifF (by simp [h9, hxl]) ?_
        walk_at "vc"
        refine ⟨_, _, rfl, tS (sb _ _ hva), ?_⟩
        have hbl : bi < xs.length := (List.getElem?_eq_some_iff.mp hxi).1
        refine for_it (walk_enumT (xs := xs)) (fun i σ H1 => i ≤ bi ∧ ∃ u v, σ = [some (.ref a), some (.ref va), u, v] ∧ Ex S0 F H F H1) ⟨Nat.zero_le _, none, none, rfl, Ex.refl0 sb⟩ (fun i σ H1 _ h => ?_) (fun i x σ H1 H2 hi h y => ?_) (fun σ H1 h => ?_)
        · obtain ⟨_, u, v, rfl, e⟩ := h
          exact tS (e.s _ _ hva)
        · obtain ⟨hib, u, w, rfl, e⟩ := h
          obtain ⟨T0, x1, y1, rfl, e1, rfl, e2, e3⟩ := y
          cases e2
          have e3 : xs[i]? = some y1 := e3
          have e4 : Ex S0 F H F (upd H1 T0 (.tup [.int (i : Nat), y1])) := e.trans (Ex.own e.s e1 e.t1)
          refine ⟨_, _, rfl, tS upd_same, rfl, ?_⟩
          by_cases hlt : i < bi
          · have z := hpre i hlt
            rw [z] at e3
            cases e3
            walk_at "vc"
            exact ⟨by omega, _, _, rfl, e4⟩
          · have hie : i = bi := by omega
            subst hie
            rw [hxi] at e3
            cases e3
            walk_at "vc"
            refine ifT (by simp [hvn]) ?_
            walk_at "vc"
            refine ⟨_, k, rfl, KdOf.up e4.s hk, ?_⟩
            walk_at "vc"
            refine ifT (by show (!isTime v) = true; rw [hvt]; rfl) ?_
            walk_at "vc"
            exact go_raise fun d hd => q d _ e4 hd
        · obtain ⟨hib, _⟩ := h
          omega
def badO (v : V) : Prop := ∀ i, v = .int i → ¬ (1 ≤ i ∧ i ≤ 60)
/-- bad times, or times that pass and a bad count of orders -/
def BadX (K : PySem.W.Frag) (CT CN : Addr) (F H : Hp) (v vt vo : V) (n : Nat) (ties : Ties) (E : XK) : Prop :=
  Sub F H ∧ RTab K F v n ties ∧ n ≤ 12 ∧ ((∃ at_, BadT F vt n at_ ∧ ∀ d H1, Ex S0 F H F H1 → H1 d = none → E (.ref CT) (some d) (upd H1 d (.xd [("at", .int at_)]))) ∨
    ∃ ts k, RRow F vt ts ∧ ts.length = n ∧ (∀ t, some t ∈ ts → -1000000000 ≤ t ∧ t ≤ 1000000000) ∧ KdOf F vo k ∧ badO vo ∧ ∀ d H1, Ex S0 F H F H1 → H1 d = none → E (.ref CN) (some d) (upd H1 d (.xd [("word", .str "orders")])))
def sp_orders_bad (CT CN : Addr) : Sp := fun vs H _ E => ∃ F v vt vo n ties, vs = [v, vt, vo] ∧ BadX K CT CN F H v vt vo n ties E
theorem x_check_orders (T : Txt K mg) {CT CN : Addr} (kInvalidTimes : ExKl P w K mg base "InvalidTimes" "at" CT) (kInvalidNumber : ExKl P w K mg base "InvalidNumber" "word" CN) : CalX P w K mg base 4 "check_orders" (fun vs H Q E => sp_check_orders (K := K) vs H Q E ∨ sp_orders_bad (K := K) CT CN vs H Q E) := by
  have c_check_times := c_check_times (P := P) (w := w) (base := base) T
  have c_need_number := c_need_number (P := P) (w := w) (base := base) T
  refine mkX T.d_check_orders sccheckorders (fun _ _ _ _ _ _ us hl => match us, hl with | [_, _, _], _ => rfl) (fun vs H Q E h => ?_) (fun f cdv A outer s H vs Q E hr h => ?_)
  · rcases h with h | h
    · obtain ⟨F, v, vt, n, ties, ts, o, rfl, _⟩ := h
      rfl
    · obtain ⟨F, v, vt, vo, n, ties, rfl, _⟩ := h
      rfl
  · have x_check_times := x_check_times (P := P) (w := w) (base := base) T kInvalidTimes
    have x_need_number := x_need_number (P := P) (w := w) (base := base) T kInvalidNumber
    refine ⟨_, (pss_cons (ps_expr (pe_cx x_check_times (takes_of rfl rfl rfl rfl) hr (by decide) (by rfl) (pa_cons (pv 0) (pa_cons (pv 1) pa_nil))))
    (pss_one (ps_expr (pe_cx x_need_number (takes_of rfl rfl rfl rfl) hr (by decide) (by rfl) (pa_cons (pv 2) (pa_cons pe_int (pa_cons (C8.pe_gc rfl T.g_MOST_BATCHES) (pa_cons pe_str pa_nil)))))))), ?_⟩
    rcases h with h | h
    · obtain ⟨F, v, vt, n, ties, ts, o, rfl, sb, ⟨ht, hto, hn, hts, hl, hb, hdi⟩, h1, h2, q⟩ := h
      walk_at "vc"
      refine .inl ⟨F, _, _, n, ties, ts, rfl, sb, ht, hts, hl, hb, fun H1 e1 => ?_⟩
      walk_at "vc"
      refine .inl ⟨o, 1, 60, _, rfl, by omega, by omega, by omega, ?_⟩
      exact q _ e1
    · obtain ⟨F, v, vt, vo, n, ties, rfl, sb, ht, hn, h⟩ := h
      walk_at "vc"
      rcases h with ⟨at_, hbt, q⟩ | ⟨ts, k, hts, hl, hb, hk, hbo, q⟩
      · exact .inr ⟨F, _, _, n, ties, at_, rfl, sb, ht, hn, hbt, fun d H1 e hd => q d H1 e hd⟩
      · refine .inl ⟨F, _, _, n, ties, ts, rfl, sb, ht, hts, hl, hb, fun H1 e1 => ?_⟩
        walk_at "vc"
        refine .inr ⟨_, k, 1, 60, _, rfl, KdOf.up e1.s hk, fun i hi hx => hbo i hi ⟨hx.2.1, hx.2.2⟩, fun d hd => q d H1 e1 hd⟩
theorem x_most_rounds (T : Txt K mg) {CT CN : Addr} (kInvalidTimes : ExKl P w K mg base "InvalidTimes" "at" CT) (kInvalidNumber : ExKl P w K mg base "InvalidNumber" "word" CN) : CalX P w K mg base 7 "most_rounds" (sp_orders_bad (K := K) CT CN) := by
  have c_check_orders := c_check_orders (P := P) (w := w) (base := base) T
  have c_rounds_by := c_rounds_by (P := P) (w := w) (base := base) T
  have c_limits := c_limits (P := P) (w := w) (base := base) T
  refine mkX T.d_most_rounds scmostrounds (fun _ _ _ _ _ _ us hl => match us, hl with | [_, _, _], _ => rfl) (fun vs H Q E h => ?_) (fun f cdv A outer s H vs Q E hr h => ?_)
  · obtain ⟨F, v, vt, vo, n, ties, rfl, _⟩ := h
    rfl
  · have x_check_orders := x_check_orders (P := P) (w := w) (base := base) T kInvalidTimes kInvalidNumber
    obtain ⟨fb, fdb, Fb, hmb⟩ := T.d_best_cut
    have gbest_cut : ∃ u, mg "best_cut" = some u ∧ RelV (.ref fb) u := ⟨_, hmb, rfl⟩
    refine ⟨_, (pss_cons (ps_expr (pe_cx x_check_orders (takes_of rfl rfl rfl rfl) hr (by decide) (by rfl) (pa_cons (pv 0) (pa_cons (pv 1) (pa_cons (pv 2) pa_nil)))))
    (pss_one (ps_ret (C8.pe_c c_rounds_by hr (by decide) (by rfl) (pa_cons (C8.pe_c c_limits hr (by decide) (by rfl) (pa_cons (pv 0) (pa_cons (pv 1) pa_nil))) (pa_cons (pv 2) (pa_cons (C8.pe_gc rfl gbest_cut) pa_nil))))))), ?_⟩
    obtain ⟨F, v, vt, vo, n, ties, rfl, h⟩ := h
    walk_at "vc"
    exact .inr ⟨F, v, vt, vo, n, ties, rfl, h⟩
theorem x_sure_rounds (T : Txt K mg) {CT CN : Addr} (kInvalidTimes : ExKl P w K mg base "InvalidTimes" "at" CT) (kInvalidNumber : ExKl P w K mg base "InvalidNumber" "word" CN) : CalX P w K mg base 7 "sure_rounds" (sp_orders_bad (K := K) CT CN) := by
  have c_check_orders := c_check_orders (P := P) (w := w) (base := base) T
  have c_rounds_by := c_rounds_by (P := P) (w := w) (base := base) T
  have c_limits := c_limits (P := P) (w := w) (base := base) T
  refine mkX T.d_sure_rounds scsurerounds (fun _ _ _ _ _ _ us hl => match us, hl with | [_, _, _], _ => rfl) (fun vs H Q E h => ?_) (fun f cdv A outer s H vs Q E hr h => ?_)
  · obtain ⟨F, v, vt, vo, n, ties, rfl, _⟩ := h
    rfl
  · have x_check_orders := x_check_orders (P := P) (w := w) (base := base) T kInvalidTimes kInvalidNumber
    obtain ⟨fb, fdb, Fb, hmb⟩ := T.d_worst_cut
    have gworst_cut : ∃ u, mg "worst_cut" = some u ∧ RelV (.ref fb) u := ⟨_, hmb, rfl⟩
    refine ⟨_, (pss_cons (ps_expr (pe_cx x_check_orders (takes_of rfl rfl rfl rfl) hr (by decide) (by rfl) (pa_cons (pv 0) (pa_cons (pv 1) (pa_cons (pv 2) pa_nil)))))
    (pss_one (ps_ret (C8.pe_c c_rounds_by hr (by decide) (by rfl) (pa_cons (C8.pe_c c_limits hr (by decide) (by rfl) (pa_cons (pv 0) (pa_cons (pv 1) pa_nil))) (pa_cons (pv 2) (pa_cons (C8.pe_gc rfl gworst_cut) pa_nil))))))), ?_⟩
    obtain ⟨F, v, vt, vo, n, ties, rfl, h⟩ := h
    walk_at "vc"
    exact .inr ⟨F, v, vt, vo, n, ties, rfl, h⟩
end
end Sa
set_option Elab.async false
set_option linter.all false
set_option maxRecDepth 100000
set_option maxHeartbeats 4000000
namespace Sa
open PySem PySem.Spec PyProof.Rows L2
local macro_rules | `(tactic| walk_at "vc") => `(tactic| repeat (first | refine ⟨_, rfl, ?_⟩ | refine ⟨_, _, rfl, rfl, ?_⟩ | refine ⟨_, _, rfl, ?_⟩ | refine ⟨rfl, ?_⟩))
def opn : Option Nat → PyData
  | none => .none
  | some n => .int (n : Int)
theorem dp_onv {K : PySem.W.Frag} {H : Hp} (x : Option Nat) : Dp K H (onv x) (opn x) := by
  cases x with
  | none => exact .non
  | some i => exact .int _
theorem eqv_opn (x y : Option Nat) : PyData.eqv (opn x) (opn y) = decide (x = y) := by
  cases x with
  | none => cases y <;> rfl
  | some i => cases y with
    | none => rfl
    | some j =>
      show PyData.eqv (.int (i : Int)) (.int (j : Int)) = _
      rw [eqv_int]
      by_cases e : i = j
      · subst e; simp
      · rw [decide_eq_false (fun z => e (by omega)), decide_eq_false (fun z => e (Option.some.inj z))]
theorem dp_pair {K : PySem.W.Frag} {H : Hp} {a : Addr} {p : Pr} (h : H a = some (.tup [onv p.1, onv p.2])) : Dp K H (.ref a) (.tuple [opn p.1, opn p.2]) := .tup (tS h) (.cons (dp_onv _) (.cons (dp_onv _) .nil))
theorem opn_can (x : Option Nat) : (opn x).canLay0 = true := by cases x <;> rfl
theorem opn_dep (x : Option Nat) : (opn x).depth ≤ 0 := by cases x <;> exact Nat.le_refl _
theorem shaped_pair (p : Pr) : SeqAt.shaped (.tuple [opn p.1, opn p.2]) = true :=
  shaped_tup (xs := [opn p.1, opn p.2]) (canLayAll_map opn opn_can [p.1, p.2]) (Nat.le_trans (depthAll_map opn 0 opn_dep [p.1, p.2]) (by omega))
theorem eqv_pair (p q : Pr) : PyData.eqv (.tuple [opn p.1, opn p.2]) (.tuple [opn q.1, opn q.2]) = decide (p = q) := by
  rw [eqv_tup]
  have z := eqvAll_map opn eqv_opn [p.1, p.2] [q.1, q.2]
  rw [show [opn p.1, opn p.2] = [p.1, p.2].map opn from rfl, show [opn q.1, opn q.2] = [q.1, q.2].map opn from rfl, z]
  obtain ⟨p1, p2⟩ := p
  obtain ⟨q1, q2⟩ := q
  by_cases e : p1 = q1 <;> by_cases e2 : p2 = q2 <;> simp [e, e2]
theorem RPr.at {F : Hp} {v : V} {p : Pr} (h : RPr F v p) : ∃ a, v = .ref a ∧ F a = some (.tup [onv p.1, onv p.2]) := by
  obtain ⟨a, u, w, rfl, ha, h1, h2⟩ := h
  have h1 := ro_onv h1
  have h2 := ro_onv h2
  subst h1 h2
  exact ⟨a, rfl, ha⟩
theorem head_lt {f : Nat → Bool} {n x : Nat} (h : ((List.range n).filter f).head? = some x) : x < n := by
  have : x ∈ (List.range n).filter f := List.mem_of_mem_head? h
  exact List.mem_range.mp (List.mem_filter.mp this).1
/-- a pair of limits, not both open, of a table of at most 12 things -/
def Small (p : Pr) : Prop := (∀ x, p.1 = some x → x ≤ 24) ∧ ∀ x, p.2 = some x → x ≤ 12
theorem limOf_small {n : Nat} {ev : List (List Row)} {ts : List (Option Int)} (hn : n ≤ 12) : Small (limOf n ev ts) :=
  ⟨fun x h => by have := head_lt h; omega, fun x h => by have := head_lt h; omega⟩
theorem small30 {p : Pr} (h : Small p) (hp : p ≠ (none, none)) (a : Nat) (hf : fit2 p a = true) : a < 30 := by
  obtain ⟨p1, p2⟩ := p
  unfold fit2 fitB at hf
  rw [Bool.and_eq_true] at hf
  cases p1 with
  | some x =>
    have h1 := h.1 x rfl
    have h2 := of_decide_eq_true hf.1
    omega
  | none =>
    cases p2 with
    | some y =>
      have h1 := h.2 y rfl
      have h2 := of_decide_eq_true hf.2
      omega
    | none => exact absurd rfl hp
theorem sum_rep (o k : Nat) : (List.replicate o k).sum = o * k := by
  induction o with
  | zero => simp
  | succ n ih => rw [List.replicate_succ, List.sum_cons, ih, Nat.succ_mul, Nat.add_comm]
theorem least_open (o : Nat) : Least (none, none) o (some (0, List.replicate o 1)) := by
  refine ⟨⟨by rw [sum_rep]; omega, fun x hx => by rw [List.eq_of_mem_replicate hx]; exact Nat.le_refl _, rfl⟩, ?_, fun c _ => Nat.zero_le _⟩
  unfold waitN
  rw [List.map_replicate, sum_rep]
  rfl
structure Best (p : Pr) (o : Nat) (D : Nat → En WC) (dn : Nat → Nat → Prop) (fd : Option WC) : Prop where
  so : ∀ x, fd = some x → Held p o x.2 ∧ waitN x.2 = x.1
  cov : ∀ c e, e ∈ D c → c < o → dn c e.1 → fitB p (e.1 * (o - c + 1)) (e.1 * (o - c)) = true → ∃ x, fd = some x ∧ x.1 ≤ e.2.1 + (o - c) * (o - c - 1) / 2
theorem Best.least {p : Pr} {o : Nat} {D : Nat → En WC} {fd : Option WC} (h : Best p o D (fun c _ => c < o) fd) (ho : 1 ≤ o) (hd : DpI (fun x : WC => x.1) goodP p o (fun c _ _ => c < o) D) : Least p o fd := by
  have key : ∀ c, Held p o c → ∃ x, fd = some x ∧ x.1 ≤ waitN c := by
    intro c hc
    obtain ⟨f, t, rfl, hf, ht, hs, hlt, h1, h2⟩ := held_split ho hc
    obtain ⟨e, e1, e2, e3⟩ := hd.all t ht hlt h2
    have hof : o - t.sum = f := by omega
    obtain ⟨x, x1, x2⟩ := h.cov t.sum e e1 hlt hlt (by rw [hof, e2]; exact h1)
    refine ⟨x, x1, ?_⟩
    rw [hof] at x2
    rw [waitN_cons]
    omega
  cases fd with
  | none => exact fun c hc => by obtain ⟨x, z, _⟩ := key c hc; cases z
  | some x =>
    refine ⟨(h.so x rfl).1, (h.so x rfl).2, fun c hc => ?_⟩
    obtain ⟨y, z, hy⟩ := key c hc
    cases z
    exact hy
/-- exactly what is told -/
def stepB (p : Pr) (o i : Nat) (fd : Option WC) (e : Nat × WC) : Option WC :=
  if fitB p (e.1 * (o - i + 1)) (e.1 * (o - i)) = true then some (pickW ((e.2.1 + (o - i) * (o - i - 1) / 2, (o - i) :: e.2.2) : WC) fd) else fd
def leastG (p : Pr) (o i : Nat) : Option WC := (List.range i).foldl (fun fd i => (lateF p o i).foldl (stepB p o i) fd) none
def leastF (p : Pr) (o : Nat) : Option WC := if p = (none, none) then some (0, List.replicate o 1) else leastG p o o
section
variable {P : Program} {w : World} {K : PySem.W.Frag} {mg : Str → Option Value} {base : Heap}
def sp_least_good (CR : Addr) : Sp := fun vs H Q E => ∃ F v vt n ties ts, ∃ o : Nat, vs = [v, vt, .int o] ∧ Sub F H ∧ Ok K F v vt n ties ts ∧ 1 ≤ o ∧ o ≤ 60 ∧
  (∀ r x F' H', Ex S0 F H F' H' → Least (limOf n (evOf n ties) ts) o (some x) → leastF (limOf n (evOf n ties) ts) o = some x → RWC F' r x → Q r H') ∧
  (Least (limOf n (evOf n ties) ts) o none → leastF (limOf n (evOf n ties) ts) o = none → ∀ d H1, Ex S0 F H F H1 → H1 d = none → E (.ref CR) (some d) (upd H1 d (.xd [("word", .str "held")])))
theorem fx_least_waiting (T : Txt K mg) {CT CN CR : Addr} (kInvalidTimes : ExKl P w K mg base "InvalidTimes" "at" CT) (kInvalidNumber : ExKl P w K mg base "InvalidNumber" "word" CN) (kRefused : ExKl P w K mg base "Refused" "word" CR) : FnD P w K mg base (L2.CX P w) 7 "least_waiting" sleastwaiting ["table", "times", "orders"] (fun vs H Q E => sp_least_good (K := K) CR vs H Q E ∨ sp_orders_bad (K := K) CT CN vs H Q E) := by
  have c_check_orders := c_check_orders (P := P) (w := w) (base := base) T
  have c_limits := c_limits (P := P) (w := w) (base := base) T
  have c_later_parts := c_later_parts (P := P) (w := w) (base := base) T
  have c_reaches_fit := c_reaches_fit (P := P) (w := w) (base := base) T
  have c_shorter_wait := c_shorter_wait (P := P) (w := w) (base := base) T
  have c_waiting_of := c_waiting_of (P := P) (w := w) (base := base) T
  refine mkFX T.d_least_waiting scleastwaiting (fun vs H Q E h => ?_) (fun f cdv A outer s H vs Q E hr h => ?_)
  · rcases h with h | h
    · obtain ⟨F, v, vt, n, ties, ts, o, rfl, _⟩ := h
      rfl
    · obtain ⟨F, v, vt, vo, n, ties, rfl, _⟩ := h
      rfl
  · have x_check_orders := x_check_orders (P := P) (w := w) (base := base) T kInvalidTimes kInvalidNumber
    refine ⟨_, (pss_cons (ps_expr (pe_cx x_check_orders (takes_of rfl rfl rfl rfl) hr (by decide) (by rfl) (pa_cons (pv 0) (pa_cons (pv 1) (pa_cons (pv 2) pa_nil)))))
    (pss_cons (ps_par (i := 3) (j := 4) (by rfl) scleastwaiting.nd rfl rfl (by decide) rfl rfl (pa_cons (C8.pe_c c_limits hr (by decide) (by rfl) (pa_cons (pv 0) (pa_cons (pv 1) pa_nil))) (pa_cons pe_non pa_nil)) (by rfl))
    (pss_cons (ps_if (pt_cmpR (op_eqD (hr.units)) (pv 3) (pe_tup (pa_cons pe_non (pa_cons pe_non pa_nil))) (nomark _)) (pss_one (ps_ret (pe_tup (pa_cons pe_int (pa_cons (pe_op op_repA (pe_tup (pa_cons pe_int pa_nil)) (pv 2)) pa_nil))))) pss_nil)
    (pss_cons (ps_for (passes_of rfl) rfl (pi_enum (by rfl) T.enumerate (pa_cons (C8.pe_c c_later_parts hr (by decide) (by rfl) (pa_cons (pv 3) (pa_cons (pv 2) pa_nil))) pa_nil)) (pg_tup rfl (pgs_cons ((pg_name (i := 5) scleastwaiting.nd rfl (Or.inl rfl))) (pgs_cons ((pg_name (i := 6) scleastwaiting.nd rfl (Or.inl rfl))) pgs_nil))) (pss_cons (ps_set (i := 7) scleastwaiting.nd rfl (Or.inl rfl) (pe_op op_sub (pv 2) (pv 5)))
    (pss_one (ps_lock (ps_for (passes_of rfl) rfl (pi_items (pv 6)) (pg_tup rfl (pgs_cons ((pg_name (i := 8) scleastwaiting.nd rfl (Or.inl rfl))) (pgs_cons ((pg_tup rfl (pgs_cons ((pg_name (i := 9) scleastwaiting.nd rfl (Or.inl rfl))) (pgs_cons ((pg_name (i := 10) scleastwaiting.nd rfl (Or.inl rfl))) pgs_nil)))) pgs_nil))) (pss_one (ps_if (pt_val (C8.pe_c c_reaches_fit hr (by decide) (by rfl) (pa_cons (pv 3) (pa_cons (pe_op op_mul (pv 8) (pe_op op_add (pv 7) pe_int)) (pa_cons (pe_op op_mul (pv 8) (pv 7)) pa_nil))))) (pss_one (ps_set (i := 4) scleastwaiting.nd rfl (Or.inl rfl) (C8.pe_c c_shorter_wait hr (by decide) (by rfl) (pa_cons (pe_tup (pa_cons (pe_op op_add (pv 9) (C8.pe_c c_waiting_of hr (by decide) (by rfl) (pa_cons (pe_tup (pa_cons (pv 7) pa_nil)) pa_nil))) (pa_cons (pe_op op_catA (pe_tup (pa_cons (pv 7) pa_nil)) (pv 10)) pa_nil))) (pa_cons (pv 4) pa_nil))))) pss_nil)))))))
    (pss_cons (ps_if (pt_cmpR op_isN (pv 4) pe_non (nomark _)) (pss_one (ps_raise rfl (takes_of rfl rfl rfl rfl) (pmk_k kRefused hr (by decide) (by rfl) (pa_cons pe_str pa_nil)))) pss_nil)
    (pss_one (ps_ret (pv 4)))))))), ?_⟩
    rcases h with h | h
    · obtain ⟨F, v, vt, n, ties, ts, o, rfl, sb, hok, h1, h2, q, q2⟩ := h
      obtain ⟨ht, hto, hn, hts, hl, hb, hdi⟩ := id hok
      walk_at "vc"
      refine .inl ⟨F, _, _, n, ties, ts, o, rfl, sb, hok, h1, h2, fun H1 e1 => ?_⟩
      walk_at "vc"
      refine ⟨F, _, _, n, ties, ts, rfl, e1.s, ht, hto, hn, hts, hl, hb, hdi, fun r F2 H2 e2 r2 => ?_⟩
      have e02 := e1.trans e2
      generalize hpp : limOf n (evOf n ties) ts = p at r2 q q2
      have hsm : Small p := by rw [← hpp]; exact limOf_small hn
      obtain ⟨pa, rfl, hpa⟩ := r2.at
      walk_at "vc"
      refine go_t2 (x := .non) (y := .non) (ex0 e2.s) fun pn F3 e3 s3 h3n => ?_
      refine ⟨_, _, dp_pair (p := p) (e3.s _ _ (s3 _ _ hpa)), dp_pair (p := (none, none)) (e3.s _ _ h3n), shaped_pair p, shaped_pair _, ?_⟩
      rw [eqv_pair]
      walk_at "vc"
      refine ite2 (fun hc => ?_) (fun hc => ?_)
      · have hc : p = (none, none) := of_decide_eq_true hc
        walk_at "vc"
        refine go_t1 e3 fun p1 F4 e4 s4 h4 => ?_
        walk_at "vc"
        refine go_rep' (k := o) e4 h4 rfl (by omega) fun p5 F5 H5 e5 s5 h5 => ?_
        refine go_t2 e5 fun p6 F6 e6 s6 h6 => ?_
        refine q _ (0, List.replicate o 1) _ _ (e02.trans e6) (by rw [hc]; exact least_open o) (by unfold leastF; rw [if_pos hc]) ⟨p6, _, _, rfl, h6, rfl, p5, _, rfl, s6 _ _ h5, paired_rep rfl⟩
      · have hc : p ≠ (none, none) := fun z => hc (decide_eq_true z)
        have hp30 := small30 hsm hc
        have e03 := e02.trans e3
        have hr3 : RPr F3 (.ref pa) p := Mono.up (r := RPr) s3 r2
        walk_at "vc"
        refine ⟨F3, _, p, o, rfl, e3.s, hr3, h1, h2, hp30, fun L F4 H4 ds D e4 hL hlen hds hdp hDe => ?_⟩
        refine ⟨_, _, rfl, lS (e4.s _ _ hL), ?_⟩
        generalize upd H2 pn (.tup [V.non, V.non]) = H3 at e03 e3 e4 hds
        refine for_it (walk_enum (xs := ds.map V.ref)) (fun i σ H5 => ∃ vf u5 u6 u7 u8 u9 u10, ∃ F5 fd, σ = [some v, some vt, some (.int o), some (.ref pa), some vf, u5, u6, u7, u8, u9, u10] ∧ Ex S0 F3 H3 F5 H5 ∧ RPr F5 (.ref pa) p ∧ F5 L = some (.lst (ds.map V.ref)) ∧ Dics RWC H3 F5 H5 ds D plain ∧ Ro RWC F5 vf fd ∧ Best p o D (fun c _ => c < i) fd ∧ fd = leastG p o i)
          ⟨.non, none, none, none, none, none, none, F4, none, rfl, e4, Mono.up (r := RPr) e4.f hr3, hL, hds, rfl, ⟨fun x z => (by cases z), fun c e _ _ h => (by omega)⟩, rfl⟩ (fun i σ H5 _ h => ?_) (fun i x σ H5 H6 hi h y => ?_) (fun σ H5 h => ?_)
        · obtain ⟨vf, u5, u6, u7, u8, u9, u10, F5, fd, rfl, e5, hp5, hL5, hds5, hf5, hb5, hx5⟩ := h
          exact lS (e5.s _ _ hL5)
        · obtain ⟨vf, u5, u6, u7, u8, u9, u10, F5, fd, rfl, e5, hp5, hL5, hds5, hf5, hb5, hx5⟩ := h
          obtain ⟨T0, x1, y1, rfl, t1, rfl, t2, t3⟩ := y
          cases t2
          obtain ⟨d, hdi, rfl⟩ := map_get t3
          have hi2 : i < o := by rw [List.length_map, hlen] at hi; exact hi
          have er6 : Ex S0 F5 H5 F5 (upd H5 T0 (.tup [.int (i : Nat), .ref d])) := Ex.own e5.s t1 (fun b z => False.elim z)
          have e6 := e5.trans er6
          have hds6 := hds5.up er6
          refine ⟨_, _, rfl, tS upd_same, rfl, ?_⟩
          walk_at "vc"
          generalize upd H5 T0 (.tup [V.int (i : Nat), .ref d]) = H6 at e6 hds6
          obtain ⟨k1, k2, kvs, k3, k4⟩ := hds6.2 i d hdi
          refine ⟨d, .dK kvs, k3, trivial, fun od => ?_⟩
          have hds7 := hds6.lock hdi k4 od
          have e7 := e6.put (o := .frz od (.dK kvs)) (.inl k1) k2
          have hlk : (D i).length = kvs.length := (Paired.length k4).symm
          walk_at "vc"
          refine ⟨_, _, _, rfl, upd_same, ?_⟩
          generalize hes : D i = es at k4 hlk
          have hes_nd : (keysE es).Nodup := hes ▸ hdp.nd i
          refine for_it walk_items (fun j σ H8 => ∃ vf u8 u9 u10, ∃ F8 fd, σ = [some v, some vt, some (.int o), some (.ref pa), some vf, some (.int (i : Nat)), some (.ref d), some (.int ((o : Int) - (i : Nat))), u8, u9, u10] ∧ Ex S0 F3 H3 F8 H8 ∧ RPr F8 (.ref pa) p ∧ F8 L = some (.lst (ds.map V.ref)) ∧ H8 d = some (.frz od (.dK kvs)) ∧ F8 d = none ∧ RD RWC F8 kvs es ∧ Dics RWC H3 F8 H8 ds D (locked i od) ∧ Ro RWC F8 vf fd ∧ Best p o D (fun c k => c < i ∨ (c = i ∧ k ∈ keysE (es.take j))) fd ∧ fd = (es.take j).foldl (stepB p o i) (leastG p o i))
            ⟨vf, u8, u9, u10, F5, fd, rfl, e7, hp5, hL5, upd_same, k2, k4, hds7, hf5, ⟨hb5.so, fun c e he hco h hfit => ?_⟩, hx5⟩ (fun j σ H8 _ h => ?_) (fun j x σ H8 H9 hj h y => ?_) (fun σ H8 h => ?_)
          · rcases h with h | ⟨_, h⟩
            · exact hb5.cov c e he hco h hfit
            · simp [keysE] at h
          · obtain ⟨vf, u8, u9, u10, F8, fd, rfl, e8, hp8, hL8, hd8, hF8, hr8, hds8, hf8, hb8, hx8⟩ := h
            exact hd8
          · obtain ⟨vf, u8, u9, u10, F8, fd, rfl, e8, hp8, hL8, hd8, hF8, hr8, hds8, hf8, hb8, hx8⟩ := h
            obtain ⟨T0, x1, y1, rfl, t1, rfl, t2, t3⟩ := y
            have hkj : kvs[j]? = some kvs[j] := List.getElem?_eq_getElem hj
            obtain ⟨e, he, hke, hre⟩ := Paired.getL hr8 hkj
            have t2 : (kvs[j]?.map fun kv => kV kv.1) = some x1 := t2
            have t3 : kvs[j]?.map Prod.snd = some y1 := t3
            rw [hkj] at t2 t3
            have t2 : x1 = nv e.1 := by
              have z : kV kvs[j].1 = x1 := Option.some.inj t2
              rw [← z, hke]; rfl
            have t3 : y1 = kvs[j].2 := (Option.some.inj t3).symm
            subst t2 t3
            obtain ⟨k, wt, ct⟩ := e
            obtain ⟨ra, v1, v2, hra, hra2, hv1, ca, cvs, hv2, hca, prc⟩ := hre
            have hv1 : v1 = nv wt := hv1
            subst hv1 hv2
            rw [hra]
            have hmem : (k, wt, ct) ∈ D i := hes.symm ▸ List.mem_of_getElem? he
            have er9 : Ex S0 F8 H8 F8 (upd H8 T0 (.tup [nv k, .ref ra])) := Ex.own e8.s t1 (fun b z => False.elim z)
            have hds9 := hds8.up er9
            have e9 := e8.trans er9
            have hd9 := (er9.keep hd8 (fun z => z) hF8).1
            refine ⟨_, _, rfl, tS upd_same, rfl, ?_⟩
            walk_at "vc"
            refine ⟨_, _, rfl, tS (e9.s _ _ hra2), rfl, ?_⟩
            generalize (upd H8 T0 (.tup [nv k, .ref ra])) = H9 at e9 hds9 hd9
            have ew1 : (k : Int) * ((o : Int) - (i : Nat) + 1) = ((k * (o - i + 1) : Nat) : Int) := by
              rw [Int.natCast_mul]; congr 1; omega
            have ew2 : (k : Int) * ((o : Int) - (i : Nat)) = ((k * (o - i) : Nat) : Int) := by
              rw [Int.natCast_mul]; congr 1; omega
            walk_at "vc"
            refine ⟨.inr ⟨by omega, by omega⟩, ?_⟩
            walk_at "vc"
            refine ⟨.inr ⟨by omega, by omega⟩, ?_⟩
            walk_at "vc"
            refine ⟨F8, _, p, k * (o - i + 1), k * (o - i), congrArg (fun z : Int × Int => [V.ref pa, V.int z.1, V.int z.2]) (Prod.ext ew1 ew2 : ((k : Int) * ((o : Int) - (i : Nat) + 1), (k : Int) * ((o : Int) - (i : Nat))) = ((((k * (o - i + 1) : Nat) : Int), ((k * (o - i) : Nat) : Int)) : Int × Int)), e9.s, hp8, ?_⟩
            walk_at "vc"
            have hgood := hdp.ok i _ hmem
            have hsplit : ∀ c e, e ∈ D c → c < o → (c < i ∨ (c = i ∧ e.1 ∈ keysE (es.take (j + 1)))) → (c < i ∨ (c = i ∧ e.1 ∈ keysE (es.take j))) ∨ (c = i ∧ e = (k, wt, ct)) := by
              intro c e hec hco h
              rcases h with h | ⟨rfl, h3⟩
              · exact .inl (.inl h)
              · unfold keysE at h3
                rw [take_snoc he, List.map_append] at h3
                rcases List.mem_append.mp h3 with h3 | h3
                · exact .inl (.inr ⟨rfl, h3⟩)
                · have h3 : e.1 = k := by simpa using h3
                  exact .inr ⟨rfl, nodup_inj (hdp.nd _) hec hmem h3⟩
            refine ite2 (fun hfit => ?_) (fun hfit => ?_)
            · walk_at "vc"
              refine go_t1 (ex0 e9.s) fun pa1 Fa ea sa hpa1 => ?_
              refine ⟨Fa, _, [o - i], rfl, ea.s, ⟨pa1, _, rfl, hpa1, .cons (by show V.int _ = V.int _; congr 1; omega) .nil⟩, by simp, by simp; omega, fun Hb eb => ?_⟩
              have eab := ea.trans eb
              walk_at "vc"
              refine go_t1 eab fun pc Fc ec sc hpc => ?_
              walk_at "vc"
              refine go_cat ec hpc (sc _ _ (sa _ _ hca)) (szk (by have hle := Paired.length prc; have hct := len_le_sum hgood.2.1; rw [hgood.1] at hct; simp at hct hle ⊢; omega)) fun pd Fd Hd ed sd hpd => ?_
              refine go_t2 ed fun pe Fe ee se hpe => ?_
              have hdse := hds9.up ee
              have eE := e9.trans ee
              have hwe : RWC Fe (.ref pe) ((wt + (o - i) * (o - i - 1) / 2, (o - i) :: ct) : WC) := by
                refine ⟨pe, _, _, rfl, hpe, ?_, pd, _, rfl, se _ _ hpd, .cons (by show V.int _ = V.int _; congr 1; omega) (Paired.up ee.f prc)⟩
                show V.int _ = V.int _
                simp [waitN]
              have hfE : Ro RWC Fe vf fd := Mono.up (r := Ro RWC) ee.f hf8
              walk_at "vc"
              refine ⟨Fe, _, _, _, fd, rfl, eE.s, hwe, hfE, fun r z hr hzx hz1 hz2 hze => ?_⟩
              have hheld : Held p o ((o - i) :: ct) := held_cons hgood.1 hgood.2.1 (by omega) (by omega) (by rw [hgood.2.2.1]; exact hfit)
              have hwx : waitN ((o - i) :: ct) = wt + (o - i) * (o - i - 1) / 2 := by rw [waitN_cons, hgood.2.2.2]; exact Nat.add_comm _ _
              have hke := ee.keep hd9 (fun z => z) hF8
              refine ⟨_, _, _, _, Fe, some z, rfl, eE, Mono.up (r := RPr) ee.f hp8, ee.f _ _ hL8, hke.1, hke.2, RD.up ee.f hr8, hdse, hr, ⟨fun x hx => ?_, fun c e hec hco h hf => ?_⟩, by rw [take_snoc he, foldl_snoc, ← hx8]; unfold stepB; rw [if_pos hfit, hze]⟩
              · cases hx
                rcases hzx with rfl | hzx
                · exact ⟨hheld, hwx⟩
                · exact hb8.so _ hzx.symm
              · rcases hsplit c e hec hco h with h | ⟨rfl, rfl⟩
                · obtain ⟨x, hx1, hx2⟩ := hb8.cov c e hec hco h hf
                  exact ⟨z, rfl, Nat.le_trans (hz2 x hx1) hx2⟩
                · exact ⟨z, rfl, hz1⟩
            · refine ⟨_, _, _, _, F8, fd, rfl, e9, hp8, hL8, hd9, hF8, hr8, hds9, hf8, ⟨hb8.so, fun c e hec hco h hf => ?_⟩, by rw [take_snoc he, foldl_snoc, ← hx8]; unfold stepB; rw [if_neg hfit]⟩
              rcases hsplit c e hec hco h with h | ⟨rfl, rfl⟩
              · exact hb8.cov c e hec hco h hf
              · exact absurd hf hfit
          · obtain ⟨vf, u8, u9, u10, F8, fd, rfl, e8, hp8, hL8, hd8, hF8, hr8, hds8, hf8, hb8, hx8⟩ := h
            refine ⟨hd8, _, _, _, _, _, _, _, F8, fd, rfl, e8.put (.inl k1) hF8, hp8, hL8, hds8.unlock hdi (hes.symm ▸ hr8), hf8, ⟨hb8.so, fun c e hec hco h hf => ?_⟩, by unfold leastG; rw [foldl_rs]; show fd = List.foldl (stepB p o i) (leastG p o i) (lateF p o i); rw [← hDe, hes]; rw [← hlk, List.take_length] at hx8; exact hx8⟩
            refine hb8.cov c e hec hco ?_ hf
            by_cases hc : c < i
            · exact .inl hc
            · have hc : c = i := by omega
              subst hc
              refine .inr ⟨rfl, ?_⟩
              rw [hes] at hec
              rw [← hlk, List.take_length]
              exact List.mem_map.mpr ⟨e, hec, rfl⟩
        · obtain ⟨vf, u5, u6, u7, u8, u9, u10, F5, fd, rfl, e5, hp5, hL5, hds5, hf5, hb5, hx5⟩ := h
          have hle : Least p o fd := by
            rw [List.length_map, hlen] at hb5
            exact hb5.least h1 hdp
          have e05 := e03.trans e5
          have hlf : leastF p o = fd := by
            rw [List.length_map, hlen] at hx5
            unfold leastF
            rw [if_neg hc]
            exact hx5.symm
          cases fd with
          | none =>
            have hf5 : vf = .non := hf5
            subst hf5
            walk_at "vc"
            exact go_raise fun d hd => q2 hle hlf d _ e05.low hd
          | some x =>
            obtain ⟨xa, x1, x2, rfl, hxa⟩ := id hf5
            walk_at "vc"
            exact q _ x _ _ e05 hle hlf hf5
    · obtain ⟨F, v, vt, vo, n, ties, rfl, h⟩ := h
      walk_at "vc"
      exact .inr ⟨F, v, vt, vo, n, ties, rfl, h⟩
theorem x_least_waiting (T : Txt K mg) {CT CN CR : Addr} (kInvalidTimes : ExKl P w K mg base "InvalidTimes" "at" CT) (kInvalidNumber : ExKl P w K mg base "InvalidNumber" "word" CN) (kRefused : ExKl P w K mg base "Refused" "word" CR) : CalX P w K mg base 7 "least_waiting" (fun vs H Q E => sp_least_good (K := K) CR vs H Q E ∨ sp_orders_bad (K := K) CT CN vs H Q E) := (fx_least_waiting T kInvalidTimes kInvalidNumber kRefused).calX (fun _ _ _ _ _ _ us hl => match us, hl with | [_, _, _], _ => rfl)
end
end Sa
set_option Elab.async false
set_option linter.all false
set_option maxRecDepth 100000
set_option maxHeartbeats 4000000
namespace Sa
open PySem PySem.Spec PyProof.Rows L2
local macro_rules | `(tactic| walk_at "vc") => `(tactic| repeat (first | refine ⟨_, rfl, ?_⟩ | refine ⟨_, _, rfl, rfl, ?_⟩ | refine ⟨_, _, rfl, ?_⟩ | refine ⟨rfl, ?_⟩))
def lettersS : Str := "abcdefghijklmnopqrstuvwxyz"
def NameOk (z : Str) : Prop := 1 ≤ z.length ∧ z.length ≤ 6 ∧ ∀ c, c ∈ z.cps.toList → c ∈ lettersS.cps.toList
def AscN (ns : List Str) : Prop := ∀ i a b, ns[i]? = some a → ns[i + 1]? = some b → a.cps.toList < b.cps.toList
def NamesOk (ns : List Str) : Prop := 1 ≤ ns.length ∧ ns.length ≤ 12 ∧ (∀ z ∈ ns, NameOk z) ∧ AscN ns
def TieOk (n : Nat) (t : Nat × Nat × Int) : Prop := t.1 < n ∧ t.2.1 < n ∧ t.1 ≠ t.2.1 ∧ -1000000 ≤ t.2.2 ∧ t.2.2 ≤ 1000000
theorem Ex.absorb {S : Addr → Prop} {F H F1 H1 F2 H2 : Hp} (a : Ex S0 F H F1 H1) (b : Ex S F1 H1 F2 H2) (h : ∀ x, S x → H x = none) : Ex S0 F H F2 H2 :=
  ⟨a.f.tr b.f, b.s, fun c q => (b.n c (a.l c q)).trans (a.n c q), fun c o _ q => b.k c o (fun z => by rw [h c z] at q; cases q) (a.k c o (fun z => z) q), fun c q => b.l c (a.l c q), fun _ z => z.elim⟩
section
variable {P : Program} {w : World} {K : PySem.W.Frag} {mg : Str → Option Value} {base : Heap}
def sp_is_name : Sp := fun vs H Q _ => ∃ F, ∃ z : Str, vs = [.str z] ∧ Sub F H ∧ NameOk z ∧ ∀ H', Ex S0 F H F H' → Q (.bl true) H'
theorem c_is_name (T : Txt K mg) : C8.Cal P w K mg base 1 "is_name" sp_is_name [] := by
  refine mkC T.d_is_name scisname (fun _ _ _ _ _ _ us hl => match us, hl with | [_], _ => rfl) (fun vs H Q E h => ?_) (fun f cdv A outer s H vs Q E hr h => ?_)
  · obtain ⟨F, z, rfl, _⟩ := h
    rfl
  · obtain ⟨F, z, rfl, sb, ⟨h1, h2, h3⟩, q⟩ := h
    refine ⟨_, (pss_cons (ps_if (PW.pt (pw_or (pt_not (pt_val (pe_callB call_isi (by rfl) T.isinstance (by decide +kernel) (pa_cons (pv 0) (pa_cons (pe_bltn (v := .ty "str") (u := .type "str") (by rfl) T.str (by decide +kernel) rfl) pa_nil))))) (pw_or1 (pt_not (pt_chain op_le op_le pe_int (pe_callB call_len (by rfl) T.len (by decide +kernel) (pa_cons (pv 0) pa_nil)) (C8.pe_gc rfl T.g_LONGEST_NAME)))))) (pss_one (ps_ret pe_bl)) pss_nil)
    (pss_one (ps_ret (pe_callB (cr_all rfl) (by rfl) T.all (by decide +kernel) (pa_cons (pe_lc (own := [("sign", 1)]) (tt := tYes) rfl scisname.nd (pi_str (pv 0)) (blkOk_by (N := N_isname) (sc := defScope sisname) (by decide +kernel)) (fun _ _ _ _ _ => pg_name (i := 1) scisname.nd rfl (Or.inl rfl) (Or.inr rfl)) (fun _ _ _ _ _ => pts_nil) (fun _ _ _ _ _ => (pe_cmpR op_in_sign (pv 1) (C8.pe_gc rfl T.g_LETTERS) (by rfl)))) pa_nil))))), ?_⟩
    walk_at "vc"
    refine ⟨_, _, .type Kd.str.ty, .type "str", _, rfl, .ty _, (show KdOf H (.str z) .str from ⟨z, rfl⟩).tyx, kit_kd .str .str (by simp), ?_⟩
    walk_at "vc"
    refine ⟨_, _, rfl, ⟨szk (by omega), rfl⟩, ?_⟩
    walk_at "vc"
    refine ifT (by simp; omega) ?_
    walk_at "vc"
    refine ifF (by simp; omega) ?_
    walk_at "vc"
    intro D hD
    have wk := walk_str (z := z)
    have hsz : z.cps.size = z.cps.toList.length := by simp
    rw [hsz] at wk
    refine lcX (re := Rb) (ds := z.cps.toList) wk sb (fun b z => False.elim z) hD (lt_sz (by have : z.length = z.cps.size := rfl; simp; omega)) (fun _ => true) (fun _ => true) (S := S0) (fun F1 H1 e => trivial) (fun i d x F1 H1 H2 hd e y Qy Qn q1 q2 => ?_) (fun F1 H1 ys e fD hDD pr1 => ?_)
    · obtain ⟨rfl, c, hc, rfl⟩ := y
      have hcm : c ∈ z.cps.toList := by
        have : z.cps.toList[i]? = some c := by simpa using hc
        exact List.mem_of_getElem? this
      walk_at "vc"
      have e5 : decide (c ∈ lettersS.cps.toList) = true := decide_eq_true (h3 c hcm)
      exact q1 rfl (.bl (decide (c ∈ lettersS.cps.toList))) F1 _ (Ex.refl e.s (fun b z => False.elim z)) (by rw [e5]; rfl)
    · have := paired_bls pr1
      subst this
      refine ⟨_, _, rfl, lS hDD, ?_⟩
      rw [all_tt (by simp)]
      exact q _ e.low
def sp_is_ascending : Sp := fun vs H Q _ => ∃ F v ns, vs = [v] ∧ Sub F H ∧ Rt Rs F v ns ∧ 1 ≤ ns.length ∧ ns.length ≤ 12 ∧ AscN ns ∧ ∀ H', Ex S0 F H F H' → Q (.bl true) H'
theorem c_is_ascending (T : Txt K mg) : C8.Cal P w K mg base 1 "is_ascending" sp_is_ascending [] := by
  refine mkC T.d_is_ascending scisascending (fun _ _ _ _ _ _ us hl => match us, hl with | [_], _ => rfl) (fun vs H Q E h => ?_) (fun f cdv A outer s H vs Q E hr h => ?_)
  · obtain ⟨F, v, ns, rfl, _⟩ := h
    rfl
  · obtain ⟨F, v, ns, rfl, sb, ⟨a, vs, rfl, ha, pr⟩, h0, hz, hasc, q⟩ := h
    have ew : vs = ns.map V.str := paired_strs pr
    subst ew
    refine ⟨_, (pss_one (ps_ret (pe_callB (cr_all rfl) (by rfl) T.all (by decide +kernel) (pa_cons (pe_lc (own := [("at", 1)]) (tt := tYes) rfl scisascending.nd (pi_range1 (by rfl) T.range (pa_cons (pe_op op_sub (pe_callB call_len (by rfl) T.len (by decide +kernel) (pa_cons (pv 0) pa_nil)) pe_int) pa_nil)) (blkOk_by (N := N_isascending) (sc := defScope sisascending) (by decide +kernel)) (fun _ _ _ _ _ => pg_name (i := 1) scisascending.nd rfl (Or.inl rfl) (Or.inr rfl)) (fun _ _ _ _ _ => pts_nil) (fun _ _ _ _ _ => (pe_cmpR op_lt_str (pe_ix (kx_ix_tup K rfl) (pv 0) (pv 1) (fun _ _ => rfl)) (pe_ix (kx_ix_tup K rfl) (pv 0) (pe_op op_add (pv 1) pe_int) (fun _ _ => rfl)) (nomark _)))) pa_nil)))), ?_⟩
    walk_at "vc"
    refine ⟨_, _, rfl, lenT' (tS (sb _ _ ha)) (List.length_map ..), ?_⟩
    walk_at "vc"
    refine ⟨by omega, by omega, ?_⟩
    intro D hD
    refine lcX (re := Rb) (ds := List.range (ns.length - 1)) (walk_rg (by omega)) sb (fun b z => False.elim z) hD (lt_sz (by simp; omega)) (fun _ => true) (fun _ => true) (S := S0) (fun F1 H1 e => trivial) (fun i d x F1 H1 H2 hd e y Qy Qn q1 q2 => ?_) (fun F1 H1 ys e fD hDD pr1 => ?_)
    · obtain ⟨rfl, rfl⟩ := y
      obtain ⟨rfl, hi⟩ := range_get hd
      have g1 : ns[d]? = some (ns.getD d "") := getD_getG (by omega)
      have g2 : ns[d + 1]? = some (ns.getD (d + 1) "") := getD_getG (by omega)
      walk_at "vc"
      refine ⟨_, _, _, _, rfl, rfl, tS (e.fh _ _ ha), atI_nat (v := V.str (ns.getD d "")) (by rw [List.getElem?_map, g1]; rfl), ?_⟩
      walk_at "vc"
      refine ⟨_, _, _, _, rfl, rfl, tS (e.fh _ _ ha), atI_z (i := d + 1) (by omega) (v := V.str (ns.getD (d + 1) "")) (by rw [List.getElem?_map, g2]; rfl), ?_⟩
      have e5 : decide ((ns.getD d "").cps.toList < (ns.getD (d + 1) "").cps.toList) = true := decide_eq_true (hasc d _ _ g1 g2)
      refine ⟨_, _, rfl, rfl, ?_⟩
      exact q1 rfl (.bl (decide ((ns.getD d "").cps.toList < (ns.getD (d + 1) "").cps.toList))) F1 _ (Ex.refl e.s (fun b z => False.elim z)) (by rw [e5]; rfl)
    · have := paired_bls pr1
      subst this
      refine ⟨_, _, rfl, lS hDD, ?_⟩
      rw [all_tt (by simp)]
      exact q _ e.low
def sp_are_things : Sp := fun vs H Q _ => ∃ F v ns, vs = [v] ∧ Sub F H ∧ Rt Rs F v ns ∧ NamesOk ns ∧ ∀ H', Ex S0 F H F H' → Q (.bl true) H'
theorem c_are_things (T : Txt K mg) : C8.Cal P w K mg base 2 "are_things" sp_are_things [] := by
  have c_is_ascending := c_is_ascending (P := P) (w := w) (base := base) T
  have c_is_name := c_is_name (P := P) (w := w) (base := base) T
  refine mkC T.d_are_things scarethings (fun _ _ _ _ _ _ us hl => match us, hl with | [_], _ => rfl) (fun vs H Q E h => ?_) (fun f cdv A outer s H vs Q E hr h => ?_)
  · obtain ⟨F, v, ns, rfl, _⟩ := h
    rfl
  · obtain ⟨F, v, ns, rfl, sb, hns, ⟨h1, h2, h3, h4⟩, q⟩ := h
    obtain ⟨a, vs, rfl, ha, pr⟩ := id hns
    have ew : vs = ns.map V.str := paired_strs pr
    subst ew
    refine ⟨_, (pss_cons (ps_if (PW.pt (pw_or (pt_not (pt_val (pe_callB call_isi (by rfl) T.isinstance (by decide +kernel) (pa_cons (pv 0) (pa_cons (pe_bltn (v := .ty "tuple") (u := .type "tuple") (by rfl) T.tuple (by decide +kernel) rfl) pa_nil))))) (pw_or1 (pt_not (pt_chain op_le op_le pe_int (pe_callB call_len (by rfl) T.len (by decide +kernel) (pa_cons (pv 0) pa_nil)) (C8.pe_gc rfl T.g_MOST_THINGS)))))) (pss_one (ps_ret pe_bl)) pss_nil)
    (pss_one (ps_ret (pe_and (pe_callB (cr_all rfl) (by rfl) T.all (by decide +kernel) (pa_cons (pe_lc (own := [("name", 1)]) (tt := tYes) rfl scarethings.nd (pi_tup (pv 0)) (blkOk_by (N := N_arethings) (sc := defScope sarethings) (by decide +kernel)) (fun _ _ _ _ _ => pg_name (i := 1) scarethings.nd rfl (Or.inl rfl) (Or.inr rfl)) (fun _ _ _ _ _ => pts_nil) (fun _ _ _ _ _ => (C8.pe_c c_is_name hr (by decide) (by rfl) (pa_cons (pv 1) pa_nil)))) pa_nil)) (pe_one (C8.pe_c c_is_ascending hr (by decide) (by rfl) (pa_cons (pv 0) pa_nil))))))), ?_⟩
    walk_at "vc"
    refine ⟨_, _, .type Kd.tup.ty, .type "tuple", _, rfl, .ty _, (kdT (sb _ _ ha)).tyx, kit_kd .tup .tup (by simp), ?_⟩
    walk_at "vc"
    refine ⟨_, _, rfl, lenT' (tS (sb _ _ ha)) (List.length_map ..), ?_⟩
    walk_at "vc"
    refine ifT (by simp; omega) ?_
    walk_at "vc"
    refine ifF (by simp; omega) ?_
    walk_at "vc"
    refine ⟨⟨_, tS (sb _ _ ha)⟩, ?_⟩
    intro D hD
    refine lcX (re := Rb) (ds := ns) (walk_tm ns V.str) sb (fun b z => False.elim z) hD (lt_sz (by omega)) (fun _ => true) (fun _ => true) (S := S0) (fun F1 H1 e => tS (e.fh _ _ ha)) (fun i d x F1 H1 H2 hd e y Qy Qn q1 q2 => ?_) (fun F1 H1 ys e fD hDD pr1 => ?_)
    · obtain ⟨rfl, e3⟩ := y
      obtain ⟨z, ez, rfl⟩ := map_get e3
      walk_at "vc"
      refine ⟨F1, z, rfl, e.s, h3 z (List.mem_of_getElem? ez), fun H5 e5 => ?_⟩
      exact q1 rfl _ F1 _ e5 rfl
    · have := paired_bls pr1
      subst this
      refine ⟨_, _, rfl, lS hDD, ?_⟩
      rw [all_tt (by simp)]
      walk_at "vc"
      refine ⟨F1, _, ns, rfl, e.s, Mono.up (r := Rt Rs) e.f hns, h1, h2, h4, fun H5 e5 => ?_⟩
      exact q _ (e.trans e5).low
def sp_is_tie : Sp := fun vs H Q _ => ∃ F v t, ∃ n : Nat, vs = [v, .int n] ∧ Sub F H ∧ R3 Rn Rn Ri F v t ∧ TieOk n t ∧ ∀ H', Ex S0 F H F H' → Q (.bl true) H'
theorem c_is_tie (T : Txt K mg) : C8.Cal P w K mg base 2 "is_tie" sp_is_tie [] := by
  have c_is_integer := c_is_integer (P := P) (w := w) (base := base) T
  refine mkC T.d_is_tie scistie (fun _ _ _ _ _ _ us hl => match us, hl with | [_, _], _ => rfl) (fun vs H Q E h => ?_) (fun f cdv A outer s H vs Q E hr h => ?_)
  · obtain ⟨F, v, t, n, rfl, _⟩ := h
    rfl
  · obtain ⟨F, v, ⟨one, other, wt⟩, n, rfl, sb, ⟨a, u1, u2, u3, rfl, ha, rfl, rfl, rfl⟩, ⟨h1, h2, h3, h4, h5⟩, q⟩ := h
    simp only at h1 h2 h3 h4 h5
    refine ⟨_, (pss_cons (ps_if (PW.pt (pw_or (pt_not (pt_val (pe_callB call_isi (by rfl) T.isinstance (by decide +kernel) (pa_cons (pv 0) (pa_cons (pe_bltn (v := .ty "tuple") (u := .type "tuple") (by rfl) T.tuple (by decide +kernel) rfl) pa_nil))))) (pw_or (pt_cmpR op_ne (pe_callB call_len (by rfl) T.len (by decide +kernel) (pa_cons (pv 0) pa_nil)) pe_int (nomark _)) (pw_or1 (pt_not (pt_val (pe_callB (cr_all rfl) (by rfl) T.all (by decide +kernel) (pa_cons (pe_lc (own := [("item", 5)]) (tt := tYes) rfl scistie.nd (pi_tup (pv 0)) (blkOk_by (N := N_istie) (sc := defScope sistie) (by decide +kernel)) (fun _ _ _ _ _ => pg_name (i := 5) scistie.nd rfl (Or.inl rfl) (Or.inr rfl)) (fun _ _ _ _ _ => pts_nil) (fun _ _ _ _ _ => (C8.pe_c c_is_integer hr (by decide) (by rfl) (pa_cons (pv 5) pa_nil)))) pa_nil)))))))) (pss_one (ps_ret pe_bl)) pss_nil)
    (pss_cons (ps_asg (pv 0) (pg_tup rfl (pgs_cons ((pg_name (i := 2) scistie.nd rfl (Or.inl rfl))) (pgs_cons ((pg_name (i := 3) scistie.nd rfl (Or.inl rfl))) (pgs_cons ((pg_name (i := 4) scistie.nd rfl (Or.inl rfl))) pgs_nil)))))
    (pss_one (ps_ret (pe_and (pe_chain op_le op_lt pe_int (pv 2) (pv 1)) (pe_and (pe_chain op_le op_lt pe_int (pv 3) (pv 1)) (pe_and (pe_cmpR op_ne (pv 2) (pv 3) (nomark _)) (pe_one (pe_cmpR op_le (pe_callB call_abs (by rfl) T.abs (by decide +kernel) (pa_cons (pv 4) pa_nil)) (C8.pe_gc rfl T.g_MOST_WEIGHT) (nomark _)))))))))), ?_⟩
    walk_at "vc"
    refine ⟨_, _, .type Kd.tup.ty, .type "tuple", _, rfl, .ty _, (kdT (sb _ _ ha)).tyx, kit_kd .tup .tup (by simp), ?_⟩
    walk_at "vc"
    refine ⟨_, _, rfl, lenT (tS (sb _ _ ha)), ?_⟩
    walk_at "vc"
    refine ⟨⟨_, tS (sb _ _ ha)⟩, ?_⟩
    intro D hD
    refine lcX (re := Rb) (ds := [V.int (one : Int), V.int (other : Int), V.int wt]) (walk_tup (xs := [V.int (one : Int), V.int (other : Int), V.int wt])) sb (fun b z => False.elim z) hD (lt_sz (by simp)) (fun _ => true) (fun _ => true) (S := S0) (fun F1 H1 e => tS (e.fh _ _ ha)) (fun i d x F1 H1 H2 hd e y Qy Qn q1 q2 => ?_) (fun F1 H1 ys e fD hDD pr1 => ?_)
    · obtain ⟨rfl, e3⟩ := y
      have hx : ∃ z, x = .int z := by
        have hm := List.mem_of_getElem? e3
        simp at hm
        rcases hm with h | h | h <;> exact ⟨_, h⟩
      obtain ⟨z, rfl⟩ := hx
      walk_at "vc"
      refine ⟨_, .int, rfl, ⟨_, rfl⟩, ?_⟩
      exact q1 rfl _ F1 _ (Ex.refl e.s (fun b z => False.elim z)) rfl
    · have := paired_bls pr1
      subst this
      refine ⟨_, _, rfl, lS hDD, ?_⟩
      rw [all_tt (by simp)]
      walk_at "vc"
      refine ⟨_, _, rfl, tS (e.fh _ _ ha), rfl, ?_⟩
      walk_at "vc"
      refine ifT (by simp; omega) ?_
      walk_at "vc"
      refine ifT (by simp; omega) ?_
      walk_at "vc"
      refine ifT (by simp; omega) ?_
      walk_at "vc"
      have e5 : decide ((if wt < 0 then -wt else wt) ≤ 1000000) = true := by
        apply decide_eq_true
        split <;> omega
      have q5 := q _ e.low
      rw [← e5] at q5
      exact q5
end
end Sa
set_option Elab.async false
set_option linter.all false
set_option maxRecDepth 100000
set_option maxHeartbeats 4000000
namespace Sa
open PySem PySem.Spec PyProof.Rows L2
local macro_rules | `(tactic| walk_at "vc") => `(tactic| repeat (first | refine ⟨_, rfl, ?_⟩ | refine ⟨_, _, rfl, rfl, ?_⟩ | refine ⟨_, _, rfl, ?_⟩ | refine ⟨rfl, ?_⟩))
/-- the class Table, as it lies there -/
structure TabD (K : PySem.W.Frag) (mg : Str → Option Value) (C : Addr) : Prop where
  ex : ∃ f fd, FunD K "__init__" "Table.__init__" (defArgs sTableinit) (defBody sTableinit) (defScope sTableinit) [] [] f fd ∧ Mk K C f
  hm : mg "Table" = some (.ref C)
  cl : Cls K C
  n1 : NoAttr K C "things"
  n2 : NoAttr K C "ties"
section
variable {P : Program} {w : World} {K : PySem.W.Frag} {mg : Str → Option Value} {base : Heap}
def sp_Table (C : Addr) : Sp := fun vs H Q _ => ∃ F x dx vn vt names ties, vs = [.ref x, vn, vt] ∧ Sub F H ∧ F x = none ∧ H x = some (.ins C dx []) ∧ Rt Rs F vn names ∧ NamesOk names ∧ Rt (R3 Rn Rn Ri) F vt ties ∧ ties.length ≤ 60 ∧ (∀ t ∈ ties, TieOk names.length t) ∧
  ∀ H' fs, Ex (fun b => b = x) F H F H' → H' x = some (.ins C dx fs) → (∀ F', Sub F F' → F' x = some (.ins C dx fs) → RTab K F' (.ref x) names.length ties) → Q .non H'
theorem cTable (T : Txt K mg) {C : Addr} (TD : TabD K mg C) : C8.Mak P w K mg base 3 "Table" C (sp_Table (K := K) C) [] := by
  have c_are_things := c_are_things (P := P) (w := w) (base := base) T
  have c_is_tie := c_is_tie (P := P) (w := w) (base := base) T
  obtain ⟨f, fd, Fd, M⟩ := TD.ex
  refine ⟨f, fd, ["self", "things", "ties"], [], M, Fd.ok scTableinit (fun vs H Q E h => ?_) (fun cdv A outer s H vs Q E hr h => ?_), TD.hm, Fd.bindsN (fun _ _ _ _ _ _ us hl => match us, hl with | [_, _, _], _ => rfl), .nil⟩
  · obtain ⟨F, x, dx, vn, vt, names, ties, rfl, _⟩ := h
    rfl
  · obtain ⟨F, x, dx, vn, vt, names, ties, rfl, sb, fx, hx, hn, hok, ht, hz, hties, q⟩ := h
    have hnl : 1 ≤ names.length ∧ names.length ≤ 12 := ⟨hok.1, hok.2.1⟩
    suffices hh : ∃ t, PSs (cxOf C8.CX0 P w K mg base N_Tableinit "Table.__init__" (defScope sTableinit) f cdv A outer s H E).nox (defBody sTableinit) t ∧ t { nx := fun _ H' => Q .non H', rt := Q } (start N_Tableinit [.ref x, vn, vt]) H by
      obtain ⟨t, h1, h2⟩ := hh
      exact ⟨t, h1.nox, h2⟩
    obtain ⟨na, nvs, rfl, hna, prn⟩ := id hn
    obtain ⟨ta, tvs, rfl, hta, prt⟩ := id ht
    refine ⟨_, (pss_cons (ps_if (pt_not (pt_val (C8.pe_c c_are_things hr (by decide) (by rfl) (pa_cons (pv 1) pa_nil)))) (pss_one ps_never) pss_nil)
    (pss_cons (ps_if (PW.pt (pw_or (pt_not (pt_val (pe_callB call_isi (by rfl) T.isinstance (by decide +kernel) (pa_cons (pv 2) (pa_cons (pe_bltn (v := .ty "tuple") (u := .type "tuple") (by rfl) T.tuple (by decide +kernel) rfl) pa_nil))))) (pw_or1 (pt_cmpR op_gt (pe_callB call_len (by rfl) T.len (by decide +kernel) (pa_cons (pv 2) pa_nil)) (C8.pe_gc rfl T.g_MOST_TIES) (nomark _))))) (pss_one ps_never) pss_nil)
    (pss_cons (ps_for PassesOwn.never rfl (pi_enumT (by rfl) T.enumerate (pa_cons (pv 2) pa_nil)) (pg_tup rfl (pgs_cons ((pg_name (i := 3) scTableinit.nd rfl (Or.inl rfl))) (pgs_cons ((pg_name (i := 4) scTableinit.nd rfl (Or.inl rfl))) pgs_nil))) (pss_one (ps_if (pt_not (pt_val (C8.pe_c c_is_tie hr (by decide) (by rfl) (pa_cons (pv 4) (pa_cons (pe_callB call_len (by rfl) T.len (by decide +kernel) (pa_cons (pv 1) pa_nil)) pa_nil))))) (pss_one ps_never) pss_nil)))
    (pss_cons (ps_fld (pv 0) (pv 1) rfl)
    (pss_one (ps_fld (pv 0) (pv 2) rfl)))))), ?_⟩
    walk_at "vc"
    refine ⟨F, _, names, rfl, sb, hn, hok, fun H1 e1 => ?_⟩
    walk_at "vc"
    refine ⟨_, _, .type Kd.tup.ty, .type "tuple", _, rfl, .ty _, (kdT (e1.s _ _ hta)).tyx, kit_kd .tup .tup (by simp), ?_⟩
    walk_at "vc"
    refine ⟨_, _, rfl, lenT' (tS (e1.s _ _ hta)) (Paired.length prt), ?_⟩
    walk_at "vc"
    refine ifF (by simp; omega) ?_
    walk_at "vc"
    refine ⟨_, _, rfl, tS (e1.s _ _ hta), ?_⟩
    refine for_it (walk_enumT (xs := tvs)) (fun i σ H2 => ∃ u v, σ = [some (.ref x), some (.ref na), some (.ref ta), u, v] ∧ Ex S0 F H F H2) ⟨none, none, rfl, e1⟩ (fun i σ H2 _ h => ?_) (fun i y σ H2 H3 hi h yy => ?_) (fun σ H2 h => ?_)
    · obtain ⟨u, v, rfl, e⟩ := h
      exact tS (e.s _ _ hta)
    · obtain ⟨u, v, rfl, e⟩ := h
      obtain ⟨T0, x1, y1, rfl, t1, rfl, t2, t3⟩ := yy
      cases t2
      have t3 : tvs[i]? = some y1 := t3
      obtain ⟨t, ht1, ht2⟩ := Paired.getL prt t3
      have e4 : Ex S0 F H F (upd H2 T0 (.tup [.int (i : Nat), y1])) := e.trans (Ex.own e.s t1 e.t1)
      refine ⟨_, _, rfl, tS upd_same, rfl, ?_⟩
      walk_at "vc"
      refine ⟨_, _, rfl, lenT' (tS (e4.s _ _ hna)) (Paired.length prn), ?_⟩
      refine ⟨F, _, t, names.length, rfl, e4.s, ht2, hties t (List.mem_of_getElem? ht1), fun H5 e5 => ?_⟩
      walk_at "vc"
      exact e4.trans e5
    · obtain ⟨u, v, rfl, e⟩ := h
      have kx := e.keep hx (fun z => z) fx
      walk_at "vc"
      refine ⟨_, C, dx, [], rfl, kx.1, TD.cl, TD.n1, by simp, ?_⟩
      walk_at "vc"
      refine ⟨_, C, dx, _, rfl, upd_same, TD.cl, TD.n2, by simp [putF], ?_⟩
      have eS : Ex (fun b => b = x) F H F H2 := e.of0 (fun b z => by rw [z, hx]; simp)
      have e6 := (eS.put (o := .ins C dx (putF "things" (.ref na) [])) (.inr rfl) fx).put (o := .ins C dx (putF "ties" (.ref ta) (putF "things" (.ref na) []))) (.inr rfl) fx
      refine q _ _ e6 upd_same fun F' hs hx' => ⟨x, C, dx, _, na, nvs, .ref ta, rfl, hx', TD.cl, TD.n1, TD.n2, rfl, rfl, hs _ _ hna, Paired.length prn, ta, tvs, rfl, hs _ _ hta, Paired.up hs prt⟩
end
end Sa
set_option Elab.async false
set_option linter.all false
set_option maxRecDepth 100000
set_option maxHeartbeats 4000000
namespace Sa
open PySem PySem.Spec PyProof.Rows L2
local macro_rules | `(tactic| walk_at "vc") => `(tactic| repeat (first | refine ⟨_, rfl, ?_⟩ | refine ⟨_, _, rfl, rfl, ?_⟩ | refine ⟨_, _, rfl, ?_⟩ | refine ⟨rfl, ?_⟩))
def iterRow (ties : Ties) (r : Row) : Nat → Row
  | 0 => r
  | k + 1 => nextRow ties (iterRow ties r k)
theorem iterRow_len (ties : Ties) (r : Row) : ∀ k, (iterRow ties r k).length = r.length
  | 0 => rfl
  | k + 1 => by show (nextRow ties _).length = _; rw [nextRow_len, iterRow_len ties r k]
def rowsL (ties : Ties) (r : Row) (m : Nat) : List Row := (List.range (m + 1)).map (iterRow ties r)
def allR (n : Nat) (ties : Ties) : List (List Row) := (List.range n).map fun t => rowsL ties (startRow n t) (2 * n + 2)
abbrev LRow : Rp Row := Rl (Ro Ri)
abbrev LRows : Rp (List Row) := Rl LRow
abbrev LAll : Rp (List (List Row)) := Rl LRows
abbrev RN2 : Rp (Nat × Nat) := R2 Rn Rn
theorem dp_empty {K : PySem.W.Frag} {H : Hp} {a : Addr} (h : H a = some (.tup [])) : Dp K H (.ref a) (.tuple []) := .tup (tS h) .nil
theorem dp_nats {K : PySem.W.Frag} {H : Hp} {a : Addr} {ns : List Nat} (h : H a = some (.tup (ns.map nv))) : Dp K H (.ref a) (.tuple (ns.map fun n : Nat => PyData.int (n : Int))) := .tup (tS h) (dpAll_map nv (fun n => PyData.int (n : Nat)) (fun n => .int _) ns)
theorem dp_lnats {K : PySem.W.Frag} {H : Hp} {a : Addr} {ns : List Nat} (h : H a = some (.lst (ns.map nv))) : Dp K H (.ref a) (.list (ns.map fun n : Nat => PyData.int (n : Int))) := .lst (lS h) (dpAll_map nv (fun n => PyData.int (n : Nat)) (fun n => .int _) ns)
theorem sh_nats (ns : List Nat) : SeqAt.shaped (.tuple (ns.map fun n : Nat => PyData.int (n : Int))) = true := shaped_tup (canLayAll_map _ (fun _ => rfl) ns) (Nat.le_trans (depthAll_map _ 0 (fun _ => Nat.le_refl _) ns) (by omega))
theorem sh_lnats (ns : List Nat) : SeqAt.shaped (.list (ns.map fun n : Nat => PyData.int (n : Int))) = true := shaped_lst (canLayAll_map _ (fun _ => rfl) ns) (Nat.le_trans (depthAll_map _ 0 (fun _ => Nat.le_refl _) ns) (by omega))
theorem sum_range2 (n : Nat) : 2 * (List.range n).sum = n * (n - 1) := by
  induction n with
  | zero => rfl
  | succ k ih =>
    rw [List.range_succ, List.sum_append, Nat.mul_add, ih]
    simp
    cases k with
    | zero => rfl
    | succ j => simp; rw [Nat.mul_comm (j + 1) j, ← Nat.add_mul]
theorem sum_range (n : Nat) : (List.range n).sum = n * (n - 1) / 2 := by
  have := sum_range2 n
  omega
section
variable {P : Program} {w : World} {K : PySem.W.Frag} {mg : Str → Option Value} {base : Heap}
def sp__law_reaches : Sp := fun vs H Q _ => ∃ F v c, vs = [v] ∧ Sub F H ∧ Rt Rn F v c ∧ GoodB c ∧ ∀ r F' H', Ex S0 F H F' H' → RN2 F' r (walkR c, ringR c) → Q r H'
theorem c__law_reaches (T : Txt K mg) : C8.Cal P w K mg base 1 "_law_reaches" sp__law_reaches [] := by
  refine mkC T.d__law_reaches scLreaches (fun _ _ _ _ _ _ us hl => match us, hl with | [_], _ => rfl) (fun vs H Q E h => ?_) (fun f cdv A outer s H vs Q E hr h => ?_)
  · obtain ⟨F, v, c, rfl, _⟩ := h
    rfl
  · obtain ⟨F, v, ns, rfl, sb, ⟨a, vs, rfl, ha, pr⟩, ⟨hz, hb⟩, q⟩ := h
    have ew : vs = ns.map nv := paired_nats pr
    subst ew
    refine ⟨_, (pss_cons (ps_if (pt_cmpR (op_eqD (hr.units)) (pv 0) (pe_tup pa_nil) (nomark _)) (pss_one (ps_ret (pe_tup (pa_cons pe_int (pa_cons pe_int pa_nil))))) pss_nil)
    (pss_cons (ps_set (i := 1) scLreaches.nd rfl (Or.inl rfl) pe_int)
    (pss_cons (ps_for PassesOwn.never rfl (pi_tup (pe_slice sl_tupA (pv 0) (po_some pe_int) po_none)) (pg_name (i := 2) scLreaches.nd rfl (Or.inl rfl)) (pss_one (ps_set (i := 1) scLreaches.nd rfl (Or.inl rfl) (pe_op op_mul (pv 1) (pe_op op_add (pv 2) pe_int)))))
    (pss_one (ps_ret (pe_tup (pa_cons (pe_op op_mul (pv 1) (pe_op op_add (pe_ix ix_tup (pv 0) pe_int (fun _ _ => rfl)) pe_int)) (pa_cons (pe_op op_mul (pe_ix ix_tup (pv 0) pe_int (fun _ _ => rfl)) (pv 1)) pa_nil)))))))), ?_⟩
    walk_at "vc"
    refine go_tup (xs := []) (ex0 sb) (szk (by simp)) fun p0 F1 e1 s1 h1 => ?_
    refine ⟨_, _, dp_nats (e1.s _ _ (s1 _ _ ha)), dp_empty (e1.s _ _ h1), sh_nats ns, shaped_tup rfl (Nat.zero_le _), ?_⟩
    walk_at "vc"
    cases ns with
    | nil =>
      refine ifT rfl ?_
      walk_at "vc"
      refine go_t2 e1 fun p2 F2 e2 s2 h2 => q _ _ _ e2 ⟨p2, _, _, rfl, h2, rfl, rfl⟩
    | cons b t =>
      refine ifF (fun z => by cases z) ?_
      walk_at "vc"
      refine ⟨_, _, rfl, tS (e1.s _ _ (s1 _ _ ha)), fun z => ?_, fun _ p1 hp1 => ?_⟩
      · exfalso
        have z1 := z.1
        rw [show ((1 : Int)) = ((1 : Nat) : Int) from rfl, HT.sIx_nat] at z1
        simp at z1
      · rw [List.map_cons, cut_tail]
        obtain ⟨e2, h2, s2⟩ := newT e1 (xs := t.map nv) hp1
        generalize upd (upd H p0 (.tup [])) p1 (.tup (t.map nv)) = H2 at e2
        generalize upd F1 p1 (.tup (t.map nv)) = F2 at e2 h2 s2
        refine ⟨_, rfl, ⟨_, tS (e2.s _ _ h2)⟩, ?_⟩
        refine for_it (walk_tm t nv) (fun i σ H3 => ∃ u, σ = [some (.ref a), some (nv ((t.take i).foldl (fun a b => a * (b + 1)) 1)), u] ∧ H3 = H2) ⟨none, rfl, rfl⟩ (fun i σ H3 _ h => ?_) (fun i x σ H3 H4 hi h y => ?_) (fun σ H3 h => ?_)
        · obtain ⟨u, rfl, rfl⟩ := h
          exact tS (e2.s _ _ h2)
        · obtain ⟨u, rfl, rfl⟩ := h
          obtain ⟨rfl, e3⟩ := y
          obtain ⟨z, ez, rfl⟩ := map_get e3
          have b1 := hb z (List.mem_cons_of_mem _ (List.mem_of_getElem? ez))
          walk_at "vc"
          refine ⟨.inr ⟨by omega, by omega⟩, ?_⟩
          refine ⟨some (nv z), ?_, rfl⟩
          rw [take_snoc ez, List.foldl_append]
          show [_, some (V.int _), _] = [_, some (V.int _), _]
          simp [List.foldl]
        · obtain ⟨u, rfl, rfl⟩ := h
          rw [List.take_length]
          have b1 := hb b (List.mem_cons_self ..)
          have hA : H3 a = some (.tup ((b :: t).map nv)) := e2.s _ _ (s2 _ _ (s1 _ _ ha))
          walk_at "vc"
          refine ⟨_, _, _, _, rfl, rfl, tS hA, (atI_nat (i := 0) (v := nv b) rfl : _), ?_⟩
          walk_at "vc"
          refine ⟨.inr ⟨by omega, by omega⟩, ?_⟩
          walk_at "vc"
          refine ⟨_, _, _, _, rfl, rfl, tS hA, (atI_nat (i := 0) (v := nv b) rfl : _), ?_⟩
          walk_at "vc"
          refine ⟨.inl ⟨by omega, by omega⟩, ?_⟩
          refine go_t2 e2 fun p5 F5 e5 s5 h5 => q _ _ _ e5 ⟨p5, _, _, rfl, h5, ?_, ?_⟩
          · show V.int _ = V.int _
            rw [walkR_cons, Nat.mul_comm (b + 1)]
            simp [walkR]
          · show V.int _ = V.int _
            simp [ringR, walkR]
def sp__law_below : Sp := fun vs H Q _ => ∃ F v u p x, vs = [v, u] ∧ Sub F H ∧ RPr F v p ∧ RN2 F u x ∧ Q (.bl (fitB p x.1 x.2)) H
theorem c__law_below (T : Txt K mg) : C8.Cal P w K mg base 1 "_law_below" sp__law_below [] := by
  refine mkC T.d__law_below scLbelow (fun _ _ _ _ _ _ us hl => match us, hl with | [_, _], _ => rfl) (fun vs H Q E h => ?_) (fun f cdv A outer s H vs Q E hr h => ?_)
  · obtain ⟨F, v, u, p, x, rfl, _⟩ := h
    rfl
  · obtain ⟨F, v, u, ⟨p1, p2⟩, ⟨x1, x2⟩, rfl, sb, hp, ⟨b, w1, w2, rfl, hb, rfl, rfl⟩, q⟩ := h
    obtain ⟨a, rfl, ha⟩ := hp.at
    have ha := sb _ _ ha
    have hb := sb _ _ hb
    refine ⟨_, (pss_one (ps_ret (pe_and (pe_or (pe_cmpR op_isN (pe_ix ix_tup (pv 0) pe_int (fun _ _ => rfl)) pe_non (nomark _)) (pe_one (pe_cmpR op_lt (pe_ix ix_tup (pv 1) pe_int (fun _ _ => rfl)) (pe_ix ix_tup (pv 0) pe_int (fun _ _ => rfl)) (nomark _)))) (pe_one (pe_or (pe_cmpR op_isN (pe_ix ix_tup (pv 0) pe_int (fun _ _ => rfl)) pe_non (nomark _)) (pe_one (pe_cmpR op_lt (pe_ix ix_tup (pv 1) pe_int (fun _ _ => rfl)) (pe_ix ix_tup (pv 0) pe_int (fun _ _ => rfl)) (nomark _)))))))), ?_⟩
    walk_at "vc"
    refine ⟨_, _, _, _, rfl, rfl, tS ha, (atI_nat (i := 0) (v := onv p1) rfl : _), ?_⟩
    cases p1 with
    | none =>
      walk_at "vc"
      refine ⟨_, _, _, _, rfl, rfl, tS ha, (atI_nat (i := 1) (v := onv p2) rfl : _), ?_⟩
      cases p2 with
      | none =>
        walk_at "vc"
        exact q
      | some y =>
        walk_at "vc"
        refine ⟨_, _, _, _, rfl, rfl, tS hb, (atI_nat (i := 1) (v := nv x2) rfl : _), ?_⟩
        walk_at "vc"
        refine ⟨_, _, _, _, rfl, rfl, tS ha, (atI_nat (i := 1) (v := nv y) rfl : _), ?_⟩
        walk_at "vc"
        have e : decide ((x2 : Int) < y) = fitB (none, some y) x1 x2 := by simp [fitB, below]
        rw [← e] at q
        exact q
    | some z =>
      walk_at "vc"
      refine ⟨_, _, _, _, rfl, rfl, tS hb, (atI_nat (i := 0) (v := nv x1) rfl : _), ?_⟩
      walk_at "vc"
      refine ⟨_, _, _, _, rfl, rfl, tS ha, (atI_nat (i := 0) (v := nv z) rfl : _), ?_⟩
      walk_at "vc"
      refine ite2 (fun hc => ?_) (fun hc => ?_)
      · have hc : (x1 : Int) < z := of_decide_eq_true hc
        walk_at "vc"
        refine ⟨_, _, _, _, rfl, rfl, tS ha, (atI_nat (i := 1) (v := onv p2) rfl : _), ?_⟩
        cases p2 with
        | none =>
          walk_at "vc"
          have e : fitB (some z, none) x1 x2 = true := by simp [fitB, below]; omega
          rw [e] at q
          exact q
        | some y =>
          walk_at "vc"
          refine ⟨_, _, _, _, rfl, rfl, tS hb, (atI_nat (i := 1) (v := nv x2) rfl : _), ?_⟩
          walk_at "vc"
          refine ⟨_, _, _, _, rfl, rfl, tS ha, (atI_nat (i := 1) (v := nv y) rfl : _), ?_⟩
          walk_at "vc"
          have e1 : decide (x1 < z) = true := decide_eq_true (by omega)
          have e : decide ((x2 : Int) < y) = fitB (some z, some y) x1 x2 := by simp [fitB, below, e1]
          rw [← e] at q
          exact q
      · have hc : ¬ (x1 : Int) < z := fun z => hc (decide_eq_true z)
        have e1 : decide (x1 < z) = false := decide_eq_false (by omega)
        have e : fitB (some z, p2) x1 x2 = false := by simp [fitB, below, e1]
        rw [e] at q
        exact q
def sp__law_waiting : Sp := fun vs H Q _ => ∃ F v ns, vs = [v] ∧ Sub F H ∧ Rt Rn F v ns ∧ ns.length ≤ 1000 ∧ (∀ n ∈ ns, n ≤ 1000) ∧ ∀ H', Ex S0 F H F H' → Q (.int (waitN ns : Nat)) H'
theorem c__law_waiting (T : Txt K mg) : C8.Cal P w K mg base 1 "_law_waiting" sp__law_waiting [] := by
  refine mkC T.d__law_waiting scLwaiting (fun _ _ _ _ _ _ us hl => match us, hl with | [_], _ => rfl) (fun vs H Q E h => ?_) (fun f cdv A outer s H vs Q E hr h => ?_)
  · obtain ⟨F, v, ns, rfl, _⟩ := h
    rfl
  · obtain ⟨F, v, ns, rfl, sb, ⟨a, vs, rfl, ha, pr⟩, hz, hb, q⟩ := h
    have ew : vs = ns.map nv := paired_nats pr
    subst ew
    refine ⟨_, (pss_one (ps_ret (pe_callB (cr_sum rfl) (by rfl) T.sum (by decide +kernel) (pa_cons (pe_lc (own := [("_law_size", 1)]) (tt := tYes) rfl scLwaiting.nd (pi_tup (pv 0)) (blkOk_by (N := N_Lwaiting) (sc := defScope sLwaiting) (by decide +kernel)) (fun _ _ _ _ _ => pg_name (i := 1) scLwaiting.nd rfl (Or.inl rfl) (Or.inr rfl)) (fun _ _ _ _ _ => pts_nil) (fun _ _ _ _ _ => (pe_callB (kx_cr_sum K rfl rfl) (by rfl) T.sum (by decide +kernel) (pa_cons (pe_listRg rfl (by rfl) T.list (prg_1 (by rfl) T.range (pv 1))) pa_nil)))) pa_nil)))), ?_⟩
    walk_at "vc"
    refine ⟨⟨_, tS (sb _ _ ha)⟩, ?_⟩
    intro D hD
    refine lcX (re := Rn) (ds := ns) (walk_tm ns nv) sb (fun b z => False.elim z) hD (lt_sz (by omega)) (fun _ => true) (fun n => n * (n - 1) / 2) (S := S0) (fun F1 H1 e => tS (e.fh _ _ ha)) (fun i d x F1 H1 H2 hd e y Qy Qn q1 q2 => ?_) (fun F1 H1 ys e fD hDD pr1 => ?_)
    · obtain ⟨rfl, e3⟩ := y
      obtain ⟨z, ez, rfl⟩ := map_get e3
      have ed : z = d := by rw [hd] at ez; exact (Option.some.inj ez).symm
      subst ed
      have hm : z ∈ ns := List.mem_of_getElem? hd
      have b1 := hb z hm
      walk_at "vc"
      refine ⟨⟨by omega, by omega, by omega, by omega, by omega⟩, fun p hp => ?_⟩
      have er : rgV 0 (z : Int) = ((List.range z).map fun n : Nat => (n : Int)).map V.int := by
        unfold rgV
        rw [List.map_map, show ((z : Int) - 0).toNat = z by omega]
        refine List.map_congr_left fun i _ => ?_
        show V.int (0 + (i : Int)) = V.int (i : Int)
        rw [Int.zero_add]
      obtain ⟨e5, h5, _⟩ := newL (S := S0) (ex0 e.s) (xs := rgV 0 (z : Int)) hp
      refine ⟨_, (List.range z).map fun n : Nat => (n : Int), rfl, lS (by rw [upd_same, er]), ?_⟩
      rw [sum_nat, sum_range]
      exact q1 rfl _ _ _ e5 rfl
    · have := paired_nats pr1
      subst this
      rw [filter_tt'] at hDD
      refine ⟨_, (ns.map fun n => n * (n - 1) / 2).map fun n : Nat => (n : Int), rfl, lS (by rw [hDD, List.map_map, List.map_map, List.map_map]; rfl), ?_⟩
      rw [sum_nat]
      exact q _ e.low
def sp__law_rows : Sp := fun vs H Q _ => ∃ F v n ties, ∃ t m : Nat, vs = [.int (n : Nat), v, .int t, .int m] ∧ Sub F H ∧ Rt (R3 Rn Rn Ri) F v ties ∧ TiesOk n ties ∧ n ≤ 12 ∧ m ≤ 100 ∧ ∀ r F' H', Ex S0 F H F' H' → LRows F' r (rowsL ties (startRow n t) m) → Q r H'
theorem c__law_rows (T : Txt K mg) : C8.Cal P w K mg base 1 "_law_rows" sp__law_rows [] := by
  refine mkC T.d__law_rows scLrows (fun _ _ _ _ _ _ us hl => match us, hl with | [_, _, _, _], _ => rfl) (fun vs H Q E h => ?_) (fun f cdv A outer s H vs Q E hr h => ?_)
  · obtain ⟨F, v, n, ties, t, m, rfl, _⟩ := h
    rfl
  · obtain ⟨F, v, n, ties, t, m, rfl, sb, ⟨ta, tvs, rfl, hta, prt⟩, hto, hn, hm, q⟩ := h
    refine ⟨_, (pss_cons (ps_set (i := 4) scLrows.nd rfl (Or.inl rfl) (pe_lst (pa_cons (pe_lc (own := [("_law_thing", 10)]) (tt := tYes) rfl scLrows.nd (pi_range1 (by rfl) T.range (pa_cons (pv 0) pa_nil)) (blkOk_by (N := N_Lrows) (sc := defScope sLrows) (by decide +kernel)) (fun _ _ _ _ _ => pg_name (i := 10) scLrows.nd rfl (Or.inl rfl) (Or.inr rfl)) (fun _ _ _ _ _ => pts_nil) (fun _ _ _ _ _ => (pe_ifExp (pt_cmpR op_eq (pv 10) (pv 2) (nomark _)) pe_int pe_non))) pa_nil)))
    (pss_cons (ps_for PassesOwn.never rfl (pi_range1 (by rfl) T.range (pa_cons (pv 3) pa_nil)) (pg_name (i := 5) scLrows.nd rfl (Or.inl rfl)) (pss_cons (ps_set (i := 6) scLrows.nd rfl (Or.inl rfl) (pe_callTy call_list_of (by rfl) T.list (by decide +kernel) (pa_cons (pe_ix ix_list (pv 4) (pe_un un_neg pe_int) (fun _ _ => rfl)) pa_nil)))
    (pss_cons (ps_for PassesOwn.never rfl (pi_tup (pv 1)) (pg_tup rfl (pgs_cons ((pg_name (i := 7) scLrows.nd rfl (Or.inl rfl))) (pgs_cons ((pg_name (i := 8) scLrows.nd rfl (Or.inl rfl))) (pgs_cons ((pg_name (i := 9) scLrows.nd rfl (Or.inl rfl))) pgs_nil)))) (pss_one (ps_if (PW.pt (pw_and (pt_cmpR op_notN (pe_ix ix_list (pe_ix ix_list (pv 4) (pe_un un_neg pe_int) (fun _ _ => rfl)) (pv 7) (fun _ _ => rfl)) pe_non (nomark _)) (pw_and1 (PW.pt (pw_or (pt_cmpR op_isN (pe_ix ix_list (pv 6) (pv 8) (fun _ _ => rfl)) pe_non (nomark _)) (pw_or1 (pt_cmpR op_lt (pe_ix ix_list (pv 6) (pv 8) (fun _ _ => rfl)) (pe_op op_add (pe_ix ix_list (pe_ix ix_list (pv 4) (pe_un un_neg pe_int) (fun _ _ => rfl)) (pv 7) (fun _ _ => rfl)) (pv 9)) (nomark _)))))))) (pss_one (ps_asg (pe_op op_add (pe_ix ix_list (pe_ix ix_list (pv 4) (pe_un un_neg pe_int) (fun _ _ => rfl)) (pv 7) (fun _ _ => rfl)) (pv 9)) (pg_sub (pv 6) (pv 8) set_list))) pss_nil)))
    (pss_one (ps_expr (pe_bm PySem.F.plainAttrs_list PySem.F.slot_list_append PySem.F.type_list_append mt_append (pv 4) (pa_cons (pv 6) pa_nil)))))))
    (pss_one (ps_ret (pv 4))))), ?_⟩
    walk_at "vc"
    refine ⟨by omega, by omega, ?_⟩
    intro D hD
    refine lcX (re := Ro Ri) (ds := List.range n) (walk_rg (by omega)) sb (fun b z => False.elim z) hD (lt_sz (by simp; omega)) (fun _ => true) (fun o => if o = t then some 0 else none) (S := S0) (fun F1 H1 e => trivial) (fun i d x F1 H1 H2 hd e y Qy Qn q1 q2 => ?_) (fun F1 H1 ys e fD hDD pr1 => ?_)
    · obtain ⟨rfl, rfl⟩ := y
      obtain ⟨rfl, hi⟩ := range_get hd
      walk_at "vc"
      refine ite2 (fun z => ?_) (fun z => ?_)
      · have z2 : (d : Int) = t := by simpa using z
        have z1 : d = t := by omega
        exact q1 rfl (.int 0) _ _ (Ex.refl e.s (fun b z => False.elim z)) (by rw [if_pos z1]; rfl)
      · have z1 : ¬ d = t := fun z2 => z (by simp [z2])
        exact q1 rfl .non _ _ (Ex.refl e.s (fun b z => False.elim z)) (by rw [if_neg z1]; rfl)
    · rw [filter_tt'] at pr1
      have pr1 : Paired (Ro Ri F1) ys (startRow n t) := pr1
      have ew := paired_ovs pr1
      subst ew
      obtain ⟨e1, hF1D, s1⟩ := frzL e hD hDD fD
      generalize upd F1 D (.lst ((startRow n t).map ov)) = F2 at e1 hF1D s1
      generalize hr0 : startRow n t = r0 at hF1D hDD q
      have hr0l : r0.length = n := by rw [← hr0, startRow_len]
      refine ⟨by show 1 ≤ sizeLine; decide, fun L hL => ?_⟩
      have e2 : Ex S0 F H F2 (upd H1 L (.lst [.ref D])) := e1.trans (Ex.own e1.s hL (fun b z => False.elim z))
      have hLo : H L = none := e1.old hL
      have fL : F2 L = none := e1.s.free hL
      walk_at "vc"
      refine ⟨by omega, by omega, ?_⟩
      refine for_it (walk_r0 (n := m) (by omega)) (fun i σ H3 => ∃ u5 u6 u7 u8 u9 u10 F3 vs, σ = [some (.int (n : Nat)), some (.ref ta), some (.int (t : Nat)), some (.int (m : Nat)), some (.ref L), u5, u6, u7, u8, u9, u10] ∧ Ex S0 F H F3 H3 ∧ F3 L = none ∧ H3 L = some (.lst vs) ∧ Paired (LRow F3) vs ((List.range (i + 1)).map (iterRow ties r0)))
        ⟨none, none, none, none, none, none, F2, [.ref D], rfl, e2, fL, upd_same, .cons ⟨D, _, rfl, hF1D, ovs_paired _⟩ .nil⟩ (fun i σ H3 _ h => trivial) (fun i x σ H3 H4 hi h y => ?_) (fun σ H3 h => ?_)
      · obtain ⟨u5, u6, u7, u8, u9, u10, F3, vs, rfl, e3, f3, h3, pr3⟩ := h
        obtain ⟨rfl, rfl⟩ := y
        have hvl : vs.length = i + 1 := by rw [Paired.length pr3]; simp
        have pr3' := pr3
        rw [List.range_succ, List.map_append] at pr3'
        obtain ⟨lv, hlv, ra, rvs, rfl, hra, prr⟩ := Paired.last pr3'
        generalize hrow : iterRow ties r0 i = row at prr
        have hrl : row.length = n := by rw [← hrow, iterRow_len, hr0l]
        have ew : rvs = row.map ov := paired_ovs prr
        subst ew
        walk_at "vc"
        refine ⟨_, _, _, _, rfl, rfl, lS h3, atI_last hlv, ?_⟩
        refine ⟨_, _, rfl, .inl (lS (e3.s _ _ hra)), ?_⟩
        intro R hR
        have hRo : H R = none := e3.old hR
        have f3R : F3 R = none := e3.s.free hR
        have e4 : Ex S0 F3 H4 F3 (upd H4 R (.lst (row.map ov))) := Ex.own e3.s hR (fun b z => False.elim z)
        walk_at "vc"
        refine ⟨⟨_, tS (e4.s _ _ (e3.f _ _ hta))⟩, ?_⟩
        refine for_it (walk_tp prt) (fun j σ H5 => ∃ u7 u8 u9, ∃ fd : List (Option Int), σ = [some (.int (n : Nat)), some (.ref ta), some (.int (t : Nat)), some (.int (m : Nat)), some (.ref L), some (.int (i : Nat)), some (.ref R), u7, u8, u9, u10] ∧ Ex S0 F3 H4 F3 H5 ∧ H5 R = some (.lst (fd.map ov)) ∧ fd = (ties.take j).foldl (relax row) row) ⟨u7, u8, u9, row, rfl, e4, upd_same, rfl⟩ (fun j σ H5 _ h => ?_) (fun j x σ H5 H6 hj h y => ?_) (fun σ H5 h => ?_)
        · obtain ⟨u7, u8, u9, fd, rfl, e5, hR5, hfd⟩ := h
          exact tS (e5.s _ _ (e3.f _ _ hta))
        · obtain ⟨u7, u8, u9, fd, rfl, e5, hR5, hfd⟩ := h
          obtain ⟨rfl, e6⟩ := y
          obtain ⟨⟨p1, p2, wt⟩, ez, ⟨ta1, u1, u2, u3, rfl, hq, rfl, rfl, rfl⟩⟩ := Paired.getL prt e6
          have fdl : fd.length = n := by rw [hfd, foldl_len, hrl]
          have htm := hto _ (List.mem_of_getElem? ez)
          simp only at htm
          have r1 : row[p1]? = some (row.getD p1 none) := getD_get (by omega)
          have r2 : fd[p2]? = some (fd.getD p2 none) := getD_get (by omega)
          have hnx : (ties.take (j + 1)).foldl (relax row) row = relax row fd (p1, p2, wt) := by rw [take_snoc ez, List.foldl_append, ← hfd]; rfl
          have hL5 := (e5.keep h3 (fun z => z) f3).1
          have hra5 := e5.s _ _ hra
          refine ⟨_, _, rfl, tS (e5.s _ _ (e3.f _ _ hq)), rfl, ?_⟩
          walk_at "vc"
          have rr1 : atI (row.map ov) (p1 : Int) = some (ov (row.getD p1 none)) := atI_nat (by rw [List.getElem?_map, r1]; rfl)
          have rr2 : atI (fd.map ov) (p2 : Int) = some (ov (fd.getD p2 none)) := atI_nat (by rw [List.getElem?_map, r2]; rfl)
          have rr3 : ixN (fd.map ov).length (p2 : Int) = some p2 := by
            unfold ixN
            rw [if_pos (by omega), if_pos (by rw [List.length_map]; omega), Int.toNat_natCast]
          refine ⟨_, _, _, _, rfl, rfl, lS hL5, atI_last hlv, ?_⟩
          walk_at "vc"
          refine ⟨_, _, _, _, rfl, rfl, lS hra5, rr1, ?_⟩
          have key : ∀ z, row.getD p1 none = some z → (fd.getD p2 none = none ∨ ∃ b, fd.getD p2 none = some b ∧ b < z + wt) → relax row fd (p1, p2, wt) = fd.set p2 (some (z + wt)) := by
            intro z hz1 hz2
            unfold relax
            simp only [hz1]
            rcases hz2 with hz2 | ⟨b, hz2, hz3⟩
            · simp only [hz2]
            · simp only [hz2]; rw [if_pos hz3]
          cases hr1' : row.getD p1 none with
          | none =>
            walk_at "vc"
            exact ⟨_, _, _, fd, rfl, e5, hR5, by rw [hnx]; unfold relax; simp only [hr1']⟩
          | some z =>
            rw [hr1'] at rr1
            walk_at "vc"
            refine ⟨_, _, _, _, rfl, rfl, lS hR5, rr2, ?_⟩
            have fin : relax row fd (p1, p2, wt) = fd.set p2 (some (z + wt)) → ∃ p xs k j', V.ref R = .ref p ∧ V.int (p2 : Int) = .int k ∧ H6 p = some (.lst xs) ∧ ixN xs.length k = some j' ∧ ∃ u7 u8 u9, ∃ fd : List (Option Int), [some (.int (n : Nat)), some (.ref ta), some (.int (t : Nat)), some (.int (m : Nat)), some (.ref L), some (.int (i : Nat)), some (.ref R), some (V.int p1), some (V.int p2), some (V.int wt), u10] = [some (.int (n : Nat)), some (.ref ta), some (.int (t : Nat)), some (.int (m : Nat)), some (.ref L), some (.int (i : Nat)), some (.ref R), u7, u8, u9, u10] ∧ Ex S0 F3 H4 F3 (upd H6 p (.lst (xs.set j' (.int (z + wt))))) ∧ (upd H6 p (.lst (xs.set j' (.int (z + wt))))) R = some (.lst (fd.map ov)) ∧ fd = (ties.take (j + 1)).foldl (relax row) row := by
              intro hz
              refine ⟨R, _, _, p2, rfl, rfl, hR5, rr3, _, _, _, fd.set p2 (some (z + wt)), rfl, e5.put (.inl hR) f3R, ?_, ?_⟩
              · rw [upd_same, List.map_set]; rfl
              · rw [hnx, hz]
            cases hr2' : fd.getD p2 none with
            | none =>
              walk_at "vc"
              refine ⟨_, _, _, _, rfl, rfl, lS hL5, atI_last hlv, ?_⟩
              walk_at "vc"
              refine ⟨_, _, _, _, rfl, rfl, lS hra5, rr1, ?_⟩
              walk_at "vc"
              exact fin (key z hr1' (.inl hr2'))
            | some b =>
              rw [hr2'] at rr2
              walk_at "vc"
              refine ⟨_, _, _, _, rfl, rfl, lS hR5, rr2, ?_⟩
              walk_at "vc"
              refine ⟨_, _, _, _, rfl, rfl, lS hL5, atI_last hlv, ?_⟩
              walk_at "vc"
              refine ⟨_, _, _, _, rfl, rfl, lS hra5, rr1, ?_⟩
              walk_at "vc"
              refine ite2 (fun hc => ?_) (fun hc => ?_)
              · have hc : b < z + wt := of_decide_eq_true hc
                walk_at "vc"
                refine ⟨_, _, _, _, rfl, rfl, lS hL5, atI_last hlv, ?_⟩
                walk_at "vc"
                refine ⟨_, _, _, _, rfl, rfl, lS hra5, rr1, ?_⟩
                walk_at "vc"
                exact fin (key z hr1' (.inr ⟨b, hr2', hc⟩))
              · have hc : ¬ b < z + wt := fun z => hc (decide_eq_true z)
                exact ⟨_, _, _, fd, rfl, e5, hR5, by rw [hnx]; unfold relax; simp only [hr1', hr2']; rw [if_neg hc]⟩
        · obtain ⟨u7, u8, u9, fd, rfl, e5, hR5, hfd⟩ := h
          rw [List.take_length] at hfd
          have hL5 := e5.keep h3 (fun z => z) f3
          obtain ⟨e6, h6R, s6⟩ := frzL e5 hR hR5 f3R
          have hLR : L ≠ R := by rintro rfl; rw [h3] at hR; cases hR
          have f6L : upd F3 R (.lst (fd.map ov)) L = none := by rw [upd_ne hLR]; exact f3
          have e06 := e3.trans e6
          walk_at "vc"
          refine ⟨.inl ⟨rfl, _, lS hL5.1⟩, ?_⟩
          walk_at "vc"
          refine ⟨_, _, _, rfl, rfl, hL5.1, lt_sz (by omega), ?_⟩
          refine ⟨_, _, _, _, _, _, upd F3 R (.lst (fd.map ov)), vs ++ [.ref R], rfl, e06.put (.inl hLo) f6L, f6L, upd_same, ?_⟩
          rw [List.range_succ, List.map_append]
          refine Paired.app (Paired.up e6.f pr3) (.cons ⟨R, _, rfl, h6R, ?_⟩ .nil)
          have : iterRow ties r0 (i + 1) = fd := by rw [hfd, ← hrow]; rfl
          rw [this]
          exact ovs_paired _
      · obtain ⟨u5, u6, u7, u8, u9, u10, F3, vs, rfl, e3, f3, h3, pr3⟩ := h
        obtain ⟨e4, h4, s4⟩ := frzL e3 hLo h3 f3
        walk_at "vc"
        exact q _ _ _ e4 ⟨L, vs, rfl, h4, Paired.up s4 pr3⟩
end
end Sa
set_option Elab.async false
set_option linter.all false
set_option maxRecDepth 100000
set_option maxHeartbeats 4000000
namespace Sa
open PySem PySem.Spec PyProof.Rows L2
local macro_rules | `(tactic| walk_at "vc") => `(tactic| repeat (first | refine ⟨_, rfl, ?_⟩ | refine ⟨_, _, rfl, rfl, ?_⟩ | refine ⟨_, _, rfl, ?_⟩ | refine ⟨rfl, ?_⟩))
def cellL (rr : List (List Row)) (a m b : Nat) : Option Int := ((rr.getD a []).getD m []).getD b none
def posAt (rr : List (List Row)) (m t : Nat) : Bool := match cellL rr t m t with
  | none => false
  | some w => decide (0 < w)
def pbad (rr : List (List Row)) (ts : List (Option Int)) (m a b : Nat) : Bool := match ts.getD a none, ts.getD b none, cellL rr a m b with
  | some x, some y, some w => decide (y - x < w)
  | _, _, _ => false
def lastL (rr : List (List Row)) : Nat := (rr.getD 0 []).length - 1
def badA (rr : List (List Row)) (ts : List (Option Int)) (N R a : Nat) : Bool := ((ts.getD a none).isNone && posAt rr (min R (lastL rr)) a) || (List.range rr.length).any fun b => pbad rr ts (min N (lastL rr)) a b
def heldB (rr : List (List Row)) (ts : List (Option Int)) (N R : Nat) : Bool := !((List.range rr.length).any fun a => badA rr ts N R a)
structure RowsOk (n : Nat) (rr : List (List Row)) : Prop where
  pos : 1 ≤ n
  le : n ≤ 12
  len : rr.length = n
  rows : ∀ rows ∈ rr, rows.length = 2 * n + 3 ∧ ∀ r ∈ rows, r.length = n
  diag : ∀ t m, t < n → m ≤ 2 * n + 2 → ∃ w, cellL rr t m t = some w
theorem RowsOk.last {n : Nat} {rr : List (List Row)} (h : RowsOk n rr) : lastL rr = 2 * n + 2 := by
  unfold lastL
  have h0 := h.pos
  have h1 := h.len
  have hm : rr.getD 0 [] ∈ rr := List.mem_of_getElem? (getD_getG (d := []) (by omega))
  have := (h.rows _ hm).1
  omega
section
variable {F H : Hp} {K : PySem.W.Frag}
/-- one row of the law's rows, read -/
theorem LAll.row {n : Nat} {rr : List (List Row)} (ok : RowsOk n rr) {v : V} (h : LAll F v rr) {a m : Nat} (ha : a < n) (hm : m ≤ 2 * n + 2) :
    ∃ v1 vs1 a2 vs2 a3, v = .ref v1 ∧ F v1 = some (.lst vs1) ∧ atI vs1 (a : Int) = some (.ref a2) ∧ F a2 = some (.lst vs2) ∧ atI vs2 (m : Int) = some (.ref a3) ∧ F a3 = some (.lst (((rr.getD a []).getD m []).map ov)) ∧ ((rr.getD a []).getD m []).length = n ∧ vs1.length = n ∧ vs2.length = 2 * n + 3 := by
  obtain ⟨v1, vs1, rfl, h1, p1⟩ := h
  have hl := ok.len
  obtain ⟨u, hu, a2, vs2, rfl, h2, p2⟩ := Paired.get (i := a) (y := rr.getD a []) p1 (getD_getG (by omega))
  have hmem : rr.getD a [] ∈ rr := List.mem_of_getElem? (getD_getG (d := []) (by omega))
  obtain ⟨r1, r2⟩ := ok.rows _ hmem
  obtain ⟨u2, hu2, a3, vs3, rfl, h3, p3⟩ := Paired.get (i := m) (y := (rr.getD a []).getD m []) p2 (getD_getG (by omega))
  have hmem2 : (rr.getD a []).getD m [] ∈ rr.getD a [] := List.mem_of_getElem? (getD_getG (d := []) (by omega))
  have ew := paired_ovs p3
  subst ew
  exact ⟨v1, vs1, a2, vs2, a3, rfl, h1, atI_nat hu, h2, atI_nat hu2, h3, r2 _ hmem2, by rw [Paired.length p1, hl], by rw [Paired.length p2, r1]⟩
theorem atI_cell {n : Nat} {row : Row} {b : Nat} (h : row.length = n) (hb : b < n) : atI (row.map ov) (b : Int) = some (ov (row.getD b none)) := atI_nat (by rw [List.getElem?_map, getD_getG (d := none) (by omega)]; rfl)
end
section
variable {P : Program} {w : World} {K : PySem.W.Frag} {mg : Str → Option Value} {base : Heap}
def sp__law_all_rows : Sp := fun vs H Q _ => ∃ F v n ties, vs = [.int (n : Nat), v] ∧ Sub F H ∧ Rt (R3 Rn Rn Ri) F v ties ∧ TiesOk n ties ∧ n ≤ 12 ∧ ∀ r F' H', Ex S0 F H F' H' → LAll F' r (allR n ties) → Q r H'
theorem c__law_all_rows (T : Txt K mg) : C8.Cal P w K mg base 2 "_law_all_rows" sp__law_all_rows [] := by
  have c__law_rows := c__law_rows (P := P) (w := w) (base := base) T
  refine mkC T.d__law_all_rows scLallrows (fun _ _ _ _ _ _ us hl => match us, hl with | [_, _], _ => rfl) (fun vs H Q E h => ?_) (fun f cdv A outer s H vs Q E hr h => ?_)
  · obtain ⟨F, v, n, ties, rfl, _⟩ := h
    rfl
  · obtain ⟨F, v, n, ties, rfl, sb, ht, hto, hn, q⟩ := h
    refine ⟨_, (pss_one (ps_ret (pe_lc (own := [("_law_thing", 2)]) (tt := tYes) rfl scLallrows.nd (pi_range1 (by rfl) T.range (pa_cons (pv 0) pa_nil)) (blkOk_by (N := N_Lallrows) (sc := defScope sLallrows) (by decide +kernel)) (fun _ _ _ _ _ => pg_name (i := 2) scLallrows.nd rfl (Or.inl rfl) (Or.inr rfl)) (fun _ _ _ _ _ => pts_nil) (fun _ _ _ _ _ => (C8.pe_c c__law_rows hr (by decide) (by rfl) (pa_cons (pv 0) (pa_cons (pv 1) (pa_cons (pv 2) (pa_cons (pe_op op_add (pe_op op_mul pe_int (pv 0)) pe_int) pa_nil))))))))), ?_⟩
    walk_at "vc"
    refine ⟨by omega, by omega, ?_⟩
    intro D hD
    refine lcX (re := LRows) (ds := List.range n) (walk_rg (by omega)) sb (fun b z => False.elim z) hD (lt_sz (by simp; omega)) (fun _ => true) (fun t => rowsL ties (startRow n t) (2 * n + 2)) (S := S0) (fun F1 H1 e => trivial) (fun i d x F1 H1 H2 hd e y Qy Qn q1 q2 => ?_) (fun F1 H1 ys e fD hDD pr1 => ?_)
    · obtain ⟨rfl, rfl⟩ := y
      obtain ⟨rfl, hi⟩ := range_get hd
      walk_at "vc"
      refine ⟨.inl ⟨by omega, by omega⟩, ?_⟩
      walk_at "vc"
      refine ⟨F1, v, n, ties, d, 2 * n + 2, by rw [show ((2 * n + 2 : Nat) : Int) = 2 * (n : Int) + 2 by omega]; rfl, e.s, Mono.up (r := Rt (R3 Rn Rn Ri)) e.f ht, hto, hn, by omega, fun r F3 H3 e3 r3 => ?_⟩
      exact q1 rfl _ _ _ e3 r3
    · rw [filter_tt'] at pr1
      obtain ⟨e1, hF1D, s1⟩ := frzL e hD hDD fD
      exact q _ _ _ e1 ⟨D, ys, rfl, hF1D, Paired.up s1 pr1⟩
def sp__law_held : Sp := fun vs H Q _ => ∃ F vr vt vx n rr ts x, vs = [vr, vt, vx] ∧ Sub F H ∧ LAll F vr rr ∧ RowsOk n rr ∧ RRow F vt ts ∧ ts.length = n ∧ RN2 F vx x ∧ Q (.bl (heldB rr ts x.1 x.2)) H
theorem c__law_held (T : Txt K mg) : C8.Cal P w K mg base 1 "_law_held" sp__law_held [] := by
  refine mkC T.d__law_held scLheld (fun _ _ _ _ _ _ us hl => match us, hl with | [_, _, _], _ => rfl) (fun vs H Q E h => ?_) (fun f cdv A outer s H vs Q E hr h => ?_)
  · obtain ⟨F, vr, vt, vx, n, rr, ts, x, rfl, _⟩ := h
    rfl
  · obtain ⟨F, vr, vt, vx, n, rr, ts, ⟨N, R⟩, rfl, sb, hr0, ok, ⟨ta, tvs, rfl, hta, prt⟩, htl, ⟨xa, w1, w2, rfl, hxa, rfl, rfl⟩, q⟩ := h
    have ew : tvs = ts.map ov := paired_ovs prt
    subst ew
    have hta := sb _ _ hta
    have hxa := sb _ _ hxa
    have hr0 : LAll H vr rr := Mono.up (r := LAll) sb hr0
    have hn0 := ok.pos
    have hn12 := ok.le
    have hlast := ok.last
    obtain ⟨va, vs1, z2, zs2, z3, rfl, hva, y1, y2, _, _, _, yl1, yl2⟩ := LAll.row ok hr0 (a := 0) (m := 0) hn0 (by omega)
    have hrow : ∀ {a m : Nat}, a < n → m ≤ 2 * n + 2 → ∃ a2 vs2 a3, atI vs1 (a : Int) = some (.ref a2) ∧ H a2 = some (.lst vs2) ∧ atI vs2 (m : Int) = some (.ref a3) ∧ H a3 = some (.lst (((rr.getD a []).getD m []).map ov)) ∧ ((rr.getD a []).getD m []).length = n := by
      intro a m ha hm
      obtain ⟨v1, vs1', a2, vs2, a3, e0, g1, g2, g3, g4, g5, g6, _⟩ := LAll.row ok hr0 ha hm
      cases e0
      rw [hva] at g1
      cases g1
      exact ⟨a2, vs2, a3, g2, g3, g4, g5, g6⟩
    have htimes : ∀ {a : Nat}, a < n → atI (ts.map ov) (a : Int) = some (ov (ts.getD a none)) := fun {a} ha => atI_cell htl ha
    have hLr : (rr.length) = n := ok.len
    have q : Q (.bl (!((List.range n).any fun a => badA rr ts N R a))) H := by
      have q' := q
      unfold heldB at q'
      rw [hLr] at q'
      exact q'
    have hmin : ∀ X : Nat, (if ((2 * n + 3 : Nat) : Int) - 1 < (X : Int) then ((2 * n + 3 : Nat) : Int) - 1 else (X : Int)) = ((min X (2 * n + 2) : Nat) : Int) := by
      intro X; split <;> omega
    refine ⟨_, (pss_cons (ps_par (i := 3) (j := 4) (by rfl) scLheld.nd rfl rfl (by decide) rfl rfl (pa_cons (pe_callB (call_min2 rfl) (by rfl) T.min (by decide +kernel) (pa_cons (pe_ix ix_tup (pv 2) pe_int (fun _ _ => rfl)) (pa_cons (pe_op op_sub (pe_callB call_len (by rfl) T.len (by decide +kernel) (pa_cons (pe_ix ix_list (pv 0) pe_int (fun _ _ => rfl)) pa_nil)) pe_int) pa_nil))) (pa_cons (pe_callB (call_min2 rfl) (by rfl) T.min (by decide +kernel) (pa_cons (pe_ix ix_tup (pv 2) pe_int (fun _ _ => rfl)) (pa_cons (pe_op op_sub (pe_callB call_len (by rfl) T.len (by decide +kernel) (pa_cons (pe_ix ix_list (pv 0) pe_int (fun _ _ => rfl)) pa_nil)) pe_int) pa_nil))) pa_nil)) (by rfl))
    (pss_cons (ps_for PassesOwn.never rfl (pi_range1 (by rfl) T.range (pa_cons (pe_callB call_len (by rfl) T.len (by decide +kernel) (pa_cons (pv 0) pa_nil)) pa_nil)) (pg_name (i := 5) scLheld.nd rfl (Or.inl rfl)) (pss_cons (ps_if (PW.pt (pw_and (pt_cmpR op_isN (pe_ix ix_tup (pv 1) (pv 5) (fun _ _ => rfl)) pe_non (nomark _)) (pw_and1 (pt_cmpR op_gt (pe_ix ix_list (pe_ix ix_list (pe_ix ix_list (pv 0) (pv 5) (fun _ _ => rfl)) (pv 4) (fun _ _ => rfl)) (pv 5) (fun _ _ => rfl)) pe_int (nomark _))))) (pss_one (ps_ret pe_bl)) pss_nil)
    (pss_one (ps_for PassesOwn.never rfl (pi_range1 (by rfl) T.range (pa_cons (pe_callB call_len (by rfl) T.len (by decide +kernel) (pa_cons (pv 0) pa_nil)) pa_nil)) (pg_name (i := 6) scLheld.nd rfl (Or.inl rfl)) (pss_cons (ps_set (i := 7) scLheld.nd rfl (Or.inl rfl) (pe_ix ix_list (pe_ix ix_list (pe_ix ix_list (pv 0) (pv 5) (fun _ _ => rfl)) (pv 3) (fun _ _ => rfl)) (pv 6) (fun _ _ => rfl)))
    (pss_one (ps_if (PW.pt (pw_and (pt_cmpR op_notN (pe_ix ix_tup (pv 1) (pv 5) (fun _ _ => rfl)) pe_non (nomark _)) (pw_and (pt_cmpR op_notN (pe_ix ix_tup (pv 1) (pv 6) (fun _ _ => rfl)) pe_non (nomark _)) (pw_and1 (pt_cmpR op_notN (pv 7) pe_non (nomark _)))))) (pss_one (ps_if (pt_cmpR op_lt (pe_op op_sub (pe_ix ix_tup (pv 1) (pv 6) (fun _ _ => rfl)) (pe_ix ix_tup (pv 1) (pv 5) (fun _ _ => rfl))) (pv 7) (nomark _)) (pss_one (ps_ret pe_bl)) pss_nil)) pss_nil)))))))
    (pss_one (ps_ret pe_bl)))), ?_⟩
    walk_at "vc"
    refine ⟨_, _, _, _, rfl, rfl, tS hxa, (atI_nat (i := 0) (v := nv N) rfl : _), ?_⟩
    walk_at "vc"
    refine ⟨_, _, _, _, rfl, rfl, lS hva, y1, ?_⟩
    refine ⟨_, _, rfl, lenL' (lS y2) yl2, ?_⟩
    walk_at "vc"
    refine ⟨_, _, _, _, rfl, rfl, tS hxa, (atI_nat (i := 1) (v := nv R) rfl : _), ?_⟩
    walk_at "vc"
    refine ⟨_, _, _, _, rfl, rfl, lS hva, y1, ?_⟩
    refine ⟨_, _, rfl, lenL' (lS y2) yl2, ?_⟩
    walk_at "vc"
    rw [hmin N, hmin R]
    generalize hwN : min N (2 * n + 2) = wN
    generalize hwR : min R (2 * n + 2) = wR
    have lN : wN ≤ 2 * n + 2 := by omega
    have lR : wR ≤ 2 * n + 2 := by omega
    refine ⟨_, _, rfl, lenL' (lS hva) yl1, ?_⟩
    walk_at "vc"
    refine ⟨by omega, by omega, ?_⟩
    refine for_it (walk_r0 (n := n) (by omega)) (fun i σ H1 => H1 = H ∧ ∃ u5 u6 u7, σ = [some (.ref va), some (.ref ta), some (.ref xa), some (nv wN), some (nv wR), u5, u6, u7] ∧ ((List.range n).take i).any (fun a => badA rr ts N R a) = false) ⟨rfl, none, none, none, rfl, rfl⟩ (fun i σ H1 _ h => trivial) (fun i x σ H1 H2 hi h y => ?_) (fun σ H1 h => ?_)
    · obtain ⟨rfl, u5, u6, u7, rfl, hfa⟩ := h
      obtain ⟨rfl, rfl⟩ := y
      have hri : (List.range n)[i]? = some i := by rw [List.getElem?_range hi]
      have hbad : ∀ b, badA rr ts N R i = b → b = true → Q (.bl false) H2 := by
        intro b hb1 hb2
        rw [any_hit (List.mem_range.mpr hi) (hb1.trans hb2)] at q
        exact q
      have hunf : badA rr ts N R i = (((ts.getD i none).isNone && posAt rr wR i) || (List.range n).any fun b => pbad rr ts wN i b) := by
        unfold badA
        rw [hlast, hLr, hwN, hwR]
      obtain ⟨dg, hdg⟩ := ok.diag i wR hi lR
      obtain ⟨a2, vs2, a3, g1, g2, g3, g4, g5⟩ := hrow hi lR
      obtain ⟨b2, ws2, b3, f1, f2, f3, f4, f5⟩ := hrow hi lN
      have hdg' : ((rr.getD i []).getD wR []).getD i none = some dg := hdg
      have hpos : posAt rr wR i = decide (0 < dg) := by unfold posAt; rw [hdg]
      walk_at "vc"
      refine ⟨_, _, _, _, rfl, rfl, tS hta, htimes hi, ?_⟩
      cases hti : ts.getD i none with
      | none =>
        walk_at "vc"
        refine ⟨_, _, _, _, rfl, rfl, lS hva, g1, ?_⟩
        walk_at "vc"
        refine ⟨_, _, _, _, rfl, rfl, lS g2, g3, ?_⟩
        walk_at "vc"
        refine ⟨_, _, _, _, rfl, rfl, lS g4, atI_cell g5 hi, ?_⟩
        rw [hdg']
        walk_at "vc"
        refine ite2 (fun hc => ?_) (fun hc => ?_)
        · have hc : 0 < dg := of_decide_eq_true hc
          refine hbad _ rfl ?_
          rw [hunf, hti, hpos, decide_eq_true hc]
          rfl
        have hc : ¬ 0 < dg := fun z => hc (decide_eq_true z)
        walk_at "vc"
        refine ⟨_, _, rfl, lenL' (lS hva) yl1, ?_⟩
        walk_at "vc"
        refine ⟨by omega, by omega, ?_⟩
        refine for_it (walk_r0 (n := n) (by omega)) (fun j σ H1 => H1 = H2 ∧ ∃ u6 u7, σ = [some (.ref va), some (.ref ta), some (.ref xa), some (nv wN), some (nv wR), some (nv i), u6, u7] ∧ ((List.range n).take j).any (fun b => pbad rr ts wN i b) = false) ⟨rfl, u6, u7, rfl, rfl⟩ (fun j σ H1 _ h => trivial) (fun j x σ H1 H3 hj h y => ?_) (fun σ H1 h => ?_)
        · obtain ⟨rfl, u6, u7, rfl, hfb⟩ := h
          obtain ⟨rfl, rfl⟩ := y
          have hrj : (List.range n)[j]? = some j := by rw [List.getElem?_range hj]
          walk_at "vc"
          refine ⟨_, _, _, _, rfl, rfl, lS hva, f1, ?_⟩
          walk_at "vc"
          refine ⟨_, _, _, _, rfl, rfl, lS f2, f3, ?_⟩
          walk_at "vc"
          refine ⟨_, _, _, _, rfl, rfl, lS f4, atI_cell f5 hj, ?_⟩
          walk_at "vc"
          refine ⟨_, _, _, _, rfl, rfl, tS hta, htimes hi, ?_⟩
          have hpb : pbad rr ts wN i j = (match ts.getD i none, ts.getD j none, ((rr.getD i []).getD wN []).getD j none with | some x, some y, some w => decide (y - x < w) | _, _, _ => false) := rfl
          generalize hcell : ((rr.getD i []).getD wN []).getD j none = cell at hpb
          rw [hti] at hpb
          rw [hti]
          walk_at "vc"
          exact any_take hrj hfb (by rw [hpb])
        · obtain ⟨rfl, u6, u7, rfl, hfb⟩ := h
          have hl : (List.range n).take n = List.range n := by rw [List.take_of_length_le (by simp)]
          rw [hl] at hfb
          have hfin : badA rr ts N R i = false := by
            rw [hunf, hfb, hti]
            rw [hpos, decide_eq_false hc]
            rfl
          exact ⟨rfl, _, _, _, rfl, any_take hri hfa hfin⟩
      | some ti =>
        walk_at "vc"
        refine ⟨_, _, rfl, lenL' (lS hva) yl1, ?_⟩
        walk_at "vc"
        refine ⟨by omega, by omega, ?_⟩
        refine for_it (walk_r0 (n := n) (by omega)) (fun j σ H1 => H1 = H2 ∧ ∃ u6 u7, σ = [some (.ref va), some (.ref ta), some (.ref xa), some (nv wN), some (nv wR), some (nv i), u6, u7] ∧ ((List.range n).take j).any (fun b => pbad rr ts wN i b) = false) ⟨rfl, u6, u7, rfl, rfl⟩ (fun j σ H1 _ h => trivial) (fun j x σ H1 H3 hj h y => ?_) (fun σ H1 h => ?_)
        · obtain ⟨rfl, u6, u7, rfl, hfb⟩ := h
          obtain ⟨rfl, rfl⟩ := y
          have hrj : (List.range n)[j]? = some j := by rw [List.getElem?_range hj]
          walk_at "vc"
          refine ⟨_, _, _, _, rfl, rfl, lS hva, f1, ?_⟩
          walk_at "vc"
          refine ⟨_, _, _, _, rfl, rfl, lS f2, f3, ?_⟩
          walk_at "vc"
          refine ⟨_, _, _, _, rfl, rfl, lS f4, atI_cell f5 hj, ?_⟩
          walk_at "vc"
          refine ⟨_, _, _, _, rfl, rfl, tS hta, htimes hi, ?_⟩
          have hpb : pbad rr ts wN i j = (match ts.getD i none, ts.getD j none, ((rr.getD i []).getD wN []).getD j none with | some x, some y, some w => decide (y - x < w) | _, _, _ => false) := rfl
          generalize hcell : ((rr.getD i []).getD wN []).getD j none = cell at hpb
          rw [hti] at hpb
          rw [hti]
          walk_at "vc"
          refine ⟨_, _, _, _, rfl, rfl, tS hta, htimes hj, ?_⟩
          cases htj : ts.getD j none with
          | none =>
            rw [htj] at hpb
            walk_at "vc"
            exact any_take hrj hfb (by rw [hpb])
          | some tj =>
            rw [htj] at hpb
            cases cell with
            | none =>
              walk_at "vc"
              exact any_take hrj hfb (by rw [hpb])
            | some cw =>
              have hj1 := htimes hj
              have hi1 := htimes hi
              rw [htj] at hj1
              rw [hti] at hi1
              walk_at "vc"
              refine ⟨_, _, _, _, rfl, rfl, tS hta, hj1, ?_⟩
              walk_at "vc"
              refine ⟨_, _, _, _, rfl, rfl, tS hta, hi1, ?_⟩
              walk_at "vc"
              refine ite2 (fun hc => ?_) (fun hc => ?_)
              · refine hbad _ rfl ?_
                rw [hunf, any_hit (List.mem_range.mpr hj) (hpb.trans hc), Bool.or_true]
              · exact ⟨rfl, _, _, rfl, any_take hrj hfb (hpb.trans (by simpa using hc))⟩
        · obtain ⟨rfl, u6, u7, rfl, hfb⟩ := h
          have hl : (List.range n).take n = List.range n := by rw [List.take_of_length_le (by simp)]
          rw [hl] at hfb
          have hfin : badA rr ts N R i = false := by
            rw [hunf, hfb, hti]
            rfl
          exact ⟨rfl, _, _, _, rfl, any_take hri hfa hfin⟩
    · obtain ⟨rfl, u5, u6, u7, rfl, hfa⟩ := h
      have hl : (List.range n).take n = List.range n := by rw [List.take_of_length_le (by simp)]
      rw [hl] at hfa
      rw [hfa] at q
      exact q
end
end Sa
set_option Elab.async false
set_option linter.all false
set_option maxRecDepth 100000
set_option maxHeartbeats 4000000
namespace Sa
open PySem PySem.Spec PyProof.Rows L2
local macro_rules | `(tactic| walk_at "vc") => `(tactic| repeat (first | refine ⟨_, rfl, ?_⟩ | refine ⟨_, _, rfl, rfl, ?_⟩ | refine ⟨_, _, rfl, ?_⟩ | refine ⟨rfl, ?_⟩))
def firstW (n : Nat) (rr : List (List Row)) (ts : List (Option Int)) : Option Nat := ((List.range (2 * n + 1)).filter fun m => !heldB rr ts m 0).head?
def firstR (n : Nat) (rr : List (List Row)) (t : Nat) : Option Nat := ((List.range (n + 1)).filter fun m => posAt rr m t).head?
def accR (n : Nat) (rr : List (List Row)) (acc : Option Nat) (t : Nat) : Option Nat :=
  if posAt rr n t = true then (match acc with | none => some ((firstR n rr t).getD 0) | some x => some (min x ((firstR n rr t).getD 0))) else acc
def limL (n : Nat) (rr : List (List Row)) (ts : List (Option Int)) : Pr :=
  (if heldB rr ts (2 * n) 0 = true then none else some ((firstW n rr ts).getD 0), (missOf ts).foldl (accR n rr) none)
theorem head_get {l : List Nat} {x : Nat} (h : x ∈ l) : ∃ y, l.head? = some y ∧ (l.map nv)[0]? = some (nv y) := by
  cases l with
  | nil => cases h
  | cons a t => exact ⟨a, rfl, rfl⟩
theorem if_then {c : TT} {t u : TS} {D : Ends} {σ : L2.St} {H : Hp} (R : L2.St → Hp → Prop) (hR : ∀ σ H, R σ H → D.nx σ H) (h : (∀ σ H, R σ H → D.nx σ H) → tIfS c t u D σ H) : tIfS c t u D σ H := h hR
theorem set_two {x y : V} : ixN [x, y].length (0 : Int) = some 0 ∧ ixN [x, y].length (1 : Int) = some 1 := ⟨rfl, rfl⟩
section
variable {P : Program} {w : World} {K : PySem.W.Frag} {mg : Str → Option Value} {base : Heap}
def sp__law_limits : Sp := fun vs H Q _ => ∃ F vr vt n rr ts, vs = [vr, vt] ∧ Sub F H ∧ LAll F vr rr ∧ RowsOk n rr ∧ RRow F vt ts ∧ ts.length = n ∧ ∀ r F' H', Ex S0 F H F' H' → RPr F' r (limL n rr ts) → Q r H'
theorem c__law_limits (T : Txt K mg) : C8.Cal P w K mg base 2 "_law_limits" sp__law_limits [] := by
  have c__law_held := c__law_held (P := P) (w := w) (base := base) T
  refine mkC T.d__law_limits scLlimits (fun _ _ _ _ _ _ us hl => match us, hl with | [_, _], _ => rfl) (fun vs H Q E h => ?_) (fun f cdv A outer s H vs Q E hr h => ?_)
  · obtain ⟨F, vr, vt, n, rr, ts, rfl, _⟩ := h
    rfl
  · obtain ⟨F, vr, vt, n, rr, ts, rfl, sb, hr0, ok, hts, htl, q⟩ := h
    obtain ⟨ta, tvs, rfl, hta, prt⟩ := id hts
    have ew : tvs = ts.map ov := paired_ovs prt
    subst ew
    have hn0 := ok.pos
    have hn12 := ok.le
    have hlast := ok.last
    obtain ⟨va, vs1, z2, zs2, z3, rfl, hva, y1, y2, _, _, _, yl1, yl2⟩ := LAll.row ok hr0 (a := 0) (m := 0) hn0 (by omega)
    have hrow : ∀ {a m : Nat}, a < n → m ≤ 2 * n + 2 → ∃ a2 vs2 a3, atI vs1 (a : Int) = some (.ref a2) ∧ F a2 = some (.lst vs2) ∧ atI vs2 (m : Int) = some (.ref a3) ∧ F a3 = some (.lst (((rr.getD a []).getD m []).map ov)) ∧ ((rr.getD a []).getD m []).length = n := by
      intro a m ha hm
      obtain ⟨v1, vs1', a2, vs2, a3, e0, g1, g2, g3, g4, g5, g6, _⟩ := LAll.row ok hr0 ha hm
      cases e0
      rw [hva] at g1
      cases g1
      exact ⟨a2, vs2, a3, g2, g3, g4, g5, g6⟩
    have htimes : ∀ {a : Nat}, a < n → atI (ts.map ov) (a : Int) = some (ov (ts.getD a none)) := fun {a} ha => atI_cell htl ha
    refine ⟨_, (pss_cons (ps_par (i := 2) (j := 3) (by rfl) scLlimits.nd rfl rfl (by decide) rfl rfl (pa_cons (pe_callB call_len (by rfl) T.len (by decide +kernel) (pa_cons (pv 0) pa_nil)) (pa_cons (pe_lst (pa_cons pe_non (pa_cons pe_non pa_nil))) pa_nil)) (by rfl))
    (pss_cons (ps_setLc (i := 4) (own := [("_law_thing", 5)]) rfl scLlimits.nd rfl rfl (sw_true rfl rfl rfl (by decide +kernel)) (pi_range1 (by rfl) T.range (pa_cons (pv 2) pa_nil)) (blkOk_by (N := N_Llimits) (sc := defScope sLlimits) (by decide +kernel)) (fun _ _ _ _ _ => pg_name (i := 5) scLlimits.nd rfl (Or.inl rfl) (Or.inr rfl)) (fun _ _ _ _ _ => (pts_one (pt_cmpR op_isN (pe_ix (kx_ix_tup K rfl) (pv 1) (pv 5) (fun _ _ => rfl)) pe_non (nomark _)))) (fun _ _ _ _ _ => (pv 5)))
    (pss_cons (ps_if (pt_not (pt_val (C8.pe_c c__law_held hr (by decide) (by rfl) (pa_cons (pv 0) (pa_cons (pv 1) (pa_cons (pe_tup (pa_cons (pe_op op_mul pe_int (pv 2)) (pa_cons pe_int pa_nil))) pa_nil)))))) (pss_one (ps_asg (pe_ix ix_list (pe_lc (own := [("_law_most", 7)]) rfl scLlimits.nd (pi_range1 (by rfl) T.range (pa_cons (pe_op op_add (pe_op op_mul pe_int (pv 2)) pe_int) pa_nil)) (blkOk_by (N := N_Llimits) (sc := defScope sLlimits) (by decide +kernel)) (fun _ _ _ _ _ => pg_name (i := 7) scLlimits.nd rfl (Or.inl rfl) (Or.inr rfl)) (fun _ _ _ _ _ => (pts_one (pt_not (pt_val (C8.pe_c c__law_held hr (by decide) (by rfl) (pa_cons (pv 0) (pa_cons (pv 1) (pa_cons (pe_tup (pa_cons (pv 7) (pa_cons pe_int pa_nil))) pa_nil)))))))) (fun _ _ _ _ _ => (pv 7))) pe_int (fun _ _ => rfl)) (pg_sub (pv 3) pe_int set_list))) pss_nil)
    (pss_cons (ps_for PassesOwn.never rfl (pi_list (pv 4)) (pg_name (i := 5) scLlimits.nd rfl (Or.inr rfl)) (pss_one (ps_if (pt_cmpR op_gt (pe_ix ix_list (pe_ix ix_list (pe_ix ix_list (pv 0) (pv 5) (fun _ _ => rfl)) (pv 2) (fun _ _ => rfl)) (pv 5) (fun _ _ => rfl)) pe_int (nomark _)) (pss_cons (ps_set (i := 6) scLlimits.nd rfl (Or.inl rfl) (pe_ix ix_list (pe_lc (own := [("_law_most", 7)]) rfl scLlimits.nd (pi_range1 (by rfl) T.range (pa_cons (pe_op op_add (pv 2) pe_int) pa_nil)) (blkOk_by (N := N_Llimits) (sc := defScope sLlimits) (by decide +kernel)) (fun _ _ _ _ _ => pg_name (i := 7) scLlimits.nd rfl (Or.inl rfl) (Or.inr rfl)) (fun _ _ _ _ _ => (pts_one (pt_cmpR op_gt (pe_ix (kx_ix_list K rfl) (pe_ix (kx_ix_list K rfl) (pe_ix (kx_ix_list K rfl) (pv 0) (pv 5) (fun _ _ => rfl)) (pv 7) (fun _ _ => rfl)) (pv 5) (fun _ _ => rfl)) pe_int (nomark _)))) (fun _ _ _ _ _ => (pv 7))) pe_int (fun _ _ => rfl)))
    (pss_one (ps_asg (pe_ifExp (pt_cmpR op_isN (pe_ix ix_list (pv 3) pe_int (fun _ _ => rfl)) pe_non (nomark _)) (pv 6) (pe_callB (call_min2 rfl) (by rfl) T.min (by decide +kernel) (pa_cons (pe_ix ix_list (pv 3) pe_int (fun _ _ => rfl)) (pa_cons (pv 6) pa_nil)))) (pg_sub (pv 3) pe_int set_list)))) pss_nil)))
    (pss_one (ps_ret (pe_tup (pa_cons (pe_ix ix_list (pv 3) pe_int (fun _ _ => rfl)) (pa_cons (pe_ix ix_list (pv 3) pe_int (fun _ _ => rfl)) pa_nil))))))))), ?_⟩
    walk_at "vc"
    refine ⟨_, _, rfl, lenL' (lS (sb _ _ hva)) yl1, ?_⟩
    refine ⟨by show 2 ≤ sizeLine; decide, fun Lf hLf => ?_⟩
    have e1 : Ex S0 F H F (upd H Lf (.lst [V.non, V.non])) := Ex.own sb hLf (fun b z => False.elim z)
    have fLf : F Lf = none := sb.free hLf
    have hL1 : upd H Lf (.lst [V.non, V.non]) Lf = some (.lst [V.non, V.non]) := upd_same
    generalize upd H Lf (.lst [V.non, V.non]) = H1 at e1 hL1
    walk_at "vc"
    refine ⟨by omega, by omega, ?_⟩
    intro D hD
    refine lcX (re := Rn) (ds := List.range ts.length) (walk_rg (by omega)) e1.s (fun b z => False.elim z) hD (lt_sz (by simp; omega)) (fun i => !(ts.getD i none).isSome) id (S := S0) (fun F1 H1 e => trivial) (fun i d x F1 H2 H3 hd e y Qy Qn q1 q2 => ?_) (fun F2 H2 ys e2 fD hDD pr1 => ?_)
    · obtain ⟨rfl, rfl⟩ := y
      obtain ⟨rfl, hi⟩ := range_get hd
      walk_at "vc"
      refine ⟨_, _, _, _, rfl, rfl, tS (e.fh _ _ hta), htimes (by omega), ?_⟩
      walk_at "vc"
      cases hg : ts.getD d none with
      | none => exact ⟨_, rfl, q1 (by rw [hg]; rfl) _ _ _ (Ex.refl e.s (fun b z => False.elim z)) rfl⟩
      | some t => exact q2 (by rw [hg]; rfl) _ _ (Ex.refl e.s (fun b z => False.elim z))
    · have ew := paired_nats pr1
      rw [List.map_id] at ew
      subst ew
      obtain ⟨e2', h2D, s2⟩ := frzL e2 hD hDD fD
      have hkeep := e2'.keep hL1 (fun z => z) fLf
      have e02 := e1.trans e2'
      clear e2 fD hDD pr1
      generalize upd F2 D (.lst (((List.range ts.length).filter fun i => !(ts.getD i none).isSome).map nv)) = F3 at e2' h2D s2 hkeep e02
      dsimp only [gName, tSeq]
      refine if_then (fun σ H5 => ∃ F5 w0, σ = [some (.ref va), some (.ref ta), some (nv n), some (.ref Lf), some (.ref D), none, none, none] ∧ Ex S0 F H F5 H5 ∧ F5 D = some (.lst ((missOf ts).map nv)) ∧ F5 Lf = none ∧ H5 Lf = some (.lst [onv w0, .non]) ∧ w0 = (limL n rr ts).1) (fun σ H5 h => ?_) fun fin => ?_
      · obtain ⟨F5, w0, rfl, e5, h5D, f5, h5, hw⟩ := h
        walk_at "vc"
        refine ⟨⟨_, lS (e5.s _ _ h5D)⟩, ?_⟩
        refine for_it (walk_lm (missOf ts) nv) (fun i σ H6 => ∃ u5 u6 u7 F6, σ = [some (.ref va), some (.ref ta), some (nv n), some (.ref Lf), some (.ref D), u5, u6, u7] ∧ Ex S0 F H F6 H6 ∧ F6 D = some (.lst ((missOf ts).map nv)) ∧ F6 Lf = none ∧ H6 Lf = some (.lst [onv w0, onv (((missOf ts).take i).foldl (accR n rr) none)])) ⟨none, none, none, F5, rfl, e5, h5D, f5, h5⟩ (fun i σ H6 _ h => ?_) (fun i x σ H6 H7 hi h y => ?_) (fun σ H6 h => ?_)
        · obtain ⟨u5, u6, u7, F6, rfl, e6, h6D, f6, h6⟩ := h
          exact lS (e6.s _ _ h6D)
        · obtain ⟨u5, u6, u7, F6, rfl, e6, h6D, f6, h6⟩ := h
          obtain ⟨rfl, e3⟩ := y
          obtain ⟨th, ez, rfl⟩ := map_get e3
          have hth : th < n := by have := missOf_lt (List.mem_of_getElem? ez); omega
          generalize hacc : ((missOf ts).take i).foldl (accR n rr) none = acc at h6
          have hnx : ((missOf ts).take (i + 1)).foldl (accR n rr) none = accR n rr acc th := by rw [take_snoc ez, List.foldl_append, hacc]; rfl
          obtain ⟨dg, hdg⟩ := ok.diag th n hth (by omega)
          obtain ⟨a2, vs2, a3, g1, g2, g3, g4, g5⟩ := hrow hth (m := n) (by omega)
          have hdg' : ((rr.getD th []).getD n []).getD th none = some dg := hdg
          have hpos : posAt rr n th = decide (0 < dg) := by unfold posAt; rw [hdg]
          walk_at "vc"
          refine ⟨_, _, _, _, rfl, rfl, lS (e6.fh _ _ hva), g1, ?_⟩
          walk_at "vc"
          refine ⟨_, _, _, _, rfl, rfl, lS (e6.fh _ _ g2), g3, ?_⟩
          walk_at "vc"
          refine ⟨_, _, _, _, rfl, rfl, lS (e6.fh _ _ g4), atI_cell g5 hth, ?_⟩
          rw [hdg']
          walk_at "vc"
          refine ite2 (fun hc => ?_) (fun hc => ?_)
          · have hc : 0 < dg := of_decide_eq_true hc
            have hpt : posAt rr n th = true := by rw [hpos]; exact decide_eq_true hc
            walk_at "vc"
            refine ⟨by omega, by omega, ?_⟩
            intro D2 hD2
            have hD2o : D2 ≠ Lf := by rintro rfl; rw [h6] at hD2; cases hD2
            refine lcX (re := Rn) (ds := List.range (n + 1)) (walk_rg (by omega)) e6.s (fun b z => False.elim z) hD2 (lt_sz (by simp; omega)) (fun m => posAt rr m th) id (S := S0) (fun F1 H1 e => trivial) (fun k d x F7 H8 H9 hd e y Qy Qn q1 q2 => ?_) (fun F8 H8 ys e8 fD2 hDD2 pr8 => ?_)
            · obtain ⟨rfl, rfl⟩ := y
              obtain ⟨rfl, hk⟩ := range_get hd
              obtain ⟨dg2, hdg2⟩ := ok.diag th d hth (by omega)
              obtain ⟨b2, ws2, b3, k1, k2, k3, k4, k5⟩ := hrow hth (m := d) (by omega)
              have hdg2' : ((rr.getD th []).getD d []).getD th none = some dg2 := hdg2
              have hpos2 : posAt rr d th = decide (0 < dg2) := by unfold posAt; rw [hdg2]
              walk_at "vc"
              refine ⟨_, _, _, _, rfl, rfl, lS (e.fh _ _ (e6.f _ _ hva)), k1, ?_⟩
              walk_at "vc"
              refine ⟨_, _, _, _, rfl, rfl, lS (e.fh _ _ (e6.f _ _ k2)), k3, ?_⟩
              walk_at "vc"
              refine ⟨_, _, _, _, rfl, rfl, lS (e.fh _ _ (e6.f _ _ k4)), atI_cell k5 hth, ?_⟩
              rw [hdg2']
              walk_at "vc"
              refine ite2 (fun hc2 => ?_) (fun hc2 => ?_)
              · exact ⟨_, rfl, q1 (hpos2.trans hc2) _ _ _ (Ex.refl e.s (fun b z => False.elim z)) rfl⟩
              · exact q2 (hpos2.trans (by simpa using hc2)) _ _ (Ex.refl e.s (fun b z => False.elim z))
            · have ew := paired_nats pr8
              rw [List.map_id] at ew
              subst ew
              have hmem : n ∈ (List.range (n + 1)).filter fun m => posAt rr m th := List.mem_filter.mpr ⟨List.mem_range.mpr (by omega), hpt⟩
              obtain ⟨fr, hfr1, hfr2⟩ := head_get hmem
              have hfr : (firstR n rr th).getD 0 = fr := by unfold firstR; rw [hfr1]; rfl
              have e68 := e6.trans e8
              have hk8 := e8.keep h6 (fun z => z) f6
              have hLo : H Lf = none := hLf
              walk_at "vc"
              refine ⟨_, _, _, _, rfl, rfl, lS hDD2, (atI_nat (i := 0) hfr2 : _), ?_⟩
              walk_at "vc"
              refine ⟨_, _, _, _, rfl, rfl, lS hk8.1, (atI_nat (i := 1) (v := onv acc) rfl : _), ?_⟩
              cases acc with
              | none =>
                walk_at "vc"
                refine ⟨_, _, _, 1, rfl, rfl, hk8.1, set_two.2, ?_⟩
                refine ⟨_, _, _, F8, rfl, e68.put (.inl hLo) hk8.2, e8.f _ _ h6D, hk8.2, ?_⟩
                rw [upd_same, hnx]
                unfold accR
                rw [if_pos hpt]
                simp only [hfr]
                rfl
              | some x =>
                walk_at "vc"
                refine ⟨_, _, _, _, rfl, rfl, lS hk8.1, (atI_nat (i := 1) (v := nv x) rfl : atI [onv w0, onv (some x)] 1 = some (nv x)), ?_⟩
                walk_at "vc"
                refine ⟨_, _, _, 1, rfl, rfl, hk8.1, set_two.2, ?_⟩
                refine ⟨_, _, _, F8, rfl, e68.put (.inl hLo) hk8.2, e8.f _ _ h6D, hk8.2, ?_⟩
                rw [upd_same, hnx]
                unfold accR
                rw [if_pos hpt]
                simp only [hfr]
                have hmn : (if (fr : Int) < (x : Int) then (fr : Int) else (x : Int)) = ((min x fr : Nat) : Int) := by split <;> omega
                show some (HO.lst [onv w0, V.int (if (fr : Int) < (x : Int) then (fr : Int) else (x : Int))]) = some (HO.lst [onv w0, V.int ((min x fr : Nat) : Int)])
                rw [hmn]
          · have hc : ¬ 0 < dg := fun z => hc (decide_eq_true z)
            have hpt : posAt rr n th = false := by rw [hpos]; exact decide_eq_false hc
            refine ⟨_, _, _, F6, rfl, e6, h6D, f6, ?_⟩
            rw [hnx]
            unfold accR
            rw [hpt]
            exact h6
        · obtain ⟨u5, u6, u7, F6, rfl, e6, h6D, f6, h6⟩ := h
          rw [List.take_length] at h6
          walk_at "vc"
          refine ⟨_, _, _, _, rfl, rfl, lS h6, (atI_nat (i := 0) (v := onv w0) rfl : _), ?_⟩
          walk_at "vc"
          refine ⟨_, _, _, _, rfl, rfl, lS h6, (atI_nat (i := 1) (v := onv ((missOf ts).foldl (accR n rr) none)) rfl : _), ?_⟩
          refine go_t2 e6 fun p9 F9 e9 s9 h9 => q _ _ _ e9 ⟨p9, _, _, rfl, h9, ?_, onv_ro _⟩
          rw [hw]
          exact onv_ro _
      · walk_at "vc"
        refine ⟨.inl ⟨by omega, by omega⟩, ?_⟩
        refine go_t2 (ex0 e02.s) fun p4 F4 e4 s4 h4 => ?_
        refine ⟨F4, _, _, _, n, rr, ts, (2 * n, 0), rfl, e4.s, Mono.up (r := LAll) (e02.f.tr e4.f) hr0, ok, Mono.up (r := RRow) (e02.f.tr e4.f) hts, htl, ⟨p4, _, _, rfl, h4, (by show V.int _ = V.int _; congr 1), rfl⟩, ?_⟩
        have e04 := e02.trans e4
        have hkeep4 := e4.keep hkeep.1 (fun z => z) hkeep.2
        generalize upd H2 p4 _ = H4 at e4 e04 hkeep4
        walk_at "vc"
        refine ite2 (fun hc => ?_) (fun hc => ?_)
        · have hc : heldB rr ts (2 * n) 0 = false := by simpa using hc
          walk_at "vc"
          refine ⟨.inl ⟨by omega, by omega⟩, ?_⟩
          walk_at "vc"
          refine ⟨by omega, by omega, ?_⟩
          intro D2 hD2
          refine lcX (re := Rn) (ds := List.range (2 * n + 1)) (walk_rg (by omega)) e04.s (fun b z => False.elim z) hD2 (lt_sz (by simp; omega)) (fun m => !heldB rr ts m 0) id (S := S0) (fun F1 H1 e => trivial) (fun k d x F7 H8 H9 hd e y Qy Qn q1 q2 => ?_) (fun F8 H8 ys e8 fD2 hDD2 pr8 => ?_)
          · obtain ⟨rfl, rfl⟩ := y
            obtain ⟨rfl, hk⟩ := range_get hd
            walk_at "vc"
            refine go_t2 (ex0 e.s) fun p7 F9 e9 s9 h9 => ?_
            refine ⟨F9, _, _, _, n, rr, ts, (d, 0), rfl, e9.s, Mono.up (r := LAll) (e04.f.tr (e.f.tr e9.f)) hr0, ok, Mono.up (r := RRow) (e04.f.tr (e.f.tr e9.f)) hts, htl, ⟨p7, _, _, rfl, h9, rfl, rfl⟩, ?_⟩
            walk_at "vc"
            refine ite2 (fun hc2 => ?_) (fun hc2 => ?_)
            · exact ⟨_, rfl, q1 hc2 _ _ _ e9 rfl⟩
            · exact q2 (by simpa using hc2) _ _ e9
          · have ew := paired_nats pr8
            rw [List.map_id] at ew
            subst ew
            have hmem : 2 * n ∈ (List.range (2 * n + 1)).filter fun m => !heldB rr ts m 0 := List.mem_filter.mpr ⟨List.mem_range.mpr (by omega), by rw [hc]; rfl⟩
            obtain ⟨fr, hfr1, hfr2⟩ := head_get hmem
            have hk8 := e8.keep hkeep4.1 (fun z => z) hkeep4.2
            have e08 := e04.trans e8
            walk_at "vc"
            refine ⟨_, _, _, _, rfl, rfl, lS hDD2, (atI_nat (i := 0) hfr2 : _), ?_⟩
            walk_at "vc"
            refine ⟨_, _, _, 0, rfl, rfl, hk8.1, set_two.1, ?_⟩
            refine fin _ _ ⟨F8, some fr, rfl, e08.put (.inl hLf) hk8.2, e8.f _ _ (s4 _ _ h2D), hk8.2, by rw [upd_same]; rfl, ?_⟩
            unfold limL firstW
            rw [hc, hfr1]
            rfl
        · have hc : heldB rr ts (2 * n) 0 = true := by simpa using hc
          refine fin _ _ ⟨F4, none, rfl, e04, s4 _ _ h2D, hkeep4.2, hkeep4.1, ?_⟩
          unfold limL
          rw [if_pos hc]
end
end Sa
set_option Elab.async false
set_option linter.all false
set_option maxRecDepth 100000
set_option maxHeartbeats 4000000
namespace Sa
open PySem PySem.Spec PyProof.Rows L2
/-! ### several clauses 'except X as n' -/
abbrev Cl := Value × (Addr → Value → Option Addr → TS)
def endsA (i : Nat) (D : Ends) : Ends := { nx := fun σ H => D.nx (σ.set i none) H, rt := D.rt, bk := fun σ H => D.bk (σ.set i none) H, ct := fun σ H => D.ct (σ.set i none) H }
/-- what they wish of an exception: slot i is the name's -/
def wishA (K : PySem.W.Frag) (N i : Nat) (W0 : WX) (D : Ends) : List Cl → WX
  | [] => W0
  | cl :: more => fun cls d σ H => ∃ b, PySem.W.exmOne K cls cl.1 = some b ∧ (b = true → σ.length = N → ∀ a, H a = none → cl.2 a cls d (endsA i D) (σ.set i (some (.ref a))) H) ∧ (b = false → wishA K N i W0 D more cls d σ H)
inductive ClsA (X : Cx) (n : Str) : List ExceptHandler → List Cl → Prop
  | nil : ClsA X n [] []
  | cons {x : Str} {c : Value} {ts : Addr → Value → Option Addr → TS} {s0 : Stmt} {ss : List Stmt} {q1 q2 : Pos} {hs : List ExceptHandler} {cs : List Cl} (hc : Names X x c)
      (su : ∀ (a : Addr) (oe : Obj) (cls : Value) (d : Option Addr) (pn : List (Addr × Obj)), Zc cls d oe → (∃ vs, oe.data = .fields vs) → PSs (X.suite a ((a, oe) :: pn)) (s0 :: ss) (ts a cls d)) (r : ClsA X n hs cs) :
      ClsA X n (.ExceptHandler (some (.Name x q1)) (some n) (s0 :: ss) q2 :: hs) ((c, ts) :: cs)
theorem ps_tryA {X : Cx} {n : Str} {i : Nat} {body : List Stmt} {h0 : ExceptHandler} {hs : List ExceptHandler} {cs : List Cl} {pos : Pos} {tb : WX → TS} {W0 : WX} (hst : X.stack = X.env :: X.outer) (hfr : X.env.frame = some X.env.locals) (hN : X.N.Nodup) (hi : X.N[i]? = some n) (hl : X.env.kindOf n = some .local) (tk : Takes X W0)
    (hb : ∀ (W : WX) (pn : List (Addr × Obj)) (xe : Value → Shared → Prop), Takes (X.tr pn xe) W → PassesOwn (model X.prog X.w) X.A X.env xe → PSs (X.tr pn xe) body (tb W))
    (hh : ClsA X n (h0 :: hs) cs) : PS X (.Try body (h0 :: hs) [] [] pos) (fun D σ H => tb (wishA X.K X.N.length i W0 D cs) D σ H) := by
  refine ⟨fun pins s σ H D I hw => ?_⟩
  have ok := I.ok
  have frs1 : X.A.frames = some (X.env :: X.outer) := by rw [ok.frames, hst]
  have hloc : Loc X.env.scope n := .inl hl
  refine wpAny_Try_except ?_
  refine wpAny_mono ((hb (wishA X.K X.N.length i W0 D cs) (X.pn ++ pins) (fun e s1 => wpAny (model X.prog X.w) X.A (noteFrame e X.env) (fun _ s2 => wpAny (model X.prog X.w) X.A (setFlight e none)
    (fun _ s3 => wpAny (model X.prog X.w) X.A (handleBy e X.env (h0 :: hs)) (SP X pins D) X.xe s3) X.xe s2) X.xe s1) (fun u s' flying => ?_) PassesOwn.looking).run [] s σ H D (I.toTry _) hw) (fun fw s1 hsp => ?_) (fun e s1 he => he)
  · obtain ⟨a, B, sI, pins', σ', H', cls, d, rfl, J', nb, up, sky, na, os, ag, wish⟩ := flying
    have J : Inv X pins σ' H' sI := J'.ofTry ok
    have skyA : Sky B (X.env :: X.outer) a (Zc cls d) X.env.locals s'.heap := by rw [← hst]; exact sky
    show wpAny (model X.prog X.w) X.A (noteFrame (.ref a) X.env) _ _ _
    refine Sky.land Zc.steady frs1 hfr skyA fun hA flA upA => ?_
    have JA : Inv X pins σ' H' { s' with heap := hA } := J.landed nb flA.1 (up.trans upA) os ag
    obtain ⟨oA, vA, gA, zA, dA⟩ := flA.there
    have notin : a ∉ frs (X.env :: X.outer) := fun hm => by
      obtain ⟨_, o', e', hnf⟩ := flA.2.2.1.mem hm
      rw [gA] at e'
      cases e'
      exact hnf _ dA
    have nL : a ≠ X.env.locals := fun z => notin (List.mem_filterMap.mpr ⟨X.env, List.mem_cons_self, by rw [hfr, z]⟩)
    have nF : a ∉ X.fs := fun hm => by
      obtain ⟨e, he, q⟩ := List.mem_filterMap.mp hm
      exact notin (List.mem_filterMap.mpr ⟨e, List.mem_cons_of_mem _ he, q⟩)
    have SA := JA.suite gA dA na nL nF
    have LT : PySem.W.Looks (model X.prog X.w) hA (typeOf (.ref a)) cls := fun A Q E s k q => wpAny_typeOf_ref (k _ _ gA) (by rw [zA.1]; exact q)
    suffices go : ∀ {hs' : List ExceptHandler} {cs' : List Cl}, ClsA X n hs' cs' → wishA X.K X.N.length i W0 D cs' cls d σ' H' → wpAny (model X.prog X.w) X.A (handleBy (.ref a) X.env hs') (SP X pins D) X.xe { s' with heap := hA } from go hh wish
    intro hs' cs' hk
    induction hk with
    | nil =>
      intro w0
      refine wpAny_handleBy_nil ?_
      obtain ⟨k1, k2, k3, oe, vs, T, oT, ts', he, hz, hd, h1, hr⟩ := id flA
      unfold PySem.passOn
      refine wpAny_bind (wpAny_field he hd h1 ?_)
      rw [if_neg (show ¬ ((Value.ref T == Value.none) = true) from by simp)]
      have fin : wpAny (model X.prog X.w) X.A (setFlight (.ref a) X.env.frame) (fun _ s4 => wpAny (model X.prog X.w) X.A (throw (.ref a) : Sem Flow) (SP X pins D) X.xe s4) X.xe { s' with heap := hA } := by
        rw [hfr]
        refine HandSPX.setFlight_upZ flA fun h4 hh4 up4 => wpAny_throw (tk _ _ ?_)
        exact ⟨a, B, sI, pins, σ', H', cls, d, rfl, J, nb, (up.trans upA).trans up4, .inr (.inr (by rw [hst]; exact hh4)), na, os, ag, w0⟩
      first
        | exact wpAny_bind (wpAny_pure (wpAny_bind fin))
        | exact wpAny_bind fin
    | @cons x c ts s0 ss q1 q2 hs2 cs2 hc su r ih =>
      intro w0
      obtain ⟨b, hb1, yes, no⟩ := w0
      refine wpAny_handleBy_cons (codeAny_handlers_test ?_) (by intro q; cases q)
      have LM := PySem.W.exm_one (M := model X.prog X.w) (JA.kIn) LT hb1
      have test : ∀ {Q E : Value → Shared → Prop}, Q c { s' with heap := hA } → wpAny (model X.prog X.w) (X.A.mark (some (.ref a))) (eval (.Name x q1) X.env) Q E { s' with heap := hA } := fun {Q E} q => by
        obtain ⟨hg, hdb, hm | ⟨hm, hv, hnn⟩⟩ := hc
        · exact ld_glob (X := X.suite a ((a, oA) :: (X.pn ++ pins))) SA hg hm q hdb
        · exact ld_blt (X := X.suite a ((a, oA) :: (X.pn ++ pins))) SA hg hm hv q hnn hdb
      refine test (LM.here ?_)
      cases b with
      | false =>
        show wpAny _ X.A (handleBy (.ref a) X.env hs2) _ _ _
        exact ih (no rfl)
      | true =>
        refine codeAny_handlers_suite_as ?_
        refine HandSPX.lands_againZ flA fun h4 fl4 up4 => ?_
        have J4 : Inv X pins σ' H' { s' with heap := h4 } := J.landed nb fl4.1 ((up.trans upA).trans up4) os ag
        obtain ⟨o4, v4, g4, z4, d4⟩ := fl4.there
        have S4 := J4.suite g4 d4 na nL nF
        refine store_ok (X := X.suite a ((a, o4) :: (X.pn ++ pins))) (v := .ref a) S4 hN hi hloc rfl (fun s5 S5 => ?_) (.inr hl)
        refine wpAny_mono ((su a o4 cls d (X.pn ++ pins) z4 ⟨_, d4⟩).run [] s5 _ H' _ S5 (yes rfl JA.len a na)) (fun fw s6 hsp => ?_) (fun _ _ z => False.elim z)
        have off : ∀ {σ6 : L2.St} {H6 : Hp} {Q : Shared → Prop}, Inv (X.suite a ((a, o4) :: (X.pn ++ pins))) [] σ6 H6 s6 → (∀ s7, Inv X pins (σ6.set i none) H6 s7 → Q s7) →
            wpAny (model X.prog X.w) X.A (do bindName X.env n .none; unbindBehindTheSuite X.env n q2) (fun _ s7 => Q s7) X.xe s6 := fun {σ6 H6 Q} S6 hq => gone_ok (S6.unsuite ok) hN hi hl hq
        cases fw with
        | next =>
          obtain ⟨σ6, H6, S6, q6⟩ := hsp
          exact off S6 fun s7 J7 => ⟨_, _, J7, q6⟩
        | brk =>
          obtain ⟨σ6, H6, S6, q6⟩ := hsp
          exact off S6 fun s7 J7 => ⟨_, _, J7, q6⟩
        | cont =>
          obtain ⟨σ6, H6, S6, q6⟩ := hsp
          exact off S6 fun s7 J7 => ⟨_, _, J7, q6⟩
        | ret u =>
          obtain ⟨v6, σ6, H6, S6, r6, q6⟩ := hsp
          exact off S6 fun s7 J7 => ⟨_, _, _, J7, r6, q6⟩
  · cases fw with
    | next =>
      obtain ⟨σ', H', J', q⟩ := hsp
      exact wpAny_execs_nil ⟨σ', H', J'.ofTry ok, q⟩
    | brk =>
      obtain ⟨σ', H', J', q⟩ := hsp
      exact ⟨σ', H', J'.ofTry ok, q⟩
    | cont =>
      obtain ⟨σ', H', J', q⟩ := hsp
      exact ⟨σ', H', J'.ofTry ok, q⟩
    | ret u =>
      obtain ⟨v, σ', H', J', r, q⟩ := hsp
      exact ⟨v, σ', H', J'.ofTry ok, r, q⟩
end Sa
set_option Elab.async false
set_option linter.all false
set_option maxRecDepth 100000
set_option maxHeartbeats 4000000
namespace Sa
open PySem PySem.Spec PySem.Calls PyProof.Rows L2 PySem.W
/-! ### isinstance of a caught error with a field -/
section
variable {prog : Program} {w : World} {A : Around} {E : Value → Shared → Prop} {s : Shared} {K : PySem.W.Frag} {x D : Addr} {ox : Obj}
theorem cls_found {C : Addr} {od : Option Obj} {nm : Str} {a g : Value} (hc : (clsIn K C).isSome = true) (ha : findIn K (.ref C) nm = some (some a)) (hg : specialIn K a "__get__" = some (some g)) (ht : takesIn K a = some true) : findObj K C od nm = some (.bind g a) := by
  obtain ⟨cd, hc⟩ := Option.isSome_iff_exists.mp hc
  unfold findObj
  rw [hc, Option.bind_some, ha, Option.bind_some]
  simp [hg, ht]
theorem cls_read {od : Option Obj} {Q : Option Value → Shared → Prop} (C : ExcC K D) (X : K.In s.heap) (I : InstAt s.heap x ox D od) (h : Q (some (.ref D)) { s with toks := s.toks + 1 }) : wpAny (model prog w) A (getAttr? (.ref x) "__class__") Q E s := by
  have hf : findObj K D od "__class__" = some (.bind (.builtin "getset_descriptor.__get__") (.builtin "object.__class__")) := cls_found (by obtain ⟨cd, hc, _⟩ := any_some C.hd; rw [hc]; rfl) C.ha C.hn C.ht
  obtain ⟨hp, g, d, t, os⟩ := s
  have la := I.type (M := model prog w)
  have lb := looks_findIn (M := model prog w) X C.hg
  have lc := looks_findIn (M := model prog w) X C.hk
  have ld := looks_find (M := model prog w) X I hf
  have isB : Looks (model prog w) hp (isInstance (.ref x) (.type "BaseException")) true := la.andThen (looks_subIn X C.hs)
  have b0 : (false && onTheHeap (Value.builtin "BaseException.__getattribute__")) = false := rfl
  have b1 : (onTheHeap (Value.ref D) && Value.builtin "BaseException.__getattribute__" == Value.builtin "object.__getattribute__") = false := by
    rw [show (Value.builtin "BaseException.__getattribute__" == Value.builtin "object.__getattribute__") = false by decide +kernel]; rfl
  unfold getAttr? getAttrBy? getAttrBy
  refine wpAny_bind (wpAny_mkText (wpAny_bind (wpAny_attempt (wpAny_holding (wpAny_bind (la.at (wpAny_bind (lb.at ?_))))))))
  show wpAny _ _ (if (onTheHeap (Value.ref D) && Value.builtin "BaseException.__getattribute__" == Value.builtin "object.__getattribute__") = true then _ else _) _ _ _
  rw [b1, if_neg Bool.false_ne_true]
  unfold getAttrByItsOwn hookBefore
  refine wpAny_bind ?_
  rw [if_pos (show onTheHeap (Value.ref D) = true from rfl)]
  refine lc.at (wpAny_bind (wpAny_attempt (wpAny_holding ?_)))
  unfold callGetattribute
  rw [b0, if_neg Bool.false_ne_true]
  unfold boundAndCalled
  rw [PySem.F.excAttr_ValueError.ga.bind (.ref x)]
  refine wpAny_bind (wpAny_pure ?_)
  show wpAny _ _ (call (.builtin "BaseException.__getattribute__") [.ref x, .str "__class__" t]) _ _ _
  refine wpAny_call (codeAny_call_builtin PySem.F.excAttr_ValueError.ga.plain PySem.F.entry_bexc_ga ?_)
  refine @check_slot (model prog w) _ _ ⟨hp, g, d, t + 1, os⟩ "BaseException.__getattribute__" "BaseException" "__getattribute__" (.ref x) [.str "__class__" t] [] _ (by decide +kernel) (by decide +kernel) isB (PySem.F.args_bexc_ga (.ref x) (.str "__class__" t)) ?_
  unfold Builtin.«object.__getattribute__»
  refine wpAny_bind (wpAny_of_eq (a := ((Value.ref x : Value), [Value.str "__class__" t])) (by first | rfl | (simp only [slotArgs]; rfl)) ?_)
  refine wpAny_bind (wpAny_pure (wpAny_bind (la.at (wpAny_bind (ld.at ?_)))))
  show wpAny _ _ (holding [Value.builtin "object.__class__"] (call (.builtin "getset_descriptor.__get__") [.builtin "object.__class__", .ref x, .ref D]) >>= ret) _ _ _
  refine wpAny_bind (wpAny_holding (wpAny_call (class_get (s := ⟨hp, g, d, t + 1, os⟩) (ox := ox) (od := od) X I C.hm ?_)))
  refine wpAny_pure ?_
  show wpAny _ _ (handedOut (.ref D)) _ _ _
  rw [handedOut_of (v := .ref D) rfl]
  first
    | exact wpAny_pure (wpAny_pure h)
    | exact wpAny_pure h
    | exact wpAny_pure (wpAny_bind (wpAny_pure (wpAny_pure h)))
theorem kit_exc {od : Option Obj} (C : ExcC K D) : KitX K (.ref x) (.ref D) (fun h => InstAt h x ox D od) where
  ty := fun _ _ _ I => I.type
  it := fun _ _ X _ => by
    obtain ⟨cdD, hcD, _⟩ := any_some C.hd
    unfold clsIn at hcD
    split at hcD
    · rename_i c' d' cd' sl ho
      intro A' Q' E' s' k q
      unfold isType loadHead
      exact wpAny_bind (wpAny_loadPart (k _ _ (X _ _ ho)) (wpAny_pure q))
    · cases hcD
  ne := fun h tp dd its n sl X htp => by
    obtain ⟨cdD, hcD, _⟩ := any_some C.hd
    refine Bool.eq_false_iff.mpr fun q => ?_
    have e : D = tp := Value.ref.inj (beq_iff_eq.mp q)
    subst e
    unfold clsIn at hcD
    split at hcD
    · rename_i c' d' cd' sl ho
      have z := (X _ _ ho).symm.trans htp
      cases z
    · cases hcD
  ca := fun X I k => cls_read C X I k
end
/-- isinstance(e, c), e the exception that the suite holds, with its dict at dd -/
def rIsEd (K : PySem.W.Frag) (D a dd : Addr) : List V → Hp → VK → Prop := fun xs H Q => ∃ (c : V) (cv : Value) (b : Bool) (fs : List (Str × V)), xs = [.ref a, c] ∧ (∀ u, RelV c u → u = cv) ∧ PySem.W.kitOne K (.ref D) cv = some b ∧ H dd = some (.xd fs) ∧ Q (.bl b) H
theorem call_isEd {X : Cx} {a D dd : Addr} {oe : Obj} {pn : List (Addr × Obj)} (C : ExcC X.K D) (hz : Zc (.ref D) (some dd) oe) (hf : ∃ vs, oe.data = .fields vs) : CallR (X.suite a ((a, oe) :: pn)) (.builtin "isinstance") (rIsEd X.K D a dd) := by
  intro pins s σ H xs us Q I r h
  obtain ⟨c, cv, b, fs, rfl, hcv, e, hdd, q⟩ := h
  cases r with
  | cons rx rr =>
    cases rr with
    | cons rt rr =>
      cases rr
      cases rx
      have ec := hcv _ rt
      subst ec
      obtain ⟨hget, _⟩ := I.pin (a, oe) (List.mem_append.mpr (.inl List.mem_cons_self))
      obtain ⟨vs, hv⟩ := hf
      have hx : ObjOk X.prog X.w H s.heap dd (.xd fs) := I.hok dd _ hdd
      obtain ⟨mA, hns, _⟩ := hx
      obtain ⟨od, ho, _⟩ := lookIn_ns hns
      have J : PySem.W.InstAt s.heap a oe D (some od) := ⟨hget, hz.1, by unfold PySem.W.notCls; rw [hv] <;> rfl, by rw [hz.2]; exact ho⟩
      exact PySem.W.kia_one (kit_exc C) I.kIn J e (fun z => nomatch z) fun tk => ⟨.bl b, H, I.kept (t' := tk) fun _ _ z => z, rfl, q⟩
/-! ### _law_told -/
/-- what the three error classes must say -/
structure ErrC (K : PySem.W.Frag) (mg : Str → Option Value) (CR CN CT : Addr) : Prop where
  xR : XfC K CR
  xN : XfC K CN
  xT : XfC K CT
  fR : PySem.W.findIn K (.ref CR) "word" = some none
  fN : PySem.W.findIn K (.ref CN) "word" = some none
  fT : PySem.W.findIn K (.ref CT) "at" = some none
  mR : mg "Refused" = some (.ref CR)
  mN : mg "InvalidNumber" = some (.ref CN)
  mT : mg "InvalidTimes" = some (.ref CT)
  eRR : PySem.W.exmOne K (.ref CR) (.ref CR) = some true
  eNR : PySem.W.exmOne K (.ref CN) (.ref CR) = some false
  eTR : PySem.W.exmOne K (.ref CT) (.ref CR) = some false
  eNN : PySem.W.exmOne K (.ref CN) (.ref CN) = some true
  eTN : PySem.W.exmOne K (.ref CT) (.ref CN) = some false
  eTT : PySem.W.exmOne K (.ref CT) (.ref CT) = some true
  isR : ExcC K CR
  kR : PySem.W.kitOne K (.ref CR) (.ref CN) = some false
def EndR (w : V) (f : V → List V) (d : Option Addr) (fl : Str) (H : Hp) (Q : VK) : Prop := ∃ dd, d = some dd ∧ H dd = some (.xd [(fl, w)]) ∧ ∀ p, H p = none → Q (.ref p) (upd H p (.tup (f w)))
def E3 (CR CN CT : Addr) (Q : VK) : XK := fun cls d H =>
  (cls = .ref CR ∧ ∃ w, EndR w (fun w => [.str "refused", w, .bl false]) d "word" H Q) ∨ (cls = .ref CN ∧ ∃ w, EndR w (fun w => [.str "number", w]) d "word" H Q) ∨ (cls = .ref CT ∧ ∃ w, EndR w (fun w => [.str "times", w]) d "at" H Q)
def TT3 (CR CN CT : Addr) : (XK → Hp → VK → Prop) → Hp → VK → Prop := fun tl H Q => tl (E3 CR CN CT Q) H (fun v H' => [V.str "told", v].length ≤ sizeLine ∧ ∀ p, H' p = none → Q (.ref p) (upd H' p (.tup [.str "told", v])))
theorem pss_given {X : Cx} {body : List Stmt} {I : Type} {C : I → Prop} {t : I → TS} (h : ∀ i, C i → PSs X body (t i)) : PSs X body (fun D σ H => ∃ i, C i ∧ t i D σ H) :=
  ⟨fun pins s σ H D I ⟨i, c, q⟩ => (h i c).run pins s σ H D I q⟩
theorem told_gives3 {X : Cx} {g CR CN CT : Addr} {cdg : Value} {q : Str} (EC : ErrC X.K X.mg CR CN CT) (hmi : X.mg "isinstance" = none) :
    LamX.GivesTo X N_Ltold "_law_told" (defScope sLtold) g cdg (defBody sLtold) "_law_deed" q (TT3 CR CN CT) := by
  intro f c' s H Q tl act hc h
  have hgR : Names (cxOf C8.CX0 X.prog X.w X.K X.mg X.base N_Ltold "_law_told" (defScope sLtold) g cdg X.A X.stack s H C8.E0).nox "Refused" (.ref CR) := ⟨by rfl, by decide, .inl EC.mR⟩
  have hgN : Names (cxOf C8.CX0 X.prog X.w X.K X.mg X.base N_Ltold "_law_told" (defScope sLtold) g cdg X.A X.stack s H C8.E0).nox "InvalidNumber" (.ref CN) := ⟨by rfl, by decide, .inl EC.mN⟩
  have hgT : Names (cxOf C8.CX0 X.prog X.w X.K X.mg X.base N_Ltold "_law_told" (defScope sLtold) g cdg X.A X.stack s H C8.E0).nox "InvalidTimes" (.ref CT) := ⟨by rfl, by decide, .inl EC.mT⟩
  refine ⟨_, pss_one (ps_tryA (X := (cxOf C8.CX0 X.prog X.w X.K X.mg X.base N_Ltold "_law_told" (defScope sLtold) g cdg X.A X.stack s H C8.E0).nox) (n := "error") (i := 1) (W0 := fun _ _ _ _ => False)
    (tb := fun W D σ H => ∃ Ech : XK, (∀ cls d σ' H', Ech cls d H' → W cls d σ' H') ∧ σ[0]? = some (some (.ref f)) ∧ H c' = some (LamX.CodeO c' q) ∧ tl Ech H fun v H' => [V.str "told", v].length ≤ sizeLine ∧ ∀ p, H' p = none → D.rt (.ref p) (upd H' p (.tup [.str "told", v])))
    (cs := [((.ref CR : Value), fun a cls d D σ H => ∃ dd, (cls = .ref CR ∧ d = some dd) ∧ tRet (tTup (tCons (tC (.str "refused")) (tCons (tXf a cls d CR "word" (tVar 1)) (tCons (tCB (rIsEd X.K CR a dd) (tCons (tVar 1) (tCons (tC (.ref CN)) tNil))) tNil)))) D σ H),
      ((.ref CN : Value), fun a cls d => tRet (tTup (tCons (tC (.str "number")) (tCons (tXf a cls d CN "word" (tVar 1)) tNil)))),
      ((.ref CT : Value), fun a cls d => tRet (tTup (tCons (tC (.str "times")) (tCons (tXf a cls d CT "at" (tVar 1)) tNil))))])
    rfl rfl scLtold.nd rfl rfl LamX.takes0 (fun W pn xe tk _ => ?_) (.cons hgR (fun a oe cls d pn hz hf => pss_given fun dd hcd => ?_) (.cons hgN (fun a oe cls d pn hz hf => ?_) (.cons hgT (fun a oe cls d pn hz hf => ?_) .nil)))), ?_⟩
  · refine ⟨fun pins s' σ H' D I h' => ?_⟩
    obtain ⟨Ech, hW, h1, h2, h3⟩ := h'
    exact (pss_one (ps_ret (pe_tup (pa_cons pe_str (pa_cons (act W pn xe Ech _ _ tk hW) pa_nil))))).run pins s' σ H' D I ⟨h1, h2, h3⟩
  · obtain ⟨rfl, rfl⟩ := hcd
    exact pss_one (ps_ret (pe_tup (pa_cons pe_str (pa_cons (pe_xf EC.xR EC.fR hz hf (pv 1) rfl) (pa_cons (pe_callB (call_isEd EC.isR hz hf) (by rfl) hmi (by decide +kernel) (pa_cons (pv 1) (pa_cons (pe_glob (v := .ref CN) (by rfl) EC.mN rfl (by decide)) pa_nil))) pa_nil)))))
  · exact pss_one (ps_ret (pe_tup (pa_cons pe_str (pa_cons (pe_xf EC.xN EC.fN hz hf (pv 1) rfl) pa_nil))))
  · exact pss_one (ps_ret (pe_tup (pa_cons pe_str (pa_cons (pe_xf EC.xT EC.fT hz hf (pv 1) rfl) pa_nil))))
  · refine ⟨E3 CR CN CT Q, fun cls d σ' H' hE => ?_, rfl, hc, h⟩
    rcases hE with ⟨rfl, w1, dd, rfl, hdd, hq⟩ | ⟨rfl, w1, dd, rfl, hdd, hq⟩ | ⟨rfl, w1, dd, rfl, hdd, hq⟩
    · refine ⟨true, EC.eRR, fun _ hl a ha => ?_, fun z => by cases z⟩
      obtain ⟨y1, y2, rfl⟩ : ∃ y1 y2, σ' = [y1, y2] := by
        match σ', hl with
        | [y1, y2], _ => exact ⟨y1, y2, rfl⟩
      refine ⟨dd, ⟨rfl, rfl⟩, ?_⟩
      refine ⟨_, rfl, rfl, rfl, dd, _, w1, rfl, hdd, rfl, ?_⟩
      refine ⟨_, rfl, ?_⟩
      refine ⟨.ref CN, .ref CN, false, _, rfl, fun u hu => hu, EC.kR, hdd, ?_⟩
      exact ⟨by show 3 ≤ sizeLine; decide, fun p hp => hq p hp⟩
    · refine ⟨false, EC.eNR, fun z => (by cases z), fun _ => ⟨true, EC.eNN, fun _ hl a ha => ?_, fun z => by cases z⟩⟩
      obtain ⟨y1, y2, rfl⟩ : ∃ y1 y2, σ' = [y1, y2] := by
        match σ', hl with
        | [y1, y2], _ => exact ⟨y1, y2, rfl⟩
      refine ⟨_, rfl, rfl, rfl, dd, _, w1, rfl, hdd, rfl, ?_⟩
      exact ⟨by show 2 ≤ sizeLine; decide, fun p hp => hq p hp⟩
    · refine ⟨false, EC.eTR, fun z => (by cases z), fun _ => ⟨false, EC.eTN, fun z => (by cases z), fun _ => ⟨true, EC.eTT, fun _ hl a ha => ?_, fun z => by cases z⟩⟩⟩
      obtain ⟨y1, y2, rfl⟩ : ∃ y1 y2, σ' = [y1, y2] := by
        match σ', hl with
        | [y1, y2], _ => exact ⟨y1, y2, rfl⟩
      refine ⟨_, rfl, rfl, rfl, dd, _, w1, rfl, hdd, rfl, ?_⟩
      exact ⟨by show 2 ≤ sizeLine; decide, fun p hp => hq p hp⟩
end Sa
set_option Elab.async false
set_option linter.all false
set_option maxRecDepth 100000
set_option maxHeartbeats 4000000
namespace Sa
open PySem PySem.Spec PyProof.Rows L2
/-! ### sum of a tuple of ints -/
section
variable {X : Cx}
def rSumT (K : PySem.W.Frag) : List V → Hp → VK → Prop := fun vs H Q => ∃ (a : Addr) (ns : List Int), vs = [V.ref a] ∧ SqT K H a (ns.map V.int) ∧ Q (.int ns.sum) H
theorem cr_sumT (hc : X.calm = true) : CallR X (.builtin "sum") (rSumT X.K) := by
  intro pins s σ H vs us Q I r h
  obtain ⟨a, ns, rfl, hs, q⟩ := h
  obtain ⟨its, rv, hl, _⟩ := I.tuple hs
  rw [Vals.ref1 r]
  have hi : IntsAre its ns := Vals.ints rv
  obtain ⟨xs, hx⟩ := hi.allInts.items
  have hn : numsOf its = ns := hi.numsOf
  have hx : its.toArray = intItems xs := hx
  have hn2 : numsOf (intItems xs).toList = ns := by rw [← hx]; exact hn
  rw [nums_intItems] at hn2
  rw [hx] at hl
  refine PySem.W.ktm_sumG (I.ok.hd hc) hl fun h' tk t' hk => ?_
  have q' : Q (.int (preSum (numAt xs) xs.size)) H := by
    rw [preSum_eq, List.take_of_length_le (by simp), hn2]; exact q
  exact ⟨.int _, H, I.kept hk, ⟨_, rfl⟩, q'⟩
end
/-! ### sorted(d.keys()) -/
def keysO (p d : Addr) : HO := .ext fun h => PySem.W.KdlKeysView h p d
theorem keysO_ok {P : Program} {w : World} {H : Hp} {h : Heap} {p d : Addr} (k : PySem.W.KdlKeysView h p d) : ObjOk P w H h p (keysO p d) :=
  ⟨k, (by obtain ⟨o, e, _⟩ := k; exact ⟨o, e⟩), fun h1 h2 z st => by
    obtain ⟨o, e, c⟩ := z
    exact ⟨o, st _ e, c⟩⟩
def tKeysV (td : TE) : TE := fun σ H Q => td σ H fun x H1 => ∃ a kvs, x = .ref a ∧ Rd H1 a (.dK kvs) ∧ ∀ p, H1 p = none → Q (.ref p) (upd H1 p (keysO p a))
section
variable {X : Cx} {e : Expr} {td : TE} {apos cpos : Pos}
theorem pe_keysV (he : PE X e td) (hbase : attributeBase e "keys" X.env (eval e X.env) = eval e X.env := by rfl) (hline : (apos.endLine == cpos.line) = true := by rfl) : PE X (.Call (.Attribute e "keys" apos) [] [] cpos) (tKeysV td) := by
  refine ⟨fun pins s σ H R I h => ?_⟩
  refine wpAny_Call_method (T := "dict") (id := "dict.keys") hbase rfl hline F.plainAttrs_dict F.slot_dict_keys F.type_dict_keys (thn (he.run pins s σ H _ I h) fun u s1 ⟨x, H1, I1, rx, d, kvs, ex, hd, q⟩ => ?_)
  subst ex
  obtain rfl : u = Value.ref d := rx
  obtain ⟨z, lo, vs, rel, dd⟩ := dk_rd I1.hok hd
  refine ⟨dd.typeIs, dd.mapOf.noDict, ?_⟩
  have hk : PySem.W.KdlKeysView (s1.heap.push { cls := .type "dict_keys", data := .fields #[.ref d] }) s1.heap.objs.size d := ⟨_, Heap.get?_push_size _ rfl, rfl, rfl⟩
  have fin : EP X pins σ R (.ref s1.heap.objs.size) { s1 with heap := s1.heap.push { cls := .type "dict_keys", data := .fields #[.ref d] } } :=
    ⟨.ref s1.heap.objs.size, _, I1.laid (t' := s1.toks) (a := s1.heap.objs.size) (o := keysO s1.heap.objs.size d) (fun b ob q => Heap.get?_push_of_some _ q) (Nat.le_refl _) (keysO_ok hk), rfl, q _ (I1.hok.fresh (Nat.le_refl _))⟩
  show wpAny _ _ (callWith cpos (.builtin "dict.keys") [.ref d] [] []) _ X.xe s1
  exact method_meetsIn F.slot_dict_keys F.entry_dict_keys rfl (PySem.evalArgs_none ⟨rfl, dd.typeIs, F.args_dict_keys_1 _, _, PySem.W.kdl_meets_keys (mixKind X.prog X.w) d lo, ⟨vs, dd⟩, fin⟩)
end
theorem intsEach : ∀ {its : List Value} {ks : List Int}, its.length = ks.length → (∀ (j : Nat) (v : Value), its[j]? = some v → ∃ x t, ks[j]? = some x ∧ v = .int x t) → IntsAre its ks
  | [], [], _, _ => .nil
  | [], _ :: _, hl, _ => by simp at hl
  | _ :: _, [], hl, _ => by simp at hl
  | v :: its, k :: ks, hl, h => by
    obtain ⟨x, t, e1, e2⟩ := h 0 v rfl
    have e1 : k = x := Option.some.inj e1
    subst e1 e2
    exact .cons _ _ (intsEach (by simpa using hl) fun j u e => by
      obtain ⟨y, t2, a, b⟩ := h (j + 1) u (by simpa using e)
      exact ⟨y, t2, by simpa using a, b⟩)
/-- sorted of a dict's keys view: fewer than 64 keys, all ints -/
def rSortedKV : List V → Hp → VK → Prop := fun xs H Q => ∃ (v a : Addr) (kvs : List (Key × V)) (ks : List Int), xs = [.ref v] ∧ H v = some (keysO v a) ∧ Rd H a (.dK kvs) ∧ kvs.map (·.1) = ks.map Sum.inl ∧ ks.length < 64 ∧
  ∀ (ys : List Int) (p : Addr), ys.Perm ks → ys.Pairwise (· ≤ ·) → H p = none → Q (.ref p) (upd H p (.lst (ys.map V.int)))
theorem call_sortedKV {X : Cx} (calm : X.calm = true) : CallR X (.builtin "sorted") rSortedKV := by
  intro pins s σ H xs us Q I r q
  obtain ⟨v, a, kvs, ks, rfl, hv, hd, hks, h64, q⟩ := q
  obtain ⟨u, eu, rx⟩ := vals1 r
  subst eu
  cases rx
  obtain ⟨kview, _, _⟩ := (show ObjOk X.prog X.w H s.heap v (keysO v a) from I.hok v _ hv)
  obtain ⟨z, lo, vs, rel, dd⟩ := dk_rd I.hok hd
  obtain ⟨ep, hat⟩ := dd.dictAt
  have keys : vs.map (·.1) = ks.map Sum.inl := rel.keys.symm.trans hks
  have len : vs.length = ks.length := by
    have e := congrArg List.length keys
    rwa [List.length_map, List.length_map] at e
  have h16 : vs.length ≤ sizeLine := by rw [len, sizeLine_eq]; omega
  refine Calls.call_function_entry PyProof.Rows.kind_sorted PyProof.Rows.plain_sorted PyProof.Rows.entry_sorted (PyProof.Rows.args_sorted1 _) ?_
  unfold Builtin.«sorted»
  refine wpAny_bind (m := checkCount "sorted" 1 1 _) (wpAny_pure ?_)
  refine wpAny_bind (PySem.W.kdu_collect (A := X.A.in1) (PySem.W.kdl_keys (knd := mixKind X.prog X.w) (kvs := vs) (ep := ep)) (I.ok.hd calm) ⟨kview, hat⟩ h16 fun h' tk acc hk hacc => ?_)
  have hal : acc.toList.length = ks.length := by rw [Array.length_toList, hacc.1, len]
  have each : IntsAre acc.toList ks := intsEach hal fun j x e => by
    obtain ⟨k, y, e1, e2⟩ := hacc.2 j x (by rw [← Array.getElem?_toList]; exact e)
    have e3 : (vs.map (·.1))[j]? = some k := by rw [List.getElem?_map, e1]; rfl
    rw [keys, List.getElem?_map] at e3
    cases e4 : ks[j]? with
    | none => rw [e4] at e3; cases e3
    | some y =>
      rw [e4] at e3
      have e5 : Sum.inl y = k := Option.some.inj e3
      subst e5
      rcases keyIs_shape (show keyIs (Sum.inl y) x = true from e2) with ⟨i, t, ek, ev⟩ | ⟨z, t, ek, ev⟩
      · cases ek
        exact ⟨y, t, rfl, ev⟩
      · cases ek
  have I1 : Inv X pins σ H { s with heap := h', toks := tk } := I.kept hk
  refine wpAny_bind (wpAny_newList ?_ (by rw [hal, sizeLine_eq]; omega))
  have hoL : (h'.push (seqObj "list" acc.toList.toArray 0)).get? h'.objs.size = some (seqObj "list" acc.toList.toArray 0) := Heap.get?_push_size _ rfl
  show wpAny _ _ _ _ _ { s with heap := h'.push (seqObj "list" acc.toList.toArray 0), toks := tk }
  refine wpAny_bind (wpAny_holding (wpAny_call_entry PyProof.Rows.slot_list_sort ⟨_, hoL, rfl⟩ PyProof.Rows.entry_list_sort
    (PyProof.Rows.list_sort_tree (s := { s with heap := h'.push (seqObj "list" acc.toList.toArray 0), toks := tk }) hoL each (by rw [hal]; exact h64) fun out ys g1 g2 g3 => ⟨_, rfl, ?_⟩) (PyProof.Rows.args_list_sort _)))
  obtain ⟨e', he'⟩ := PyProof.Rows.sortedHeap_at (vs := acc.toList) (out := out) hoL
  have hlen : (ys.map V.int).length ≤ sizeLine := by
    rw [List.length_map, g2.length_eq]
    exact Nat.le_trans (Nat.le_of_lt h64) (by decide)
  refine wpAny_pure ⟨_, rfl, .ref h'.objs.size, upd H h'.objs.size (.lst (ys.map V.int)), I1.laid (t' := tk) (fun b u e => ?_) (Nat.le_refl _)
    (show ObjOk X.prog X.w _ _ _ (.lst (ys.map V.int)) from ⟨hlen, out.toList, e', vals_of_ints g1, by rw [Array.toArray_toList]; exact he'⟩), rfl, q ys _ g2 g3 (I1.hok.fresh (Nat.le_refl _))⟩
  have hb : b < h'.objs.size := Heap.lt_size e
  rw [PyProof.Rows.sortedHeap_old (Nat.ne_of_lt hb) (by rw [size_push']; exact Nat.lt_succ_of_lt hb)]
  exact Heap.get?_push_of_some _ e
/-! ### f(k = v, ..), keywords alone -/
section
variable {P : Program} {w : World} {K : PySem.W.Frag} {mg : Str → Option Value} {base : Heap}
/-- a def that may be called with these keywords alone; gV puts their values in the parameters' order -/
structure CalK (CX : CXT) (P : Program) (w : World) (K : PySem.W.Frag) (mg : Str → Option Value) (base : Heap) (k : Nat) (x : Str) (ks : List Str) (gV : List V → List V) (sp : Sp) : Prop where
  ex : ∃ (f : Addr) (fd : FuncData) (ps : List Str) (g : List Value → List Value → List Value), FnOk P w K mg base CX k f fd ps sp ∧ mg x = some (.ref f) ∧ PySem.W.keepIn K (.ref f) = true ∧ KBinds K fd ps ks g (fun _ zs => gV zs)
end
def tKw (sp : Sp) (gV : List V → List V) (E : XK) (tk : TA) : TE := fun σ H Q => tk σ H fun zs H2 => sp (gV zs) H2 Q E
theorem pe_kw0 {X : Cx} {CX : CXT} {k j : Nat} {x : Str} {ks : List Str} {gV : List V → List V} {sp : Sp} {E : XK} {p pos : Pos} {kws : List Keyword} {tk : TA} (c : CalK CX X.prog X.w X.K X.mg X.base k x ks gV sp) (hx : Passes CX X E) (hr : Room j X.A) (hk : k ≤ j) (hg : Gl X x) (hkw : PK X kws tk)
    (hall : (backToKw pos (keywordEach kws X.env)).all (·.1.isSome) = true := by rfl) (hks : (backToKw pos (keywordEach kws X.env)).filterMap (·.1) = ks := by rfl) (hdb : (x == ("__debug__" : Str)) = false := by decide)
    (hpl : ((backTo pos (starEach [] X.env)).any (·.1) || (backToKw pos (keywordEach kws X.env)).any (·.1.isNone)) = false := by rfl) :
    PE X (.Call (.Name x p) [] kws pos) (tKw sp gV E tk) := by
  obtain ⟨f, fd, ps, g, F, hm, kp, b⟩ := c.ex
  refine ⟨fun pins s σ H Q I h => ?_⟩
  refine wpAny_Call_Name_kw (ld_glob I hg hm ?_ hdb)
  refine PySem.W.callWith_KW0 (h₀ := X.base) I.ok.mod.kin kp hall ?_ hpl
  refine thn (hkw.run pos pins s σ H _ I h) fun ws s2 ⟨zs, H2, I2, rz, q2⟩ => ⟨I2.kIn, ?_⟩
  rw [hks]
  exact run_fnk (us := []) (vs := []) F (hr.mono hk) b hx I2 .nil rz q2
/-! ### 'a if c else b' as a test -/
def tIfT (tc ta tb : TT) : TT := fun σ H Q => tc σ H fun c H1 => if c = true then ta σ H1 Q else tb σ H1 Q
theorem pt_ifE {X : Cx} {c a b : Expr} {tc ta tb : TT} {pos : Pos} (hc : PT X c tc) (ha : PT X a ta) (hb : PT X b tb) : PT X (.IfExp c a b pos) (tIfT tc ta tb) := by
  refine ⟨fun pins s σ H Q I h => ?_⟩
  unfold PySem.isTrue
  refine wpAny_bind (thn (hc.run pins s σ H _ I h) fun d s1 ⟨H1, I1, q1⟩ => ?_)
  cases d with
  | true => exact ha.run pins s1 σ H1 _ I1 q1
  | false => exact hb.run pins s1 σ H1 _ I1 q1
end Sa
set_option Elab.async false
set_option linter.all false
set_option maxRecDepth 100000
set_option maxHeartbeats 4000000
namespace Sa
open PySem PySem.Spec PyProof.Rows L2
local macro_rules | `(tactic| walk_at "vc") => `(tactic| repeat (first | refine ⟨_, rfl, ?_⟩ | refine ⟨_, _, rfl, rfl, ?_⟩ | refine ⟨_, _, rfl, ?_⟩ | refine ⟨rfl, ?_⟩))
def cutsF : Nat → List (List Nat)
  | 0 => [[]]
  | k + 1 => cutsF k ++ (cutsF k).map fun r => r ++ [k + 1]
def endsOf (o : Nat) (r : List Nat) : List Nat := [0] ++ r ++ [o]
def diffs (e : List Nat) : List Nat := (List.range (e.length - 1)).map fun i => e.getD (i + 1) 0 - e.getD i 0
def cutsL (o : Nat) : List (List Nat) := (cutsF (o - 1)).map fun r => diffs (endsOf o r)
def endsUp (e : List Nat) : Bool := (List.range (e.length - 1)).all fun i => decide (e.getD i 0 ≤ e.getD (i + 1) 0)
theorem cuts_facts : ∀ o, o ≤ 7 → (cutsF (o - 1)).length ≤ 64 ∧ (∀ r ∈ cutsF (o - 1), endsUp (endsOf o r) = true ∧ r.length ≤ 6) := by decide +kernel
theorem cutsF_len : ∀ k, k ≤ 6 → (cutsF k).length ≤ 64 ∧ ∀ r ∈ cutsF k, r.length ≤ 6 := by decide +kernel
theorem go_catL {K : PySem.W.Frag} {S : Addr → Prop} {F H F1 H1 : Hp} {Q : VK} {a b : Addr} {xs ys : List V} (e : Ex S F H F1 H1) (ha : F1 a = some (.lst xs)) (hb : F1 b = some (.lst ys)) (hz : xs.length + ys.length ≤ 1000) (q : ∀ p F', Ex S F H F' (upd H1 p (.lst (xs ++ ys))) → Sub F1 F' → F' p = some (.lst (xs ++ ys)) → Q (.ref p) (upd H1 p (.lst (xs ++ ys)))) : rCat (.ref a) (.ref b) H1 Q :=
  ⟨a, b, xs, ys, rfl, rfl, e.s _ _ ha, e.s _ _ hb, szk hz, fun p hp => let z := newL e (p := p) (xs := xs ++ ys) hp; q p _ z.1 z.2.2 z.2.1⟩
theorem go_catL' {K : PySem.W.Frag} {S : Addr → Prop} {F H F1 H1 : Hp} {Q : VK} {a b : Addr} {xs ys : List V} (e : Ex S F H F1 H1) (ha : H1 a = some (.lst xs)) (hb : H1 b = some (.lst ys)) (hz : xs.length + ys.length ≤ 1000) (q : ∀ p F', Ex S F H F' (upd H1 p (.lst (xs ++ ys))) → Sub F1 F' → F' p = some (.lst (xs ++ ys)) → Q (.ref p) (upd H1 p (.lst (xs ++ ys)))) : rCat (.ref a) (.ref b) H1 Q :=
  ⟨a, b, xs, ys, rfl, rfl, ha, hb, szk hz, fun p hp => let z := newL e (p := p) (xs := xs ++ ys) hp; q p _ z.1 z.2.2 z.2.1⟩
section
variable {P : Program} {w : World} {K : PySem.W.Frag} {mg : Str → Option Value} {base : Heap}
def sp__law_cuts : Sp := fun vs H Q _ => ∃ F, ∃ o : Nat, vs = [.int o] ∧ Sub F H ∧ 1 ≤ o ∧ o ≤ 7 ∧ ∀ r F' H', Ex S0 F H F' H' → Rl (Rt Rn) F' r (cutsL o) → Q r H'
theorem c__law_cuts (T : Txt K mg) : C8.Cal P w K mg base 1 "_law_cuts" sp__law_cuts [] := by
  refine mkC T.d__law_cuts scLcuts (fun _ _ _ _ _ _ us hl => match us, hl with | [_], _ => rfl) (fun vs H Q E h => ?_) (fun f cdv A outer s H vs Q E hr h => ?_)
  · obtain ⟨F, o, rfl, _⟩ := h
    rfl
  · obtain ⟨F, o, rfl, sb, h1, h7, q⟩ := h
    obtain ⟨hcl, hcr⟩ := cuts_facts o h7
    refine ⟨_, (pss_cons (ps_set (i := 1) scLcuts.nd rfl (Or.inl rfl) (pe_lst (pa_cons (pe_lst pa_nil) pa_nil)))
    (pss_cons (ps_for PassesOwn.never rfl (pi_range1 (by rfl) T.range (pa_cons (pe_op op_sub (pv 0) pe_int) pa_nil)) (pg_name (i := 2) scLcuts.nd rfl (Or.inr rfl)) (pss_one (ps_set (i := 1) scLcuts.nd rfl (Or.inl rfl) (pe_op op_cat (pv 1) (pe_lc (own := [("_law_row_here", 4)]) (tt := tYes) rfl scLcuts.nd (pi_list (pv 1)) (blkOk_by (N := N_Lcuts) (sc := defScope sLcuts) (by decide +kernel)) (fun _ _ _ _ _ => pg_name (i := 4) scLcuts.nd rfl (Or.inl rfl) (Or.inr rfl)) (fun _ _ _ _ _ => pts_nil) (fun _ _ _ _ _ => (pe_op op_cat (pv 4) (pe_lst (pa_cons (pe_op op_add (pv 2) pe_int) pa_nil)))))))))
    (pss_cons (ps_set (i := 3) scLcuts.nd rfl (Or.inl rfl) (pe_lst pa_nil))
    (pss_cons (ps_for PassesOwn.never rfl (pi_list (pv 1)) (pg_name (i := 4) scLcuts.nd rfl (Or.inl rfl)) (pss_cons (ps_set (i := 5) scLcuts.nd rfl (Or.inr rfl) (pe_op op_cat (pe_op op_cat (pe_lst (pa_cons pe_int pa_nil)) (pv 4)) (pe_lst (pa_cons (pv 0) pa_nil))))
    (pss_one (ps_expr (pe_bm PySem.F.plainAttrs_list PySem.F.slot_list_append PySem.F.type_list_append mt_append (pv 3) (pa_cons (pe_callTy call_tuple_of (by rfl) T.tuple (by decide +kernel) (pa_cons (pe_lc (own := [("_law_at", 2)]) (tt := tYes) rfl scLcuts.nd (pi_range1 (by rfl) T.range (pa_cons (pe_op op_sub (pe_callB call_len (by rfl) T.len (by decide +kernel) (pa_cons (pv 5) pa_nil)) pe_int) pa_nil)) (blkOk_by (N := N_Lcuts) (sc := defScope sLcuts) (by decide +kernel)) (fun _ _ _ _ _ => pg_name (i := 2) scLcuts.nd rfl (Or.inl rfl) (Or.inr rfl)) (fun _ _ _ _ _ => pts_nil) (fun _ _ _ _ _ => (pe_op op_sub (pe_ix (kx_ix_list K rfl) (pv 5) (pe_op op_add (pv 2) pe_int) (fun _ _ => rfl)) (pe_ix (kx_ix_list K rfl) (pv 5) (pv 2) (fun _ _ => rfl))))) pa_nil)) pa_nil))))))
    (pss_one (ps_ret (pv 3))))))), ?_⟩
    walk_at "vc"
    refine go_lst (xs := []) (ex0 sb) (szk (by simp)) fun p1 F1 e1 s1 hp1 => ?_
    refine go_lst (xs := [V.ref p1]) e1 (szk (by simp)) fun p2 F2 e2 s2 hp2 => ?_
    walk_at "vc"
    refine ⟨by omega, by omega, ?_⟩
    refine for_it (walk_r0 (n := o - 1) (by omega)) (fun i σ H3 => ∃ u u2 u3 u4 u5 F3, σ = [some (.int (o : Nat)), some u, u2, u3, u4, u5] ∧ Ex S0 F H F3 H3 ∧ Rl (Rl Rn) F3 u (cutsF i)) ⟨_, none, none, none, none, F2, rfl, e2, p2, _, rfl, hp2, .cons ⟨p1, _, rfl, s2 _ _ hp1, .nil⟩ .nil⟩ (fun i σ H3 _ h => trivial) (fun i x σ H3 H4 hi h y => ?_) (fun σ H3 h => ?_)
    · obtain ⟨u, u2, u3, u4, u5, F3, rfl, e3, hu⟩ := h
      obtain ⟨rfl, rfl⟩ := y
      obtain ⟨L, vs, rfl, hL, prL⟩ := id hu
      obtain ⟨fl, fr⟩ := cutsF_len i (by omega)
      have hvl : vs.length ≤ 64 := by rw [Paired.length prL]; exact fl
      walk_at "vc"
      refine ⟨⟨_, lS (e3.s _ _ hL)⟩, ?_⟩
      intro D hD
      refine lcX (re := Rl Rn) (ds := cutsF i) (walk_lp prL) e3.s (fun b z => False.elim z) hD (lt_sz (by omega)) (fun _ => true) (fun r => r ++ [i + 1]) (S := S0) (fun F1 H1 e => lS (e.fh _ _ hL)) (fun j d x F4 H5 H6 hd e y Qy Qn q1 q2 => ?_) (fun F4 H5 ys e fD hDD pr1 => ?_)
      · obtain ⟨rfl, e5⟩ := y
        obtain ⟨d', hd', ⟨a, avs, rfl, ha, pra⟩⟩ := Paired.getL prL e5
        have ed : d' = d := by rw [hd] at hd'; exact (Option.some.inj hd').symm
        subst ed
        have hdl := fr d' (List.mem_of_getElem? hd)
        walk_at "vc"
        refine go_lst (xs := [_]) (ex0 e.s) (szk (by simp)) fun p5 F6 e6 s6 hp6 => ?_
        refine go_catL (K := K) e6 (s6 _ _ (e.f _ _ ha)) hp6 (by rw [Paired.length pra]; simp; omega) fun p7 F7 e7 s7 hp7 => ?_
        exact q1 rfl _ _ _ e7 ⟨p7, _, rfl, hp7, Paired.app (Paired.up (e.f.tr (s6.tr s7)) pra) (.cons (by show V.int _ = V.int _; congr 1) .nil)⟩
      · rw [filter_tt'] at pr1
        obtain ⟨e4, hF4D, s4⟩ := frzL e hD hDD fD
        have hyl : ys.length ≤ 64 := by rw [Paired.length pr1, List.length_map]; exact fl
        refine go_catL (K := K) (e3.trans e4) (e4.f _ _ hL) hF4D (by omega) fun p7 F7 e7 s7 hp7 => ?_
        exact ⟨_, _, _, _, _, F7, rfl, e7, p7, _, rfl, hp7, Paired.app (Paired.up (e4.f.tr s7) prL) (Paired.up (s4.tr s7) pr1)⟩
    · obtain ⟨u, u2, u3, u4, u5, F3, rfl, e3, hu⟩ := h
      obtain ⟨L, vs, rfl, hL, prL⟩ := id hu
      have hvl : vs.length ≤ 64 := by rw [Paired.length prL]; exact hcl
      walk_at "vc"
      refine ⟨szk (by simp), fun C hC => ?_⟩
      have hCo : H C = none := e3.old hC
      have e4 : Ex S0 F H F3 (upd H3 C (.lst [])) := e3.trans (Ex.own e3.s hC (fun b z => False.elim z))
      have fC : F3 C = none := e3.s.free hC
      walk_at "vc"
      refine ⟨⟨_, lS (e4.s _ _ hL)⟩, ?_⟩
      refine for_it (walk_lp prL) (fun i σ H5 => ∃ u2 u4 u5 F5 cs, σ = [some (.int (o : Nat)), some (.ref L), u2, some (.ref C), u4, u5] ∧ Ex S0 F H F5 H5 ∧ Sub F3 F5 ∧ F5 C = none ∧ H5 C = some (.lst cs) ∧ Paired (Rt Rn F5) cs (((cutsF (o - 1)).take i).map fun r => diffs (endsOf o r)))
        ⟨u2, u4, u5, F3, [], rfl, e4, Sub.rfl, fC, upd_same, .nil⟩ (fun i σ H5 _ h => ?_) (fun i x σ H5 H6 hi h y => ?_) (fun σ H5 h => ?_)
      · obtain ⟨u2, u4, u5, F5, cs, rfl, e5, s35, f5, h5, pr5⟩ := h
        exact lS (e5.s _ _ (s35 _ _ hL))
      · obtain ⟨u2, u4, u5, F5, cs, rfl, e5, s35, f5, h5, pr5⟩ := h
        obtain ⟨rfl, e6⟩ := y
        obtain ⟨r, hr1, ⟨a, avs, rfl, ha, pra⟩⟩ := Paired.getL prL e6
        obtain ⟨hup, hrl⟩ := hcr r (List.mem_of_getElem? hr1)
        have hcsl : cs.length ≤ 64 := by rw [Paired.length pr5, List.length_map, List.length_take]; omega
        have eav : avs = r.map nv := paired_nats pra
        subst eav
        walk_at "vc"
        refine go_lst (xs := [V.int 0]) (ex0 e5.s) (szk (by simp)) fun p6 F6 e6' s6 hp6 => ?_
        walk_at "vc"
        refine go_catL (K := K) e6' hp6 (s6 _ _ (s35 _ _ ha)) (by simp; omega) fun p7 F7 e7 s7 hp7 => ?_
        walk_at "vc"
        refine go_lst (xs := [V.int (o : Nat)]) e7 (szk (by simp)) fun p8 F8 e8 s8 hp8 => ?_
        refine go_catL (K := K) e8 (s8 _ _ hp7) hp8 (by simp; omega) fun p9 F9 e9 s9 hp9 => ?_
        have hends : F9 p9 = some (.lst ((endsOf o r).map nv)) := by
          rw [hp9]; unfold endsOf; simp [nv]
        have hel : (endsOf o r).length = r.length + 2 := by unfold endsOf; simp
        generalize upd (upd (upd (upd H6 p6 _) p7 _) p8 _) p9 _ = H9 at e9
        have hk9 := e9.keep h5 (fun z => z) f5
        walk_at "vc"
        refine ⟨.inl ⟨rfl, _, lS hk9.1⟩, ?_⟩
        walk_at "vc"
        refine ⟨_, _, rfl, lenL' (lS (e9.s _ _ hends)) (by rw [List.length_map]), ?_⟩
        walk_at "vc"
        refine ⟨by omega, by omega, ?_⟩
        intro D hD
        refine lcX (re := Rn) (ds := List.range ((endsOf o r).length - 1)) (walk_rg (by omega)) e9.s (fun b z => False.elim z) hD (lt_sz (by simp; omega)) (fun _ => true) (fun k => (endsOf o r).getD (k + 1) 0 - (endsOf o r).getD k 0) (S := S0) (fun F1 H1 e => trivial) (fun j d x F10 H10 H11 hd e y Qy Qn q1 q2 => ?_) (fun F10 H10 ys e fD hDD pr1 => ?_)
        · obtain ⟨rfl, rfl⟩ := y
          obtain ⟨rfl, hi⟩ := range_get hd
          have g1 : ((endsOf o r).map nv)[d]? = some (nv ((endsOf o r).getD d 0)) := by rw [List.getElem?_map, getD_getG (d := 0) (by omega)]; rfl
          have g2 : ((endsOf o r).map nv)[d + 1]? = some (nv ((endsOf o r).getD (d + 1) 0)) := by rw [List.getElem?_map, getD_getG (d := 0) (by omega)]; rfl
          have hle : (endsOf o r).getD d 0 ≤ (endsOf o r).getD (d + 1) 0 := by
            have := List.all_eq_true.mp hup d (List.mem_range.mpr hi)
            exact of_decide_eq_true this
          walk_at "vc"
          refine ⟨_, _, _, _, rfl, rfl, lS (e.fh _ _ hends), atI_z (i := d + 1) (by omega) g2, ?_⟩
          walk_at "vc"
          refine ⟨_, _, _, _, rfl, rfl, lS (e.fh _ _ hends), atI_nat g1, ?_⟩
          refine ⟨_, _, rfl, rfl, ?_⟩
          exact q1 rfl _ _ _ (Ex.refl e.s (fun b z => False.elim z)) (by show V.int _ = V.int _; congr 1; omega)
        · rw [filter_tt'] at pr1
          refine go_tupOf e hDD fun p11 F11 e11 s11 h11 => ?_
          have hk11 := e11.keep hk9.1 (fun z => z) hk9.2
          refine ⟨_, _, _, rfl, rfl, hk11.1, lt_sz (by omega), ?_⟩
          have e011 := e5.trans (e9.trans e11)
          have s09 : Sub F5 F11 := e9.f.tr e11.f
          refine ⟨_, _, _, F11, cs ++ [.ref p11], rfl, e011.put (.inl hCo) hk11.2, s35.tr s09, hk11.2, upd_same, ?_⟩
          rw [take_snoc hr1, List.map_append]
          exact Paired.app (Paired.up s09 pr5) (.cons ⟨p11, _, rfl, h11, Paired.up s11 pr1⟩ .nil)
      · obtain ⟨u2, u4, u5, F5, cs, rfl, e5, s35, f5, h5, pr5⟩ := h
        rw [List.take_length] at pr5
        obtain ⟨e6, h6, s6⟩ := frzL e5 hCo h5 f5
        walk_at "vc"
        exact q _ _ _ e6 ⟨C, cs, rfl, h6, Paired.up s6 pr5⟩
end
end Sa
set_option Elab.async false
set_option linter.all false
set_option maxRecDepth 100000
set_option maxHeartbeats 4000000
namespace Sa
open PySem PySem.Spec PyProof.Rows L2
local macro_rules | `(tactic| walk_at "vc") => `(tactic| repeat (first | refine ⟨_, rfl, ?_⟩ | refine ⟨_, _, rfl, rfl, ?_⟩ | refine ⟨_, _, rfl, ?_⟩ | refine ⟨rfl, ?_⟩))
def someOf (cuts : List (List Nat)) (helds : List Bool) (m : Nat) : List Bool := ((List.range cuts.length).filter fun i => decide ((cuts.getD i []).length = m)).map fun i => helds.getD i false
def okM (na : Bool) (l : List Bool) : Bool := if na = true then l.all id else l.any id
def roundsL (cuts : List (List Nat)) (helds : List Bool) (o : Nat) (na : Bool) : Nat := (List.range o).foldl (fun fd k => if okM na (someOf cuts helds (k + 1)) = true then k + 1 else fd) 0
theorem waitN_le (c : List Nat) : waitN c ≤ c.sum * c.sum := by
  induction c with
  | nil => exact Nat.zero_le _
  | cons b t ih =>
    rw [waitN_cons, List.sum_cons]
    have h1 : b * (b - 1) / 2 ≤ b * b := Nat.le_trans (Nat.div_le_self _ _) (Nat.mul_le_mul_left _ (by omega))
    have h2 : (b + t.sum) * (b + t.sum) = b * b + 2 * (b * t.sum) + t.sum * t.sum := by
      rw [Nat.add_mul, Nat.mul_add, Nat.mul_add, Nat.mul_comm t.sum b]; omega
    omega
theorem log_small {n : Nat} (h : n ≤ 100000) : ((n : Int)).natAbs.log2 < 1920 := by
  show Nat.log2 n < 1920
  by_cases h0 : n = 0
  · subst h0; decide
  · exact Nat.lt_of_lt_of_le ((Nat.log2_lt h0).mpr (Nat.lt_of_le_of_lt h (by decide : 100000 < 2 ^ 17))) (by decide)
section
variable {P : Program} {w : World} {K : PySem.W.Frag} {mg : Str → Option Value} {base : Heap}
def sp__law_rounds : Sp := fun vs H Q _ => ∃ F vc vh cuts helds, ∃ o : Nat, ∃ na : Bool, vs = [vc, vh, .int o, .bl na] ∧ Sub F H ∧ Rl (Rt Rn) F vc cuts ∧ Rl Rb F vh helds ∧ helds.length = cuts.length ∧ cuts.length ≤ 64 ∧ o ≤ 60 ∧ ∀ H', Ex S0 F H F H' → Q (.int (roundsL cuts helds o na : Nat)) H'
theorem c__law_rounds (T : Txt K mg) : C8.Cal P w K mg base 1 "_law_rounds" sp__law_rounds [] := by
  refine mkC T.d__law_rounds scLrounds (fun _ _ _ _ _ _ us hl => match us, hl with | [_, _, _, _], _ => rfl) (fun vs H Q E h => ?_) (fun f cdv A outer s H vs Q E hr h => ?_)
  · obtain ⟨F, vc, vh, cuts, helds, o, na, rfl, _⟩ := h
    rfl
  · obtain ⟨F, vc, vh, cuts, helds, o, na, rfl, sb, ⟨ca, cvs, rfl, hca, prc⟩, ⟨ha, hvs, rfl, hha, prh⟩, hl1, hl2, h60, q⟩ := h
    have ew : hvs = helds.map V.bl := paired_bls prh
    subst ew
    refine ⟨_, (pss_cons (ps_set (i := 4) scLrounds.nd rfl (Or.inl rfl) pe_int)
    (pss_cons (ps_for PassesOwn.never rfl (pi_range2 (by rfl) T.range (pa_cons pe_int (pa_cons (pe_op op_add (pv 2) pe_int) pa_nil))) (pg_name (i := 5) scLrounds.nd rfl (Or.inr rfl)) (pss_cons (ps_setLc (i := 6) (own := [("_law_at", 7)]) rfl scLrounds.nd rfl rfl (sw_true rfl rfl rfl (by decide +kernel)) (pi_range1 (by rfl) T.range (pa_cons (pe_callB call_len (by rfl) T.len (by decide +kernel) (pa_cons (pv 0) pa_nil)) pa_nil)) (blkOk_by (N := N_Lrounds) (sc := defScope sLrounds) (by decide +kernel)) (fun _ _ _ _ _ => pg_name (i := 7) scLrounds.nd rfl (Or.inl rfl) (Or.inr rfl)) (fun _ _ _ _ _ => (pts_one (pt_cmpR op_eq (pe_callB (kx_call_len K rfl) (by rfl) T.len (by decide +kernel) (pa_cons (pe_ix (kx_ix_list K rfl) (pv 0) (pv 7) (fun _ _ => rfl)) pa_nil)) (pv 5) (nomark _)))) (fun _ _ _ _ _ => (pe_ix (kx_ix_list K rfl) (pv 1) (pv 7) (fun _ _ => rfl))))
    (pss_one (ps_if (pt_ifE (pt_val (pv 3)) (pt_val (pe_callB (cr_all rfl) (by rfl) T.all (by decide +kernel) (pa_cons (pv 6) pa_nil))) (pt_val (pe_callB (cr_any rfl) (by rfl) T.any (by decide +kernel) (pa_cons (pv 6) pa_nil)))) (pss_one (ps_set (i := 4) scLrounds.nd rfl (Or.inl rfl) (pv 5))) pss_nil))))
    (pss_one (ps_ret (pv 4))))), ?_⟩
    walk_at "vc"
    refine ⟨⟨by omega, by omega, by omega, by omega⟩, ?_⟩
    refine for_it (walk_rg2 (lo := 1) (n := o) rfl (by omega)) (fun i σ H1 => ∃ u5 u6 u7, ∃ fd : Nat, σ = [some (.ref ca), some (.ref ha), some (.int (o : Nat)), some (.bl na), some (nv fd), u5, u6, u7] ∧ fd = ((List.range o).take i).foldl (fun fd k => if okM na (someOf cuts helds (k + 1)) = true then k + 1 else fd) 0 ∧ Ex S0 F H F H1) ⟨none, none, none, 0, rfl, rfl, ex0 sb⟩ (fun i σ H1 _ h => trivial) (fun i x σ H1 H2 hi h y => ?_) (fun σ H1 h => ?_)
    · obtain ⟨u5, u6, u7, fd, rfl, hfd, e1⟩ := h
      obtain ⟨rfl, rfl⟩ := y
      have hri : (List.range o)[i]? = some i := by rw [List.getElem?_range hi]
      have hnx : ∀ a : Nat, ((List.range o).take (i + 1)).foldl (fun fd k => if okM na (someOf cuts helds (k + 1)) = true then k + 1 else fd) a = if okM na (someOf cuts helds (i + 1)) = true then i + 1 else ((List.range o).take i).foldl (fun fd k => if okM na (someOf cuts helds (k + 1)) = true then k + 1 else fd) a := by
        intro a; rw [take_snoc hri, List.foldl_append]; rfl
      walk_at "vc"
      refine ⟨_, _, rfl, lenL' (lS (e1.s _ _ hca)) (Paired.length prc), ?_⟩
      walk_at "vc"
      refine ⟨by omega, by omega, ?_⟩
      intro D hD
      refine lcX (re := Rb) (ds := List.range cuts.length) (walk_rg (by omega)) e1.s (fun b z => False.elim z) hD (lt_sz (by simp; omega)) (fun k => decide ((cuts.getD k []).length = i + 1)) (fun k => helds.getD k false) (S := S0) (fun F1 H1 e => trivial) (fun j d x F3 H3 H4 hd e y Qy Qn q1 q2 => ?_) (fun F3 H3 ys e fD hDD pr1 => ?_)
      · obtain ⟨rfl, rfl⟩ := y
        obtain ⟨rfl, hk⟩ := range_get hd
        obtain ⟨u, hu, ⟨ua, uvs, rfl, hua, pru⟩⟩ := Paired.get (i := d) (y := cuts.getD d []) prc (getD_getG (by omega))
        walk_at "vc"
        refine ⟨_, _, _, _, rfl, rfl, lS (e.fh _ _ hca), atI_nat hu, ?_⟩
        walk_at "vc"
        refine ⟨_, _, rfl, lenT' (tS (e.fh _ _ hua)) (Paired.length pru), ?_⟩
        walk_at "vc"
        have hdec : ∀ a b : Nat, decide (V.int (a : Int) = V.int (b : Int)) = decide (a = b) := by
          intro a b
          by_cases z : a = b
          · subst z; simp
          · rw [decide_eq_false z, decide_eq_false (fun q => z (by have := V.int.inj q; omega))]
        refine ite2 (fun hc => ?_) (fun hc => ?_)
        · have hc : (cuts.getD d []).length = i + 1 := by
            rw [hdec] at hc
            have := of_decide_eq_true hc
            omega
          walk_at "vc"
          refine ⟨_, _, _, _, rfl, rfl, lS (e.fh _ _ hha), atI_nat (v := V.bl (helds.getD d false)) (by rw [List.getElem?_map, getD_getG (d := false) (by omega)]; rfl), ?_⟩
          exact q1 (decide_eq_true hc) _ _ _ (Ex.refl e.s (fun b z => False.elim z)) rfl
        · have hc : ¬ (cuts.getD d []).length = i + 1 := by
            rw [hdec] at hc
            intro z
            exact hc (decide_eq_true (by omega))
          exact q2 (decide_eq_false hc) _ _ (Ex.refl e.s (fun b z => False.elim z))
      · have ey := paired_bls pr1
        subst ey
        have hDD : H3 D = some (.lst ((someOf cuts helds (i + 1)).map V.bl)) := hDD
        have e13 := (e1.trans e).low
        walk_at "vc"
        cases na with
        | true =>
          walk_at "vc"
          refine ⟨_, _, rfl, lS hDD, ?_⟩
          walk_at "vc"
          refine ite2 (fun hc => ?_) (fun hc => ?_)
          · walk_at "vc"
            exact ⟨_, _, _, 1 + i, rfl, by rw [hnx, if_pos (show okM true (someOf cuts helds (i + 1)) = true from hc), Nat.add_comm i 1], e13⟩
          · exact ⟨_, _, _, fd, rfl, by rw [hnx, if_neg (show ¬ okM true (someOf cuts helds (i + 1)) = true from hc)]; exact hfd, e13⟩
        | false =>
          walk_at "vc"
          refine ⟨_, _, rfl, lS hDD, ?_⟩
          walk_at "vc"
          refine ite2 (fun hc => ?_) (fun hc => ?_)
          · walk_at "vc"
            exact ⟨_, _, _, 1 + i, rfl, by rw [hnx, if_pos (show okM false (someOf cuts helds (i + 1)) = true from hc), Nat.add_comm i 1], e13⟩
          · exact ⟨_, _, _, fd, rfl, by rw [hnx, if_neg (show ¬ okM false (someOf cuts helds (i + 1)) = true from hc)]; exact hfd, e13⟩
    · obtain ⟨u5, u6, u7, fd, rfl, hfd, e1⟩ := h
      rw [List.take_of_length_le (by simp)] at hfd
      subst hfd
      exact ⟨_, rfl, q _ e1⟩
def sp__law_cut_right : Sp := fun vs H Q _ => ∃ F vr vt vw n rr ts, ∃ o : Nat, ∃ x : WC, vs = [vr, vt, .int o, vw, .int (x.1 : Nat)] ∧ Sub F H ∧ LAll F vr rr ∧ RowsOk n rr ∧ RRow F vt ts ∧ ts.length = n ∧ RWC F vw x ∧ x.2.sum = o ∧ (∀ z ∈ x.2, 1 ≤ z) ∧ waitN x.2 = x.1 ∧ o ≤ 60 ∧
  ∀ H', Ex S0 F H F H' → Q (.bl (heldB rr ts (walkR x.2) (ringR x.2))) H'
theorem mem_le_sum : ∀ {l : List Nat} {x : Nat}, x ∈ l → x ≤ l.sum
  | a :: l, x, h => by
    rw [List.sum_cons]
    rcases List.mem_cons.mp h with rfl | h
    · omega
    · have := mem_le_sum h; omega
theorem c__law_cut_right (T : Txt K mg) : C8.Cal P w K mg base 2 "_law_cut_right" sp__law_cut_right [] := by
  have c__law_held := c__law_held (P := P) (w := w) (base := base) T
  have c__law_reaches := c__law_reaches (P := P) (w := w) (base := base) T
  have c__law_waiting := c__law_waiting (P := P) (w := w) (base := base) T
  refine mkC T.d__law_cut_right scLcutright (fun _ _ _ _ _ _ us hl => match us, hl with | [_, _, _, _, _], _ => rfl) (fun vs H Q E h => ?_) (fun f cdv A outer s H vs Q E hr h => ?_)
  · obtain ⟨F, vr, vt, vw, n, rr, ts, o, x, rfl, _⟩ := h
    rfl
  · obtain ⟨F, vr, vt, vw, n, rr, ts, o, ⟨wt, ct⟩, rfl, sb, hr0, ok, hts, htl, ⟨wa, u1, u2, rfl, hwa, rfl, hct⟩, hsum, hpos, hwt, h60, q⟩ := h
    obtain ⟨ca, cvs, rfl, hca, prc⟩ := id hct
    simp only at hsum hpos hwt
    have ew : cvs = ct.map nv := paired_nats prc
    subst ew
    have hlen : ct.length ≤ 60 := by have := len_le_sum hpos; omega
    have hle : ∀ z ∈ ct, z ≤ 60 := fun z hz => by have := mem_le_sum hz; omega
    have hgood : GoodB ct := ⟨hlen, fun z hz => ⟨hpos z hz, by have := hle z hz; omega⟩⟩
    have hw : wt ≤ 100000 := by
      have := waitN_le ct
      rw [hsum] at this
      have h2 : o * o ≤ 60 * 60 := Nat.mul_le_mul h60 h60
      omega
    have hlog := log_small hw
    refine ⟨_, (pss_cons (ps_if (PW.pt (pw_or (pt_not (pt_val (pe_callB call_isi (by rfl) T.isinstance (by decide +kernel) (pa_cons (pv 3) (pa_cons (pe_bltn (v := .ty "tuple") (u := .type "tuple") (by rfl) T.tuple (by decide +kernel) rfl) pa_nil))))) (pw_or (pt_cmpR op_ne (pe_callB call_len (by rfl) T.len (by decide +kernel) (pa_cons (pv 3) pa_nil)) pe_int (nomark _)) (pw_or (pt_cmpR op_ne (pe_callB SkE.call_repr_int (by rfl) T.repr (by decide +kernel) (pa_cons (pe_ix ix_tup (pv 3) pe_int (fun _ _ => rfl)) pa_nil)) (pe_callB SkE.call_repr_int (by rfl) T.repr (by decide +kernel) (pa_cons (pv 4) pa_nil)) (nomark _)) (pw_or1 (pt_not (pt_val (pe_callB call_isi (by rfl) T.isinstance (by decide +kernel) (pa_cons (pe_ix ix_tup (pv 3) pe_int (fun _ _ => rfl)) (pa_cons (pe_bltn (v := .ty "tuple") (u := .type "tuple") (by rfl) T.tuple (by decide +kernel) rfl) pa_nil)))))))))) (pss_one (ps_ret pe_bl)) pss_nil)
    (pss_cons (ps_for PassesOwn.never rfl (pi_tup (pe_ix ix_tup (pv 3) pe_int (fun _ _ => rfl))) (pg_name (i := 5) scLcutright.nd rfl (Or.inl rfl)) (pss_one (ps_if (PW.pt (pw_or (pt_not (pt_val (pe_callB call_isi (by rfl) T.isinstance (by decide +kernel) (pa_cons (pv 5) (pa_cons (pe_bltn (v := .ty "int") (u := .type "int") (by rfl) T.int (by decide +kernel) rfl) pa_nil))))) (pw_or (pt_val (pe_callB call_isi (by rfl) T.isinstance (by decide +kernel) (pa_cons (pv 5) (pa_cons (pe_bltn (v := .ty "bool") (u := .type "bool") (by rfl) T.bool (by decide +kernel) rfl) pa_nil)))) (pw_or1 (pt_cmpR op_lt (pv 5) pe_int (nomark _)))))) (pss_one (ps_ret pe_bl)) pss_nil)))
    (pss_cons (ps_if (PW.pt (pw_or (pt_cmpR op_ne (pe_callB (cr_sumT rfl) (by rfl) T.sum (by decide +kernel) (pa_cons (pe_ix ix_tup (pv 3) pe_int (fun _ _ => rfl)) pa_nil)) (pv 2) (nomark _)) (pw_or1 (pt_cmpR op_ne (C8.pe_c c__law_waiting hr (by decide) (by rfl) (pa_cons (pe_ix ix_tup (pv 3) pe_int (fun _ _ => rfl)) pa_nil)) (pv 4) (nomark _))))) (pss_one (ps_ret pe_bl)) pss_nil)
    (pss_one (ps_ret (C8.pe_c c__law_held hr (by decide) (by rfl) (pa_cons (pv 0) (pa_cons (pv 1) (pa_cons (C8.pe_c c__law_reaches hr (by decide) (by rfl) (pa_cons (pe_ix ix_tup (pv 3) pe_int (fun _ _ => rfl)) pa_nil)) pa_nil))))))))), ?_⟩
    walk_at "vc"
    refine ⟨_, _, .type Kd.tup.ty, .type "tuple", _, rfl, .ty _, (kdT (sb _ _ hwa)).tyx, kit_kd .tup .tup (by simp), ?_⟩
    walk_at "vc"
    refine ⟨_, _, rfl, lenT (tS (sb _ _ hwa)), ?_⟩
    walk_at "vc"
    refine ⟨_, _, _, _, rfl, rfl, tS (sb _ _ hwa), (atI_nat (i := 0) (v := nv wt) rfl : _), ?_⟩
    refine ⟨_, rfl, hlog, ?_⟩
    walk_at "vc"
    refine ⟨hlog, ?_⟩
    walk_at "vc"
    refine ifF (by simp) ?_
    walk_at "vc"
    refine ⟨_, _, _, _, rfl, rfl, tS (sb _ _ hwa), (atI_nat (i := 1) (v := V.ref ca) rfl : _), ?_⟩
    walk_at "vc"
    refine ⟨_, _, .type Kd.tup.ty, .type "tuple", _, rfl, .ty _, (kdT (sb _ _ hca)).tyx, kit_kd .tup .tup (by simp), ?_⟩
    walk_at "vc"
    refine ⟨_, _, _, _, rfl, rfl, tS (sb _ _ hwa), (atI_nat (i := 1) (v := V.ref ca) rfl : _), ?_⟩
    refine ⟨_, rfl, ⟨_, tS (sb _ _ hca)⟩, ?_⟩
    refine for_it (walk_tm ct nv) (fun i σ H1 => H1 = H ∧ ∃ u, σ = [some vr, some vt, some (.int (o : Nat)), some (.ref wa), some (.int (wt : Nat)), u]) ⟨rfl, none, rfl⟩ (fun i σ H1 _ h => ?_) (fun i x σ H1 H2 hi h y => ?_) (fun σ H1 h => ?_)
    · obtain ⟨rfl, u, rfl⟩ := h
      exact tS (sb _ _ hca)
    · obtain ⟨rfl, u, rfl⟩ := h
      obtain ⟨rfl, e3⟩ := y
      obtain ⟨z, ez, rfl⟩ := map_get e3
      have hz := hpos z (List.mem_of_getElem? ez)
      walk_at "vc"
      refine ⟨_, _, .type Kd.int.ty, .type "int", _, rfl, .ty _, (show KdOf H2 (nv z) .int from ⟨_, rfl⟩).tyx, kit_kd .int .int (by simp), ?_⟩
      walk_at "vc"
      refine ⟨_, _, .type Kd.int.ty, .type "bool", _, rfl, .ty _, (show KdOf H2 (nv z) .int from ⟨_, rfl⟩).tyx, kit_kd .int .bl (by simp), ?_⟩
      walk_at "vc"
      refine ifF (by simp; omega) ?_
      exact ⟨rfl, _, rfl⟩
    · obtain ⟨rfl, u, rfl⟩ := h
      walk_at "vc"
      refine ⟨_, _, _, _, rfl, rfl, tS (sb _ _ hwa), (atI_nat (i := 1) (v := V.ref ca) rfl : _), ?_⟩
      refine ⟨_, ct.map fun n : Nat => (n : Int), rfl, tS (by rw [List.map_map]; exact sb _ _ hca), ?_⟩
      rw [sum_nat, hsum]
      walk_at "vc"
      refine ifF (by simp) ?_
      walk_at "vc"
      refine ⟨_, _, _, _, rfl, rfl, tS (sb _ _ hwa), (atI_nat (i := 1) (v := V.ref ca) rfl : _), ?_⟩
      refine ⟨F, _, ct, rfl, sb, hct, by omega, fun z hz => by have := hle z hz; omega, fun H2 e2 => ?_⟩
      rw [hwt]
      walk_at "vc"
      refine ifF (by simp) ?_
      walk_at "vc"
      refine ⟨_, _, _, _, rfl, rfl, tS (e2.s _ _ hwa), (atI_nat (i := 1) (v := V.ref ca) rfl : _), ?_⟩
      refine ⟨F, _, ct, rfl, e2.s, hct, hgood, fun r F3 H3 e3 r3 => ?_⟩
      refine ⟨F3, _, _, _, n, rr, ts, (walkR ct, ringR ct), rfl, e3.s, Mono.up (r := LAll) e3.f hr0, ok, Mono.up (r := RRow) e3.f hts, htl, r3, ?_⟩
      exact q _ (e2.trans e3).low
end
end Sa
set_option Elab.async false
set_option linter.all false
set_option maxRecDepth 100000
set_option maxHeartbeats 4000000
namespace Sa
open PySem PySem.Spec PyProof.Rows L2
local macro_rules | `(tactic| walk_at "vc") => `(tactic| repeat (first | refine ⟨_, rfl, ?_⟩ | refine ⟨_, _, rfl, rfl, ?_⟩ | refine ⟨_, _, rfl, ?_⟩ | refine ⟨rfl, ?_⟩))
theorem lt_szB {n : Nat} (h : n ≤ 100000) : n < sizeLine := Nat.lt_of_le_of_lt h (by decide)
def LeastL (p : Pr) (o : Nat) : Option Nat → Prop
  | none => ∀ c, ¬ Held p o c
  | some w => (∃ c, Held p o c ∧ waitN c = w) ∧ ∀ c, Held p o c → w ≤ waitN c
structure BestL (p : Pr) (o : Nat) (D : Nat → En Nat) (dn : Nat → Nat → Prop) (ws : List Nat) : Prop where
  so : ∀ w ∈ ws, ∃ c, Held p o c ∧ waitN c = w
  cov : ∀ c e, e ∈ D c → c < o → dn c e.1 → fitB p (e.1 * (o - c + 1)) (e.1 * (o - c)) = true → ∃ w ∈ ws, w ≤ e.2 + (o - c) * (o - c - 1) / 2
theorem BestL.key {p : Pr} {o : Nat} {D : Nat → En Nat} {ws : List Nat} (h : BestL p o D (fun c _ => c < o) ws) (ho : 1 ≤ o) (hd : DpI (fun x : Nat => x) goodL p o (fun c _ _ => c < o) D) : ∀ c, Held p o c → ∃ w ∈ ws, w ≤ waitN c := by
  intro c hc
  obtain ⟨f, t, rfl, hf, ht, hs, hlt, h1, h2⟩ := held_split ho hc
  obtain ⟨e, e1, e2, e3⟩ := hd.all t ht hlt h2
  have hof : o - t.sum = f := by omega
  obtain ⟨x, x1, x2⟩ := h.cov t.sum e e1 hlt hlt (by rw [hof, e2]; exact h1)
  refine ⟨x, x1, ?_⟩
  rw [hof] at x2
  rw [waitN_cons]
  omega
theorem BestL.setD {p : Pr} {o i s k : Nat} {z : Nat} {D : Nat → En Nat} {dn : Nat → Nat → Prop} {ws : List Nat} (h : BestL p o D dn ws) (hs : 1 ≤ s) (hi : ∀ c k, dn c k → c ≤ i) : BestL p o (setD D (i + s) k z) dn ws :=
  ⟨h.so, fun c e he hco hd hf => by
    have := hi c _ hd
    unfold Sa.setD at he
    rw [if_neg (by omega)] at he
    exact h.cov c e he hco hd hf⟩
theorem dpl_start {p : Pr} {o : Nat} : DpI (fun x : Nat => x) goodL p o (fun c _ _ => c < 0) (setD (fun _ => []) 0 1 (0 : Nat)) := by
  have hD : ∀ c e, e ∈ setD (fun _ => []) 0 1 (0 : Nat) c → c = 0 ∧ e = (1, (0 : Nat)) := by
    intro c e he
    unfold setD at he
    by_cases hc : c = 0
    · rw [if_pos hc] at he
      rcases putE_mem he with z | z
      · exact ⟨hc, z⟩
      · cases z.1
    · rw [if_neg hc] at he
      cases he
  refine ⟨fun c => ?_, fun c e he => ?_, fun c e he => ?_, ⟨(1, (0 : Nat)), ?_, rfl, rfl⟩, fun c e s _ h => by omega⟩
  · unfold setD
    split
    · exact putE_nodup List.nodup_nil
    · exact List.nodup_nil
  · rw [(hD c e he).2]; show 1 < 30; omega
  · obtain ⟨rfl, rfl⟩ := hD c e he
    refine ⟨[], rfl, ?_, rfl, rfl⟩
    intro x hx
    cases hx
  · unfold setD
    rw [if_pos rfl]
    exact putE_new _ _ _
theorem RD.getS {α : Type} {r : Rp α} {F : Hp} {k : Nat} {x : α} {kvs : List (Key × V)} {es : En α} (h : RD r F kvs es) (e : getE es k = some x) : ∃ v, valV kvs (Sum.inl (k : Int)) = some v ∧ r F v x := by
  obtain ⟨h1, h2⟩ := h.get k
  rw [e] at h1 h2
  cases q : valV kvs (Sum.inl (k : Int)) with
  | none => rw [q] at h2; cases h2
  | some v => rw [q] at h1; exact ⟨v, rfl, h1⟩
theorem RD.keys {α : Type} {r : Rp α} {F : Hp} : ∀ {kvs : List (Key × V)} {es : En α}, RD r F kvs es → kvs.map (·.1) = ((keysE es).map fun n : Nat => (n : Int)).map Sum.inl
  | _, _, .nil => rfl
  | _, _, .cons a t => by
    unfold keysE
    rw [List.map_cons, List.map_cons, List.map_cons, List.map_cons, a.1, RD.keys t]
    rfl
section
variable {P : Program} {w : World} {K : PySem.W.Frag} {mg : Str → Option Value} {base : Heap}
def sp__law_least_waiting : Sp := fun vs H Q _ => ∃ F vp p, ∃ o : Nat, vs = [vp, .int o] ∧ Sub F H ∧ RPr F vp p ∧ Small p ∧ 1 ≤ o ∧ o ≤ 60 ∧ ∀ x H', Ex S0 F H F H' → LeastL p o x → Q (onv x) H'
theorem c__law_least_waiting (T : Txt K mg) : C8.Cal P w K mg base 2 "_law_least_waiting" sp__law_least_waiting [] := by
  have c__law_below := c__law_below (P := P) (w := w) (base := base) T
  refine mkC T.d__law_least_waiting scLleastwaiting (fun _ _ _ _ _ _ us hl => match us, hl with | [_, _], _ => rfl) (fun vs H Q E h => ?_) (fun f cdv A outer s H vs Q E hr h => ?_)
  · obtain ⟨F, vp, p, o, rfl, _⟩ := h
    rfl
  · obtain ⟨F, vp, p, o, rfl, sb, hp, hsm, h1, h2, q⟩ := h
    obtain ⟨pa, rfl, hpa⟩ := hp.at
    refine ⟨_, (pss_cons (ps_if (pt_cmpR (op_eqD (hr.units)) (pv 0) (pe_tup (pa_cons pe_non (pa_cons pe_non pa_nil))) (nomark _)) (pss_one (ps_ret pe_int)) pss_nil)
    (pss_cons (ps_par (i := 2) (j := 3) (by rfl) scLleastwaiting.nd rfl rfl (by decide) rfl rfl (pa_cons (pe_op op_cat (pe_lst (pa_cons (pe_disp (pps_cons pe_int pe_int pps_nil) (by rfl) (by rfl) (fun z => by cases z) (by decide)) pa_nil)) (pe_lc (own := [("_law_count", 4)]) (tt := tYes) rfl scLleastwaiting.nd (pi_range1 (by rfl) T.range (pa_cons (pv 1) pa_nil)) (blkOk_by (N := N_Lleastwaiting) (sc := defScope sLleastwaiting) (by decide +kernel)) (fun _ _ _ _ _ => pg_name (i := 4) scLleastwaiting.nd rfl (Or.inl rfl) (Or.inr rfl)) (fun _ _ _ _ _ => pts_nil) (fun _ _ _ _ _ => pe_dnewK))) (pa_cons (pe_lst pa_nil) pa_nil)) (by rfl))
    (pss_cons (ps_for PassesOwn.never rfl (pi_range1 (by rfl) T.range (pa_cons (pv 1) pa_nil)) (pg_name (i := 4) scLleastwaiting.nd rfl (Or.inl rfl)) (pss_cons (ps_par (i := 6) (j := 7) (by rfl) scLleastwaiting.nd rfl rfl (by decide) rfl rfl (pa_cons (pe_op op_sub (pv 1) (pv 4)) (pa_cons (pe_ix ix_list (pv 2) (pv 4) (fun _ _ => rfl)) pa_nil)) (by rfl))
    (pss_one (ps_for PassesOwn.never rfl (pi_list (pe_callB (call_sortedKV rfl) (by rfl) T.sorted (by decide +kernel) (pa_cons (pe_keysV (pv 7)) pa_nil))) (pg_name (i := 5) scLleastwaiting.nd rfl (Or.inl rfl)) (pss_cons (ps_if (pt_val (C8.pe_c c__law_below hr (by decide) (by rfl) (pa_cons (pv 0) (pa_cons (pe_tup (pa_cons (pe_op op_mul (pv 5) (pe_op op_add (pv 6) pe_int)) (pa_cons (pe_op op_mul (pv 5) (pv 6)) pa_nil))) pa_nil)))) (pss_one (ps_expr (pe_bm PySem.F.plainAttrs_list PySem.F.slot_list_append PySem.F.type_list_append mt_append (pv 3) (pa_cons (pe_op op_add (pe_dget (hu_of hr) (pv 7) (pv 5) (fun _ _ => rfl)) (pe_op op_fdiv (pe_op op_mul (pv 6) (pe_op op_sub (pv 6) pe_int)) pe_int)) pa_nil)))) pss_nil)
    (pss_one (ps_for PassesOwn.never rfl (pi_range2 (by rfl) T.range (pa_cons pe_int (pa_cons (pv 6) pa_nil))) (pg_name (i := 8) scLleastwaiting.nd rfl (Or.inl rfl)) (pss_cons (ps_par3 (i := 9) (j := 10) (l := 11) (by rfl) scLleastwaiting.nd rfl rfl rfl (by decide) (by decide) (by decide) rfl rfl rfl (pa_cons (pe_op op_mul (pv 5) (pe_op op_add (pv 8) pe_int)) (pa_cons (pe_ix ix_list (pv 2) (pe_op op_add (pv 4) (pv 8)) (fun _ _ => rfl)) (pa_cons (pe_op op_add (pe_dget (hu_of hr) (pv 7) (pv 5) (fun _ _ => rfl)) (pe_op op_fdiv (pe_op op_mul (pv 8) (pe_op op_sub (pv 8) pe_int)) pe_int)) pa_nil))) (by rfl))
    (pss_cons (ps_if (pt_not (pt_val (C8.pe_c c__law_below hr (by decide) (by rfl) (pa_cons (pv 0) (pa_cons (pe_tup (pa_cons (pe_op op_mul pe_int (pv 9)) (pa_cons (pv 9) pa_nil))) pa_nil))))) (pss_one ps_break) pss_nil)
    (pss_one (ps_dput (hu_of hr) (pv 10) (pv 9) (pe_ifExp (pt_cmp (pc_din (hu_of hr) (pv 9) (pv 10))) (pe_callB (call_min2 rfl) (by rfl) T.min (by decide +kernel) (pa_cons (pv 11) (pa_cons (pe_dget (hu_of hr) (pv 10) (pv 9) (fun _ _ => rfl)) pa_nil))) (pv 11)) rfl)))))))))))
    (pss_one (ps_ret (pe_ifExp (pt_cmpR (op_neD (hr.units)) (pv 3) (pe_lst pa_nil) (nomark _)) (pe_callB (cr_min rfl) (by rfl) T.min (by decide +kernel) (pa_cons (pv 3) pa_nil)) pe_non)))))), ?_⟩
    walk_at "vc"
    refine go_t2 (x := .non) (y := .non) (ex0 sb) fun pn F3 e3 s3 h3n => ?_
    refine ⟨_, _, dp_pair (p := p) (e3.s _ _ (s3 _ _ hpa)), dp_pair (p := (none, none)) (e3.s _ _ h3n), shaped_pair p, shaped_pair _, ?_⟩
    rw [eqv_pair]
    walk_at "vc"
    refine ite2 (fun hc => ?_) (fun hc => ?_)
    · have hc : p = (none, none) := of_decide_eq_true hc
      have z := least_open o
      rw [← hc] at z
      exact q (some 0) _ e3.low ⟨⟨_, z.1, z.2.1⟩, fun c hcc => Nat.zero_le _⟩
    · have hc : p ≠ (none, none) := fun z => hc (decide_eq_true z)
      have hp30 := small30 hsm hc
      have hp3 : RPr F3 (.ref pa) p := Mono.up (r := RPr) s3 hp
      generalize upd H pn (.tup [V.non, V.non]) = H3 at e3
      walk_at "vc"
      intro d0 hd0
      have hd0o : H d0 = none := e3.old hd0
      have f0 : F3 d0 = none := e3.s.free hd0
      have e4 : Ex S0 F H F3 (upd H3 d0 (.dK [])) := e3.trans (Ex.own e3.s hd0 (fun b z => False.elim z))
      have h40 : upd H3 d0 (.dK []) d0 = some (.dK []) := upd_same
      generalize upd H3 d0 (.dK []) = H4 at e4 h40
      refine ⟨h40, [(Sum.inl ((1 : Nat) : Int), .int 0)], rfl, by simp, ?_⟩
      have e5 := e4.put (o := .dK (mergeK [] [(Sum.inl ((1 : Nat) : Int), .int 0)])) (.inl hd0o) f0
      have h50 : upd H4 d0 (.dK (mergeK [] [(Sum.inl ((1 : Nat) : Int), V.int 0)])) d0 = some (.dK (putK [] (Sum.inl ((1 : Nat) : Int)) (V.int 0))) := upd_same
      generalize upd H4 d0 (.dK (mergeK [] [(Sum.inl ((1 : Nat) : Int), V.int 0)])) = H5 at e5 h50
      refine go_lst (xs := [V.ref d0]) (ex0 e5.s) (szk (by simp)) fun p6 F6 e6 s6 hp6 => ?_
      have e06 := e5.trans e6
      have h60 := e6.keep h50 (fun z => z) f0
      generalize upd H5 p6 (.lst [V.ref d0]) = H6 at e6 e06 h60
      walk_at "vc"
      refine ⟨by omega, by omega, ?_⟩
      intro L hL
      have hLo : H L = none := e06.old hL
      have fL : F6 L = none := e06.s.free hL
      refine lc_it (walk_r0 (n := o) (by omega)) (fun i H1 => ∃ ds : List Addr, ds.length = i ∧ (L :: d0 :: ds).Nodup ∧ Ex S0 F H F6 H1 ∧ H1 L = some (.lst (ds.map V.ref)) ∧ H1 d0 = some (.dK (putK [] (Sum.inl ((1 : Nat) : Int)) (V.int 0))) ∧ ∀ d ∈ ds, H d = none ∧ F6 d = none ∧ H1 d = some (.dK [])) ⟨[], rfl, ?_, e06.trans (Ex.own e06.s hL (fun b z => False.elim z)), upd_same, ?_, fun d z => by cases z⟩ (fun i H1 _ h => trivial) (fun i x H1 H2 hi h y => ?_) (fun H1 h => ?_)
      · have : L ≠ d0 := by rintro rfl; rw [h60.1] at hL; cases hL
        simp [this]
      · have : d0 ≠ L := by rintro rfl; rw [h60.1] at hL; cases hL
        rw [upd_ne this]; exact h60.1
      · obtain ⟨ds, hl, hnd, e, hL1, hd01, hds⟩ := h
        obtain ⟨rfl, rfl⟩ := y
        walk_at "vc"
        intro d hd
        have hdH : H d = none := e.old hd
        have fd : F6 d = none := e.s.free hd
        have hne : L ≠ d := by rintro rfl; rw [hL1] at hd; cases hd
        have hne0 : d0 ≠ d := by rintro rfl; rw [hd01] at hd; cases hd
        have hL0 : d0 ≠ L := fun z => (List.nodup_cons.mp hnd).1 (by rw [← z]; simp)
        refine ⟨ds.map V.ref, by rw [upd_ne hne]; exact hL1, lt_sz (by rw [List.length_map]; omega), ds ++ [d], by simp [hl], ?_, ?_, ?_, ?_, ?_⟩
        · rw [← List.cons_append, ← List.cons_append, List.nodup_append]
          refine ⟨hnd, by simp, fun a ha b hb => ?_⟩
          have hb : b = d := by simpa using hb
          subst hb
          rintro rfl
          rcases List.mem_cons.mp ha with z | z
          · exact hne z.symm
          · rcases List.mem_cons.mp z with z | z
            · exact hne0 z.symm
            · rw [(hds _ z).2.2] at hd; cases hd
        · exact (e.trans (Ex.own e.s hd (fun b z => False.elim z))).put (.inl hLo) fL
        · rw [upd_same]; simp
        · rw [upd_ne hL0, upd_ne hne0]; exact hd01
        · intro a ha
          rcases List.mem_append.mp ha with z | z
          · have z2 := hds a z
            have hn2 : a ≠ d := by rintro rfl; rw [z2.2.2] at hd; cases hd
            have hn3 : a ≠ L := fun q => (List.nodup_cons.mp hnd).1 (by rw [← q]; simp [z])
            exact ⟨z2.1, z2.2.1, by rw [upd_ne hn3, upd_ne hn2]; exact z2.2.2⟩
          · have z : a = d := by simpa using z
            subst z
            exact ⟨hdH, fd, by rw [upd_ne hne.symm]; exact upd_same⟩
      · obtain ⟨ds, hl, hnd, e, hL1, hd01, hds⟩ := h
        have hLd : H1 p6 = some (.lst [V.ref d0]) := e.s _ _ hp6
        refine go_catL' (K := K) (ex0 e.s) hLd hL1 (by simp; omega) fun P F7 e7 s7 hP => ?_
        have e07 := e.trans e7
        have hDs : Dics Rn H F7 (upd H1 P (.lst ([V.ref d0] ++ ds.map V.ref))) (d0 :: ds) (setD (fun _ => []) 0 1 (0 : Nat)) plain := by
          refine ⟨(List.nodup_cons.mp hnd).2, fun c d hd => ?_⟩
          cases c with
          | zero =>
            have : d0 = d := Option.some.inj hd
            subst this
            have z := e7.keep hd01 (fun z => z) h60.2
            refine ⟨hd0o, z.2, _, z.1, ?_⟩
            unfold setD
            rw [if_pos rfl]
            exact RD.put 1 (x := (0 : Nat)) rfl .nil
          | succ j =>
            have hm : d ∈ ds := List.mem_of_getElem? (i := j) hd
            obtain ⟨z1, z2, z3⟩ := hds d hm
            have z := e7.keep z3 (fun z => z) z2
            refine ⟨z1, z.2, [], z.1, ?_⟩
            unfold setD
            rw [if_neg (by omega)]
            exact .nil
        have hP : F7 P = some (.lst ((d0 :: ds).map V.ref)) := hP
        have hp7 : RPr F7 (.ref pa) p := Mono.up (r := RPr) (s6.tr s7) hp3
        have hdl : (d0 :: ds).length = o + 1 := by rw [List.length_cons, hl]
        clear hds hd01 hL1 hLd h50 h60 h40 hnd
        generalize upd H1 P _ = H7 at e7 e07 hDs
        generalize d0 :: ds = es0 at hP hDs hdl
        walk_at "vc"
        refine ⟨szk (by simp), fun B hB => ?_⟩
        have hBo : H B = none := e07.old hB
        have fB : F7 B = none := e07.s.free hB
        have er8 : Ex S0 F7 H7 F7 (upd H7 B (.lst [])) := Ex.own e07.s hB (fun b z => False.elim z)
        have e8 := e07.trans er8
        have hDs8 := hDs.up er8
        have hB8 : upd H7 B (.lst []) B = some (.lst ([] : List V)) := upd_same
        generalize upd H7 B (.lst []) = H8 at e8 hDs8 hB8
        clear er8 hDs e7 e07 e
        generalize hds0 : es0 = ds2 at hP hDs8 hdl
        walk_at "vc"
        refine ⟨by omega, by omega, ?_⟩
        refine for_it (walk_r0 (n := o) (by omega)) (fun i σ H9 => ∃ u4 u5 u6 u7 u8 u9 u10 u11, ∃ F9 D ws, σ = [some (.ref pa), some (.int o), some (.ref P), some (.ref B), u4, u5, u6, u7, u8, u9, u10, u11] ∧ Ex S0 F H F9 H9 ∧ RPr F9 (.ref pa) p ∧ F9 P = some (.lst (ds2.map V.ref)) ∧ Dics Rn H F9 H9 ds2 D plain ∧ F9 B = none ∧ H9 B = some (.lst (ws.map nv)) ∧ ws.length ≤ 30 * i ∧ DpI (fun x : Nat => x) goodL p o (fun c _ _ => c < i) D ∧ BestL p o D (fun c _ => c < i) ws)
          ⟨none, none, none, none, none, none, none, none, F7, _, [], rfl, e8, hp7, hP, hDs8, fB, hB8, Nat.zero_le _, dpl_start, ⟨fun w hw => (by cases hw), fun c e _ _ h => (by omega)⟩⟩ (fun i σ H9 _ h => trivial) (fun i x σ H9 H10 hi h y => ?_) (fun σ H9 h => ?_)
        · obtain ⟨u4, u5, u6, u7, u8, u9, u10, u11, F9, D, ws, rfl, e9, hp9, hP9, hDs9, fB9, hB9, hwl, hdp, hbl⟩ := h
          obtain ⟨rfl, rfl⟩ := y
          have hdi : ds2[i]? = some ds2[i] := List.getElem?_eq_getElem (by omega)
          generalize ds2[i] = d at hdi
          obtain ⟨k1, k2, kvs, k3, k4⟩ := hDs9.2 i d hdi
          have k3 : H10 d = some (.dK kvs) := k3
          walk_at "vc"
          refine ⟨_, _, _, _, rfl, rfl, lS (e9.s _ _ hP9), atI_nat (v := V.ref d) (by rw [List.getElem?_map, hdi]; rfl), ?_⟩
          walk_at "vc"
          refine ⟨_, kvs, rfl, .inl k3, ?_⟩
          intro kv hkv
          have er11 : Ex S0 F9 H10 F9 (upd H10 kv (keysO kv d)) := Ex.own e9.s hkv (fun b z => False.elim z)
          have hkvs : upd H10 kv (keysO kv d) kv = some (keysO kv d) := upd_same
          have k3' := (er11.keep k3 (fun z => z) k2).1
          have hB11 := (er11.keep hB9 (fun z => z) fB9).1
          have hDs11 := hDs9.up er11
          have e11 := e9.trans er11
          generalize upd H10 kv (keysO kv d) = H11 at e11 hkvs k3' hB11 hDs11
          have hes_nd : (keysE (D i)).Nodup := hdp.nd i
          have hes_len : (D i).length ≤ 30 := len_bound hes_nd (hdp.lt i)
          refine ⟨kv, d, kvs, (keysE (D i)).map fun n : Nat => (n : Int), rfl, hkvs, .inl k3', RD.keys k4, by rw [List.length_map]; unfold keysE; rw [List.length_map]; omega, fun ys Y hperm _ hY => ?_⟩
          have hyl : ys.length = (D i).length := by rw [hperm.length_eq, List.length_map]; unfold keysE; rw [List.length_map]
          have er12 : Ex S0 F9 H11 (upd F9 Y (.lst (ys.map V.int))) (upd H11 Y (.lst (ys.map V.int))) := Ex.new e11.s hY (fun b z => False.elim z)
          have hYF : upd F9 Y (.lst (ys.map V.int)) Y = some (.lst (ys.map V.int)) := upd_same
          have hB12 := er12.keep hB11 (fun z => z) fB9
          have hDs12 := hDs11.up er12
          have e12 := e11.trans er12
          have hp12 : RPr (upd F9 Y (.lst (ys.map V.int))) (.ref pa) p := Mono.up (r := RPr) er12.f hp9
          have hP12 := er12.f _ _ hP9
          clear er11 er12 hDs11 hDs9 k3 k4 k3' hkvs
          generalize upd F9 Y (.lst (ys.map V.int)) = F12 at *
          generalize upd H11 Y (.lst (ys.map V.int)) = H12 at *
          refine ⟨_, rfl, ⟨_, lS (e12.s _ _ hYF)⟩, ?_⟩
          generalize hes : D i = es at hes_nd hes_len hperm hyl
          refine for_it (walk_lm ys V.int) (fun j σ H13 => ∃ u5 u8 u9 u10 u11, ∃ F13 D13 ws, σ = [some (.ref pa), some (.int o), some (.ref P), some (.ref B), some (nv i), u5, some (.int ((o : Int) - (i : Nat))), some (.ref d), u8, u9, u10, u11] ∧ Ex S0 F H F13 H13 ∧ F13 Y = some (.lst (ys.map V.int)) ∧ RPr F13 (.ref pa) p ∧ F13 P = some (.lst (ds2.map V.ref)) ∧ Dics Rn H F13 H13 ds2 D13 plain ∧ F13 B = none ∧ H13 B = some (.lst (ws.map nv)) ∧ ws.length ≤ 30 * i + j ∧ D13 i = es ∧ DpI (fun x : Nat => x) goodL p o (fun c k _ => c < i ∨ (c = i ∧ (k : Int) ∈ ys.take j)) D13 ∧ BestL p o D13 (fun c k => c < i ∨ (c = i ∧ (k : Int) ∈ ys.take j)) ws)
            ⟨_, _, _, _, _, F12, D, ws, rfl, e12, hYF, hp12, hP12, hDs12, hB12.2, hB12.1, by omega, hes, hdp.more fun c e s _ h _ _ _ => ?_, ⟨hbl.so, fun c e he hco h hf => ?_⟩⟩ (fun j σ H13 _ h => ?_) (fun j x σ H13 H14 hj h y => ?_) (fun σ H13 h => ?_)
          · rcases h with h | ⟨_, h⟩
            · exact h
            · simp at h
          · rcases h with h | ⟨_, h⟩
            · exact hbl.cov c e he hco h hf
            · simp at h
          · obtain ⟨u5, u8, u9, u10, u11, F13, D13, ws, rfl, e13, hY13, hp13, hP13, hDs13, fB13, hB13, hwl13, hes13, hdp13, hbl13⟩ := h
            exact lS (e13.s _ _ hY13)
          · obtain ⟨u5, u8, u9, u10, u11, F13, D13, ws, rfl, e13, hY13, hp13, hP13, hDs13, fB13, hB13, hwl13, hes13, hdp13, hbl13⟩ := h
            obtain ⟨rfl, ey⟩ := y
            obtain ⟨yk, hyk, rfl⟩ := map_get ey
            have hymem : yk ∈ (keysE es).map fun n : Nat => (n : Int) := hperm.mem_iff.mp (List.mem_of_getElem? hyk)
            obtain ⟨k, hk, rfl⟩ := List.mem_map.mp hymem
            obtain ⟨⟨k', wt⟩, hmem, hkk⟩ := List.mem_map.mp hk
            have hkk : k' = k := hkk
            subst hkk
            have hmem13 : (k', wt) ∈ D13 i := hes13.symm ▸ hmem
            have hgood := hdp13.ok i _ hmem13
            have ew1 : (k' : Int) * ((o : Int) - (i : Nat) + 1) = ((k' * (o - i + 1) : Nat) : Int) := by
              rw [Int.natCast_mul]; congr 1; omega
            have ew2 : (k' : Int) * ((o : Int) - (i : Nat)) = ((k' * (o - i) : Nat) : Int) := by
              rw [Int.natCast_mul]; congr 1; omega
            have hof : ((o : Int) - (i : Nat)) = ((o - i : Nat) : Int) := by omega
            have hsplit : ∀ c e, e ∈ D13 c → (c < i ∨ (c = i ∧ (e.1 : Int) ∈ ys.take (j + 1))) → (c < i ∨ (c = i ∧ (e.1 : Int) ∈ ys.take j)) ∨ (c = i ∧ e = (k', wt)) := by
              intro c e hec h
              rcases h with h | ⟨rfl, h3⟩
              · exact .inl (.inl h)
              · rw [take_snoc hyk] at h3
                rcases List.mem_append.mp h3 with h3 | h3
                · exact .inl (.inr ⟨rfl, h3⟩)
                · have h3 : (e.1 : Int) = k' := by simpa using h3
                  exact .inr ⟨rfl, nodup_inj (hdp13.nd _) hec hmem13 (by show e.1 = k'; omega)⟩
            have hget : ∀ {F' H' : Hp}, Dics Rn H F' H' ds2 D13 plain → ∃ v, DGet H' d (.int (k' : Int)) (some v) ∧ v = nv wt := by
              intro F' H' hD
              obtain ⟨_, _, kvs', g3, g4⟩ := hD.2 i d hdi
              obtain ⟨v, hv1, hv2⟩ := g4.getS (getE_of (hdp13.nd i) hmem13)
              exact ⟨v, .inl ⟨kvs', Sum.inl (k' : Int), .inl g3, rfl, hv1.symm⟩, hv2⟩
            dsimp only [gName, tSeq]
            refine if_then (fun σ H15 => ∃ F15 ws, σ = [some (.ref pa), some (.int o), some (.ref P), some (.ref B), some (nv i), some (nv k'), some (.int ((o : Int) - (i : Nat))), some (.ref d), u8, u9, u10, u11] ∧ Ex S0 F H F15 H15 ∧ F15 Y = some (.lst (ys.map V.int)) ∧ RPr F15 (.ref pa) p ∧ F15 P = some (.lst (ds2.map V.ref)) ∧ Dics Rn H F15 H15 ds2 D13 plain ∧ F15 B = none ∧ H15 B = some (.lst (ws.map nv)) ∧ ws.length ≤ 30 * i + (j + 1) ∧ BestL p o D13 (fun c k => c < i ∨ (c = i ∧ (k : Int) ∈ ys.take (j + 1))) ws) (fun σ H15 h => ?_) fun fin => ?_
            · obtain ⟨F15, ws, rfl, e15, hY15, hp15, hP15, hDs15, fB15, hB15, hwl15, hbl15⟩ := h
              walk_at "vc"
              refine ⟨⟨by omega, by omega, by omega, by omega⟩, ?_⟩
              refine for_itB (walk_rg2 (lo := 1) (n := o - i - 1) rfl (by omega)) (fun t σ H16 => ∃ u8 u9 u10 u11, ∃ F16 D16, σ = [some (.ref pa), some (.int o), some (.ref P), some (.ref B), some (nv i), some (nv k'), some (.int ((o : Int) - (i : Nat))), some (.ref d), u8, u9, u10, u11] ∧ Ex S0 F H F16 H16 ∧ F16 Y = some (.lst (ys.map V.int)) ∧ RPr F16 (.ref pa) p ∧ F16 P = some (.lst (ds2.map V.ref)) ∧ Dics Rn H F16 H16 ds2 D16 plain ∧ F16 B = none ∧ H16 B = some (.lst (ws.map nv)) ∧ D16 i = es ∧ DpI (fun x : Nat => x) goodL p o (fun c k s => c < i ∨ (c = i ∧ ((k : Int) ∈ ys.take j ∨ (k = k' ∧ s < 1 + t)))) D16 ∧ BestL p o D16 (fun c k => c < i ∨ (c = i ∧ (k : Int) ∈ ys.take (j + 1))) ws)
                (fun σ H16 => ∃ u8 u9 u10 u11, ∃ F16 D16, σ = [some (.ref pa), some (.int o), some (.ref P), some (.ref B), some (nv i), some (nv k'), some (.int ((o : Int) - (i : Nat))), some (.ref d), u8, u9, u10, u11] ∧ Ex S0 F H F16 H16 ∧ F16 Y = some (.lst (ys.map V.int)) ∧ RPr F16 (.ref pa) p ∧ F16 P = some (.lst (ds2.map V.ref)) ∧ Dics Rn H F16 H16 ds2 D16 plain ∧ F16 B = none ∧ H16 B = some (.lst (ws.map nv)) ∧ D16 i = es ∧ DpI (fun x : Nat => x) goodL p o (fun c k _ => c < i ∨ (c = i ∧ (k : Int) ∈ ys.take (j + 1))) D16 ∧ BestL p o D16 (fun c k => c < i ∨ (c = i ∧ (k : Int) ∈ ys.take (j + 1))) ws)
                ⟨u8, u9, u10, u11, F15, D13, rfl, e15, hY15, hp15, hP15, hDs15, fB15, hB15, hes13, hdp13.more fun c e s _ h hs _ _ => ?_, hbl15⟩ (fun t σ H16 _ h => trivial) (fun σ H16 h => ?_) (fun fin2 t x σ H16 H17 ht h y => ?_) (fun σ H16 h => ?_)
              · rcases h with h | ⟨hc, h | h⟩
                · exact .inl h
                · exact .inr ⟨hc, h⟩
                · omega
              · obtain ⟨u8, u9, u10, u11, F16, D16, rfl, e16, hY16, hp16, hP16, hDs16, fB16, hB16, hes16, hdp16, hbl16⟩ := h
                exact ⟨_, _, _, _, _, F16, D16, ws, rfl, e16, hY16, hp16, hP16, hDs16, fB16, hB16, hwl15, hes16, hdp16, hbl16⟩
              · obtain ⟨u8, u9, u10, u11, F16, D16, rfl, e16, hY16, hp16, hP16, hDs16, fB16, hB16, hes16, hdp16, hbl16⟩ := h
                obtain ⟨rfl, rfl⟩ := y
                have hmem16 : (k', wt) ∈ D16 i := hes16.symm ▸ hmem
                have ew : (k' : Int) * (((1 + t : Nat) : Int) + 1) = ((k' * (1 + t + 1) : Nat) : Int) := by
                  rw [Int.natCast_mul]; rfl
                have ewb : 2 * ((k' : Int) * (((1 + t : Nat) : Int) + 1)) = ((2 * (k' * (1 + t + 1)) : Nat) : Int) := by
                  rw [ew]; omega
                have hk30 := hdp16.lt i _ hmem16
                have hi3 : i + (1 + t) < ds2.length := by omega
                have hd2 : ds2[i + (1 + t)]? = some ds2[i + (1 + t)] := List.getElem?_eq_getElem hi3
                generalize ds2[i + (1 + t)] = d2 at hd2
                obtain ⟨_, _, kvs1, g3, g4⟩ := hDs16.2 i d hdi
                obtain ⟨v, hv1, hv2⟩ := g4.getS (getE_of (hdp16.nd i) hmem16)
                have hv2 : v = nv wt := hv2
                subst hv2
                walk_at "vc"
                refine ⟨.inr ⟨by omega, by omega⟩, ?_⟩
                walk_at "vc"
                refine ⟨_, _, _, _, rfl, rfl, lS (e16.s _ _ hP16), atI_z (i := i + (1 + t)) (by omega) (v := V.ref d2) (by rw [List.getElem?_map, hd2]; rfl), ?_⟩
                walk_at "vc"
                refine ⟨_, _, rfl, .inl ⟨kvs1, Sum.inl (k' : Int), .inl g3, rfl, hv1.symm⟩, ?_⟩
                walk_at "vc"
                refine ⟨.inl ⟨by omega, by omega⟩, ?_⟩
                walk_at "vc"
                refine ⟨⟨by omega, by omega⟩, ?_⟩
                refine ⟨wt, _, rfl, rfl, ?_⟩
                refine ⟨_, _, _, rfl, ?_⟩
                walk_at "vc"
                refine ⟨.inl ⟨by omega, by omega⟩, ?_⟩
                walk_at "vc"
                refine go_t2 (ex0 e16.s) fun p17 F17 e17 s17 hp17 => ?_
                refine ⟨F17, _, _, p, (2 * (k' * (1 + t + 1)), k' * (1 + t + 1)), rfl, e17.s, Mono.up (r := RPr) s17 hp16, ⟨p17, _, _, rfl, hp17, congrArg V.int ewb, congrArg V.int ew⟩, ?_⟩
                have e017 := e16.trans e17
                have hDs17 := hDs16.up e17
                have hB17 := e17.keep hB16 (fun z => z) fB16
                have hp17' : RPr F17 (.ref pa) p := Mono.up (r := RPr) s17 hp16
                have hP17 := s17 _ _ hP16
                have hY17 := s17 _ _ hY16
                walk_at "vc"
                refine ite2 (fun hfit => ?_) (fun hfit => ?_)
                · have hfit : fit2 p (k' * (1 + t + 1)) = false := by
                    have z : (!fitB p (2 * (k' * (1 + t + 1))) (k' * (1 + t + 1))) = true := hfit
                    simpa [fit2] using z
                  refine fin2 _ _ ⟨_, _, _, _, F17, D16, rfl, e017, hY17, hp17', hP17, hDs17, hB17.2, hB17.1, hes16, hdp16.more fun c e s hec h hs hcs hf => ?_, hbl16⟩
                  rcases h with h | ⟨rfl, h⟩
                  · exact .inl h
                  · rw [take_snoc hyk] at h
                    rcases List.mem_append.mp h with h | h
                    · exact .inr ⟨rfl, .inl h⟩
                    · have h : (e.1 : Int) = k' := by simpa using h
                      have hek : e.1 = k' := by omega
                      refine .inr ⟨rfl, .inr ⟨hek, ?_⟩⟩
                      by_cases hlt : s < 1 + t
                      · exact hlt
                      · exfalso
                        rw [hek] at hf
                        have := fit2_mono hf (Nat.mul_le_mul_left k' (show 1 + t + 1 ≤ s + 1 by omega))
                        rw [hfit] at this
                        cases this
                · have hfit : fit2 p (k' * (1 + t + 1)) = true := by
                    have z : ¬ (!fitB p (2 * (k' * (1 + t + 1))) (k' * (1 + t + 1))) = true := hfit
                    simpa [fit2] using z
                  have hw30 := hp30 _ hfit
                  obtain ⟨m1, m2, kvs2, m3, m4⟩ := hDs17.2 _ _ hd2
                  have m3 : _ = some (HO.dK kvs2) := m3
                  have hgood16 := hdp16.ok i _ hmem16
                  have hcost : V.int ((wt : Int) + ((1 + t : Nat) : Int) * (((1 + t : Nat) : Int) - 1) / 2) = nv (wt + (1 + t) * (1 + t - 1) / 2) := by
                    rw [wait1]; rfl
                  have hkl : kvs2.length < sizeLine := by
                    rw [Paired.length m4]
                    exact lt_sz (Nat.le_trans (len_bound (hdp16.nd _) (hdp16.lt _)) (by omega))
                  have hBd : B ≠ d2 := by rintro rfl; rw [hB17.1] at m3; cases m3
                  -- the new value z, whatever way
                  have done_ : ∀ z : Nat, goodL (i + (1 + t)) (k' * (1 + t + 1), z) → z ≤ wt + (1 + t) * (1 + t - 1) / 2 → (∀ x, getE (D16 (i + (1 + t))) (k' * (1 + t + 1)) = some x → z ≤ x) →
                      Dics Rn H F17 (upd (upd H17 p17 (.tup [V.int (2 * ((k' : Int) * (((1 + t : Nat) : Int) + 1))), V.int ((k' : Int) * (((1 + t : Nat) : Int) + 1))])) d2 (.dK (putK kvs2 (Sum.inl ((k' * (1 + t + 1) : Nat) : Int)) (nv z)))) ds2 (setD D16 (i + (1 + t)) (k' * (1 + t + 1)) z) plain ∧
                      DpI (fun x : Nat => x) goodL p o (fun c k s => c < i ∨ (c = i ∧ ((k : Int) ∈ ys.take j ∨ (k = k' ∧ s < 1 + (t + 1))))) (setD D16 (i + (1 + t)) (k' * (1 + t + 1)) z) ∧ BestL p o (setD D16 (i + (1 + t)) (k' * (1 + t + 1)) z) (fun c k => c < i ∨ (c = i ∧ (k : Int) ∈ ys.take (j + 1))) ws := by
                    intro z hg hz hold
                    have hstep := hdp16.step (i := i) (s := 1 + t) (e := (k', wt)) (z := z) hmem16 (by omega) (fun c k s h => by rcases h with h | ⟨h, _⟩ <;> omega) hw30 hg hz hold
                    refine ⟨hDs17.put hd2 rfl m4 (fun _ => rfl), hstep.more fun c f s hf h _ _ _ => ?_, hbl16.setD (by omega) (fun c k h => by rcases h with h | ⟨h, _⟩ <;> omega)⟩
                    rcases h with h | ⟨h, h4 | ⟨h4, h5⟩⟩
                    · exact .inl (.inl h)
                    · exact .inl (.inr ⟨h, .inl h4⟩)
                    · by_cases htt : s = 1 + t
                      · exact .inr ⟨h, h4, htt⟩
                      · exact .inl (.inr ⟨h, .inr ⟨h4, by omega⟩⟩)
                  walk_at "vc"
                  refine ⟨_, _, rfl, .inl ⟨kvs2, Sum.inl ((k' * (1 + t + 1) : Nat) : Int), .inl m3, congrArg V.int ew, rfl⟩, ?_⟩
                  obtain ⟨_, hsome⟩ := m4.get (k' * (1 + t + 1))
                  cases hgE : getE (D16 (i + (1 + t))) (k' * (1 + t + 1)) with
                  | none =>
                    rw [hgE] at hsome
                    have hsome : (valV kvs2 (Sum.inl ((k' * (1 + t + 1) : Nat) : Int))).isSome = false := hsome
                    walk_at "vc"
                    refine ifF (by rw [hsome]; simp) ?_
                    walk_at "vc"
                    obtain ⟨a1, a2, a3⟩ := done_ (wt + (1 + t) * (1 + t - 1) / 2) (hgood16.cons (by omega)) (Nat.le_refl _) (fun x hx => by rw [hgE] at hx; cases hx)
                    refine ⟨_, _, rfl, .inl ⟨kvs2, Sum.inl ((k' * (1 + t + 1) : Nat) : Int), m3, congrArg V.int ew, hkl, rfl⟩, ?_⟩
                    rw [← hcost] at a1
                    refine ⟨_, _, _, _, F17, _, rfl, e017.put (.inl m1) m2, hY17, hp17', hP17, a1, hB17.2, by rw [upd_ne hBd]; exact hB17.1, ?_, a2, a3⟩
                    unfold setD; rw [if_neg (by omega)]; exact hes16
                  | some old =>
                    rw [hgE] at hsome
                    have hsome : (valV kvs2 (Sum.inl ((k' * (1 + t + 1) : Nat) : Int))).isSome = true := hsome
                    obtain ⟨vo, hvo1, hvo2⟩ := m4.getS hgE
                    have hvo2 : vo = nv old := hvo2
                    subst hvo2
                    walk_at "vc"
                    refine ifT (by rw [hsome]) ?_
                    walk_at "vc"
                    refine ⟨_, _, rfl, .inl ⟨kvs2, Sum.inl ((k' * (1 + t + 1) : Nat) : Int), .inl m3, congrArg V.int ew, hvo1.symm⟩, ?_⟩
                    refine ⟨(wt : Int) + ((1 + t : Nat) : Int) * (((1 + t : Nat) : Int) - 1) / 2, (old : Int), rfl, ?_⟩
                    have hz : V.int (if (old : Int) < (wt : Int) + ((1 + t : Nat) : Int) * (((1 + t : Nat) : Int) - 1) / 2 then (old : Int) else (wt : Int) + ((1 + t : Nat) : Int) * (((1 + t : Nat) : Int) - 1) / 2) = nv (min old (wt + (1 + t) * (1 + t - 1) / 2)) := by
                      rw [wait1]
                      show V.int _ = V.int _
                      congr 1
                      split <;> omega
                    obtain ⟨a1, a2, a3⟩ := done_ (min old (wt + (1 + t) * (1 + t - 1) / 2)) (by
                      by_cases hle : old ≤ wt + (1 + t) * (1 + t - 1) / 2
                      · rw [Nat.min_eq_left hle]; exact hdp16.ok _ _ (getE_mem hgE)
                      · rw [Nat.min_eq_right (by omega)]; exact hgood16.cons (by omega)) (Nat.min_le_right _ _) (fun x hx => by rw [hgE] at hx; cases hx; exact Nat.min_le_left _ _)
                    walk_at "vc"
                    refine ⟨_, _, rfl, .inl ⟨kvs2, Sum.inl ((k' * (1 + t + 1) : Nat) : Int), m3, congrArg V.int ew, hkl, rfl⟩, ?_⟩
                    rw [← hz] at a1
                    refine ⟨_, _, _, _, F17, _, rfl, e017.put (.inl m1) m2, hY17, hp17', hP17, a1, hB17.2, by rw [upd_ne hBd]; exact hB17.1, ?_, a2, a3⟩
                    unfold setD; rw [if_neg (by omega)]; exact hes16
              · obtain ⟨u8, u9, u10, u11, F16, D16, rfl, e16, hY16, hp16, hP16, hDs16, fB16, hB16, hes16, hdp16, hbl16⟩ := h
                refine ⟨_, _, _, _, F16, D16, rfl, e16, hY16, hp16, hP16, hDs16, fB16, hB16, hes16, hdp16.more fun c e s hec h hs hcs hf => ?_, hbl16⟩
                rcases h with h | ⟨rfl, h⟩
                · exact .inl h
                · rw [take_snoc hyk] at h
                  rcases List.mem_append.mp h with h | h
                  · exact .inr ⟨rfl, .inl h⟩
                  · have h : (e.1 : Int) = k' := by simpa using h
                    exact .inr ⟨rfl, .inr ⟨by omega, by omega⟩⟩
            · walk_at "vc"
              refine ⟨.inr ⟨by omega, by omega⟩, ?_⟩
              walk_at "vc"
              refine ⟨.inr ⟨by omega, by omega⟩, ?_⟩
              refine go_t2 (ex0 e13.s) fun p14 F14 e14 s14 hp14 => ?_
              refine ⟨F14, _, _, p, (k' * (o - i + 1), k' * (o - i)), rfl, e14.s, Mono.up (r := RPr) s14 hp13, ⟨p14, _, _, rfl, hp14, congrArg V.int ew1, congrArg V.int ew2⟩, ?_⟩
              have e014 := e13.trans e14
              have hDs14 := hDs13.up e14
              have hB14 := e14.keep hB13 (fun z => z) fB13
              have hp14' : RPr F14 (.ref pa) p := Mono.up (r := RPr) s14 hp13
              have hP14 := s14 _ _ hP13
              have hY14 := s14 _ _ hY13
              walk_at "vc"
              refine ite2 (fun hfit => ?_) (fun hfit => ?_)
              · obtain ⟨v, hv1, rfl⟩ := hget hDs14
                walk_at "vc"
                refine ⟨.inl ⟨rfl, _, lS hB14.1⟩, ?_⟩
                walk_at "vc"
                refine ⟨_, _, rfl, hv1, ?_⟩
                walk_at "vc"
                refine ⟨.inl ⟨by omega, by omega⟩, ?_⟩
                walk_at "vc"
                refine ⟨⟨by omega, by omega⟩, ?_⟩
                walk_at "vc"
                refine ⟨_, _, _, rfl, rfl, hB14.1, lt_szB (by rw [List.length_map]; omega), ?_⟩
                refine fin _ _ ⟨F14, ws ++ [wt + (o - i) * (o - i - 1) / 2], rfl, e014.put (.inl hBo) hB14.2, hY14, hp14', hP14, ?_, hB14.2, ?_, by simp; omega, ⟨fun w hw => ?_, fun c e hec hco h hf => ?_⟩⟩
                · refine ⟨hDs14.1, fun c d2 hd2 => ?_⟩
                  obtain ⟨g1, g2, kvs2, g3, g4⟩ := hDs14.2 c d2 hd2
                  have : d2 ≠ B := by rintro rfl; rw [hB14.1] at g3; cases g3
                  exact ⟨g1, g2, kvs2, by rw [upd_ne this]; exact g3, g4⟩
                · rw [upd_same, List.map_append]
                  have hcost : V.int ((wt : Int) + ((o : Int) - (i : Nat)) * (((o : Int) - (i : Nat)) - 1) / 2) = nv (wt + (o - i) * (o - i - 1) / 2) := by
                    rw [hof, wait1]; rfl
                  exact congrArg (fun z => some (HO.lst (ws.map nv ++ [z]))) hcost
                · rcases List.mem_append.mp hw with hw | hw
                  · exact hbl13.so w hw
                  · have hw : w = wt + (o - i) * (o - i - 1) / 2 := by simpa using hw
                    obtain ⟨t, g1, g2, g3, g4⟩ := hgood
                    refine ⟨(o - i) :: t, held_cons g1 g2 (by omega) (by omega) (by rw [g3]; exact hfit), ?_⟩
                    rw [waitN_cons, hw, g4]
                    exact Nat.add_comm _ _
                · rcases hsplit c e hec h with h | ⟨rfl, rfl⟩
                  · obtain ⟨w, hw1, hw2⟩ := hbl13.cov c e hec hco h hf
                    exact ⟨w, List.mem_append.mpr (.inl hw1), hw2⟩
                  · exact ⟨_, List.mem_append.mpr (.inr (List.mem_singleton.mpr rfl)), Nat.le_refl _⟩
              · refine fin _ _ ⟨F14, ws, rfl, e014, hY14, hp14', hP14, hDs14, hB14.2, hB14.1, by omega, ⟨hbl13.so, fun c e hec hco h hf => ?_⟩⟩
                rcases hsplit c e hec h with h | ⟨rfl, rfl⟩
                · exact hbl13.cov c e hec hco h hf
                · exact absurd hf hfit
          · obtain ⟨u5, u8, u9, u10, u11, F13, D13, ws, rfl, e13, hY13, hp13, hP13, hDs13, fB13, hB13, hwl13, hes13, hdp13, hbl13⟩ := h
            have hall : ∀ c e, e ∈ D13 c → c < i + 1 → c < i ∨ (c = i ∧ (e.1 : Int) ∈ ys.take ys.length) := by
              intro c e hec hc
              by_cases hlt : c < i
              · exact .inl hlt
              · have hci : c = i := by omega
                subst hci
                refine .inr ⟨rfl, ?_⟩
                rw [List.take_length]
                rw [hes13] at hec
                exact hperm.mem_iff.mpr (List.mem_map.mpr ⟨e.1, List.mem_map.mpr ⟨e, hec, rfl⟩, rfl⟩)
            refine ⟨_, _, _, _, _, _, _, _, F13, D13, ws, rfl, e13, hp13, hP13, hDs13, fB13, hB13, by omega, hdp13.more fun c e s hec h _ _ _ => hall c e hec h, ⟨hbl13.so, fun c e hec hco h hf => hbl13.cov c e hec hco (hall c e hec h) hf⟩⟩
        · obtain ⟨u4, u5, u6, u7, u8, u9, u10, u11, F9, D, ws, rfl, e9, hp9, hP9, hDs9, fB9, hB9, hwl, hdp, hbl⟩ := h
          have key := hbl.key h1 hdp
          walk_at "vc"
          refine ⟨szk (by simp), fun p10 hp10 => ?_⟩
          have e10 := e9.trans (Ex.own (o := .lst []) e9.s hp10 (fun b z => False.elim z))
          have hne : B ≠ p10 := by rintro rfl; rw [hB9] at hp10; cases hp10
          have hB10 : upd H9 p10 (.lst []) B = some (.lst (ws.map nv)) := by rw [upd_ne hne]; exact hB9
          refine ⟨_, .list [], dp_lnats hB10, .lst (lS upd_same) .nil, sh_lnats ws, shaped_lst rfl (Nat.zero_le _), ?_⟩
          cases ws with
          | nil =>
            walk_at "vc"
            refine q none _ e10.low fun c hcc => ?_
            obtain ⟨w, hw, _⟩ := key c hcc
            cases hw
          | cons b t =>
            walk_at "vc"
            refine ⟨_, (b :: t).map fun n : Nat => (n : Int), rfl, lS (by rw [List.map_map]; exact hB10), by simp, fun m hm hle => ?_⟩
            obtain ⟨mn, hmn, rfl⟩ := List.mem_map.mp hm
            refine q (some mn) _ e10.low ⟨hbl.so mn hmn, fun c hcc => ?_⟩
            obtain ⟨w, hw, hwc⟩ := key c hcc
            have := hle (w : Int) (List.mem_map.mpr ⟨w, hw, rfl⟩)
            omega
end
end Sa
set_option Elab.async false
set_option linter.all false
set_option maxRecDepth 100000
set_option maxHeartbeats 4000000
namespace Sa
open PySem PySem.Spec PyProof.Rows L2
local macro_rules | `(tactic| walk_at "vc") => `(tactic| repeat (first | refine ⟨_, rfl, ?_⟩ | refine ⟨_, _, rfl, rfl, ?_⟩ | refine ⟨_, _, rfl, ?_⟩ | refine ⟨rfl, ?_⟩))
/-! ### the heap of draws: a list [cells, stir] -/
structure GhX (F H : Hp) (g c : Addr) (cs : List Int) (st : Int) : Prop where
  hg : H g = some (.lst [.ref c, .int st])
  hc : H c = some (.lst (cs.map V.int))
  fg : F g = none
  fc : F c = none
  ne : g ≠ c
  le : cs.length ≤ 100
def Gh (F H : Hp) (g c : Addr) : Prop := ∃ cs st, GhX F H g c cs st
abbrev Sg (g c : Addr) : Addr → Prop := fun b => b = g ∨ b = c
theorem GhX.t {F H : Hp} {g c : Addr} {cs : List Int} {st : Int} (h : GhX F H g c cs st) : ∀ b, Sg g c b → H b ≠ none := fun b z => by
  rcases z with rfl | rfl
  · rw [h.hg]; simp
  · rw [h.hc]; simp
theorem Gh.t {F H : Hp} {g c : Addr} (h : Gh F H g c) : ∀ b, Sg g c b → H b ≠ none := by
  obtain ⟨cs, st, h⟩ := h
  exact h.t
theorem GhX.up {F H F' H' : Hp} {g c : Addr} {cs : List Int} {st : Int} (h : GhX F H g c cs st) (e : Ex S0 F H F' H') : GhX F' H' g c cs st := by
  have a := e.keep h.hg (fun z => z) h.fg
  have b := e.keep h.hc (fun z => z) h.fc
  exact ⟨a.1, b.1, a.2, b.2, h.ne, h.le⟩
theorem Gh.up {F H F' H' : Hp} {g c : Addr} (h : Gh F H g c) (e : Ex S0 F H F' H') : Gh F' H' g c := by
  obtain ⟨cs, st, h⟩ := h
  exact ⟨cs, st, h.up e⟩
/-- an object of its own beside the heap of draws stays -/
theorem Ex.keepG {F H F1 H1 : Hp} {g c p : Addr} {o : HO} (a : Ex (Sg g c) F H F1 H1) (h : H p = some o) (n1 : p ≠ g) (n2 : p ≠ c) (fp : F p = none) : H1 p = some o ∧ F1 p = none :=
  a.keep h (fun z => z.elim n1 n2) fp
theorem Ex.refG {F H : Hp} {g c : Addr} (s : Sub F H) (h : Gh F H g c) : Ex (Sg g c) F H F H := Ex.refl s h.t
theorem Ex.toG {F H F1 H1 : Hp} {g c : Addr} (a : Ex S0 F H F1 H1) (h : Gh F H g c) : Ex (Sg g c) F H F1 H1 := a.of0 h.t
theorem cut_ints (ns : List Int) (lo hi : Option Int) : ∃ ms : List Int, cutV (ns.map V.int) lo hi = ms.map V.int ∧ ms.length ≤ ns.length := by
  refine ⟨(ns.drop (HT.sIx (ns.map V.int).length 0 lo)).take (HT.sIx (ns.map V.int).length (ns.map V.int).length hi - HT.sIx (ns.map V.int).length 0 lo), ?_, ?_⟩
  · unfold cutV
    rw [List.map_take, List.map_drop]
  · rw [List.length_take, List.length_drop]; omega
section
variable {P : Program} {w : World} {K : PySem.W.Frag} {mg : Str → Option Value} {base : Heap}
def sp__law_heap : Sp := fun vs H Q _ => ∃ F a, ∃ ns : List Int, vs = [.ref a] ∧ Sub F H ∧ SqL K H a (ns.map V.int) ∧ ns.length ≤ 63 ∧ ∀ g c F' H', Ex S0 F H F' H' → Gh F' H' g c → Q (.ref g) H'
theorem up0 {F H F' H' : Hp} (e : Ex S0 F H F' H') : Sub H H' := fun b o h => e.k b o (fun z => z) h
theorem c__law_heap (T : Txt K mg) : C8.Cal P w K mg base 1 "_law_heap" (sp__law_heap (K := K)) [] := by
  refine mkC T.d__law_heap scLheap (fun _ _ _ _ _ _ us hl => match us, hl with | [_], _ => rfl) (fun vs H Q E h => ?_) (fun f cdv A outer s H vs Q E hr h => ?_)
  · obtain ⟨F, a, ns, rfl, _⟩ := h
    rfl
  · obtain ⟨F, a, ns, rfl, sb, ha, hz, q⟩ := h
    refine ⟨_, (pss_cons (ps_par (i := 1) (j := 2) (by rfl) scLheap.nd rfl rfl (by decide) rfl rfl (pa_cons (pe_lc (own := [("_law_cell", 3)]) (tt := tYes) rfl scLheap.nd (pi_list (pe_slice sl_list (pv 0) po_none (po_some pe_int))) (blkOk_by (N := N_Lheap) (sc := defScope sLheap) (by decide +kernel)) (fun _ _ _ _ _ => pg_name (i := 3) scLheap.nd rfl (Or.inl rfl) (Or.inr rfl)) (fun _ _ _ _ _ => pts_nil) (fun _ _ _ _ _ => (pe_op op_add (pe_op op_mul pe_int (pe_callB call_abs (by rfl) T.abs (by decide +kernel) (pa_cons (pv 3) pa_nil))) (pe_callTy call_int1 (by rfl) T.int (by decide +kernel) (pa_cons (pe_cmpR op_lt (pv 3) pe_int (nomark _)) pa_nil))))) (pa_cons pe_int pa_nil)) (by rfl))
    (pss_cons (ps_for PassesOwn.never rfl (pi_list (pv 1)) (pg_name (i := 3) scLheap.nd rfl (Or.inl rfl)) (pss_one (ps_set (i := 2) scLheap.nd rfl (Or.inl rfl) (pe_op op_mod (pe_callTy call_int1 (by rfl) T.int (by decide +kernel) (pa_cons (pe_op op_add (pe_op op_add (pe_op op_mul (pv 2) pe_int) (pe_op op_mod (pe_callTy call_int1 (by rfl) T.int (by decide +kernel) (pa_cons (pv 3) pa_nil)) pe_int)) pe_int) pa_nil)) pe_int))))
    (pss_one (ps_ret (pe_lst (pa_cons (pe_revL (pe_lc (own := [("_law_cell", 3)]) rfl scLheap.nd (pi_list (pv 1)) (blkOk_by (N := N_Lheap) (sc := defScope sLheap) (by decide +kernel)) (fun _ _ _ _ _ => pg_name (i := 3) scLheap.nd rfl (Or.inl rfl) (Or.inr rfl)) (fun _ _ _ _ _ => (pts_one (pt_cmpR op_ge (pv 3) (pe_op op_pow pe_int pe_int) (nomark _)))) (fun _ _ _ _ _ => (pv 3)))) (pa_cons (pv 2) pa_nil))))))), ?_⟩
    walk_at "vc"
    refine ⟨_, _, rfl, ha, fun p1 hp1 => ?_⟩
    obtain ⟨ms, hms, hml⟩ := cut_ints ns none (some 60)
    rw [hms]
    obtain ⟨e1, h1, s1⟩ := newL (ex0 sb) (xs := ms.map V.int) hp1
    refine ⟨_, rfl, ⟨_, lS (e1.s _ _ h1)⟩, ?_⟩
    intro D hD
    refine lcX (re := Ri) (ds := ms) (walk_lm ms V.int) e1.s (fun b z => False.elim z) hD (lt_sz (by omega)) (fun _ => true) (fun x => 2 * (if x < 0 then -x else x) + (if decide (x < 0) = true then 1 else 0)) (S := S0) (fun F1 H1 e => lS (e.fh _ _ h1)) (fun i d x F2 H2 H3 hd e y Qy Qn q1 q2 => ?_) (fun F2 H2 ys e fD hDD pr1 => ?_)
    · obtain ⟨rfl, e3⟩ := y
      obtain ⟨z, ez, rfl⟩ := map_get e3
      have ed : z = d := by rw [hd] at ez; exact (Option.some.inj ez).symm
      subst ed
      walk_at "vc"
      refine ⟨.inl ⟨by omega, by omega⟩, ?_⟩
      walk_at "vc"
      refine .inr ⟨_, rfl, ?_⟩
      refine ⟨_, _, rfl, rfl, ?_⟩
      exact q1 rfl _ _ _ (Ex.refl e.s (fun b z => False.elim z)) rfl
    · rw [filter_tt'] at pr1
      have ew := paired_ints pr1
      have hcl : (ms.map (fun x : Int => 2 * (if x < 0 then -x else x) + (if decide (x < 0) = true then 1 else 0))).length ≤ 63 := by rw [List.length_map]; omega
      generalize ms.map (fun x : Int => 2 * (if x < 0 then -x else x) + (if decide (x < 0) = true then 1 else 0)) = cs at ew pr1 hcl
      subst ew
      have e2 := e1.trans e
      walk_at "vc"
      refine ⟨⟨_, lS hDD⟩, ?_⟩
      refine for_it (walk_lm cs V.int) (fun i σ H3 => H3 = H2 ∧ ∃ st u, σ = [some (.ref a), some (.ref D), some (.int st), u]) ⟨rfl, 61464, none, rfl⟩ (fun i σ H3 _ h => ?_) (fun i x σ H3 H4 hi h y => ?_) (fun σ H3 h => ?_)
      · obtain ⟨rfl, st, u, rfl⟩ := h
        exact lS hDD
      · obtain ⟨rfl, st, u, rfl⟩ := h
        obtain ⟨rfl, e3⟩ := y
        obtain ⟨z, ez, rfl⟩ := map_get e3
        walk_at "vc"
        refine ⟨.inr ⟨by omega, by omega⟩, ?_⟩
        walk_at "vc"
        refine .inl ⟨_, rfl, ?_⟩
        refine ⟨_, _, rfl, rfl, (by show (0 : Int) < 2147483563; decide), ?_⟩
        refine ⟨_, _, rfl, rfl, ?_⟩
        refine ⟨_, _, rfl, rfl, ?_⟩
        refine .inl ⟨_, rfl, ?_⟩
        refine ⟨_, _, rfl, rfl, (by show (0 : Int) < 2147483647; decide), ?_⟩
        exact ⟨rfl, _, _, rfl⟩
      · obtain ⟨rfl, st, u, rfl⟩ := h
        walk_at "vc"
        refine ⟨⟨_, lS hDD⟩, ?_⟩
        intro D2 hD2
        refine lcX (re := Ri) (ds := cs) (walk_lm cs V.int) e2.s (fun b z => False.elim z) hD2 (lt_sz (by omega)) (fun x => decide ((10 : Int) ^ (18 : Int).toNat ≤ x)) id (S := S0) (fun F1 H1 e => lS ((e.k _ _ (fun z => z) hDD))) (fun i d x F4 H4 H5 hd e y Qy Qn q1 q2 => ?_) (fun F4 H4 ys e4 fD4 hDD4 pr4 => ?_)
        · obtain ⟨rfl, e3⟩ := y
          obtain ⟨z, ez, rfl⟩ := map_get e3
          have ed : z = d := by rw [hd] at ez; exact (Option.some.inj ez).symm
          subst ed
          walk_at "vc"
          refine ⟨⟨by omega, by omega, by decide⟩, ?_⟩
          walk_at "vc"
          refine ite2 (fun hc => ?_) (fun hc => ?_)
          · exact ⟨_, rfl, q1 hc _ _ _ (Ex.refl e.s (fun b z => False.elim z)) rfl⟩
          · exact q2 (by simpa using hc) _ _ (Ex.refl e.s (fun b z => False.elim z))
        · rw [List.map_id] at pr4
          have ew := paired_ints pr4
          have hfl : (cs.filter fun x => decide ((10 : Int) ^ (18 : Int).toNat ≤ x)).length ≤ 63 := Nat.le_trans (List.length_filter_le _ _) hcl
          generalize cs.filter (fun x => decide ((10 : Int) ^ (18 : Int).toNat ≤ x)) = fs at ew hfl pr4
          subst ew
          have e5 := e2.trans e4
          walk_at "vc"
          refine ⟨_, _, rfl, lS hDD4, fun c hc => ?_⟩
          have e6 := e5.trans (Ex.own (o := .lst (fs.map V.int).reverse) e5.s hc (fun b z => False.elim z))
          have fc : F4 c = none := e5.s.free hc
          have h6c : upd H4 c (.lst (fs.map V.int).reverse) c = some (.lst (fs.reverse.map V.int)) := by rw [upd_same, List.map_reverse]
          generalize upd H4 c (.lst (fs.map V.int).reverse) = H6 at e6 h6c
          walk_at "vc"
          refine ⟨szk (by simp), fun g hg => ?_⟩
          have e7 := e6.trans (Ex.own (o := .lst [.ref c, .int st]) e6.s hg (fun b z => False.elim z))
          have hgc : c ≠ g := by rintro rfl; rw [h6c] at hg; cases hg
          exact q g c _ _ e7 ⟨fs.reverse, st, upd_same, by rw [upd_ne hgc]; exact h6c, e6.s.free hg, fc, hgc.symm, by rw [List.length_reverse]; omega⟩
def sp__law_draw : Sp := fun vs H Q _ => ∃ F g c, ∃ m : Nat, vs = [.ref g, .int m] ∧ Sub F H ∧ Gh F H g c ∧ 1 ≤ m ∧ m ≤ 100000000 ∧ ∀ (r : Nat) H', r < m → Ex (Sg g c) F H F H' → Gh F H' g c → Q (.int r) H'
theorem mod_nat {a : Int} {m : Nat} (h : 1 ≤ m) : ∃ r : Nat, a % (m : Int) = (r : Int) ∧ r < m := by
  have h1 := Int.emod_nonneg a (show (m : Int) ≠ 0 by omega)
  have h2 := Int.emod_lt_of_pos a (show (0 : Int) < m by omega)
  exact ⟨(a % (m : Int)).toNat, by omega, by omega⟩
theorem snoc_of {α : Type} {xs : List α} (h : xs ≠ []) : ∃ ys z, xs = ys ++ [z] := ⟨xs.dropLast, xs.getLast h, (List.dropLast_concat_getLast h).symm⟩
theorem dp_lints {K : PySem.W.Frag} {H : Hp} {a : Addr} {ns : List Int} (h : H a = some (.lst (ns.map V.int))) : Dp K H (.ref a) (.list (ns.map PyData.int)) := dp_lint (lS h)
theorem c__law_draw (T : Txt K mg) : C8.Cal P w K mg base 1 "_law_draw" sp__law_draw [] := by
  refine mkC T.d__law_draw scLdraw (fun _ _ _ _ _ _ us hl => match us, hl with | [_, _], _ => rfl) (fun vs H Q E h => ?_) (fun f cdv A outer s H vs Q E hr h => ?_)
  · obtain ⟨F, g, c, m, rfl, _⟩ := h
    rfl
  · obtain ⟨F, g, c, m, rfl, sb, ⟨cs0, st0, hG0⟩, h1, h2, q⟩ := h
    refine ⟨_, (pss_cons (ps_while PassesOwn.never (PW.pt (pw_and (pt_cmpR (op_neD (hr.units)) (pe_ix ix_list (pv 0) pe_int (fun _ _ => rfl)) (pe_lst pa_nil) (nomark _)) (pw_and1 (pt_cmpR op_eq (pe_ix ix_list (pe_ix ix_list (pv 0) pe_int (fun _ _ => rfl)) (pe_un un_neg pe_int) (fun _ _ => rfl)) pe_int (nomark _))))) (pss_one (ps_expr (pe_bm0 PySem.F.plainAttrs_list PySem.F.slot_list_pop PySem.F.type_list_pop mt_pop (pe_ix ix_list (pv 0) pe_int (fun _ _ => rfl))))))
    (pss_cons (ps_if (pt_cmpR (op_neD (hr.units)) (pe_ix ix_list (pv 0) pe_int (fun _ _ => rfl)) (pe_lst pa_nil) (nomark _)) (pss_cons (ps_set (i := 2) scLdraw.nd rfl (Or.inl rfl) (pe_bm0 PySem.F.plainAttrs_list PySem.F.slot_list_pop PySem.F.type_list_pop mt_pop (pe_ix ix_list (pv 0) pe_int (fun _ _ => rfl))))
    (pss_cons (ps_expr (pe_bm PySem.F.plainAttrs_list PySem.F.slot_list_append PySem.F.type_list_append mt_append (pe_ix ix_list (pv 0) pe_int (fun _ _ => rfl)) (pa_cons (pe_op op_fdiv (pv 2) (pv 1)) pa_nil)))
    (pss_one (ps_ret (pe_op op_mod (pe_callTy call_int1 (by rfl) T.int (by decide +kernel) (pa_cons (pv 2) pa_nil)) (pv 1)))))) pss_nil)
    (pss_cons (ps_asg (pe_op op_mod (pe_callTy call_int1 (by rfl) T.int (by decide +kernel) (pa_cons (pe_op op_add (pe_op op_mul (pe_ix ix_list (pv 0) pe_int (fun _ _ => rfl)) pe_int) pe_int) pa_nil)) pe_int) (pg_sub (pv 0) pe_int set_list))
    (pss_one (ps_ret (pe_op op_mod (pe_callTy call_int1 (by rfl) T.int (by decide +kernel) (pa_cons (pe_op op_fdiv (pe_ix ix_list (pv 0) pe_int (fun _ _ => rfl)) pe_int) pa_nil)) (pv 1))))))), ?_⟩
    have tS0 := hG0.t
    refine while_it (fun k σ H1 => σ = [some (.ref g), some (.int (m : Nat)), none] ∧ ∃ cs st, Ex (Sg g c) F H F H1 ∧ GhX F H1 g c cs st ∧ k = cs.length) (fun σ H1 => σ = [some (.ref g), some (.int (m : Nat)), none] ∧ ∃ cs st, Ex (Sg g c) F H F H1 ∧ GhX F H1 g c cs st) cs0.length ⟨rfl, cs0, st0, Ex.refl sb tS0, hG0, rfl⟩ (fun σ H1 h => ?_) (fun fin k σ H1 h => ?_)
    · obtain ⟨rfl, cs, st, e1, hG⟩ := h
      walk_at "vc"
      refine ⟨_, _, _, _, rfl, rfl, lS hG.hg, (atI_nat (i := 0) (v := V.ref c) rfl : _), ?_⟩
      refine ⟨szk (by simp), fun p hp => ?_⟩
      have er : Ex S0 F H1 F (upd H1 p (.lst [])) := Ex.own e1.s hp (fun b z => False.elim z)
      have e2 := e1.then0 er
      have hG2 := hG.up er
      refine ⟨_, _, dp_lints hG2.hc, .lst (lS upd_same) .nil, shaped_li cs, shaped_lst rfl (Nat.zero_le _), ?_⟩
      generalize upd H1 p (.lst []) = H2 at e2 hG2
      by_cases hcs : cs = []
      · subst hcs
        walk_at "vc"
        refine ⟨_, _, _, _, rfl, rfl, lS hG2.hg, (atI_nat (i := 1) (v := V.int st) rfl : _), ?_⟩
        walk_at "vc"
        refine ⟨.inr ⟨by omega, by omega⟩, ?_⟩
        walk_at "vc"
        refine .inl ⟨_, rfl, ?_⟩
        refine ⟨_, _, rfl, rfl, (by show (0 : Int) < 2147483647; decide), ?_⟩
        refine ⟨_, rfl, ?_⟩
        refine ⟨_, _, _, 1, rfl, rfl, hG2.hg, rfl, ?_⟩
        have e3 := e2.put (o := .lst [.ref c, .int ((st * 48271 + 17) % 2147483647)]) (.inr (.inl rfl)) hG2.fg
        have hG3 : GhX F (upd H2 g (.lst [.ref c, .int ((st * 48271 + 17) % 2147483647)])) g c [] ((st * 48271 + 17) % 2147483647) := ⟨upd_same, by rw [upd_ne hG2.ne.symm]; exact hG2.hc, hG2.fg, hG2.fc, hG2.ne, by simp⟩
        walk_at "vc"
        refine ⟨_, _, _, _, rfl, rfl, lS hG3.hg, (atI_nat (i := 1) (v := V.int ((st * 48271 + 17) % 2147483647)) rfl : _), ?_⟩
        refine ⟨_, _, rfl, rfl, ⟨by decide, by decide⟩, ?_⟩
        refine .inl ⟨_, rfl, ?_⟩
        walk_at "vc"
        refine ⟨by show (0 : Int) < m; omega, ?_⟩
        obtain ⟨r, hr1, hr2⟩ := mod_nat (a := (st * 48271 + 17) % 2147483647 / 32) h1
        have q' := q r _ hr2 e3 ⟨_, _, hG3⟩
        rw [← hr1] at q'
        exact q'
      · obtain ⟨ys, z, rfl⟩ := snoc_of hcs
        have hlst : (ys ++ [z]).map V.int = ys.map V.int ++ [V.int z] := by simp
        have hcond : (!PyData.eqv (.list ((ys ++ [z]).map PyData.int)) (.list [])) = true := by
          cases ys <;> rfl
        refine ⟨_, rfl, ?_⟩
        refine ifT hcond ?_
        walk_at "vc"
        refine ⟨_, _, _, _, rfl, rfl, lS hG2.hg, (atI_nat (i := 0) (v := V.ref c) rfl : _), ?_⟩
        refine ⟨.inl ⟨rfl, _, lS hG2.hc⟩, ?_⟩
        refine ⟨c, _, V.int z, rfl, rfl, hG2.hc, by rw [hlst]; simp, ?_⟩
        have hdl : ((ys ++ [z]).map V.int).dropLast = ys.map V.int := by rw [hlst, List.dropLast_concat]
        rw [hdl]
        have e3 := e2.put (o := .lst (ys.map V.int)) (.inr (.inr rfl)) hG2.fc
        have hle := hG2.le
        rw [List.length_append] at hle
        have hG3 : GhX F (upd H2 c (.lst (ys.map V.int))) g c ys st := ⟨by rw [upd_ne hG2.ne]; exact hG2.hg, upd_same, hG2.fg, hG2.fc, hG2.ne, by omega⟩
        generalize upd H2 c (.lst (ys.map V.int)) = H3 at e3 hG3
        walk_at "vc"
        refine ⟨_, _, _, _, rfl, rfl, lS hG3.hg, (atI_nat (i := 0) (v := V.ref c) rfl : _), ?_⟩
        refine ⟨.inl ⟨rfl, _, lS hG3.hc⟩, ?_⟩
        walk_at "vc"
        refine ⟨⟨by omega, by omega⟩, ?_⟩
        walk_at "vc"
        refine ⟨_, _, _, rfl, rfl, hG3.hc, lt_sz (by rw [List.length_map]; simp at hle; omega), ?_⟩
        have e4 := e3.put (o := .lst (ys.map V.int ++ [V.int (z / (m : Int))])) (.inr (.inr rfl)) hG3.fc
        have hG4 : GhX F (upd H3 c (.lst (ys.map V.int ++ [V.int (z / (m : Int))]))) g c (ys ++ [z / (m : Int)]) st := ⟨by rw [upd_ne hG3.ne]; exact hG3.hg, by rw [upd_same]; simp, hG3.fg, hG3.fc, hG3.ne, by rw [List.length_append]; exact hle⟩
        walk_at "vc"
        refine .inl ⟨_, rfl, ?_⟩
        walk_at "vc"
        refine ⟨by show (0 : Int) < m; omega, ?_⟩
        obtain ⟨r, hr1, hr2⟩ := mod_nat (a := z) h1
        have q' := q r _ hr2 e4 ⟨_, _, hG4⟩
        rw [← hr1] at q'
        exact q'
    · obtain ⟨rfl, cs, st, e1, hG, rfl⟩ := h
      walk_at "vc"
      refine ⟨_, _, _, _, rfl, rfl, lS hG.hg, (atI_nat (i := 0) (v := V.ref c) rfl : _), ?_⟩
      refine ⟨szk (by simp), fun p hp => ?_⟩
      have er : Ex S0 F H1 F (upd H1 p (.lst [])) := Ex.own e1.s hp (fun b z => False.elim z)
      have e2 := e1.then0 er
      have hG2 := hG.up er
      refine ⟨_, _, dp_lints hG2.hc, .lst (lS upd_same) .nil, shaped_li cs, shaped_lst rfl (Nat.zero_le _), ?_⟩
      generalize upd H1 p (.lst []) = H2 at e2 hG2
      by_cases hcs : cs = []
      · subst hcs
        refine ⟨_, rfl, ?_⟩
        exact fin _ _ ⟨rfl, _, _, e2, hG2⟩
      · obtain ⟨ys, z, rfl⟩ := snoc_of hcs
        have hlst : (ys ++ [z]).map V.int = ys.map V.int ++ [V.int z] := by simp
        have hcond : (!PyData.eqv (.list ((ys ++ [z]).map PyData.int)) (.list [])) = true := by
          cases ys <;> rfl
        have hlast : atI ((ys ++ [z]).map V.int) (-1) = some (V.int z) := atI_last (by rw [hlst]; simp)
        refine ⟨_, rfl, ?_⟩
        refine ifT hcond ?_
        walk_at "vc"
        refine ⟨_, _, _, _, rfl, rfl, lS hG2.hg, (atI_nat (i := 0) (v := V.ref c) rfl : _), ?_⟩
        walk_at "vc"
        refine ⟨_, _, _, _, rfl, rfl, lS hG2.hc, hlast, ?_⟩
        refine ⟨rfl, ?_⟩
        refine ⟨_, rfl, ?_⟩
        refine ite2 (fun hz => ?_) (fun hz => ?_)
        · refine ⟨fun σ' H' => ∃ k', k' < (ys ++ [z]).length ∧ σ' = [some (.ref g), some (.int (m : Nat)), none] ∧ ∃ cs st, Ex (Sg g c) F H F H' ∧ GhX F H' g c cs st ∧ k' = cs.length, fun _ _ h => h, ?_⟩
          walk_at "vc"
          refine ⟨_, _, _, _, rfl, rfl, lS hG2.hg, (atI_nat (i := 0) (v := V.ref c) rfl : _), ?_⟩
          refine ⟨.inl ⟨rfl, _, lS hG2.hc⟩, ?_⟩
          refine ⟨c, _, V.int z, rfl, rfl, hG2.hc, by rw [hlst]; simp, ?_⟩
          have hdl : ((ys ++ [z]).map V.int).dropLast = ys.map V.int := by rw [hlst, List.dropLast_concat]
          rw [hdl]
          have e3 := e2.put (o := .lst (ys.map V.int)) (.inr (.inr rfl)) hG2.fc
          have hle := hG2.le
          rw [List.length_append] at hle
          exact ⟨ys.length, by rw [List.length_append]; simp, rfl, ys, st, e3, ⟨by rw [upd_ne hG2.ne]; exact hG2.hg, upd_same, hG2.fg, hG2.fc, hG2.ne, by omega⟩, rfl⟩
        · exact fin _ _ ⟨rfl, _, _, e2, hG2⟩
end
end Sa
set_option Elab.async false
set_option linter.all false
set_option maxRecDepth 100000
set_option maxHeartbeats 4000000
namespace Sa
open PySem PySem.Spec PyProof.Rows L2
local macro_rules | `(tactic| walk_at "vc") => `(tactic| repeat (first | refine ⟨_, rfl, ?_⟩ | refine ⟨_, _, rfl, rfl, ?_⟩ | refine ⟨_, _, rfl, ?_⟩ | refine ⟨rfl, ?_⟩))
section
variable {P : Program} {w : World} {K : PySem.W.Frag} {mg : Str → Option Value} {base : Heap}
def sp__law_pick : Sp := fun vs H Q _ => ∃ F g c a xs, vs = [.ref g, .ref a] ∧ Sub F H ∧ Gh F H g c ∧ H a = some (.lst xs) ∧ a ≠ g ∧ a ≠ c ∧ 1 ≤ xs.length ∧ xs.length ≤ 1000 ∧ ∀ v H', v ∈ xs → Ex (Sg g c) F H F H' → Gh F H' g c → Q v H'
theorem c__law_pick (T : Txt K mg) : C8.Cal P w K mg base 2 "_law_pick" sp__law_pick [] := by
  have c__law_draw := c__law_draw (P := P) (w := w) (base := base) T
  refine mkC T.d__law_pick scLpick (fun _ _ _ _ _ _ us hl => match us, hl with | [_, _], _ => rfl) (fun vs H Q E h => ?_) (fun f cdv A outer s H vs Q E hr h => ?_)
  · obtain ⟨F, g, c, a, xs, rfl, _⟩ := h
    rfl
  · obtain ⟨F, g, c, a, xs, rfl, sb, hG, ha, n1, n2, h1, h2, q⟩ := h
    refine ⟨_, (pss_one (ps_ret (pe_ix ix_list (pv 1) (C8.pe_c c__law_draw hr (by decide) (by rfl) (pa_cons (pv 0) (pa_cons (pe_callB call_len (by rfl) T.len (by decide +kernel) (pa_cons (pv 1) pa_nil)) pa_nil))) (fun _ _ => rfl)))), ?_⟩
    walk_at "vc"
    refine ⟨_, _, rfl, lenL (lS ha), ?_⟩
    refine ⟨F, g, c, xs.length, rfl, sb, hG, h1, by omega, fun r H' hr e hG' => ?_⟩
    have ha' := e.k _ _ (fun z => z.elim n1 n2) ha
    have hx : xs[r]? = some xs[r] := List.getElem?_eq_getElem hr
    refine ⟨_, _, _, _, rfl, rfl, lS ha', atI_nat hx, ?_⟩
    exact q _ _ (List.mem_of_getElem? hx) e hG'
def sp__law_mixed : Sp := fun vs H Q _ => ∃ F g c a xs, vs = [.ref g, .ref a] ∧ Sub F H ∧ Gh F H g c ∧ H a = some (.lst xs) ∧ a ≠ g ∧ a ≠ c ∧ xs.length ≤ 100 ∧ ∀ p ys F' H', ys.Perm xs → Ex (Sg g c) F H F' H' → Gh F' H' g c → F' p = some (.lst ys) → Q (.ref p) H'
theorem perm_pop {xs : List V} {k : Nat} {y : V} (h : xs[k]? = some y) : xs.Perm (y :: xs.eraseIdx k) := by
  induction xs generalizing k with
  | nil => cases h
  | cons a t ih =>
    cases k with
    | zero => cases h; exact .refl _
    | succ j =>
      have h : t[j]? = some y := h
      exact (List.Perm.cons a (ih h)).trans (List.Perm.swap _ _ _)
theorem c__law_mixed (T : Txt K mg) : C8.Cal P w K mg base 2 "_law_mixed" sp__law_mixed [] := by
  have c__law_draw := c__law_draw (P := P) (w := w) (base := base) T
  refine mkC T.d__law_mixed scLmixed (fun _ _ _ _ _ _ us hl => match us, hl with | [_, _], _ => rfl) (fun vs H Q E h => ?_) (fun f cdv A outer s H vs Q E hr h => ?_)
  · obtain ⟨F, g, c, a, xs, rfl, _⟩ := h
    rfl
  · obtain ⟨F, g, c, a, xs, rfl, sb, hG, ha, n1, n2, h2, q⟩ := h
    refine ⟨_, (pss_cons (ps_par (i := 2) (j := 3) (by rfl) scLmixed.nd rfl rfl (by decide) rfl rfl (pa_cons (pe_callTy call_list_of (by rfl) T.list (by decide +kernel) (pa_cons (pv 1) pa_nil)) (pa_cons (pe_lst pa_nil) pa_nil)) (by rfl))
    (pss_cons (ps_for PassesOwn.never rfl (pi_range1 (by rfl) T.range (pa_cons (pe_callB call_len (by rfl) T.len (by decide +kernel) (pa_cons (pv 1) pa_nil)) pa_nil)) (pg_name (i := 4) scLmixed.nd rfl (Or.inl rfl)) (pss_one (ps_expr (pe_bm PySem.F.plainAttrs_list PySem.F.slot_list_append PySem.F.type_list_append mt_append (pv 3) (pa_cons (pe_bm PySem.F.plainAttrs_list PySem.F.slot_list_pop PySem.F.type_list_pop mt_popAt (pv 2) (pa_cons (C8.pe_c c__law_draw hr (by decide) (by rfl) (pa_cons (pv 0) (pa_cons (pe_callB call_len (by rfl) T.len (by decide +kernel) (pa_cons (pv 2) pa_nil)) pa_nil))) pa_nil)) pa_nil)))))
    (pss_one (ps_ret (pv 3))))), ?_⟩
    walk_at "vc"
    refine ⟨_, _, rfl, .inl (lS ha), ?_⟩
    intro L hL
    have er1 : Ex S0 F H F (upd H L (.lst xs)) := Ex.own sb hL (fun b z => False.elim z)
    have hG1 := hG.up er1
    have hL1 : upd H L (.lst xs) L = some (.lst xs) := upd_same
    have ha1 := er1.k _ _ (fun z => z) ha
    generalize upd H L (.lst xs) = H1 at er1 hG1 hL1 ha1
    refine ⟨szk (by simp), fun D hD => ?_⟩
    have hDo : H D = none := er1.old hD
    have er2 : Ex S0 F H1 F (upd H1 D (.lst [])) := Ex.own er1.s hD (fun b z => False.elim z)
    have hG2 := hG1.up er2
    have hL2 := er2.k _ _ (fun z => z) hL1
    have ha2 := er2.k _ _ (fun z => z) ha1
    have hD2 : upd H1 D (.lst []) D = some (.lst ([] : List V)) := upd_same
    have e2 := (er1.trans er2).toG hG
    have fL : F L = none := sb.free hL
    have fD : F D = none := er1.s.free hD
    have hLD : L ≠ D := by rintro rfl; rw [hL1] at hD; cases hD
    generalize upd H1 D (.lst []) = H2 at er2 hG2 hL2 ha2 hD2 e2
    have hLg : L ≠ g ∧ L ≠ c := by
      obtain ⟨cs, st, z⟩ := hG
      exact ⟨(by rintro rfl; rw [z.hg] at hL; cases hL), (by rintro rfl; rw [z.hc] at hL; cases hL)⟩
    have hDg : D ≠ g ∧ D ≠ c := by
      obtain ⟨cs, st, z⟩ := hG1
      exact ⟨(by rintro rfl; rw [z.hg] at hD; cases hD), (by rintro rfl; rw [z.hc] at hD; cases hD)⟩
    walk_at "vc"
    refine ⟨_, _, rfl, lenL (lS ha2), ?_⟩
    walk_at "vc"
    refine ⟨by omega, by omega, ?_⟩
    refine for_it (walk_r0 (n := xs.length) (by omega)) (fun i σ H3 => ∃ u lf fd, σ = [some (.ref g), some (.ref a), some (.ref L), some (.ref D), u] ∧ Ex (Sg g c) F H F H3 ∧ Gh F H3 g c ∧ H3 L = some (.lst lf) ∧ H3 D = some (.lst fd) ∧ fd.length = i ∧ lf.length = xs.length - i ∧ (fd ++ lf).Perm xs) ⟨none, xs, [], rfl, e2, hG2, hL2, hD2, rfl, rfl, .refl _⟩ (fun i σ H3 _ h => trivial) (fun i x σ H3 H4 hi h y => ?_) (fun σ H3 h => ?_)
    · obtain ⟨u, lf, fd, rfl, e3, hG3, hL3, hD3, hfl, hll, hp⟩ := h
      obtain ⟨rfl, rfl⟩ := y
      walk_at "vc"
      refine ⟨.inl ⟨rfl, _, lS hD3⟩, ?_⟩
      walk_at "vc"
      refine ⟨.inl ⟨rfl, _, lS hL3⟩, ?_⟩
      walk_at "vc"
      refine ⟨_, _, rfl, lenL (lS hL3), ?_⟩
      refine ⟨F, g, c, lf.length, rfl, e3.s, hG3, by omega, by omega, fun r H5 hr e5 hG5 => ?_⟩
      have hL5 := (e5.keepG hL3 hLg.1 hLg.2 fL).1
      have hD5 := (e5.keepG hD3 hDg.1 hDg.2 fD).1
      have hx : lf[r]? = some lf[r] := List.getElem?_eq_getElem hr
      refine ⟨L, lf, r, r, lf[r], rfl, rfl, hL5, by omega, by omega, ?_, hx, ?_⟩
      · unfold seqIndex?
        simp
        omega
      · have hD6 : upd H5 L (.lst (lf.eraseIdx r)) D = some (.lst fd) := by rw [upd_ne hLD.symm]; exact hD5
        have e35 := e3.trans e5
        walk_at "vc"
        refine ⟨_, _, _, rfl, rfl, hD6, lt_sz (by omega), ?_⟩
        have hpo := perm_pop hx
        refine ⟨_, lf.eraseIdx r, fd ++ [lf[r]], rfl, (e35.put (.inl hL) fL).put (.inl hDo) fD, ?_, by rw [upd_ne hLD]; exact upd_same, upd_same, by simp; omega, by rw [List.length_eraseIdx]; split <;> omega, ?_⟩
        · obtain ⟨cs, st, z⟩ := hG5
          exact ⟨cs, st, by rw [upd_ne hDg.1.symm, upd_ne hLg.1.symm]; exact z.hg, by rw [upd_ne hDg.2.symm, upd_ne hLg.2.symm]; exact z.hc, z.fg, z.fc, z.ne, z.le⟩
        · refine List.Perm.trans ?_ hp
          rw [List.append_assoc]
          exact (List.Perm.append_left fd hpo.symm)
    · obtain ⟨u, lf, fd, rfl, e3, hG3, hL3, hD3, hfl, hll, hp⟩ := h
      have hlf : lf = [] := List.length_eq_zero_iff.mp (by omega)
      subst hlf
      rw [List.append_nil] at hp
      obtain ⟨e4, h4, s4⟩ := frzL e3 hDo hD3 fD
      walk_at "vc"
      refine q D fd _ _ hp e4 ?_ h4
      obtain ⟨cs, st, z⟩ := hG3
      exact ⟨cs, st, z.hg, z.hc, by rw [upd_ne hDg.1.symm]; exact z.fg, by rw [upd_ne hDg.2.symm]; exact z.fc, z.ne, z.le⟩
end
end Sa
set_option Elab.async false
set_option linter.all false
set_option maxRecDepth 100000
set_option maxHeartbeats 4000000
namespace Sa
open PySem PySem.Spec PyProof.Rows L2
local macro_rules | `(tactic| walk_at "vc") => `(tactic| repeat (first | refine ⟨_, rfl, ?_⟩ | refine ⟨_, _, rfl, rfl, ?_⟩ | refine ⟨_, _, rfl, ?_⟩ | refine ⟨rfl, ?_⟩))
def fronts : List Str := ["", "", "c", "yy", "klmno"]
theorem fronts_ok : ∀ f ∈ fronts, f.length ≤ 5 ∧ ∀ c, c ∈ f.cps.toList → c ∈ lettersS.cps.toList := by decide +kernel
theorem letters_at : ∀ k, k < 26 → lettersS.cps.toList[k]? = some (97 + k) := by decide +kernel
def nameAt (f : Str) (k : Nat) : Str := f ++ ⟨#[97 + k]⟩
theorem nameAt_list (f : Str) (k : Nat) : (nameAt f k).cps.toList = f.cps.toList ++ [97 + k] := by
  show (f.cps ++ #[97 + k]).toList = _
  simp
theorem nameAt_len (f : Str) (k : Nat) : (nameAt f k).length = f.length + 1 := by
  show (f.cps ++ #[97 + k]).size = f.cps.size + 1
  simp
theorem nameAt_inj {f : Str} {a b : Nat} (h : nameAt f a = nameAt f b) : a = b := by
  have h1 := congrArg (fun z : Str => z.cps.toList) h
  simp only [nameAt_list] at h1
  have := List.append_cancel_left h1
  simp at this
  exact this
theorem step_inj {f a b : Nat} (hf : f < 26) (ha : a < 12) (hb : b < 12) (h : (f + 5 * a) % 26 = (f + 5 * b) % 26) : a = b := by omega
theorem nameAt_ok {f : Str} (hf : f ∈ fronts) {k : Nat} (hk : k < 26) : NameOk (nameAt f k) := by
  obtain ⟨h1, h2⟩ := fronts_ok f hf
  refine ⟨by rw [nameAt_len]; omega, by rw [nameAt_len]; omega, fun c hc => ?_⟩
  rw [nameAt_list] at hc
  rcases List.mem_append.mp hc with hc | hc
  · exact h2 c hc
  · have hc : c = 97 + k := by simpa using hc
    rw [hc]
    exact List.mem_of_getElem? (letters_at k hk)
theorem lex_tri : ∀ a b : List Nat, a < b ∨ a = b ∨ b < a
  | [], [] => .inr (.inl rfl)
  | [], _ :: _ => .inl (List.nil_lt_cons _ _)
  | _ :: _, [] => .inr (.inr (List.nil_lt_cons _ _))
  | x :: a, y :: b => by
    rcases Nat.lt_trichotomy x y with h | h | h
    · exact .inl (List.cons_lt_cons_iff.mpr (.inl h))
    · subst h
      rcases lex_tri a b with h | h | h
      · exact .inl (List.cons_lt_cons_iff.mpr (.inr ⟨rfl, h⟩))
      · exact .inr (.inl (by rw [h]))
      · exact .inr (.inr (List.cons_lt_cons_iff.mpr (.inr ⟨rfl, h⟩)))
    · exact .inr (.inr (List.cons_lt_cons_iff.mpr (.inl h)))
theorem str_ext {a b : Str} (h : a.cps.toList = b.cps.toList) : a = b := by
  cases a
  cases b
  congr 1
  exact Array.toList_inj.mp h
theorem asc_rising : ∀ (p : Str) (r : List Str), risingS p r = true → (p :: r).Nodup → AscN (p :: r)
  | p, [], _, _ => fun i a b h1 h2 => by
    cases i <;> cases h2
  | p, x :: r, hr, hn => fun i a b h1 h2 => by
    have hr : (!Spec.ltCps x.cps.toList p.cps.toList && risingS x r) = true := hr
    rw [Bool.and_eq_true] at hr
    have hn2 := (List.nodup_cons.mp hn).2
    cases i with
    | zero =>
      cases h1
      cases h2
      have h3 : ¬ x.cps.toList < p.cps.toList := by
        have := hr.1
        rw [ltCps_eq] at this
        simpa using this
      rcases lex_tri p.cps.toList x.cps.toList with h | h | h
      · exact h
      · exfalso
        have := str_ext h
        subst this
        exact (List.nodup_cons.mp hn).1 (List.mem_cons_self ..)
      · exact absurd h h3
    | succ j => exact asc_rising x r hr.2 hn2 j a b h1 h2
theorem asc_sorted {ys : List Str} (h : sortedS ys = true) (hn : ys.Nodup) : AscN ys := by
  cases ys with
  | nil => intro i a b h1; cases h1
  | cons p r => exact asc_rising p r h hn
theorem nodup_mapI {α β : Type} {f : α → β} {l : List α} (h : ∀ a, a ∈ l → ∀ b, b ∈ l → f a = f b → a = b) (hn : l.Nodup) : (l.map f).Nodup := by
  unfold List.Nodup at hn ⊢
  rw [List.pairwise_map]
  exact List.Pairwise.imp_of_mem (fun {a b} ha hb hab he => hab (h a ha b hb he)) hn
section
variable {P : Program} {w : World} {K : PySem.W.Frag} {mg : Str → Option Value} {base : Heap}
def sp__law_names : Sp := fun vs H Q _ => ∃ F g c, ∃ n : Nat, vs = [.ref g, .int n] ∧ Sub F H ∧ Gh F H g c ∧ 1 ≤ n ∧ n ≤ 12 ∧ ∀ r ns F' H', Ex (Sg g c) F H F' H' → Gh F' H' g c → Rt Rs F' r ns → ns.length = n → NamesOk ns → Q r H'
theorem c__law_names (T : Txt K mg) : C8.Cal P w K mg base 3 "_law_names" sp__law_names [] := by
  have c__law_draw := c__law_draw (P := P) (w := w) (base := base) T
  have c__law_pick := c__law_pick (P := P) (w := w) (base := base) T
  refine mkC T.d__law_names scLnames (fun _ _ _ _ _ _ us hl => match us, hl with | [_, _], _ => rfl) (fun vs H Q E h => ?_) (fun f cdv A outer s H vs Q E hr h => ?_)
  · obtain ⟨F, g, c, n, rfl, _⟩ := h
    rfl
  · obtain ⟨F, g, c, n, rfl, sb, hG, h1, h2, q⟩ := h
    refine ⟨_, (pss_cons (ps_asg (pe_tup (pa_cons pe_str (pa_cons (C8.pe_c c__law_pick hr (by decide) (by rfl) (pa_cons (pv 0) (pa_cons (pe_lst (pa_cons pe_str (pa_cons pe_str (pa_cons pe_str (pa_cons pe_str (pa_cons pe_str pa_nil)))))) pa_nil))) pa_nil))) (pg_tup rfl (pgs_cons ((pg_name (i := 2) scLnames.nd rfl (Or.inr rfl))) (pgs_cons ((pg_name (i := 3) scLnames.nd rfl (Or.inr rfl))) pgs_nil))))
    (pss_cons (ps_set (i := 4) scLnames.nd rfl (Or.inr rfl) (C8.pe_c c__law_draw hr (by decide) (by rfl) (pa_cons (pv 0) (pa_cons pe_int pa_nil))))
    (pss_one (ps_ret (pe_callTy call_tuple_of (by rfl) T.tuple (by decide +kernel) (pa_cons (pe_callB cr_sortedS (by rfl) T.sorted (by decide +kernel) (pa_cons (pe_lc (own := [("_law_at", 5)]) (tt := tYes) rfl scLnames.nd (pi_range1 (by rfl) T.range (pa_cons (pv 1) pa_nil)) (blkOk_by (N := N_Lnames) (sc := defScope sLnames) (by decide +kernel)) (fun _ _ _ _ _ => pg_name (i := 5) scLnames.nd rfl (Or.inl rfl) (Or.inr rfl)) (fun _ _ _ _ _ => pts_nil) (fun _ _ _ _ _ => (pe_op op_add_str (pv 3) (pe_ix ix_str (pv 2) (pe_op op_mod (pe_callTy call_int1 (by rfl) T.int (by decide +kernel) (pa_cons (pe_op op_add (pv 4) (pe_op op_mul pe_int (pv 5))) pa_nil)) pe_int) (fun _ _ => rfl))))) pa_nil)) pa_nil)))))), ?_⟩
    walk_at "vc"
    refine go_lst (xs := [V.str "", V.str "", V.str "c", V.str "yy", V.str "klmno"]) (ex0 sb) (szk (by simp)) fun p1 F1 e1 s1 hp1 => ?_
    have hG1 := hG.up e1
    have hpg : p1 ≠ g ∧ p1 ≠ c := by
      obtain ⟨cs, st, z⟩ := hG1
      exact ⟨(by rintro rfl; rw [z.fg] at hp1; cases hp1), (by rintro rfl; rw [z.fc] at hp1; cases hp1)⟩
    walk_at "vc"
    refine ⟨F1, g, c, p1, _, rfl, e1.s, hG1, e1.s _ _ hp1, hpg.1, hpg.2, by simp, by simp, fun v H2 hv e2 hG2 => ?_⟩
    obtain ⟨f0, hf0, rfl⟩ : ∃ f0 ∈ fronts, v = .str f0 := by
      simp at hv
      rcases hv with rfl | rfl | rfl | rfl <;> exact ⟨_, by simp [fronts], rfl⟩
    have e02 := (e1.toG hG).trans e2
    refine go_t2 (ex0 e2.s) fun p3 F3 e3 s3 hp3 => ?_
    have hG3 := hG2.up e3
    have e03 := e02.then0 e3
    refine ⟨_, _, rfl, tS (e3.s _ _ hp3), rfl, ?_⟩
    walk_at "vc"
    refine ⟨F3, g, c, 26, rfl, e3.s, hG3, by omega, by omega, fun fi H4 hfi e4 hG4 => ?_⟩
    have e04 := e03.trans e4
    walk_at "vc"
    refine ⟨by omega, by omega, ?_⟩
    intro D hD
    refine lcX (re := Rs) (ds := List.range n) (walk_rg (by omega)) e04.s (fun b z => False.elim z) hD (lt_sz (by simp; omega)) (fun _ => true) (fun a => nameAt f0 ((fi + 5 * a) % 26)) (S := S0) (fun F1 H1 e => trivial) (fun i d x F5 H5 H6 hd e y Qy Qn q1 q2 => ?_) (fun F5 H5 ys e5 fD hDD pr5 => ?_)
    · obtain ⟨rfl, rfl⟩ := y
      obtain ⟨rfl, hi⟩ := range_get hd
      walk_at "vc"
      refine ⟨.inl ⟨by omega, by omega⟩, ?_⟩
      walk_at "vc"
      refine .inl ⟨_, rfl, ?_⟩
      refine ⟨_, _, rfl, rfl, (by show (0 : Int) < 26; decide), ?_⟩
      have hk : (fi + 5 * d) % 26 < 26 := Nat.mod_lt _ (by omega)
      refine ⟨lettersS, _, 97 + (fi + 5 * d) % 26, rfl, rfl, (by decide +kernel), ?_, ?_⟩
      · exact atI_z (i := (fi + 5 * d) % 26) (by show ((fi : Int) + 5 * (d : Int)) % 26 = _; omega) (letters_at _ hk)
      · have hfl := (fronts_ok f0 hf0).1
        refine ⟨f0, ⟨#[97 + (fi + 5 * d) % 26]⟩, rfl, rfl, szk (by show f0.length + 1 ≤ 1000; omega), ?_⟩
        exact q1 rfl _ _ _ (Ex.refl e.s (fun b z => False.elim z)) rfl
    · rw [filter_tt'] at pr5
      have ew := paired_strs pr5
      subst ew
      have e05 := e04.then0 e5
      have hG5 := hG4.up e5
      generalize hxs : (List.range n).map (fun a => nameAt f0 ((fi + 5 * a) % 26)) = xs at hDD pr5
      have hxl : xs.length = n := by rw [← hxs]; simp
      refine ⟨_, xs, rfl, lS hDD, by omega, fun zs p6 hperm hsort hp6 => ?_⟩
      have er6 : Ex S0 F5 H5 F5 (upd H5 p6 (.lst (zs.map V.str))) := Ex.own e05.s hp6 (fun b z => False.elim z)
      have e06 := e05.then0 er6
      have hG6 := hG5.up er6
      have h6 : upd H5 p6 (.lst (zs.map V.str)) p6 = some (.lst (zs.map V.str)) := upd_same
      have hnd : zs.Nodup := by
        refine (hperm.nodup_iff).mpr ?_
        rw [← hxs]
        exact nodup_mapI (fun a ha b hb he => step_inj (f := fi) hfi (by have := List.mem_range.mp ha; omega) (by have := List.mem_range.mp hb; omega) (nameAt_inj he)) List.nodup_range
      generalize upd H5 p6 (.lst (zs.map V.str)) = H6 at er6 e06 hG6 h6
      refine go_tupOf (ex0 e06.s) h6 fun p7 F7 e7 s7 h7 => ?_
      refine q _ zs _ _ (e06.then0 e7) (hG6.up e7) ⟨p7, _, rfl, h7, paired_of V.str (fun _ => rfl) zs⟩ (by rw [hperm.length_eq, hxl]) ⟨by rw [hperm.length_eq, hxl]; exact h1, by rw [hperm.length_eq, hxl]; exact h2, fun z hz => ?_, asc_sorted hsort hnd⟩
      have hz := hperm.mem_iff.mp hz
      rw [← hxs] at hz
      obtain ⟨a, _, rfl⟩ := List.mem_map.mp hz
      exact nameAt_ok hf0 (Nat.mod_lt _ (by omega))
end
end Sa
set_option Elab.async false
set_option linter.all false
set_option maxRecDepth 100000
set_option maxHeartbeats 4000000
namespace Sa
open PySem PySem.Spec PyProof.Rows L2
local macro_rules | `(tactic| walk_at "vc") => `(tactic| repeat (first | refine ⟨_, rfl, ?_⟩ | refine ⟨_, _, rfl, rfl, ?_⟩ | refine ⟨_, _, rfl, ?_⟩ | refine ⟨rfl, ?_⟩))
abbrev RTie : Rp (Nat × Nat × Int) := R3 Rn Rn Ri
/-- a comprehension whose turns draw: what stands in R to each of ds -/
theorem lcG {J : It} {G : Hp → Prop} {Y : Nat → Hp → V → Hp → Prop} {δ : Type} {R : Hp → V → δ → Prop} (hR : ∀ {F F' : Hp} {v : V} {d : δ}, Sub F F' → R F v d → R F' v d) {ds : List δ} (w : Walk J ds.length G Y) {gg cc : Addr} {F1 H1 : Hp} {D : Addr} {g : TG} {tt : TT} {te : TE} {vs : List Nat} {σ : L2.St} {Qd : Hp → Prop}
    (s1 : Sub F1 H1) (g1 : Gh F1 H1 gg cc) (hD : H1 D = none) (hn : ds.length < sizeLine) (hG : ∀ F H, Ex (Sg gg cc) F1 H1 F H → Gh F H gg cc → G H)
    (hs : ∀ i d x F H H', ds[i]? = some d → Ex (Sg gg cc) F1 H1 F H → Gh F H gg cc → Y i H x H' → ∀ (Qy : V → Hp → Prop) (Qn : Hp → Prop),
      (∀ y F' H'', Ex (Sg gg cc) F H F' H'' → Gh F' H'' gg cc → R F' y d → Qy y H'') →
      g x (wipe σ vs) H' fun σ2 H2 => wipe σ2 vs = wipe σ vs ∧ tt σ2 H2 fun b H3 => if b = true then te σ2 H3 Qy else Qn H3)
    (hd : ∀ F H ys, Ex (Sg gg cc) F1 H1 F H → Gh F H gg cc → F D = none → H D = some (.lst ys) → Paired (R F) ys ds → Qd H) :
    ∃ W : Nat → Nat → Hp → Prop, (∃ m, W 0 m (upd H1 D (.lst []))) ∧ ∀ i m H, W i m H →
      (J.stop i H ∧ Qd H) ∨ (J.go i H ∧ ∃ Nx : Hp → Prop, (∀ H', Nx H' → ∃ m', m' < m ∧ W (i + 1) m' H') ∧ ∀ x H', J.yld i H x H' → g x (wipe σ vs) H' fun σ2 H2 => wipe σ2 vs = wipe σ vs ∧ tt σ2 H2 fun b H3 =>
        if b = true then te σ2 H3 fun y H4 => ∃ acc, H4 D = some (.lst acc) ∧ acc.length < sizeLine ∧ Nx (upd H4 D (.lst (acc ++ [y]))) else Nx H3) := by
  have nD : D ≠ gg ∧ D ≠ cc := by
    obtain ⟨cs, st, z⟩ := g1
    exact ⟨(by rintro rfl; rw [z.hg] at hD; cases hD), (by rintro rfl; rw [z.hc] at hD; cases hD)⟩
  have gput : ∀ {F H : Hp} {o : HO}, Gh F H gg cc → Gh F (upd H D o) gg cc := fun {F H o} h => by
    obtain ⟨cs, st, z⟩ := h
    exact ⟨cs, st, by rw [upd_ne nD.1.symm]; exact z.hg, by rw [upd_ne nD.2.symm]; exact z.hc, z.fg, z.fc, z.ne, z.le⟩
  refine lc_it w (fun i H => ∃ F ys, Ex (Sg gg cc) F1 H1 F H ∧ Gh F H gg cc ∧ F D = none ∧ H D = some (.lst ys) ∧ Paired (R F) ys (ds.take i)) ⟨F1, [], Ex.own s1 hD g1.t, gput g1, s1.free hD, upd_same, .nil⟩ (fun i H _ ⟨F, ys, e, gh, _⟩ => hG F H e gh) (fun i x H H' hi Pr y => ?_) (fun H Pr => ?_)
  · obtain ⟨F, ys, e, gh, fD, hDy, pr⟩ := Pr
    have hd' : ds[i]? = some ds[i] := List.getElem?_eq_getElem hi
    refine hs i ds[i] x F H H' hd' e gh y _ _ (fun z F' H'' e' gh' rz => ?_)
    obtain ⟨k1, k2⟩ := e'.keepG hDy nD.1 nD.2 fD
    have hl : ys.length < sizeLine := by
      have h1 := Paired.length pr
      rw [List.length_take] at h1
      omega
    refine ⟨ys, k1, hl, F', ys ++ [z], (e.trans e').put (.inl hD) k2, gput gh', k2, upd_same, ?_⟩
    rw [take_snoc hd']
    exact Paired.app (Paired.mono (fun _ _ q => hR e'.f q) pr) (.cons rz .nil)
  · obtain ⟨F, ys, e, gh, fD, hDy, pr⟩ := Pr
    rw [List.take_length] at pr
    exact hd F H ys e gh fD hDy pr
theorem other_ne {a r n : Nat} (ha : a < n) (hr : r + 1 < n) : (a + 1 + r) % n < n ∧ (a + 1 + r) % n ≠ a := by
  refine ⟨Nat.mod_lt _ (by omega), ?_⟩
  by_cases h : a + 1 + r < n
  · rw [Nat.mod_eq_of_lt h]; omega
  · rw [Nat.mod_eq_sub_mod (by omega), Nat.mod_eq_of_lt (by omega)]; omega
theorem Gh.ne {F H : Hp} {g c p : Addr} (h : Gh F H g c) (hp : H p = none) : p ≠ g ∧ p ≠ c := by
  obtain ⟨cs, st, z⟩ := h
  exact ⟨(by rintro rfl; rw [z.hg] at hp; cases hp), (by rintro rfl; rw [z.hc] at hp; cases hp)⟩
theorem Gh.neF {F H : Hp} {g c p : Addr} {o : HO} (h : Gh F H g c) (hp : F p = some o) : p ≠ g ∧ p ≠ c := by
  obtain ⟨cs, st, z⟩ := h
  exact ⟨(by rintro rfl; rw [z.fg] at hp; cases hp), (by rintro rfl; rw [z.fc] at hp; cases hp)⟩
theorem Gh.put {F H : Hp} {g c p : Addr} {o : HO} (h : Gh F H g c) (n : p ≠ g ∧ p ≠ c) : Gh F (upd H p o) g c := by
  obtain ⟨cs, st, z⟩ := h
  exact ⟨cs, st, by rw [upd_ne n.1.symm]; exact z.hg, by rw [upd_ne n.2.symm]; exact z.hc, z.fg, z.fc, z.ne, z.le⟩
theorem Gh.frz {F H : Hp} {g c p : Addr} {o : HO} (h : Gh F H g c) (n : p ≠ g ∧ p ≠ c) : Gh (upd F p o) H g c := by
  obtain ⟨cs, st, z⟩ := h
  exact ⟨cs, st, z.hg, z.hc, by rw [upd_ne n.1.symm]; exact z.fg, by rw [upd_ne n.2.symm]; exact z.fc, z.ne, z.le⟩
section
variable {P : Program} {w : World} {K : PySem.W.Frag} {mg : Str → Option Value} {base : Heap}
/-- an own list of ties is given back -/
def Gives (F H : Hp) (g c : Addr) (n m : Nat) (Q : VK) : Prop := ∀ L vs ties F' H', Ex (Sg g c) F H F' H' → Gh F' H' g c → H L = none → F' L = none → H' L = some (.lst vs) → Paired (RTie F') vs ties → ties.length ≤ m → (∀ t ∈ ties, TieOk n t) → Q (.ref L) H'
def sp__law_tame : Sp := fun vs H Q _ => ∃ F g c, ∃ n mo m : Nat, vs = [.ref g, .int n, .int mo, .int m] ∧ Sub F H ∧ Gh F H g c ∧ 1 ≤ n ∧ n ≤ 12 ∧ mo ≤ 1000000 ∧ 1 ≤ mo ∧ m ≤ 60 ∧ Gives F H g c n m Q
theorem c__law_tame (T : Txt K mg) : C8.Cal P w K mg base 3 "_law_tame" sp__law_tame [] := by
  have c__law_draw := c__law_draw (P := P) (w := w) (base := base) T
  have c__law_pick := c__law_pick (P := P) (w := w) (base := base) T
  refine mkC T.d__law_tame scLtame (fun _ _ _ _ _ _ us hl => match us, hl with | [_, _, _, _], _ => rfl) (fun vs H Q E h => ?_) (fun f cdv A outer s H vs Q E hr h => ?_)
  · obtain ⟨F, g, c, n, mo, m, rfl, _⟩ := h
    rfl
  · obtain ⟨F, g, c, n, mo, m, rfl, sb, hG, h1, h2, hmo, hmo1, hm, q⟩ := h
    refine ⟨_, (pss_cons (ps_par (i := 4) (j := 5) (by rfl) scLtame.nd rfl rfl (by decide) rfl rfl (pa_cons (pe_lc (own := [("_law_thing", 9)]) (tt := tYes) rfl scLtame.nd (pi_range1 (by rfl) T.range (pa_cons (pv 1) pa_nil)) (blkOk_by (N := N_Ltame) (sc := defScope sLtame) (by decide +kernel)) (fun _ _ _ _ _ => pg_name (i := 9) scLtame.nd rfl (Or.inl rfl) (Or.inr rfl)) (fun _ _ _ _ _ => pts_nil) (fun _ _ _ _ _ => (C8.pe_c c__law_draw hr (by decide) (by rfl) (pa_cons (pv 0) (pa_cons (pe_op op_add (pe_op op_fdiv (pv 2) pe_int) pe_int) pa_nil))))) (pa_cons (pe_lst pa_nil) pa_nil)) (by rfl))
    (pss_cons (ps_for PassesOwn.never rfl (pi_range1 (by rfl) T.range (pa_cons (pe_ifExp (pt_cmpR op_gt (pv 1) pe_int (nomark _)) (pv 3) pe_int) pa_nil)) (pg_name (i := 6) scLtame.nd rfl (Or.inl rfl)) (pss_cons (ps_set (i := 7) scLtame.nd rfl (Or.inl rfl) (C8.pe_c c__law_draw hr (by decide) (by rfl) (pa_cons (pv 0) (pa_cons (pv 1) pa_nil))))
    (pss_cons (ps_set (i := 8) scLtame.nd rfl (Or.inl rfl) (pe_op op_mod (pe_callTy call_int1 (by rfl) T.int (by decide +kernel) (pa_cons (pe_op op_add (pe_op op_add (pv 7) pe_int) (C8.pe_c c__law_draw hr (by decide) (by rfl) (pa_cons (pv 0) (pa_cons (pe_op op_sub (pv 1) pe_int) pa_nil)))) pa_nil)) (pv 1)))
    (pss_one (ps_expr (pe_bm PySem.F.plainAttrs_list PySem.F.slot_list_append PySem.F.type_list_append mt_append (pv 5) (pa_cons (pe_tup (pa_cons (pv 7) (pa_cons (pv 8) (pa_cons (pe_op op_sub (pe_op op_sub (pe_ix ix_list (pv 4) (pv 8) (fun _ _ => rfl)) (pe_ix ix_list (pv 4) (pv 7) (fun _ _ => rfl))) (C8.pe_c c__law_pick hr (by decide) (by rfl) (pa_cons (pv 0) (pa_cons (pe_lst (pa_cons pe_int (pa_cons pe_int (pa_cons pe_int (pa_cons (C8.pe_c c__law_draw hr (by decide) (by rfl) (pa_cons (pv 0) (pa_cons (pe_op op_add (pe_op op_fdiv (pv 2) pe_int) pe_int) pa_nil))) pa_nil))))) pa_nil)))) pa_nil)))) pa_nil)))))))
    (pss_one (ps_ret (pv 5))))), ?_⟩
    walk_at "vc"
    refine ⟨by omega, by omega, ?_⟩
    intro D hD
    have hdraw : ((mo : Int) / 2 + 1) = ((mo / 2 + 1 : Nat) : Int) := by omega
    refine lcG (R := fun _ v (_ : Nat) => ∃ k : Nat, v = nv k ∧ k ≤ mo / 2) (fun _ h => h) (ds := List.range n) (walk_rg (by omega)) sb hG hD (lt_sz (by simp; omega)) (fun F H e gh => trivial) (fun i d x F1 H1 H2 hd e gh y Qy Qn q1 => ?_) (fun F1 H1 ys e gh fD hDD pr1 => ?_)
    · obtain ⟨rfl, rfl⟩ := y
      walk_at "vc"
      refine ⟨⟨by omega, by omega⟩, ?_⟩
      walk_at "vc"
      refine ⟨F1, g, c, mo / 2 + 1, by rw [← hdraw]; rfl, e.s, gh, by omega, by omega, fun r H3 hr e3 gh3 => ?_⟩
      exact q1 _ _ _ e3 gh3 ⟨r, rfl, by omega⟩
    · have hhour : ∀ {a : Nat}, a < n → ∃ k : Nat, ys[a]? = some (nv k) ∧ k ≤ mo / 2 := by
        intro a ha
        obtain ⟨v, hv, k, rfl, hk⟩ := Paired.get (i := a) (y := a) pr1 (by rw [List.getElem?_range ha])
        exact ⟨k, hv, hk⟩
      have nD := hG.ne hD
      refine ⟨szk (by simp), fun L hL => ?_⟩
      have hLo : H L = none := e.old hL
      have fL : F1 L = none := e.s.free hL
      have hLD : D ≠ L := by rintro rfl; rw [hDD] at hL; cases hL
      have nL := gh.ne hL
      have e2 : Ex (Sg g c) F H F1 (upd H1 L (.lst [])) := e.trans (Ex.own e.s hL gh.t)
      have gh2 : Gh F1 (upd H1 L (.lst [])) g c := gh.put nL
      have hD2 : upd H1 L (.lst []) D = some (.lst ys) := by rw [upd_ne hLD]; exact hDD
      have hL2 : upd H1 L (.lst []) L = some (.lst ([] : List V)) := upd_same
      generalize upd H1 L (.lst []) = H2 at e2 gh2 hD2 hL2
      clear e gh hL hDD
      walk_at "vc"
      refine ite2 (fun hc => ?_) (fun hc => ?_)
      · have hn1 : 1 < n := by
          have := of_decide_eq_true hc
          omega
        walk_at "vc"
        refine ⟨by omega, by omega, ?_⟩
        refine for_it (walk_r0 (n := m) (by omega)) (fun i σ H3 => ∃ u6 u7 u8 u9 F3 vs ties, σ = [some (.ref g), some (.int (n : Nat)), some (.int (mo : Nat)), some (.int (m : Nat)), some (.ref D), some (.ref L), u6, u7, u8, u9] ∧ Ex (Sg g c) F H F3 H3 ∧ Gh F3 H3 g c ∧ F3 D = none ∧ H3 D = some (.lst ys) ∧ F3 L = none ∧ H3 L = some (.lst vs) ∧ Paired (RTie F3) vs ties ∧ ties.length = i ∧ ∀ t ∈ ties, TieOk n t)
          ⟨none, none, none, none, F1, [], [], rfl, e2, gh2, fD, hD2, fL, hL2, .nil, rfl, fun t z => by cases z⟩ (fun i σ H3 _ h => trivial) (fun i x σ H3 H4 hi h y => ?_) (fun σ H3 h => ?_)
        · obtain ⟨u6, u7, u8, u9, F3, vs, ties, rfl, e3, gh3, fD3, hD3, fL3, hL3, pr3, htl, hto⟩ := h
          obtain ⟨rfl, rfl⟩ := y
          have hvl : vs.length = i := by rw [Paired.length pr3, htl]
          walk_at "vc"
          refine ⟨F3, g, c, n, rfl, e3.s, gh3, h1, by omega, fun one H5 hone e5 gh5 => ?_⟩
          have hD5 := (e5.keepG hD3 nD.1 nD.2 fD3).1
          have hL5 := (e5.keepG hL3 nL.1 nL.2 fL3).1
          have e05 := e3.trans e5
          walk_at "vc"
          refine ⟨F3, g, c, n - 1, (by rw [show ((n - 1 : Nat) : Int) = (n : Int) - 1 by omega]; rfl), e05.s, gh5, by omega, by omega, fun r H6 hr e6 gh6 => ?_⟩
          have hD6 := (e6.keepG hD5 nD.1 nD.2 fD3).1
          have hL6 := (e6.keepG hL5 nL.1 nL.2 fL3).1
          have e06 := e05.trans e6
          walk_at "vc"
          refine .inl ⟨_, rfl, ?_⟩
          walk_at "vc"
          refine ⟨by show (0 : Int) < n; omega, ?_⟩
          obtain ⟨ho1, ho2⟩ := other_ne (r := r) hone (by omega)
          have hother : ((one : Int) + 1 + (r : Int)) % (n : Int) = (((one + 1 + r) % n : Nat) : Int) := by rw [Int.natCast_emod]; rfl
          generalize (one + 1 + r) % n = other at ho1 ho2 hother
          obtain ⟨ka, hka, lka⟩ := hhour ho1
          obtain ⟨kb, hkb, lkb⟩ := hhour hone
          walk_at "vc"
          refine ⟨.inl ⟨rfl, _, lS hL6⟩, ?_⟩
          walk_at "vc"
          refine ⟨_, _, _, _, rfl, rfl, lS hD6, atI_z hother hka, ?_⟩
          walk_at "vc"
          refine ⟨_, _, _, _, rfl, rfl, lS hD6, atI_nat hkb, ?_⟩
          walk_at "vc"
          refine ⟨⟨by omega, by omega⟩, ?_⟩
          walk_at "vc"
          refine ⟨F3, g, c, mo / 2 + 1, by rw [← hdraw]; rfl, e06.s, gh6, by omega, by omega, fun r2 H7 hr2 e7 gh7 => ?_⟩
          have hD7 := (e7.keepG hD6 nD.1 nD.2 fD3).1
          have hL7 := (e7.keepG hL6 nL.1 nL.2 fL3).1
          have e07 := e06.trans e7
          refine go_lst (xs := [V.int 0, V.int 0, V.int 1, V.int (r2 : Nat)]) (ex0 e07.s) (szk (by simp)) fun p8 F8 e8 s8 hp8 => ?_
          have gh8 := gh7.up e8
          have kD8 := e8.keep hD7 (fun z => z) fD3
          have kL8 := e8.keep hL7 (fun z => z) fL3
          have e08 := e07.then0 e8
          have n8 := gh8.neF hp8
          refine ⟨F8, g, c, p8, _, rfl, e08.s, gh8, e8.s _ _ hp8, n8.1, n8.2, by simp, by simp, fun v H9 hv e9 gh9 => ?_⟩
          obtain ⟨pk, rfl, hpk0, hpk1⟩ : ∃ pk : Nat, v = .int (pk : Int) ∧ 0 ≤ pk ∧ (pk ≤ mo / 2 ∨ pk ≤ 1) := by
            simp at hv
            rcases hv with rfl | rfl | rfl
            · exact ⟨0, rfl, by omega, by omega⟩
            · exact ⟨1, rfl, by omega, by omega⟩
            · exact ⟨r2, rfl, by omega, by omega⟩
          have kD9 := e9.keepG kD8.1 nD.1 nD.2 kD8.2
          have kL9 := e9.keepG kL8.1 nL.1 nL.2 kL8.2
          have e09 := e08.trans e9
          walk_at "vc"
          refine go_t3 (ex0 e09.s) fun p10 F10 e10 s10 hp10 => ?_
          have gh10 := gh9.up e10
          have kD10 := e10.keep kD9.1 (fun z => z) kD9.2
          have kL10 := e10.keep kL9.1 (fun z => z) kL9.2
          have e010 := e09.then0 e10
          refine ⟨_, _, _, rfl, rfl, kL10.1, lt_sz (by omega), ?_⟩
          have sF : Sub F3 F10 := s8.tr s10
          refine ⟨_, _, _, _, F10, vs ++ [.ref p10], ties ++ [(one, other, (ka : Int) - kb - pk)], rfl, e010.put (.inl hLo) kL10.2, gh10.put nL, kD10.2, by rw [upd_ne hLD]; exact kD10.1, kL10.2, upd_same, Paired.app (Paired.up sF pr3) (.cons ⟨p10, _, _, _, rfl, hp10, rfl, congrArg V.int hother, rfl⟩ .nil), by simp [htl], fun t ht => ?_⟩
          rcases List.mem_append.mp ht with ht | ht
          · exact hto t ht
          · have ht : t = (one, other, (ka : Int) - kb - pk) := by simpa using ht
            subst ht
            exact ⟨hone, ho1, ho2.symm, by show _ ≤ (ka : Int) - kb - pk; omega, by show (ka : Int) - kb - pk ≤ _; omega⟩
        · obtain ⟨u6, u7, u8, u9, F3, vs, ties, rfl, e3, gh3, fD3, hD3, fL3, hL3, pr3, htl, hto⟩ := h
          exact ⟨_, rfl, q L vs ties F3 _ e3 gh3 hLo fL3 hL3 pr3 (by omega) hto⟩
      · walk_at "vc"
        refine ⟨by omega, by omega, ?_⟩
        refine for_it (walk_r0 (n := 0) rfl) (fun i σ H3 => H3 = H2 ∧ σ = [some (.ref g), some (.int (n : Nat)), some (.int (mo : Nat)), some (.int (m : Nat)), some (.ref D), some (.ref L), none, none, none, none]) ⟨rfl, rfl⟩ (fun i σ H3 _ h => trivial) (fun i x σ H3 H4 hi h y => by omega) (fun σ H3 h => ?_)
        obtain ⟨rfl, rfl⟩ := h
        exact ⟨_, rfl, q L [] [] F1 _ e2 gh2 hLo fL hL2 .nil (Nat.zero_le _) (fun t z => by cases z)⟩
end
end Sa
set_option Elab.async false
set_option linter.all false
set_option maxRecDepth 100000
set_option maxHeartbeats 4000000
namespace Sa
open PySem PySem.Spec PyProof.Rows L2
local macro_rules | `(tactic| walk_at "vc") => `(tactic| repeat (first | refine ⟨_, rfl, ?_⟩ | refine ⟨_, _, rfl, rfl, ?_⟩ | refine ⟨_, _, rfl, ?_⟩ | refine ⟨rfl, ?_⟩))
theorem cut_take (xs : List V) (n : Nat) : cutV xs none (some (n : Int)) = xs.take n := by
  unfold cutV
  rw [HT.sIx_none, HT.sIx_nat, List.drop_zero, Nat.sub_zero]
  by_cases h : n ≤ xs.length
  · rw [Nat.min_eq_left h]
  · rw [Nat.min_eq_right (by omega), List.take_of_length_le (Nat.le_refl _), List.take_of_length_le (by omega)]
theorem pairedTake {α β : Type} {R : α → β → Prop} : ∀ (n : Nat) {xs : List α} {ys : List β}, Paired R xs ys → Paired R (xs.take n) (ys.take n)
  | 0, _, _, _ => .nil
  | _ + 1, _, _, .nil => .nil
  | n + 1, _, _, .cons r t => .cons r (pairedTake n t)
def natV : V → Nat
  | .int i => i.toNat
  | _ => 0
theorem rg_nats (n : Nat) : rgV 0 (n : Int) = (List.range n).map nv := by
  unfold rgV
  rw [show ((n : Int) - 0).toNat = n by omega]
  refine List.map_congr_left fun i _ => ?_
  show V.int (0 + (i : Int)) = V.int (i : Int)
  rw [Int.zero_add]
theorem perm_nats {ys : List V} {l : List Nat} (h : ys.Perm (l.map nv)) : ∃ l' : List Nat, ys = l'.map nv ∧ l'.Perm l := by
  have h2 : ∀ m : List Nat, (m.map nv).map natV = m := fun m => by
    rw [List.map_map]
    exact (List.map_congr_left fun i _ => (show natV (nv i) = i from by simp [natV, nv])).trans (List.map_id _)
  refine ⟨ys.map natV, ?_, by have := h.map natV; rwa [h2] at this⟩
  rw [List.map_map]
  symm
  refine (List.map_congr_left fun v hv => ?_).trans (List.map_id _)
  obtain ⟨i, _, rfl⟩ := List.mem_map.mp (h.mem_iff.mp hv)
  show nv (natV (nv i)) = nv i
  simp [natV, nv]
/-- an order of 0 .. n - 1 -/
structure Ord (n : Nat) (od : List Nat) : Prop where
  len : od.length = n
  nd : od.Nodup
  lt : ∀ x ∈ od, x < n
theorem ord_of {n : Nat} {od : List Nat} (h : od.Perm (List.range n)) : Ord n od :=
  ⟨by rw [h.length_eq, List.length_range], h.nodup_iff.mpr List.nodup_range, fun x hx => List.mem_range.mp (h.mem_iff.mp hx)⟩
theorem nd_get {l : List Nat} (h : l.Nodup) {i j : Nat} {x : Nat} (h1 : l[i]? = some x) (h2 : l[j]? = some x) : i = j := by
  obtain ⟨a1, a2⟩ := List.getElem?_eq_some_iff.mp h1
  obtain ⟨b1, b2⟩ := List.getElem?_eq_some_iff.mp h2
  exact (List.getElem_inj h).mp (a2.trans b2.symm)
theorem Ord.at {n : Nat} {od : List Nat} (h : Ord n od) {i : Nat} (hi : i < n) : ∃ x, od[i]? = some x ∧ x < n ∧ (od.map nv)[i]? = some (nv x) := by
  have hi' : i < od.length := by rw [h.len]; exact hi
  exact ⟨od[i], List.getElem?_eq_getElem hi', h.lt _ (List.getElem_mem hi'), by rw [List.getElem?_map, List.getElem?_eq_getElem hi']; rfl⟩
theorem Ord.ne {n : Nat} {od : List Nat} (h : Ord n od) {i j x y : Nat} (h1 : od[i]? = some x) (h2 : od[j]? = some y) (hij : i ≠ j) : x ≠ y := by
  rintro rfl
  exact hij (nd_get h.nd h1 h2)
def TieB (n mo : Nat) (t : Nat × Nat × Int) : Prop := t.1 < n ∧ t.2.1 < n ∧ t.1 ≠ t.2.1 ∧ t.2.2 ≤ (mo : Int)
section
variable {P : Program} {w : World} {K : PySem.W.Frag} {mg : Str → Option Value} {base : Heap}
def sp__law_row : Sp := fun vs H Q _ => ∃ F g c, ∃ n mo : Nat, vs = [.ref g, .int n, .int mo] ∧ Sub F H ∧ Gh F H g c ∧ 1 ≤ n ∧ n ≤ 12 ∧ mo ≤ 1000000 ∧ Gives F H g c n (2 * n) Q
theorem c__law_row (T : Txt K mg) : C8.Cal P w K mg base 3 "_law_row" sp__law_row [] := by
  have c__law_mixed := c__law_mixed (P := P) (w := w) (base := base) T
  have c__law_draw := c__law_draw (P := P) (w := w) (base := base) T
  refine mkC T.d__law_row scLrow (fun _ _ _ _ _ _ us hl => match us, hl with | [_, _, _], _ => rfl) (fun vs H Q E h => ?_) (fun f cdv A outer s H vs Q E hr h => ?_)
  · obtain ⟨F, g, c, n, mo, rfl, _⟩ := h
    rfl
  · obtain ⟨F, g, c, n, mo, rfl, sb, hG, h1, h2, hmo, q⟩ := h
    refine ⟨_, (pss_cons (ps_par (i := 3) (j := 4) (by rfl) scLrow.nd rfl rfl (by decide) rfl rfl (pa_cons (C8.pe_c c__law_mixed hr (by decide) (by rfl) (pa_cons (pv 0) (pa_cons (pe_listRg rfl (by rfl) T.list (prg_1 (by rfl) T.range (pv 1))) pa_nil))) (pa_cons (pe_lst pa_nil) pa_nil)) (by rfl))
    (pss_cons (ps_for PassesOwn.never rfl (pi_range1 (by rfl) T.range (pa_cons (pe_op op_sub (pv 1) pe_int) pa_nil)) (pg_name (i := 5) scLrow.nd rfl (Or.inl rfl)) (pss_cons (ps_expr (pe_bm PySem.F.plainAttrs_list PySem.F.slot_list_append PySem.F.type_list_append mt_append (pv 4) (pa_cons (pe_tup (pa_cons (pe_ix ix_list (pv 3) (pv 5) (fun _ _ => rfl)) (pa_cons (pe_ix ix_list (pv 3) (pe_op op_add (pv 5) pe_int) (fun _ _ => rfl)) (pa_cons (C8.pe_c c__law_draw hr (by decide) (by rfl) (pa_cons (pv 0) (pa_cons (pe_op op_add (pv 2) pe_int) pa_nil))) pa_nil)))) pa_nil)))
    (pss_cons (ps_set (i := 6) scLrow.nd rfl (Or.inl rfl) (pe_op op_add (pe_op op_add (pv 5) pe_int) (C8.pe_c c__law_draw hr (by decide) (by rfl) (pa_cons (pv 0) (pa_cons (pe_op op_sub (pe_op op_sub (pv 1) (pv 5)) pe_int) pa_nil)))))
    (pss_one (ps_if (pt_cmpR op_eq (C8.pe_c c__law_draw hr (by decide) (by rfl) (pa_cons (pv 0) (pa_cons pe_int pa_nil))) pe_int (nomark _)) (pss_one (ps_expr (pe_bm PySem.F.plainAttrs_list PySem.F.slot_list_append PySem.F.type_list_append mt_append (pv 4) (pa_cons (pe_tup (pa_cons (pe_ix ix_list (pv 3) (pv 5) (fun _ _ => rfl)) (pa_cons (pe_ix ix_list (pv 3) (pv 6) (fun _ _ => rfl)) (pa_cons (C8.pe_c c__law_draw hr (by decide) (by rfl) (pa_cons (pv 0) (pa_cons (pe_op op_add (pv 2) pe_int) pa_nil))) pa_nil)))) pa_nil)))) pss_nil)))))
    (pss_cons (ps_if (PW.pt (pw_and (pt_cmpR op_gt (pv 1) pe_int (nomark _)) (pw_and1 (pt_cmpR op_eq (C8.pe_c c__law_draw hr (by decide) (by rfl) (pa_cons (pv 0) (pa_cons pe_int pa_nil))) pe_int (nomark _))))) (pss_one (ps_expr (pe_bm PySem.F.plainAttrs_list PySem.F.slot_list_append PySem.F.type_list_append mt_append (pv 4) (pa_cons (pe_tup (pa_cons (pe_ix ix_list (pv 3) (pe_un un_neg pe_int) (fun _ _ => rfl)) (pa_cons (pe_ix ix_list (pv 3) pe_int (fun _ _ => rfl)) (pa_cons (pe_op op_sub (pe_op op_sub pe_int (pe_callB (cr_sum rfl) (by rfl) T.sum (by decide +kernel) (pa_cons (pe_lc (own := [("_law_tie", 7)]) (tt := tYes) rfl scLrow.nd (pi_list (pe_slice sl_list (pv 4) po_none (po_some (pv 1)))) (blkOk_by (N := N_Lrow) (sc := defScope sLrow) (by decide +kernel)) (fun _ _ _ _ _ => pg_name (i := 7) scLrow.nd rfl (Or.inl rfl) (Or.inr rfl)) (fun _ _ _ _ _ => pts_nil) (fun _ _ _ _ _ => (pe_ix (kx_ix_tup K rfl) (pv 7) pe_int (fun _ _ => rfl)))) pa_nil))) (C8.pe_c c__law_draw hr (by decide) (by rfl) (pa_cons (pv 0) (pa_cons pe_int pa_nil)))) pa_nil)))) pa_nil)))) pss_nil)
    (pss_one (ps_ret (pe_lc (own := [("_law_tie", 7)]) (tt := tYes) rfl scLrow.nd (pi_list (pv 4)) (blkOk_by (N := N_Lrow) (sc := defScope sLrow) (by decide +kernel)) (fun _ _ _ _ _ => pg_name (i := 7) scLrow.nd rfl (Or.inl rfl) (Or.inr rfl)) (fun _ _ _ _ _ => pts_nil) (fun _ _ _ _ _ => (pe_tup (pa_cons (pe_ix (kx_ix_tup K rfl) (pv 7) pe_int (fun _ _ => rfl)) (pa_cons (pe_ix (kx_ix_tup K rfl) (pv 7) pe_int (fun _ _ => rfl)) (pa_cons (pe_callB (call_max2 rfl) (by rfl) T.max (by decide +kernel) (pa_cons (pe_ix (kx_ix_tup K rfl) (pv 7) pe_int (fun _ _ => rfl)) (pa_cons (pe_op op_sub pe_int (pe_op op_pow pe_int pe_int)) pa_nil))) pa_nil))))))))))), ?_⟩
    walk_at "vc"
    refine ⟨⟨by omega, by omega, by omega, by omega, by omega⟩, fun p0 hp0 => ?_⟩
    obtain ⟨e1, hp1, s1⟩ := newL (ex0 sb) (xs := rgV 0 (n : Int)) hp0
    have gh1 := hG.up e1
    have n1 := gh1.neF hp1
    generalize upd H p0 (.lst (rgV 0 (n : Int))) = H1 at e1 gh1
    generalize upd F p0 (.lst (rgV 0 (n : Int))) = F1 at e1 gh1 hp1 s1
    refine ⟨F1, g, c, p0, _, rfl, e1.s, gh1, e1.s _ _ hp1, n1.1, n1.2, by rw [rgV_length]; omega, fun p2 ys F2 H2 hperm e2 gh2 hp2 => ?_⟩
    rw [rg_nats] at hperm
    obtain ⟨od, rfl, hod⟩ := perm_nats hperm
    have ho := ord_of hod
    have e02 := (e1.toG hG).trans e2
    refine ⟨szk (by simp), fun L hL => ?_⟩
    have hLo : H L = none := e02.old hL
    have fL : F2 L = none := e02.s.free hL
    have nL := gh2.ne hL
    have e3 : Ex (Sg g c) F H F2 (upd H2 L (.lst [])) := e02.trans (Ex.own e02.s hL gh2.t)
    have gh3 : Gh F2 (upd H2 L (.lst [])) g c := gh2.put nL
    have hL3 : upd H2 L (.lst []) L = some (.lst ([] : List V)) := upd_same
    generalize upd H2 L (.lst []) = H3 at e3 gh3 hL3
    walk_at "vc"
    refine ⟨by omega, by omega, ?_⟩
    refine for_it (walk_r0 (n := n - 1) (by omega)) (fun i σ H4 => ∃ u5 u6 F4 vs ties, σ = [some (.ref g), some (.int (n : Nat)), some (.int (mo : Nat)), some (.ref p2), some (.ref L), u5, u6, none] ∧ Ex (Sg g c) F H F4 H4 ∧ Gh F4 H4 g c ∧ F4 p2 = some (.lst (od.map nv)) ∧ F4 L = none ∧ H4 L = some (.lst vs) ∧ Paired (RTie F4) vs ties ∧ ties.length ≤ 2 * i ∧ (∀ t ∈ ties, TieB n mo t ∧ 0 ≤ t.2.2))
      ⟨none, none, F2, [], [], rfl, e3, gh3, hp2, fL, hL3, .nil, Nat.zero_le _, fun t z => by cases z⟩ (fun i σ H4 _ h => trivial) (fun i x σ H4 H5 hi h y => ?_) (fun σ H4 h => ?_)
    · obtain ⟨u5, u6, F4, vs, ties, rfl, e4, gh4, hp4, fL4, hL4, pr4, htl, hto⟩ := h
      obtain ⟨rfl, rfl⟩ := y
      have hvl : vs.length ≤ 2 * i := by rw [Paired.length pr4]; exact htl
      obtain ⟨a, ha1, ha2, ha3⟩ := ho.at (i := i) (by omega)
      obtain ⟨b, hb1, hb2, hb3⟩ := ho.at (i := i + 1) (by omega)
      have hab := ho.ne ha1 hb1 (by omega)
      walk_at "vc"
      refine ⟨.inl ⟨rfl, _, lS hL4⟩, ?_⟩
      walk_at "vc"
      refine ⟨_, _, _, _, rfl, rfl, lS (e4.s _ _ hp4), atI_nat ha3, ?_⟩
      walk_at "vc"
      refine ⟨_, _, _, _, rfl, rfl, lS (e4.s _ _ hp4), atI_z (i := i + 1) (by omega) hb3, ?_⟩
      walk_at "vc"
      refine ⟨F4, g, c, mo + 1, rfl, e4.s, gh4, by omega, by omega, fun r H6 hr e6 gh6 => ?_⟩
      have kL6 := e6.keepG hL4 nL.1 nL.2 fL4
      have e06 := e4.trans e6
      refine go_t3 (ex0 e06.s) fun p7 F7 e7 s7 hp7 => ?_
      have kL7 := e7.keep kL6.1 (fun z => z) kL6.2
      have gh7 := gh6.up e7
      have e07 := e06.then0 e7
      refine ⟨_, _, _, rfl, rfl, kL7.1, lt_sz (by omega), ?_⟩
      have e8 := e07.put (o := .lst (vs ++ [.ref p7])) (.inl hLo) kL7.2
      have gh8 := gh7.put (o := .lst (vs ++ [.ref p7])) nL
      have pr8 : Paired (RTie F7) (vs ++ [.ref p7]) (ties ++ [(a, b, (r : Int))]) := Paired.app (Paired.up s7 pr4) (.cons ⟨p7, _, _, _, rfl, hp7, rfl, rfl, rfl⟩ .nil)
      have hto8 : ∀ t ∈ ties ++ [(a, b, (r : Int))], TieB n mo t ∧ 0 ≤ t.2.2 := by
        intro t ht
        rcases List.mem_append.mp ht with ht | ht
        · exact hto t ht
        · have ht : t = (a, b, (r : Int)) := by simpa using ht
          subst ht
          exact ⟨⟨ha2, hb2, hab, by show (r : Int) ≤ mo; omega⟩, by show (0 : Int) ≤ r; omega⟩
      have hL8 : upd (upd H6 p7 (.tup [nv a, nv b, .int (r : Nat)])) L (.lst (vs ++ [.ref p7])) L = some (.lst (vs ++ [.ref p7])) := upd_same
      generalize vs ++ [V.ref p7] = vs8 at *
      generalize hties8 : ties ++ [(a, b, (r : Int))] = ties8 at *
      have htl8 : ties8.length ≤ 2 * i + 1 := by rw [← hties8, List.length_append]; simp; exact htl
      generalize upd (upd H6 p7 (.tup [nv a, nv b, .int (r : Nat)])) L (.lst vs8) = H8 at *
      walk_at "vc"
      refine ⟨F7, g, c, n - i - 1, (by rw [show ((n - i - 1 : Nat) : Int) = (n : Int) - (i : Nat) - 1 by omega]; rfl), e8.s, gh8, by omega, by omega, fun r2 H9 hr2 e9 gh9 => ?_⟩
      have kL9 := e9.keepG hL8 nL.1 nL.2 kL7.2
      have e09 := e8.trans e9
      walk_at "vc"
      refine ⟨F7, g, c, 2, rfl, e09.s, gh9, by omega, by omega, fun r3 H10 hr3 e10 gh10 => ?_⟩
      have kL10 := e10.keepG kL9.1 nL.1 nL.2 kL9.2
      have e010 := e09.trans e10
      have hp10 := s7 _ _ hp4
      have hvl8 : vs8.length ≤ 2 * i + 1 := by rw [Paired.length pr8]; exact htl8
      obtain ⟨b2, hb21, hb22, hb23⟩ := ho.at (i := i + 1 + r2) (by omega)
      have hab2 := ho.ne ha1 hb21 (by omega)
      walk_at "vc"
      refine ite2 (fun hc => ?_) (fun hc => ?_)
      · walk_at "vc"
        refine ⟨.inl ⟨rfl, _, lS kL10.1⟩, ?_⟩
        walk_at "vc"
        refine ⟨_, _, _, _, rfl, rfl, lS (e010.s _ _ hp10), atI_nat ha3, ?_⟩
        walk_at "vc"
        refine ⟨_, _, _, _, rfl, rfl, lS (e010.s _ _ hp10), atI_z (i := i + 1 + r2) (by show ((i : Int) + 1 + (r2 : Int)) = _; omega) hb23, ?_⟩
        walk_at "vc"
        refine ⟨F7, g, c, mo + 1, rfl, e010.s, gh10, by omega, by omega, fun r4 H11 hr4 e11 gh11 => ?_⟩
        have kL11 := e11.keepG kL10.1 nL.1 nL.2 kL10.2
        have e011 := e010.trans e11
        refine go_t3 (ex0 e011.s) fun p12 F12 e12 s12 hp12 => ?_
        have kL12 := e12.keep kL11.1 (fun z => z) kL11.2
        have gh12 := gh11.up e12
        have e012 := e011.then0 e12
        refine ⟨_, _, _, rfl, rfl, kL12.1, lt_sz (by omega), ?_⟩
        refine ⟨_, _, F12, _, ties8 ++ [(a, b2, (r4 : Int))], rfl, e012.put (.inl hLo) kL12.2, gh12.put nL, s12 _ _ hp10, kL12.2, upd_same, Paired.app (Paired.up s12 pr8) (.cons ⟨p12, _, _, _, rfl, hp12, rfl, rfl, rfl⟩ .nil), by rw [List.length_append]; simp; omega, fun t ht => ?_⟩
        rcases List.mem_append.mp ht with ht | ht
        · exact hto8 t ht
        · have ht : t = (a, b2, (r4 : Int)) := by simpa using ht
          subst ht
          exact ⟨⟨ha2, hb22, hab2, by show (r4 : Int) ≤ mo; omega⟩, by show (0 : Int) ≤ r4; omega⟩
      · exact ⟨_, _, F7, vs8, ties8, rfl, e010, gh10, hp10, kL10.2, kL10.1, pr8, by omega, hto8⟩
    · obtain ⟨u5, u6, F4, vs, ties, rfl, e4, gh4, hp4, fL4, hL4, pr4, htl, hto⟩ := h
      have hvl : vs.length ≤ 2 * (n - 1) := by rw [Paired.length pr4]; exact htl
      dsimp only [tSeq]
      refine if_then (fun σ H5 => ∃ u5 u6 F5 vs ties, σ = [some (.ref g), some (.int (n : Nat)), some (.int (mo : Nat)), some (.ref p2), some (.ref L), u5, u6, none] ∧ Ex (Sg g c) F H F5 H5 ∧ Gh F5 H5 g c ∧ F5 L = none ∧ H5 L = some (.lst vs) ∧ Paired (RTie F5) vs ties ∧ ties.length ≤ 2 * n ∧ (∀ t ∈ ties, TieB n mo t)) (fun σ H5 h => ?_) fun fin => ?_
      · obtain ⟨u5, u6, F5, vs, ties, rfl, e5, gh5, fL5, hL5, pr5, htl5, hto5⟩ := h
        walk_at "vc"
        refine ⟨⟨_, lS hL5⟩, ?_⟩
        intro D hD
        have hDo : H D = none := e5.old hD
        refine lcX (re := RTie) (ds := ties) (walk_lp pr5) e5.s (fun b z => False.elim z) hD (lt_sz (by omega)) (fun _ => true) (fun t => (t.1, t.2.1, if t.2.2 < -1000000 then -1000000 else t.2.2)) (S := S0) (fun F1 H1 e => lS (e.k _ _ (fun z => z) hL5)) (fun j d x F6 H6 H7 hd e y Qy Qn q1 q2 => ?_) (fun F6 H6 ys e6 fD6 hDD6 pr6 => ?_)
        · obtain ⟨rfl, e7⟩ := y
          obtain ⟨⟨p1, p3, wt⟩, ez, ⟨ta1, v1, v2, v3, rfl, hq, rfl, rfl, rfl⟩⟩ := Paired.getL pr5 e7
          have ed : (p1, p3, wt) = d := by rw [hd] at ez; exact (Option.some.inj ez).symm
          subst ed
          walk_at "vc"
          refine ⟨_, _, _, _, rfl, rfl, tS (e.fh _ _ hq), (atI_nat (i := 0) (v := nv p1) rfl : _), ?_⟩
          walk_at "vc"
          refine ⟨_, _, _, _, rfl, rfl, tS (e.fh _ _ hq), (atI_nat (i := 1) (v := nv p3) rfl : _), ?_⟩
          walk_at "vc"
          refine ⟨_, _, _, _, rfl, rfl, tS (e.fh _ _ hq), (atI_nat (i := 2) (v := V.int wt) rfl : _), ?_⟩
          walk_at "vc"
          refine ⟨⟨by omega, by omega, by decide⟩, ?_⟩
          walk_at "vc"
          refine go_t3 (ex0 e.s) fun p8 F8 e8 s8 hp8 => ?_
          refine q1 rfl _ _ _ e8 ⟨p8, _, _, _, rfl, hp8, rfl, rfl, ?_⟩
          show V.int _ = V.int _
          congr 1
        · rw [filter_tt'] at pr6
          have hDL : D ≠ L := by rintro rfl; rw [hL5] at hD; cases hD
          refine q D ys _ F6 H6 (e5.then0 e6) (gh5.up e6) hDo fD6 hDD6 pr6 (by rw [List.length_map]; exact htl5) fun t ht => ?_
          obtain ⟨t0, ht0, rfl⟩ := List.mem_map.mp ht
          obtain ⟨g1, g2, g3, g4⟩ := hto5 t0 ht0
          refine ⟨g1, g2, g3, ?_, ?_⟩
          · show -1000000 ≤ (if t0.2.2 < -1000000 then -1000000 else t0.2.2)
            split <;> omega
          · show (if t0.2.2 < -1000000 then -1000000 else t0.2.2) ≤ 1000000
            split <;> omega
      · have skip : ∀ {H5 : Hp}, Ex (Sg g c) F H F4 H5 → Gh F4 H5 g c → H5 L = some (.lst vs) → ∃ u5' u6' F5 vs' ties', [some (V.ref g), some (.int (n : Nat)), some (.int (mo : Nat)), some (.ref p2), some (.ref L), u5, u6, none] = [some (.ref g), some (.int (n : Nat)), some (.int (mo : Nat)), some (.ref p2), some (.ref L), u5', u6', none] ∧ Ex (Sg g c) F H F5 H5 ∧ Gh F5 H5 g c ∧ F5 L = none ∧ H5 L = some (.lst vs') ∧ Paired (RTie F5) vs' ties' ∧ ties'.length ≤ 2 * n ∧ (∀ t ∈ ties', TieB n mo t) :=
          fun e gh hl => ⟨_, _, F4, vs, ties, rfl, e, gh, fL4, hl, pr4, by omega, fun t ht => (hto t ht).1⟩
        walk_at "vc"
        refine ite2 (fun hc => ?_) (fun hc => ?_)
        · have hn1 : 1 < n := by
            have := of_decide_eq_true hc
            omega
          walk_at "vc"
          refine ⟨F4, g, c, 2, rfl, e4.s, gh4, by omega, by omega, fun r3 H10 hr3 e10 gh10 => ?_⟩
          have kL10 := e10.keepG hL4 nL.1 nL.2 fL4
          have e010 := e4.trans e10
          walk_at "vc"
          refine ite2 (fun hc => ?_) (fun hc => ?_)
          · obtain ⟨a, ha1, ha2, ha3⟩ := ho.at (i := n - 1) (by omega)
            obtain ⟨b, hb1, hb2, hb3⟩ := ho.at (i := 0) (by omega)
            have hab := ho.ne ha1 hb1 (by omega)
            have hlast : atI (od.map nv) (-1) = some (nv a) := atI_last (by rw [List.getLast?_eq_getElem?, List.length_map, ho.len]; exact ha3)
            walk_at "vc"
            refine ⟨.inl ⟨rfl, _, lS kL10.1⟩, ?_⟩
            walk_at "vc"
            refine ⟨_, _, _, _, rfl, rfl, lS (e010.s _ _ hp4), hlast, ?_⟩
            walk_at "vc"
            refine ⟨_, _, _, _, rfl, rfl, lS (e010.s _ _ hp4), (atI_nat (i := 0) hb3 : _), ?_⟩
            walk_at "vc"
            refine ⟨_, _, rfl, lS kL10.1, fun p11 hp11 => ?_⟩
            rw [cut_take]
            obtain ⟨er11, hf11, s11⟩ := newL (S := S0) (ex0 e010.s) (xs := vs.take n) hp11
            have kL11 := er11.keep kL10.1 (fun z => z) kL10.2
            have gh11 := gh10.up er11
            have e011 := e010.then0 er11
            generalize upd H10 p11 (.lst (vs.take n)) = H11 at *
            generalize upd F4 p11 (.lst (vs.take n)) = F11 at *
            have prt : Paired (RTie F4) (vs.take n) (ties.take n) := pairedTake n pr4
            refine ⟨_, rfl, ⟨_, lS (e011.s _ _ hf11)⟩, ?_⟩
            intro D hD
            refine lcX (re := Ri) (ds := ties.take n) (walk_lp prt) e011.s (fun b z => False.elim z) hD (lt_sz (by rw [List.length_take]; omega)) (fun _ => true) (fun t => t.2.2) (S := S0) (fun F1 H1 e => lS (e.fh _ _ hf11)) (fun j d x F6 H6 H7 hd e y Qy Qn q1 q2 => ?_) (fun F6 H6 ys e6 fD6 hDD6 pr6 => ?_)
            · obtain ⟨rfl, e7⟩ := y
              obtain ⟨⟨p1, p3, wt⟩, ez, ⟨ta1, v1, v2, v3, rfl, hq, rfl, rfl, rfl⟩⟩ := Paired.getL prt e7
              have ed : (p1, p3, wt) = d := by rw [hd] at ez; exact (Option.some.inj ez).symm
              subst ed
              walk_at "vc"
              refine ⟨_, _, _, _, rfl, rfl, tS (e.fh _ _ (s11 _ _ hq)), (atI_nat (i := 2) (v := V.int wt) rfl : _), ?_⟩
              exact q1 rfl _ _ _ (Ex.refl e.s (fun b z => False.elim z)) rfl
            · rw [filter_tt'] at pr6
              have ew := paired_ints pr6
              subst ew
              have kL6 := e6.keep kL11.1 (fun z => z) kL11.2
              have gh6 := gh11.up e6
              have e06 := e011.then0 e6
              refine ⟨_, _, rfl, lS hDD6, ?_⟩
              have hsum : 0 ≤ ((ties.take n).map fun t => t.2.2).sum := by
                have : ∀ l : List (Nat × Nat × Int), (∀ t ∈ l, 0 ≤ t.2.2) → 0 ≤ (l.map fun t => t.2.2).sum := by
                  intro l
                  induction l with
                  | nil => intro _; exact Int.le_refl _
                  | cons t l ih =>
                    intro hl
                    have h1 := hl t (List.mem_cons_self ..)
                    have h2 := ih fun t ht => hl t (List.mem_cons_of_mem _ ht)
                    rw [List.map_cons, List.sum_cons]; omega
                exact this _ fun t ht => (hto t (List.mem_of_mem_take ht)).2
              generalize ((ties.take n).map fun t => t.2.2).sum = sm at hsum
              walk_at "vc"
              refine ⟨F6, g, c, 3, rfl, e06.s, gh6, by omega, by omega, fun r4 H12 hr4 e12 gh12 => ?_⟩
              have kL12 := e12.keepG kL6.1 nL.1 nL.2 kL6.2
              have e012 := e06.trans e12
              walk_at "vc"
              refine go_t3 (ex0 e012.s) fun p13 F13 e13 s13 hp13 => ?_
              have kL13 := e13.keep kL12.1 (fun z => z) kL12.2
              have gh13 := gh12.up e13
              have e013 := e012.then0 e13
              refine ⟨_, _, _, rfl, rfl, kL13.1, lt_sz (by omega), ?_⟩
              refine fin _ _ ⟨_, _, F13, _, ties ++ [(a, b, 0 - sm - (r4 : Int))], rfl, e013.put (.inl hLo) kL13.2, gh13.put nL, kL13.2, upd_same, Paired.app (Paired.up (s11.tr (e6.f.tr s13)) pr4) (.cons ⟨p13, _, _, _, rfl, hp13, rfl, rfl, rfl⟩ .nil), by rw [List.length_append]; simp; omega, fun t ht => ?_⟩
              rcases List.mem_append.mp ht with ht | ht
              · exact (hto t ht).1
              · have ht : t = (a, b, 0 - sm - (r4 : Int)) := by simpa using ht
                subst ht
                exact ⟨ha2, hb2, hab, by show 0 - sm - (r4 : Int) ≤ mo; omega⟩
          · exact fin _ _ (skip e010 gh10 kL10.1)
        · exact fin _ _ (skip e4 gh4 hL4)
end
end Sa
set_option Elab.async false
set_option linter.all false
set_option maxRecDepth 100000
set_option maxHeartbeats 4000000
namespace Sa
open PySem PySem.Spec PyProof.Rows L2
local macro_rules | `(tactic| walk_at "vc") => `(tactic| repeat (first | refine ⟨_, rfl, ?_⟩ | refine ⟨_, _, rfl, rfl, ?_⟩ | refine ⟨_, _, rfl, ?_⟩ | refine ⟨rfl, ?_⟩))
def TieR (n mo : Nat) (t : Nat × Nat × Int) : Prop := t.1 < n ∧ t.2.1 < n ∧ t.1 ≠ t.2.1 ∧ -(mo : Int) ≤ t.2.2 ∧ t.2.2 ≤ (mo : Int)
def RTR (n mo : Nat) {δ : Type} : Hp → V → δ → Prop := fun F v _ => ∃ t, RTie F v t ∧ TieR n mo t
theorem RTR.up {n mo : Nat} {δ : Type} {F F' : Hp} {v : V} {d : δ} (e : Sub F F') (h : RTR n mo F v d) : RTR n mo F' v d := by
  obtain ⟨t, h1, h2⟩ := h
  exact ⟨t, Mono.up (r := RTie) e h1, h2⟩
theorem pair_ties {n mo : Nat} {δ : Type} {F : Hp} : ∀ {ys : List V} {ds : List δ}, Paired (RTR n mo F) ys ds → ∃ ties, Paired (RTie F) ys ties ∧ ties.length = ds.length ∧ ∀ t ∈ ties, TieR n mo t
  | _, _, .nil => ⟨[], .nil, rfl, fun t z => by cases z⟩
  | _, _, .cons a t => by
    obtain ⟨x, hx1, hx2⟩ := a
    obtain ⟨l, h1, h2, h3⟩ := pair_ties t
    refine ⟨x :: l, .cons hx1 h1, by rw [List.length_cons, List.length_cons, h2], fun t ht => ?_⟩
    rcases List.mem_cons.mp ht with rfl | ht
    · exact hx2
    · exact h3 t ht
theorem sub_of_ord {n k : Nat} {od : List Nat} (h : Ord n od) (hk : k ≤ n) : (od.take k).length = k ∧ (od.take k).Nodup ∧ ∀ x ∈ od.take k, x < n :=
  ⟨by rw [List.length_take, h.len]; omega, h.nd.sublist (List.take_sublist _ _), fun x hx => h.lt x (List.mem_of_mem_take hx)⟩
theorem ixN_nat {n i : Nat} (h : i < n) : ixN n (i : Int) = some i := by
  unfold ixN
  simp
  omega
theorem rt_tie {F : Hp} {v : V} {t : Nat × Nat × Int} (h : RTie F v t) : ∃ a, v = .ref a ∧ F a = some (.tup [nv t.1, nv t.2.1, .int t.2.2]) := by
  obtain ⟨a, u1, u2, u3, rfl, hq, h1, h2, h3⟩ := h
  have h1 : u1 = nv t.1 := h1
  have h2 : u2 = nv t.2.1 := h2
  have h3 : u3 = .int t.2.2 := h3
  subst h1 h2 h3
  exact ⟨a, rfl, hq⟩
theorem asg_then {te : TE} {g : TG} {D : Ends} {σ : L2.St} {H : Hp} (R : L2.St → Hp → Prop) (hR : ∀ σ H, R σ H → D.nx σ H) (h : (∀ σ H, R σ H → D.nx σ H) → tAsg te g D σ H) : tAsg te g D σ H := h hR
theorem dp_anyL {K : PySem.W.Frag} {F H : Hp} {a : Addr} {vs : List V} {ties : List (Nat × Nat × Int)} (s : Sub F H) (h : H a = some (.lst vs)) (p : Paired (RTie F) vs ties) :
    Dp K H (.ref a) (.list (ties.map fun t => PyData.tuple [.int (t.1 : Int), .int (t.2.1 : Int), .int t.2.2])) := by
  refine .lst (lS h) (dpAll_of _ (fun v t ht => ?_) p)
  obtain ⟨b, rfl, hb⟩ := rt_tie ht
  exact .tup (tS (s _ _ hb)) (.cons (.int _) (.cons (.int _) (.cons (.int _) .nil)))
theorem sh_ties (ties : List (Nat × Nat × Int)) : SeqAt.shaped (.list (ties.map fun t => PyData.tuple [.int (t.1 : Int), .int (t.2.1 : Int), .int t.2.2])) = true := by
  refine shaped_lst (canLayAll_map _ (fun _ => rfl) ties) (Nat.le_trans (depthAll_map _ 1 (fun _ => ?_) ties) (by omega))
  exact Nat.le_of_eq rfl
section
variable {P : Program} {w : World} {K : PySem.W.Frag} {mg : Str → Option Value} {base : Heap}
def sp__law_ring : Sp := fun vs H Q _ => ∃ F g c, ∃ n mo : Nat, vs = [.ref g, .int n, .int mo] ∧ Sub F H ∧ Gh F H g c ∧ 1 ≤ n ∧ n ≤ 12 ∧ mo ≤ 1000000 ∧ 1 ≤ mo ∧ Gives F H g c n 14 Q
theorem c__law_ring (T : Txt K mg) : C8.Cal P w K mg base 4 "_law_ring" sp__law_ring [] := by
  have c__law_mixed := c__law_mixed (P := P) (w := w) (base := base) T
  have c__law_pick := c__law_pick (P := P) (w := w) (base := base) T
  have c__law_draw := c__law_draw (P := P) (w := w) (base := base) T
  have c__law_tame := c__law_tame (P := P) (w := w) (base := base) T
  refine mkC T.d__law_ring scLring (fun _ _ _ _ _ _ us hl => match us, hl with | [_, _, _], _ => rfl) (fun vs H Q E h => ?_) (fun f cdv A outer s H vs Q E hr h => ?_)
  · obtain ⟨F, g, c, n, mo, rfl, _⟩ := h
    rfl
  · obtain ⟨F, g, c, n, mo, rfl, sb, hG, h1, h2, hmo, hmo1, q⟩ := h
    refine ⟨_, (pss_cons (ps_set (i := 3) scLring.nd rfl (Or.inr rfl) (pe_ifExp (pt_cmpR op_gt (pv 1) pe_int (nomark _)) (pe_slice sl_list (C8.pe_c c__law_mixed hr (by decide) (by rfl) (pa_cons (pv 0) (pa_cons (pe_listRg rfl (by rfl) T.list (prg_1 (by rfl) T.range (pv 1))) pa_nil))) po_none (po_some (pe_op op_add pe_int (C8.pe_c c__law_draw hr (by decide) (by rfl) (pa_cons (pv 0) (pa_cons (pe_op op_sub (pv 1) pe_int) pa_nil)))))) (pe_lst pa_nil)))
    (pss_cons (ps_setLc (i := 4) (own := [("_law_at", 6)]) (tt := tYes) rfl scLring.nd rfl rfl (sw_true rfl rfl rfl (by decide +kernel)) (pi_range1 (by rfl) T.range (pa_cons (pe_callB call_len (by rfl) T.len (by decide +kernel) (pa_cons (pv 3) pa_nil)) pa_nil)) (blkOk_by (N := N_Lring) (sc := defScope sLring) (by decide +kernel)) (fun _ _ _ _ _ => pg_name (i := 6) scLring.nd rfl (Or.inl rfl) (Or.inr rfl)) (fun _ _ _ _ _ => pts_nil) (fun _ _ _ _ _ => (pe_tup (pa_cons (pe_ix (kx_ix_list K rfl) (pv 3) (pe_op op_sub (pv 6) pe_int) (fun _ _ => rfl)) (pa_cons (pe_ix (kx_ix_list K rfl) (pv 3) (pv 6) (fun _ _ => rfl)) (pa_cons (pe_op op_sub (C8.pe_c c__law_draw hr (by decide) (by rfl) (pa_cons (pv 0) (pa_cons (pe_op op_add (pe_op op_mul pe_int (pv 2)) pe_int) pa_nil))) (pv 2)) pa_nil))))))
    (pss_cons (ps_if (pt_cmpR (op_neD (hr.units)) (pv 4) (pe_lst pa_nil) (nomark _)) (pss_cons (ps_set (i := 5) scLring.nd rfl (Or.inl rfl) (pe_op op_sub (pe_callB (cr_sum rfl) (by rfl) T.sum (by decide +kernel) (pa_cons (pe_lc (own := [("_law_tie", 8)]) (tt := tYes) rfl scLring.nd (pi_list (pv 4)) (blkOk_by (N := N_Lring) (sc := defScope sLring) (by decide +kernel)) (fun _ _ _ _ _ => pg_name (i := 8) scLring.nd rfl (Or.inl rfl) (Or.inr rfl)) (fun _ _ _ _ _ => pts_nil) (fun _ _ _ _ _ => (pe_ix (kx_ix_tup K rfl) (pv 8) pe_int (fun _ _ => rfl)))) pa_nil)) (C8.pe_c c__law_pick hr (by decide) (by rfl) (pa_cons (pv 0) (pa_cons (pe_lst (pa_cons pe_int (pa_cons pe_int (pa_cons pe_int (pa_cons pe_int (pa_cons pe_int pa_nil)))))) pa_nil)))))
    (pss_one (ps_for PassesOwn.never rfl (pi_range1 (by rfl) T.range (pa_cons (pe_callB call_len (by rfl) T.len (by decide +kernel) (pa_cons (pv 4) pa_nil)) pa_nil)) (pg_name (i := 6) scLring.nd rfl (Or.inl rfl)) (pss_cons (ps_set (i := 7) scLring.nd rfl (Or.inl rfl) (pe_op op_sub (pe_callB (call_max2 rfl) (by rfl) T.max (by decide +kernel) (pa_cons (pe_op op_sub pe_int (pv 2)) (pa_cons (pe_callB (call_min2 rfl) (by rfl) T.min (by decide +kernel) (pa_cons (pv 2) (pa_cons (pe_op op_sub (pe_ix ix_tup (pe_ix ix_list (pv 4) (pv 6) (fun _ _ => rfl)) pe_int (fun _ _ => rfl)) (pv 5)) pa_nil))) pa_nil))) (pe_ix ix_tup (pe_ix ix_list (pv 4) (pv 6) (fun _ _ => rfl)) pe_int (fun _ _ => rfl))))
    (pss_cons (ps_asg (pe_tup (pa_cons (pe_ix ix_tup (pe_ix ix_list (pv 4) (pv 6) (fun _ _ => rfl)) pe_int (fun _ _ => rfl)) (pa_cons (pe_ix ix_tup (pe_ix ix_list (pv 4) (pv 6) (fun _ _ => rfl)) pe_int (fun _ _ => rfl)) (pa_cons (pe_op op_add (pe_ix ix_tup (pe_ix ix_list (pv 4) (pv 6) (fun _ _ => rfl)) pe_int (fun _ _ => rfl)) (pv 7)) pa_nil)))) (pg_sub (pv 4) (pv 6) set_list))
    (pss_one (ps_set (i := 5) scLring.nd rfl (Or.inl rfl) (pe_op op_add (pv 5) (pv 7))))))))) pss_nil)
    (pss_one (ps_ret (pe_op op_cat (pv 4) (pe_lc (own := [("_law_tie", 8)]) (tt := tYes) rfl scLring.nd (pi_list (C8.pe_c c__law_tame hr (by decide) (by rfl) (pa_cons (pv 0) (pa_cons (pv 1) (pa_cons (pv 2) (pa_cons (C8.pe_c c__law_draw hr (by decide) (by rfl) (pa_cons (pv 0) (pa_cons pe_int pa_nil))) pa_nil)))))) (blkOk_by (N := N_Lring) (sc := defScope sLring) (by decide +kernel)) (fun _ _ _ _ _ => pg_name (i := 8) scLring.nd rfl (Or.inl rfl) (Or.inr rfl)) (fun _ _ _ _ _ => pts_nil) (fun _ _ _ _ _ => (pe_tup (pa_cons (pe_ix (kx_ix_tup K rfl) (pv 8) pe_int (fun _ _ => rfl)) (pa_cons (pe_ix (kx_ix_tup K rfl) (pv 8) pe_int (fun _ _ => rfl)) (pa_cons (pe_op op_sub pe_int (C8.pe_c c__law_draw hr (by decide) (by rfl) (pa_cons (pv 0) (pa_cons (pe_op op_add (pv 2) pe_int) pa_nil)))) pa_nil)))))))))))), ?_⟩
    dsimp only [tSeq]
    refine asg_then (fun σ H1 => ∃ F1 O, ∃ od : List Nat, σ = [some (.ref g), some (.int (n : Nat)), some (.int (mo : Nat)), some (.ref O), none, none, none, none, none] ∧ Ex (Sg g c) F H F1 H1 ∧ Gh F1 H1 g c ∧ F1 O = some (.lst (od.map nv)) ∧ od.Nodup ∧ (∀ x ∈ od, x < n) ∧ od.length ≤ 12 ∧ od.length ≠ 1) (fun σ H1 h => ?_) fun fin => ?_
    · obtain ⟨F1, O, od, rfl, e1, gh1, hO, hnd, hlt, hl12, hl1⟩ := h
      walk_at "vc"
      refine ⟨_, _, rfl, lenL (lS (e1.s _ _ hO)), ?_⟩
      walk_at "vc"
      rw [List.length_map]
      refine ⟨by omega, by omega, ?_⟩
      intro D hD
      have hDo : H D = none := e1.old hD
      have nD := gh1.ne hD
      refine lcG (R := RTR n mo) RTR.up (ds := od) (walk_r0 (n := od.length) (by omega)) e1.s gh1 hD (lt_sz (by omega)) (fun F H e gh => trivial) (fun i d x F2 H2 H3 hd e gh y Qy Qn q1 => ?_) (fun F2 H2 ys e gh fD hDD pr1 => ?_)
      · obtain ⟨rfl, rfl⟩ := y
        have hi : i < od.length := by
          by_cases h : i < od.length
          · exact h
          · rw [List.getElem?_eq_none (by omega)] at hd; cases hd
        have hO2 := e.s _ _ (e.f _ _ hO)
        have hb : (od.map nv)[i]? = some (nv d) := by rw [List.getElem?_map, hd]; rfl
        obtain ⟨a, ha1, ha2⟩ : ∃ a, atI (od.map nv) ((i : Int) - 1) = some (nv a) ∧ (a ∈ od ∧ a ≠ d) := by
          cases i with
          | zero =>
            refine ⟨od[od.length - 1], ?_, List.getElem_mem _, ?_⟩
            · rw [show (((0 : Nat) : Int) - 1) = -1 by omega]
              exact atI_last (by rw [List.getLast?_eq_getElem?, List.length_map, List.getElem?_map, List.getElem?_eq_getElem (by omega)]; rfl)
            · intro he
              have := nd_get hnd (i := od.length - 1) (j := 0) (x := d) (by rw [List.getElem?_eq_getElem (by omega), he]) hd
              omega
          | succ k =>
            refine ⟨od[k], atI_z (i := k) (by omega) (by rw [List.getElem?_map, List.getElem?_eq_getElem (by omega)]; rfl), List.getElem_mem _, ?_⟩
            intro he
            have := nd_get hnd (i := k) (j := k + 1) (x := d) (by rw [List.getElem?_eq_getElem (by omega), he]) hd
            omega
        walk_at "vc"
        refine ⟨_, _, _, _, rfl, rfl, lS hO2, ha1, ?_⟩
        walk_at "vc"
        refine ⟨_, _, _, _, rfl, rfl, lS hO2, atI_nat hb, ?_⟩
        walk_at "vc"
        refine ⟨.inl ⟨by omega, by omega⟩, ?_⟩
        walk_at "vc"
        refine ⟨F2, g, c, 2 * mo + 1, rfl, e.s, gh, by omega, by omega, fun r H5 hr e5 gh5 => ?_⟩
        walk_at "vc"
        refine go_t3 (ex0 e5.s) fun p7 F7 e7 s7 hp7 => ?_
        exact q1 _ _ _ (e5.then0 e7) (gh5.up e7) ⟨(a, d, (r : Int) - mo), ⟨p7, _, _, _, rfl, hp7, rfl, rfl, rfl⟩, hlt a ha2.1, hlt d (List.mem_of_getElem? hd), ha2.2, by show -(mo : Int) ≤ (r : Int) - mo; omega, by show (r : Int) - mo ≤ mo; omega⟩
      · obtain ⟨ties, pr2, htl, hto⟩ := pair_ties pr1
        have e02 := e1.trans e
        dsimp only [gName, tSeq]
        refine if_then (fun σ H5 => ∃ u5 u6 u7 F5 vs ties, σ = [some (.ref g), some (.int (n : Nat)), some (.int (mo : Nat)), some (.ref O), some (.ref D), u5, u6, u7, none] ∧ Ex (Sg g c) F H F5 H5 ∧ Gh F5 H5 g c ∧ F5 D = none ∧ H5 D = some (.lst vs) ∧ Paired (RTie F5) vs ties ∧ ties.length ≤ 12 ∧ (∀ t ∈ ties, TieR n mo t)) (fun σ H5 h => ?_) fun fin => ?_
        · obtain ⟨u5, u6, u7, F5, vs, ties, rfl, e5, gh5, fD5, hD5, pr5, htl5, hto5⟩ := h
          walk_at "vc"
          refine ⟨F5, g, c, 3, rfl, e5.s, gh5, by omega, by omega, fun r4 H6 hr4 e6 gh6 => ?_⟩
          have e06 := e5.trans e6
          have kD6 := e6.keepG hD5 nD.1 nD.2 fD5
          refine ⟨F5, g, c, n, mo, r4, rfl, e06.s, gh6, h1, h2, hmo, hmo1, by omega, fun L vs7 ties7 F7 H7 e7 gh7 hL fL hL7 pr7 htl7 hto7 => ?_⟩
          have nL := gh6.ne hL
          have e07 := e06.trans e7
          have kD7 := e7.keepG kD6.1 nD.1 nD.2 kD6.2
          walk_at "vc"
          refine ⟨⟨_, lS hL7⟩, ?_⟩
          intro D2 hD2
          have hD2o : H D2 = none := e07.old hD2
          have nD2 := gh7.ne hD2
          refine lcG (R := RTR n mo) RTR.up (ds := ties7) (walk_lp pr7) e07.s gh7 hD2 (lt_sz (by omega)) (fun F H e gh => lS (e.keepG hL7 nL.1 nL.2 fL).1) (fun i t x F8 H8 H9 hd e8 gh8 y Qy Qn q1 => ?_) (fun F8 H8 ys8 e8 gh8 fD8 hDD8 pr8 => ?_)
          · obtain ⟨rfl, e9⟩ := y
            obtain ⟨⟨p1, p3, wt⟩, ez, ⟨ta1, v1, v2, v3, rfl, hq, rfl, rfl, rfl⟩⟩ := Paired.getL pr7 e9
            have ed : (p1, p3, wt) = t := by rw [hd] at ez; exact (Option.some.inj ez).symm
            subst ed
            obtain ⟨g1, g2, g3, g4, g5⟩ := hto7 _ (List.mem_of_getElem? hd)
            have hq8 := e8.s _ _ (e8.f _ _ hq)
            walk_at "vc"
            refine ⟨_, _, _, _, rfl, rfl, tS hq8, (atI_nat (i := 0) (v := nv p1) rfl : _), ?_⟩
            walk_at "vc"
            refine ⟨_, _, _, _, rfl, rfl, tS hq8, (atI_nat (i := 1) (v := nv p3) rfl : _), ?_⟩
            walk_at "vc"
            refine ⟨F8, g, c, mo + 1, rfl, e8.s, gh8, by omega, by omega, fun r H10 hr10 e10 gh10 => ?_⟩
            walk_at "vc"
            refine go_t3 (ex0 e10.s) fun p11 F11 e11 s11 hp11 => ?_
            exact q1 _ _ _ (e10.then0 e11) (gh10.up e11) ⟨(p1, p3, 0 - (r : Int)), ⟨p11, _, _, _, rfl, hp11, rfl, rfl, rfl⟩, g1, g2, g3, by show -(mo : Int) ≤ 0 - (r : Int); omega, by show 0 - (r : Int) ≤ mo; omega⟩
          · obtain ⟨ties8, pr9, htl8, hto8⟩ := pair_ties pr8
            have kD8 := e8.keepG kD7.1 nD.1 nD.2 kD7.2
            have e08 := e07.trans e8
            have hv1 := Paired.length pr5
            have hv2 := Paired.length pr9
            refine ⟨D, D2, vs, ys8, rfl, rfl, kD8.1, hDD8, szk (by omega), fun p hp => ?_⟩
            refine q p (vs ++ ys8) (ties ++ ties8) F8 _ (e08.trans (Ex.own e08.s hp gh8.t)) (gh8.put (gh8.ne hp)) (e08.old hp) (e08.s.free hp) upd_same (Paired.app (Paired.up (e6.f.tr (e7.f.tr e8.f)) pr5) pr9) (by rw [List.length_append]; omega) fun t ht => ?_
            rcases List.mem_append.mp ht with ht | ht
            · obtain ⟨g1, g2, g3, g4, g5⟩ := hto5 t ht
              exact ⟨g1, g2, g3, by omega, by omega⟩
            · obtain ⟨g1, g2, g3, g4, g5⟩ := hto8 t ht
              exact ⟨g1, g2, g3, by omega, by omega⟩
        · walk_at "vc"
          refine ⟨szk (by simp), fun p6 hp6 => ?_⟩
          have e6 := e02.trans (Ex.own (o := .lst ([] : List V)) e02.s hp6 gh.t)
          have gh6 : Gh F2 (upd H2 p6 (.lst [])) g c := gh.put (gh.ne hp6)
          have hD6 : upd H2 p6 (.lst []) D = some (.lst ys) := by rw [upd_ne (by rintro rfl; rw [hDD] at hp6; cases hp6)]; exact hDD
          refine ⟨_, _, dp_anyL e6.s hD6 pr2, .lst (lS upd_same) .nil, sh_ties _, shaped_lst rfl (Nat.zero_le _), ?_⟩
          generalize upd H2 p6 (.lst []) = H6 at e6 gh6 hD6
          refine ⟨_, rfl, ?_⟩
          refine ite2 (fun hc => ?_) (fun hc => ?_)
          · walk_at "vc"
            refine ⟨⟨_, lS hD6⟩, ?_⟩
            intro D2 hD2
            refine lcX (re := Ri) (ds := ties) (walk_lp pr2) e6.s (fun b z => False.elim z) hD2 (lt_sz (by omega)) (fun _ => true) (fun t => t.2.2) (S := S0) (fun F1 H1 e => lS (e.k _ _ (fun z => z) hD6)) (fun j d x F7 H7 H8 hd e y Qy Qn q1 q2 => ?_) (fun F7 H7 ys7 e7 fD7 hDD7 pr7 => ?_)
            · obtain ⟨rfl, e9⟩ := y
              obtain ⟨⟨p1, p3, wt⟩, ez, ⟨ta1, v1, v2, v3, rfl, hq, rfl, rfl, rfl⟩⟩ := Paired.getL pr2 e9
              have ed : (p1, p3, wt) = d := by rw [hd] at ez; exact (Option.some.inj ez).symm
              subst ed
              walk_at "vc"
              refine ⟨_, _, _, _, rfl, rfl, tS (e.fh _ _ hq), (atI_nat (i := 2) (v := V.int wt) rfl : _), ?_⟩
              exact q1 rfl _ _ _ (Ex.refl e.s (fun b z => False.elim z)) rfl
            · rw [filter_tt'] at pr7
              have ew := paired_ints pr7
              subst ew
              have kD7 := e7.keep hD6 (fun z => z) fD
              have gh7 := gh6.up e7
              have e07 := e6.then0 e7
              refine ⟨_, _, rfl, lS hDD7, ?_⟩
              generalize (ties.map fun t => t.2.2).sum = sm
              walk_at "vc"
              refine go_lst (xs := [V.int 1, V.int 1, V.int 1, V.int 2, V.int 0]) (ex0 e07.s) (szk (by simp)) fun p8 F8 e8 s8 hp8 => ?_
              have gh8 := gh7.up e8
              have e08 := e07.then0 e8
              have n8 := gh8.neF hp8
              have kD8 := e8.keep kD7.1 (fun z => z) kD7.2
              refine ⟨F8, g, c, p8, _, rfl, e08.s, gh8, e8.s _ _ hp8, n8.1, n8.2, by simp, by simp, fun v H9 hv e9 gh9 => ?_⟩
              obtain ⟨pk, rfl⟩ : ∃ pk : Int, v = .int pk := by
                simp at hv
                rcases hv with rfl | rfl | rfl <;> exact ⟨_, rfl⟩
              have kD9 := e9.keepG kD8.1 nD.1 nD.2 kD8.2
              have e09 := e08.trans e9
              have hyl := Paired.length pr2
              walk_at "vc"
              refine ⟨_, _, rfl, lenL (lS kD9.1), ?_⟩
              walk_at "vc"
              refine ⟨by omega, by omega, ?_⟩
              refine for_it (walk_r0 (n := ys.length) (by omega)) (fun i σ H5 => ∃ u6 u7 ov F5 vs tis, σ = [some (.ref g), some (.int (n : Nat)), some (.int (mo : Nat)), some (.ref O), some (.ref D), some (.int ov), u6, u7, none] ∧ Ex (Sg g c) F H F5 H5 ∧ Gh F5 H5 g c ∧ F5 D = none ∧ H5 D = some (.lst vs) ∧ Paired (RTie F5) vs tis ∧ tis.length = ties.length ∧ (∀ t ∈ tis, TieR n mo t))
                ⟨_, _, _, F8, ys, ties, rfl, e09, gh9, kD9.2, kD9.1, Paired.up (e7.f.tr e8.f) pr2, rfl, hto⟩ (fun i σ H3 _ h => trivial) (fun i x σ H5 H10 hi h y => ?_) (fun σ H5 h => ?_)
              · obtain ⟨u6, u7, ov, F5, vs, tis, rfl, e5, gh5, fD5, hD5, pr5, htl5, hto5⟩ := h
                obtain ⟨rfl, rfl⟩ := y
                have hvl := Paired.length pr5
                have hiv : vs[i]? = some vs[i] := List.getElem?_eq_getElem (by omega)
                obtain ⟨⟨p1, p3, wt⟩, ez, ⟨ta1, v1, v2, v3, hve, hq, rfl, rfl, rfl⟩⟩ := Paired.getL pr5 hiv
                rw [hve] at hiv
                obtain ⟨g1, g2, g3, g4, g5⟩ := hto5 _ (List.mem_of_getElem? ez)
                have hq5 := e5.s _ _ hq
                walk_at "vc"
                refine ⟨_, _, _, _, rfl, rfl, lS hD5, atI_nat hiv, ?_⟩
                walk_at "vc"
                refine ⟨_, _, _, _, rfl, rfl, tS hq5, (atI_nat (i := 2) (v := V.int wt) rfl : _), ?_⟩
                walk_at "vc"
                refine ⟨_, _, _, _, rfl, rfl, lS hD5, atI_nat hiv, ?_⟩
                walk_at "vc"
                refine ⟨_, _, _, _, rfl, rfl, tS hq5, (atI_nat (i := 2) (v := V.int wt) rfl : _), ?_⟩
                walk_at "vc"
                refine ⟨_, _, _, _, rfl, rfl, lS hD5, atI_nat hiv, ?_⟩
                walk_at "vc"
                refine ⟨_, _, _, _, rfl, rfl, tS hq5, (atI_nat (i := 0) (v := nv p1) rfl : _), ?_⟩
                walk_at "vc"
                refine ⟨_, _, _, _, rfl, rfl, lS hD5, atI_nat hiv, ?_⟩
                walk_at "vc"
                refine ⟨_, _, _, _, rfl, rfl, tS hq5, (atI_nat (i := 1) (v := nv p3) rfl : _), ?_⟩
                walk_at "vc"
                refine ⟨_, _, _, _, rfl, rfl, lS hD5, atI_nat hiv, ?_⟩
                walk_at "vc"
                refine ⟨_, _, _, _, rfl, rfl, tS hq5, (atI_nat (i := 2) (v := V.int wt) rfl : _), ?_⟩
                walk_at "vc"
                refine go_t3 (ex0 e5.s) fun p11 F11 e11 s11 hp11 => ?_
                have kD11 := e11.keep hD5 (fun z => z) fD5
                have gh11 := gh5.up e11
                have e011 := e5.then0 e11
                walk_at "vc"
                have hix : ixN vs.length (i : Int) = some i := ixN_nat (by omega)
                refine ⟨_, _, _, i, rfl, rfl, kD11.1, hix, ?_⟩
                walk_at "vc"
                generalize hwn : (if (if wt - ov < (mo : Int) then wt - ov else (mo : Int)) > 0 - (mo : Int) then if wt - ov < (mo : Int) then wt - ov else (mo : Int) else 0 - (mo : Int)) = wn at *
                have hb1 : -(mo : Int) ≤ wn ∧ wn ≤ mo := by
                  rw [← hwn]
                  split <;> split <;> omega
                refine ⟨_, _, _, F11, vs.set i (.ref p11), tis.set i (p1, p3, wt + (wn - wt)), rfl, e011.put (.inl hDo) kD11.2, gh11.put nD, kD11.2, upd_same, Paired.set ⟨p11, _, _, _, rfl, hp11, rfl, rfl, rfl⟩ i (Paired.up s11 pr5), by rw [List.length_set]; exact htl5, fun t ht => ?_⟩
                rcases List.mem_or_eq_of_mem_set ht with ht | rfl
                · exact hto5 t ht
                · exact ⟨g1, g2, g3, by show -(mo : Int) ≤ wt + (wn - wt); omega, by show wt + (wn - wt) ≤ mo; omega⟩
              · obtain ⟨u6, u7, ov, F5, vs, tis, rfl, e5, gh5, fD5, hD5, pr5, htl5, hto5⟩ := h
                exact fin _ _ ⟨_, _, _, F5, vs, tis, rfl, e5, gh5, fD5, hD5, pr5, by omega, hto5⟩
          · exact fin _ _ ⟨_, _, _, F2, ys, ties, rfl, e6, gh6, fD, hD6, pr2, by omega, hto⟩
    · walk_at "vc"
      refine ite2 (fun hc => ?_) (fun hc => ?_)
      · have hn1 : 1 < n := by
          have := of_decide_eq_true hc
          omega
        walk_at "vc"
        refine ⟨⟨by omega, by omega, by omega, by omega, by omega⟩, fun p0 hp0 => ?_⟩
        obtain ⟨e1, hp1, s1⟩ := newL (ex0 sb) (xs := rgV 0 (n : Int)) hp0
        have gh1 := hG.up e1
        have n1 := gh1.neF hp1
        generalize upd H p0 (.lst (rgV 0 (n : Int))) = H1 at e1 gh1
        generalize upd F p0 (.lst (rgV 0 (n : Int))) = F1 at e1 gh1 hp1 s1
        refine ⟨F1, g, c, p0, _, rfl, e1.s, gh1, e1.s _ _ hp1, n1.1, n1.2, by rw [rgV_length]; omega, fun p2 ys F2 H2 hperm e2 gh2 hp2 => ?_⟩
        rw [rg_nats] at hperm
        obtain ⟨od, rfl, hod⟩ := perm_nats hperm
        have ho := ord_of hod
        have e02 := (e1.toG hG).trans e2
        walk_at "vc"
        refine ⟨F2, g, c, n - 1, (by rw [show ((n - 1 : Nat) : Int) = (n : Int) - 1 by omega]; rfl), e02.s, gh2, by omega, by omega, fun r H3 hr e3 gh3 => ?_⟩
        have e03 := e02.trans e3
        walk_at "vc"
        refine ⟨_, _, rfl, lS (e03.s _ _ hp2), fun p4 hp4 => ?_⟩
        have ecut : cutV (od.map nv) none (some (2 + (r : Int))) = (od.take (2 + r)).map nv := by
          rw [show (2 + (r : Int)) = ((2 + r : Nat) : Int) by omega, cut_take, List.map_take]
        rw [ecut]
        obtain ⟨e4, hf4, s4⟩ := newL (S := S0) (ex0 e03.s) (xs := (od.take (2 + r)).map nv) hp4
        obtain ⟨t1, t2, t3⟩ := sub_of_ord ho (k := 2 + r) (by omega)
        exact fin _ _ ⟨_, p4, od.take (2 + r), rfl, e03.then0 e4, gh3.up e4, hf4, t2, t3, by omega, by omega⟩
      · refine ⟨szk (by simp), fun p4 hp4 => ?_⟩
        obtain ⟨e4, hf4, s4⟩ := newL (S := S0) (ex0 sb) (xs := ([] : List Nat).map nv) hp4
        exact fin _ _ ⟨_, p4, [], rfl, (e4.toG hG), hG.up e4, hf4, List.nodup_nil, (fun x z => by cases z), by simp, by simp⟩
end
end Sa
set_option Elab.async false
set_option linter.all false
set_option maxRecDepth 100000
set_option maxHeartbeats 4000000
namespace Sa
open PySem PySem.Spec PyProof.Rows L2
local macro_rules | `(tactic| walk_at "vc") => `(tactic| repeat (first | refine ⟨_, rfl, ?_⟩ | refine ⟨_, _, rfl, rfl, ?_⟩ | refine ⟨_, _, rfl, ?_⟩ | refine ⟨rfl, ?_⟩))
theorem paired_perm {α β : Type} {R : α → β → Prop} {ys xs : List α} (h : ys.Perm xs) : ∀ {ds : List β}, Paired R xs ds → ∃ ds', Paired R ys ds' ∧ ds'.Perm ds := by
  induction h with
  | nil => exact fun {ds} p => ⟨ds, p, .refl _⟩
  | cons x h ih =>
    intro ds p
    cases p with
    | cons r t =>
      obtain ⟨d', h1, h2⟩ := ih t
      exact ⟨_ :: d', .cons r h1, .cons _ h2⟩
  | swap x y l =>
    intro ds p
    cases p with
    | cons r t =>
      cases t with
      | cons r2 t2 => exact ⟨_ :: _ :: _, .cons r2 (.cons r t2), .swap _ _ _⟩
  | trans h1 h2 ih1 ih2 =>
    intro ds p
    obtain ⟨d1, a1, a2⟩ := ih2 p
    obtain ⟨d2, b1, b2⟩ := ih1 a1
    exact ⟨d2, b1, b2.trans a2⟩
theorem paired_mem {α β : Type} {R : α → β → Prop} {x : α} : ∀ {xs : List α} {ds : List β}, Paired R xs ds → x ∈ xs → ∃ d ∈ ds, R x d
  | _, _, .nil, h => by cases h
  | _, _, .cons r t, h => by
    rcases List.mem_cons.mp h with rfl | h
    · exact ⟨_, List.mem_cons_self .., r⟩
    · obtain ⟨d, h1, h2⟩ := paired_mem t h
      exact ⟨d, List.mem_cons_of_mem _ h1, h2⟩
section
variable {P : Program} {w : World} {K : PySem.W.Frag} {mg : Str → Option Value} {base : Heap}
def sp__law_ties : Sp := fun vs H Q _ => ∃ F g c, ∃ n mo : Nat, vs = [.ref g, .int n, .int mo] ∧ Sub F H ∧ Gh F H g c ∧ 1 ≤ n ∧ n ≤ 12 ∧ mo ≤ 1000000 ∧ 1 ≤ mo ∧ ∀ r vs ties F' H', Ex (Sg g c) F H F' H' → Gh F' H' g c → F' r = some (.lst vs) → Paired (RTie F') vs ties → ties.length ≤ 60 → (∀ t ∈ ties, TieOk n t) → Q (.ref r) H'
theorem c__law_ties (T : Txt K mg) : C8.Cal P w K mg base 5 "_law_ties" sp__law_ties [] := by
  have c__law_draw := c__law_draw (P := P) (w := w) (base := base) T
  have c__law_mixed := c__law_mixed (P := P) (w := w) (base := base) T
  have c__law_row := c__law_row (P := P) (w := w) (base := base) T
  have c__law_pick := c__law_pick (P := P) (w := w) (base := base) T
  have c__law_tame := c__law_tame (P := P) (w := w) (base := base) T
  have c__law_ring := c__law_ring (P := P) (w := w) (base := base) T
  refine mkC T.d__law_ties scLties (fun _ _ _ _ _ _ us hl => match us, hl with | [_, _, _], _ => rfl) (fun vs H Q E h => ?_) (fun f cdv A outer s H vs Q E hr h => ?_)
  · obtain ⟨F, g, c, n, mo, rfl, _⟩ := h
    rfl
  · obtain ⟨F, g, c, n, mo, rfl, sb, hG, h1, h2, hmo, hmo1, q⟩ := h
    refine ⟨_, (pss_cons (ps_set (i := 3) scLties.nd rfl (Or.inl rfl) (C8.pe_c c__law_draw hr (by decide) (by rfl) (pa_cons (pv 0) (pa_cons pe_int pa_nil))))
    (pss_cons (ps_if (pt_cmpR op_lt (pv 3) pe_int (nomark _)) (pss_one (ps_set (i := 4) scLties.nd rfl (Or.inl rfl) (C8.pe_c c__law_row hr (by decide) (by rfl) (pa_cons (pv 0) (pa_cons (pv 1) (pa_cons (pv 2) pa_nil)))))) (pss_one (ps_if (pt_cmpR op_lt (pv 3) pe_int (nomark _)) (pss_one (ps_set (i := 4) scLties.nd rfl (Or.inl rfl) (C8.pe_c c__law_tame hr (by decide) (by rfl) (pa_cons (pv 0) (pa_cons (pv 1) (pa_cons (pv 2) (pa_cons (pe_op op_add (pv 1) (C8.pe_c c__law_draw hr (by decide) (by rfl) (pa_cons (pv 0) (pa_cons (pe_op op_mul pe_int (pv 1)) pa_nil)))) pa_nil))))))) (pss_one (ps_if (pt_cmpR op_lt (pv 3) pe_int (nomark _)) (pss_one (ps_set (i := 4) scLties.nd rfl (Or.inl rfl) (C8.pe_c c__law_ring hr (by decide) (by rfl) (pa_cons (pv 0) (pa_cons (pv 1) (pa_cons (pv 2) pa_nil)))))) (pss_cons (ps_set (i := 5) scLties.nd rfl (Or.inl rfl) (C8.pe_c c__law_tame hr (by decide) (by rfl) (pa_cons (pv 0) (pa_cons (pv 1) (pa_cons (pv 2) (pa_cons (C8.pe_c c__law_draw hr (by decide) (by rfl) (pa_cons (pv 0) (pa_cons pe_int pa_nil))) pa_nil))))))
    (pss_one (ps_setLc (i := 4) (own := [("_law_tie", 7)]) (tt := tYes) rfl scLties.nd rfl rfl (sw_true rfl rfl rfl (by decide +kernel)) (pi_list (pv 5)) (blkOk_by (N := N_Lties) (sc := defScope sLties) (by decide +kernel)) (fun _ _ _ _ _ => pg_name (i := 7) scLties.nd rfl (Or.inl rfl) (Or.inr rfl)) (fun _ _ _ _ _ => pts_nil) (fun _ _ _ _ _ => (pe_tup (pa_cons (pe_ix (kx_ix_tup K rfl) (pv 7) pe_int (fun _ _ => rfl)) (pa_cons (pe_ix (kx_ix_tup K rfl) (pv 7) pe_int (fun _ _ => rfl)) (pa_cons (pe_op op_sub (C8.pe_c c__law_draw hr (by decide) (by rfl) (pa_cons (pv 0) (pa_cons (pe_op op_add (pe_op op_mul pe_int (pv 2)) pe_int) pa_nil))) (pv 2)) pa_nil)))))))))))))
    (pss_cons (ps_if (PW.pt (pw_and (pt_cmpR (op_neD (hr.units)) (pv 4) (pe_lst pa_nil) (nomark _)) (pw_and1 (pt_cmpR op_eq (C8.pe_c c__law_draw hr (by decide) (by rfl) (pa_cons (pv 0) (pa_cons pe_int pa_nil))) pe_int (nomark _))))) (pss_cons (ps_set (i := 6) scLties.nd rfl (Or.inl rfl) (C8.pe_c c__law_pick hr (by decide) (by rfl) (pa_cons (pv 0) (pa_cons (pv 4) pa_nil))))
    (pss_one (ps_expr (pe_bm PySem.F.plainAttrs_list PySem.F.slot_list_append PySem.F.type_list_append mt_append (pv 4) (pa_cons (pe_tup (pa_cons (pe_ix ix_tup (pv 6) pe_int (fun _ _ => rfl)) (pa_cons (pe_ix ix_tup (pv 6) pe_int (fun _ _ => rfl)) (pa_cons (pe_callB (call_max2 rfl) (by rfl) T.max (by decide +kernel) (pa_cons (pe_op op_sub pe_int (pv 2)) (pa_cons (pe_op op_sub (pe_ix ix_tup (pv 6) pe_int (fun _ _ => rfl)) (C8.pe_c c__law_draw hr (by decide) (by rfl) (pa_cons (pv 0) (pa_cons pe_int pa_nil)))) pa_nil))) pa_nil)))) pa_nil))))) pss_nil)
    (pss_one (ps_ret (C8.pe_c c__law_mixed hr (by decide) (by rfl) (pa_cons (pv 0) (pa_cons (pv 4) pa_nil)))))))), ?_⟩
    walk_at "vc"
    refine ⟨F, g, c, 7, rfl, sb, hG, by omega, by omega, fun sh H1 hsh e1 gh1 => ?_⟩
    dsimp only [gName, tSeq]
    refine if_then (fun σ H5 => ∃ u5 u6 u7 F5 L vs ties, σ = [some (.ref g), some (.int (n : Nat)), some (.int (mo : Nat)), some (.int (sh : Nat)), some (.ref L), u5, u6, u7] ∧ Ex (Sg g c) F H F5 H5 ∧ Gh F5 H5 g c ∧ H L = none ∧ F5 L = none ∧ H5 L = some (.lst vs) ∧ Paired (RTie F5) vs ties ∧ ties.length ≤ 50 ∧ (∀ t ∈ ties, TieOk n t)) (fun σ H5 h => ?_) fun fin => ?_
    · obtain ⟨u5, u6, u7, F5, L, vs, ties, rfl, e5, gh5, hLo, fL5, hL5, pr5, htl5, hto5⟩ := h
      have nL := hG.ne hLo
      have hvl := Paired.length pr5
      dsimp only [tSeq]
      refine if_then (fun σ H5 => ∃ u5 u6 u7 F5 vs ties, σ = [some (.ref g), some (.int (n : Nat)), some (.int (mo : Nat)), some (.int (sh : Nat)), some (.ref L), u5, u6, u7] ∧ Ex (Sg g c) F H F5 H5 ∧ Gh F5 H5 g c ∧ F5 L = none ∧ H5 L = some (.lst vs) ∧ Paired (RTie F5) vs ties ∧ ties.length ≤ 60 ∧ (∀ t ∈ ties, TieOk n t)) (fun σ H6 h => ?_) fun fin => ?_
      · obtain ⟨u5, u6, u7, F6, vs, ties, rfl, e6, gh6, fL6, hL6, pr6, htl6, hto6⟩ := h
        have hvl := Paired.length pr6
        walk_at "vc"
        refine ⟨F6, g, c, L, vs, rfl, e6.s, gh6, hL6, nL.1, nL.2, by omega, fun p ys F7 H7 hperm e7 gh7 hp7 => ?_⟩
        obtain ⟨ties7, pr7, hpt⟩ := paired_perm hperm pr6
        exact q p ys ties7 F7 H7 (e6.trans e7) gh7 hp7 (Paired.up e7.f pr7) (by rw [hpt.length_eq]; exact htl6) fun t ht => hto6 t (hpt.mem_iff.mp ht)
      · walk_at "vc"
        refine ⟨szk (by simp), fun p6 hp6 => ?_⟩
        have e6 := e5.trans (Ex.own (o := .lst ([] : List V)) e5.s hp6 gh5.t)
        have gh6 : Gh F5 (upd H5 p6 (.lst [])) g c := gh5.put (gh5.ne hp6)
        have hL6 : upd H5 p6 (.lst []) L = some (.lst vs) := by rw [upd_ne (by rintro rfl; rw [hL5] at hp6; cases hp6)]; exact hL5
        refine ⟨_, _, dp_anyL e6.s hL6 pr5, .lst (lS upd_same) .nil, sh_ties _, shaped_lst rfl (Nat.zero_le _), ?_⟩
        generalize upd H5 p6 (.lst []) = H6 at e6 gh6 hL6
        refine ⟨_, rfl, ?_⟩
        refine ite2 (fun hc => ?_) (fun hc => ?_)
        · have hne : 1 ≤ vs.length := by
            cases ties with
            | nil => exact absurd hc (by decide)
            | cons t l => rw [hvl]; simp
          walk_at "vc"
          refine ⟨F5, g, c, 3, rfl, e6.s, gh6, by omega, by omega, fun r3 H7 hr3 e7 gh7 => ?_⟩
          have e07 := e6.trans e7
          have kL7 := e7.keepG hL6 nL.1 nL.2 fL5
          walk_at "vc"
          refine ite2 (fun hc => ?_) (fun hc => ?_)
          · walk_at "vc"
            refine ⟨F5, g, c, L, vs, rfl, e07.s, gh7, kL7.1, nL.1, nL.2, hne, by omega, fun v H8 hv e8 gh8 => ?_⟩
            have e08 := e07.trans e8
            have kL8 := e8.keepG kL7.1 nL.1 nL.2 kL7.2
            obtain ⟨⟨p1, p3, wt⟩, hmem, ⟨ta1, v1, v2, v3, rfl, hq, rfl, rfl, rfl⟩⟩ := paired_mem pr5 hv
            obtain ⟨g1, g2, g3, g4, g5⟩ := hto5 _ hmem
            have hq8 := e08.s _ _ hq
            walk_at "vc"
            refine ⟨.inl ⟨rfl, _, lS kL8.1⟩, ?_⟩
            walk_at "vc"
            refine ⟨_, _, _, _, rfl, rfl, tS hq8, (atI_nat (i := 0) (v := nv p1) rfl : _), ?_⟩
            walk_at "vc"
            refine ⟨_, _, _, _, rfl, rfl, tS hq8, (atI_nat (i := 1) (v := nv p3) rfl : _), ?_⟩
            walk_at "vc"
            refine ⟨_, _, _, _, rfl, rfl, tS hq8, (atI_nat (i := 2) (v := V.int wt) rfl : _), ?_⟩
            walk_at "vc"
            refine ⟨F5, g, c, 2, rfl, e08.s, gh8, by omega, by omega, fun r H9 hr e9 gh9 => ?_⟩
            have e09 := e08.trans e9
            have kL9 := e9.keepG kL8.1 nL.1 nL.2 kL8.2
            walk_at "vc"
            refine go_t3 (ex0 e09.s) fun p11 F11 e11 s11 hp11 => ?_
            have kL11 := e11.keep kL9.1 (fun z => z) kL9.2
            have gh11 := gh9.up e11
            have e011 := e09.then0 e11
            refine ⟨_, _, _, rfl, rfl, kL11.1, lt_sz (by omega), ?_⟩
            have hb1 : -1000000 ≤ (if wt - (r : Int) > 0 - (mo : Int) then wt - (r : Int) else 0 - (mo : Int)) ∧ (if wt - (r : Int) > 0 - (mo : Int) then wt - (r : Int) else 0 - (mo : Int)) ≤ 1000000 := by
              have g4 : -1000000 ≤ wt := g4
              have g5 : wt ≤ 1000000 := g5
              split <;> omega
            refine fin _ _ ⟨_, _, _, F11, vs ++ [.ref p11], ties ++ [(p1, p3, if wt - (r : Int) > 0 - (mo : Int) then wt - (r : Int) else 0 - (mo : Int))], rfl, e011.put (.inl hLo) kL11.2, gh11.put nL, kL11.2, upd_same, Paired.app (Paired.up s11 pr5) (.cons ⟨p11, _, _, _, rfl, hp11, rfl, rfl, rfl⟩ .nil), by rw [List.length_append]; simp; omega, fun t ht => ?_⟩
            rcases List.mem_append.mp ht with ht | ht
            · exact hto5 t ht
            · rw [List.mem_singleton] at ht
              subst ht
              exact ⟨g1, g2, g3, hb1⟩
          · exact fin _ _ ⟨_, _, _, F5, vs, ties, rfl, e07, gh7, fL5, kL7.1, pr5, by omega, hto5⟩
        · exact fin _ _ ⟨_, _, _, F5, vs, ties, rfl, e6, gh6, fL5, hL6, pr5, by omega, hto5⟩
    · walk_at "vc"
      refine ite2 (fun hc => ?_) (fun hc => ?_)
      · walk_at "vc"
        refine ⟨F, g, c, n, mo, rfl, e1.s, gh1, h1, h2, hmo, fun L vs7 ties7 F7 H7 e7 gh7 hL fL hL7 pr7 htl7 hto7 => ?_⟩
        exact fin _ _ ⟨_, _, _, F7, L, vs7, ties7, rfl, e1.trans e7, gh7, e1.old hL, fL, hL7, pr7, by omega, hto7⟩
      · walk_at "vc"
        refine ite2 (fun hc => ?_) (fun hc => ?_)
        · walk_at "vc"
          refine ⟨.inl ⟨by omega, by omega⟩, ?_⟩
          walk_at "vc"
          refine ⟨F, g, c, 2 * n, rfl, e1.s, gh1, by omega, by omega, fun r H2 hr e2 gh2 => ?_⟩
          have e02 := e1.trans e2
          walk_at "vc"
          refine ⟨F, g, c, n, mo, n + r, rfl, e02.s, gh2, h1, h2, hmo, hmo1, by omega, fun L vs7 ties7 F7 H7 e7 gh7 hL fL hL7 pr7 htl7 hto7 => ?_⟩
          exact fin _ _ ⟨_, _, _, F7, L, vs7, ties7, rfl, e02.trans e7, gh7, e02.old hL, fL, hL7, pr7, by omega, hto7⟩
        · walk_at "vc"
          refine ite2 (fun hc => ?_) (fun hc => ?_)
          · walk_at "vc"
            refine ⟨F, g, c, n, mo, rfl, e1.s, gh1, h1, h2, hmo, hmo1, fun L vs7 ties7 F7 H7 e7 gh7 hL fL hL7 pr7 htl7 hto7 => ?_⟩
            exact fin _ _ ⟨_, _, _, F7, L, vs7, ties7, rfl, e1.trans e7, gh7, e1.old hL, fL, hL7, pr7, by omega, hto7⟩
          · walk_at "vc"
            refine ⟨F, g, c, 5, rfl, e1.s, gh1, by omega, by omega, fun r H2 hr e2 gh2 => ?_⟩
            have e02 := e1.trans e2
            refine ⟨F, g, c, n, mo, r, rfl, e02.s, gh2, h1, h2, hmo, hmo1, by omega, fun L vs7 ties7 F7 H7 e7 gh7 hL fL hL7 pr7 htl7 hto7 => ?_⟩
            have e07 := e02.trans e7
            have nL := gh2.ne hL
            walk_at "vc"
            refine ⟨⟨_, lS hL7⟩, ?_⟩
            intro D2 hD2
            have hD2o : H D2 = none := e07.old hD2
            have nD2 := gh7.ne hD2
            refine lcG (R := RTR n mo) RTR.up (ds := ties7) (walk_lp pr7) e07.s gh7 hD2 (lt_sz (by omega)) (fun F H e gh => lS (e.keepG hL7 nL.1 nL.2 fL).1) (fun i t x F8 H8 H9 hd e8 gh8 y Qy Qn q1 => ?_) (fun F8 H8 ys8 e8 gh8 fD8 hDD8 pr8 => ?_)
            · obtain ⟨rfl, e9⟩ := y
              obtain ⟨⟨p1, p3, wt⟩, ez, ⟨ta1, v1, v2, v3, rfl, hq, rfl, rfl, rfl⟩⟩ := Paired.getL pr7 e9
              have ed : (p1, p3, wt) = t := by rw [hd] at ez; exact (Option.some.inj ez).symm
              subst ed
              obtain ⟨g1, g2, g3, g4, g5⟩ := hto7 _ (List.mem_of_getElem? hd)
              have hq8 := e8.s _ _ (e8.f _ _ hq)
              walk_at "vc"
              refine ⟨_, _, _, _, rfl, rfl, tS hq8, (atI_nat (i := 0) (v := nv p1) rfl : _), ?_⟩
              walk_at "vc"
              refine ⟨_, _, _, _, rfl, rfl, tS hq8, (atI_nat (i := 1) (v := nv p3) rfl : _), ?_⟩
              walk_at "vc"
              refine ⟨.inl ⟨by omega, by omega⟩, ?_⟩
              walk_at "vc"
              refine ⟨F8, g, c, 2 * mo + 1, rfl, e8.s, gh8, by omega, by omega, fun r H10 hr10 e10 gh10 => ?_⟩
              walk_at "vc"
              refine go_t3 (ex0 e10.s) fun p11 F11 e11 s11 hp11 => ?_
              exact q1 _ _ _ (e10.then0 e11) (gh10.up e11) ⟨(p1, p3, (r : Int) - mo), ⟨p11, _, _, _, rfl, hp11, rfl, rfl, rfl⟩, g1, g2, g3, by show -(mo : Int) ≤ (r : Int) - mo; omega, by show (r : Int) - mo ≤ mo; omega⟩
            · obtain ⟨ties8, pr9, htl8, hto8⟩ := pair_ties pr8
              refine fin _ _ ⟨_, _, _, F8, D2, ys8, ties8, rfl, e07.trans e8, gh8, hD2o, fD8, hDD8, pr9, by omega, fun t ht => ?_⟩
              obtain ⟨g1, g2, g3, g4, g5⟩ := hto8 t ht
              exact ⟨g1, g2, g3, by omega, by omega⟩
end
end Sa
set_option Elab.async false
set_option linter.all false
set_option maxRecDepth 100000
set_option maxHeartbeats 4000000
namespace Sa
open PySem PySem.Spec PyProof.Rows L2
local macro_rules | `(tactic| walk_at "vc") => `(tactic| repeat (first | refine ⟨_, rfl, ?_⟩ | refine ⟨_, _, rfl, rfl, ?_⟩ | refine ⟨_, _, rfl, ?_⟩ | refine ⟨rfl, ?_⟩))
section
variable {P : Program} {w : World} {K : PySem.W.Frag} {mg : Str → Option Value} {base : Heap}
def sp__law_long_ring : Sp := fun vs H Q _ => ∃ F g c, ∃ n : Nat, vs = [.ref g, .int n] ∧ Sub F H ∧ Gh F H g c ∧ 4 ≤ n ∧ n ≤ 12 ∧ ∀ r vs ties F' H', Ex (Sg g c) F H F' H' → Gh F' H' g c → F' r = some (.lst vs) → Paired (RTie F') vs ties → ties.length ≤ 60 → (∀ t ∈ ties, TieOk n t) → Q (.ref r) H'
theorem c__law_long_ring (T : Txt K mg) : C8.Cal P w K mg base 3 "_law_long_ring" sp__law_long_ring [] := by
  have c__law_mixed := c__law_mixed (P := P) (w := w) (base := base) T
  have c__law_draw := c__law_draw (P := P) (w := w) (base := base) T
  refine mkC T.d__law_long_ring scLlongring (fun _ _ _ _ _ _ us hl => match us, hl with | [_, _], _ => rfl) (fun vs H Q E h => ?_) (fun f cdv A outer s H vs Q E hr h => ?_)
  · obtain ⟨F, g, c, n, rfl, _⟩ := h
    rfl
  · obtain ⟨F, g, c, n, rfl, sb, hG, h1, h2, q⟩ := h
    refine ⟨_, (pss_cons (ps_set (i := 2) scLlongring.nd rfl (Or.inl rfl) (pe_callB (call_max2 rfl) (by rfl) T.max (by decide +kernel) (pa_cons pe_int (pa_cons (pe_op op_sub (pv 1) (C8.pe_c c__law_draw hr (by decide) (by rfl) (pa_cons (pv 0) (pa_cons pe_int pa_nil)))) pa_nil))))
    (pss_cons (ps_par3 (i := 3) (j := 4) (l := 5) (by rfl) scLlongring.nd rfl rfl rfl (by decide) (by decide) (by decide) rfl rfl rfl (pa_cons (C8.pe_c c__law_mixed hr (by decide) (by rfl) (pa_cons (pv 0) (pa_cons (pe_listRg rfl (by rfl) T.list (prg_1 (by rfl) T.range (pv 1))) pa_nil))) (pa_cons pe_int (pa_cons (pe_lst pa_nil) pa_nil))) (by rfl))
    (pss_cons (ps_for PassesOwn.never rfl (pi_range1 (by rfl) T.range (pa_cons (pv 2) pa_nil)) (pg_name (i := 6) scLlongring.nd rfl (Or.inl rfl)) (pss_cons (ps_set (i := 7) scLlongring.nd rfl (Or.inl rfl) (pe_ifExp (pt_cmpR op_lt (pv 6) (pe_op op_sub (pv 2) pe_int) (nomark _)) (pe_op op_sub (C8.pe_c c__law_draw hr (by decide) (by rfl) (pa_cons (pv 0) (pa_cons pe_int pa_nil))) pe_int) (pv 4)))
    (pss_cons (ps_expr (pe_bm PySem.F.plainAttrs_list PySem.F.slot_list_append PySem.F.type_list_append mt_append (pv 5) (pa_cons (pe_tup (pa_cons (pe_ix ix_list (pv 3) (pe_ifExp (pt_cmpR op_gt (pv 6) pe_int (nomark _)) (pe_op op_sub (pv 6) pe_int) (pe_op op_sub (pv 2) pe_int)) (fun _ _ => rfl)) (pa_cons (pe_ix ix_list (pv 3) (pv 6) (fun _ _ => rfl)) (pa_cons (pv 7) pa_nil)))) pa_nil)))
    (pss_one (ps_set (i := 4) scLlongring.nd rfl (Or.inl rfl) (pe_op op_sub (pv 4) (pv 7)))))))
    (pss_one (ps_ret (C8.pe_c c__law_mixed hr (by decide) (by rfl) (pa_cons (pv 0) (pa_cons (pv 5) pa_nil)))))))), ?_⟩
    walk_at "vc"
    refine ⟨F, g, c, 4, rfl, sb, hG, by omega, by omega, fun r0 H1 hr0 e1 gh1 => ?_⟩
    walk_at "vc"
    generalize hsz : (if (n : Int) - (r0 : Int) > 2 then (n : Int) - (r0 : Int) else 2) = sz
    obtain ⟨z, rfl, hz1, hz2⟩ : ∃ z : Nat, sz = (z : Int) ∧ 2 ≤ z ∧ z ≤ n := by
      refine ⟨sz.toNat, ?_, ?_, ?_⟩ <;> (rw [← hsz]; split <;> omega)
    clear hsz
    refine ⟨⟨by omega, by omega, by omega, by omega, by omega⟩, fun p0 hp0 => ?_⟩
    obtain ⟨e2, hp1, s1⟩ := newL (S := S0) (ex0 e1.s) (xs := rgV 0 (n : Int)) hp0
    have gh2 := gh1.up e2
    have n1 := gh2.neF hp1
    have e02 := e1.then0 e2
    generalize upd H1 p0 (.lst (rgV 0 (n : Int))) = H2 at e2 gh2 e02
    generalize upd F p0 (.lst (rgV 0 (n : Int))) = F2 at e2 gh2 e02 hp1 s1
    refine ⟨F2, g, c, p0, _, rfl, e02.s, gh2, e02.s _ _ hp1, n1.1, n1.2, by rw [rgV_length]; omega, fun p2 ys F3 H3 hperm e3 gh3 hp2 => ?_⟩
    rw [rg_nats] at hperm
    obtain ⟨od, rfl, hod⟩ := perm_nats hperm
    have ho := ord_of hod
    have e03 := e02.trans e3
    refine ⟨szk (by simp), fun L hL => ?_⟩
    have hLo : H L = none := e03.old hL
    have fL : F3 L = none := e03.s.free hL
    have nL := gh3.ne hL
    have e4 : Ex (Sg g c) F H F3 (upd H3 L (.lst [])) := e03.trans (Ex.own e03.s hL gh3.t)
    have gh4 : Gh F3 (upd H3 L (.lst [])) g c := gh3.put nL
    have hL4 : upd H3 L (.lst []) L = some (.lst ([] : List V)) := upd_same
    generalize upd H3 L (.lst []) = H4 at e4 gh4 hL4
    refine ⟨_, _, _, rfl, ?_⟩
    walk_at "vc"
    refine ⟨by omega, by omega, ?_⟩
    refine for_it (walk_r0 (n := z) (by omega)) (fun i σ H5 => ∃ u6 u7 ov F5 vs tis, σ = [some (.ref g), some (.int (n : Nat)), some (.int (z : Nat)), some (.ref p2), some (.int ov), some (.ref L), u6, u7] ∧ Ex (Sg g c) F H F5 H5 ∧ Gh F5 H5 g c ∧ F5 p2 = some (.lst (od.map nv)) ∧ F5 L = none ∧ H5 L = some (.lst vs) ∧ Paired (RTie F5) vs tis ∧ tis.length = i ∧ (∀ t ∈ tis, TieOk n t) ∧ -(1 + 4 * (i : Int)) ≤ ov ∧ ov ≤ 1 + 4 * (i : Int))
      ⟨_, _, _, F3, [], [], rfl, e4, gh4, hp2, fL, hL4, .nil, rfl, (fun t z => by cases z), by omega, by omega⟩ (fun i σ H3 _ h => trivial) (fun i x σ H5 H10 hi h y => ?_) (fun σ H5 h => ?_)
    · obtain ⟨u6, u7, ov, F5, vs, tis, rfl, e5, gh5, hp5, fL5, hL5, pr5, htl5, hto5, ho1, ho2⟩ := h
      obtain ⟨rfl, rfl⟩ := y
      dsimp only [gName, tSeq]
      refine asg_then (fun σ H6 => ∃ wt, σ = [some (.ref g), some (.int (n : Nat)), some (.int (z : Nat)), some (.ref p2), some (.int ov), some (.ref L), some (.int (i : Nat)), some (.int wt)] ∧ Ex (Sg g c) F H F5 H6 ∧ Gh F5 H6 g c ∧ H6 L = some (.lst vs) ∧ -100 ≤ wt ∧ wt ≤ 100 ∧ -(1 + 4 * ((i : Int) + 1)) ≤ ov - wt ∧ ov - wt ≤ 1 + 4 * ((i : Int) + 1)) (fun σ H6 h => ?_) fun fin => ?_
      · obtain ⟨wt, rfl, e6, gh6, hL6, hw1, hw2, hw3, hw4⟩ := h
        have hvl := Paired.length pr5
        obtain ⟨b, hb1, hb2, hb3⟩ := ho.at (i := i) (by omega)
        have hp6 := e6.s _ _ hp5
        walk_at "vc"
        refine ⟨.inl ⟨rfl, _, lS hL6⟩, ?_⟩
        walk_at "vc"
        have done : ∀ a, a < n → a ≠ b → ∀ {H7 : Hp} {p11 : Addr} {F11 : Hp}, Ex (Sg g c) F H F11 H7 → Gh F11 H7 g c → Sub F5 F11 → F11 p11 = some (.tup [nv a, nv b, .int wt]) → F11 L = none → H7 L = some (.lst vs) → ∃ u6 u7 ov' F5' vs' tis', [some (V.ref g), some (.int (n : Nat)), some (.int (z : Nat)), some (.ref p2), some (.int (ov - wt)), some (.ref L), some (.int (i : Nat)), some (.int wt)] = [some (V.ref g), some (.int (n : Nat)), some (.int (z : Nat)), some (.ref p2), some (.int ov'), some (.ref L), u6, u7] ∧ Ex (Sg g c) F H F5' (upd H7 L (.lst (vs ++ [.ref p11]))) ∧ Gh F5' (upd H7 L (.lst (vs ++ [.ref p11]))) g c ∧ F5' p2 = some (.lst (od.map nv)) ∧ F5' L = none ∧ (upd H7 L (.lst (vs ++ [.ref p11]))) L = some (.lst vs') ∧ Paired (RTie F5') vs' tis' ∧ tis'.length = i + 1 ∧ (∀ t ∈ tis', TieOk n t) ∧ -(1 + 4 * ((i + 1 : Nat) : Int)) ≤ ov' ∧ ov' ≤ 1 + 4 * ((i + 1 : Nat) : Int) := by
          intro a ha hab H7 p11 F11 e11 gh11 s11 hp11 fL11 hL11
          refine ⟨_, _, _, F11, vs ++ [.ref p11], tis ++ [(a, b, wt)], rfl, e11.put (.inl hLo) fL11, gh11.put nL, s11 _ _ hp5, fL11, upd_same, Paired.app (Paired.up s11 pr5) (.cons ⟨p11, _, _, _, rfl, hp11, rfl, rfl, rfl⟩ .nil), by rw [List.length_append, htl5]; rfl, fun t ht => ?_, by omega, by omega⟩
          rcases List.mem_append.mp ht with ht | ht
          · exact hto5 t ht
          · rw [List.mem_singleton] at ht
            subst ht
            exact ⟨ha, hb2, hab, by show -1000000 ≤ wt; omega, by show wt ≤ 1000000; omega⟩
        refine ite2 (fun hc => ?_) (fun hc => ?_)
        · have hi0 : 0 < i := by
            have := of_decide_eq_true hc
            omega
          obtain ⟨a, ha1, ha2, ha3⟩ := ho.at (i := i - 1) (by omega)
          have hab := ho.ne ha1 hb1 (by omega)
          walk_at "vc"
          refine ⟨_, _, _, _, rfl, rfl, lS hp6, atI_z (i := i - 1) (by omega) ha3, ?_⟩
          walk_at "vc"
          refine ⟨_, _, _, _, rfl, rfl, lS hp6, atI_nat hb3, ?_⟩
          walk_at "vc"
          refine go_t3 (ex0 e6.s) fun p11 F11 e11 s11 hp11 => ?_
          have kL11 := e11.keep hL6 (fun z => z) fL5
          refine ⟨_, _, _, rfl, rfl, kL11.1, lt_sz (by omega), ?_⟩
          walk_at "vc"
          exact done a ha2 hab (e6.then0 e11) (gh6.up e11) s11 hp11 kL11.2 kL11.1
        · have hi0 : i = 0 := by
            have : ¬ ((i : Int) > 0) := fun h => hc (decide_eq_true h)
            omega
          obtain ⟨a, ha1, ha2, ha3⟩ := ho.at (i := z - 1) (by omega)
          have hab := ho.ne ha1 hb1 (by omega)
          walk_at "vc"
          refine ⟨_, _, _, _, rfl, rfl, lS hp6, atI_z (i := z - 1) (by omega) ha3, ?_⟩
          walk_at "vc"
          refine ⟨_, _, _, _, rfl, rfl, lS hp6, atI_nat hb3, ?_⟩
          walk_at "vc"
          refine go_t3 (ex0 e6.s) fun p11 F11 e11 s11 hp11 => ?_
          have kL11 := e11.keep hL6 (fun z => z) fL5
          refine ⟨_, _, _, rfl, rfl, kL11.1, lt_sz (by omega), ?_⟩
          walk_at "vc"
          exact done a ha2 hab (e6.then0 e11) (gh6.up e11) s11 hp11 kL11.2 kL11.1
      · walk_at "vc"
        refine ite2 (fun hc => ?_) (fun hc => ?_)
        · walk_at "vc"
          refine ⟨F5, g, c, 9, rfl, e5.s, gh5, by omega, by omega, fun r H6 hr e6 gh6 => ?_⟩
          have kL6 := e6.keepG hL5 nL.1 nL.2 fL5
          refine ⟨_, _, rfl, rfl, ?_⟩
          exact fin _ _ ⟨(r : Int) - 4, rfl, e5.trans e6, gh6, kL6.1, by omega, by omega, by omega, by omega⟩
        · refine ⟨_, rfl, ?_⟩
          have hbv : -(1 + 4 * ((i : Int) + 1)) ≤ ov - ov ∧ ov - ov ≤ 1 + 4 * ((i : Int) + 1) := by omega
          exact fin _ _ ⟨ov, rfl, e5, gh5, hL5, by omega, by omega, by omega, by omega⟩
    · obtain ⟨u6, u7, ov, F5, vs, tis, rfl, e5, gh5, hp5, fL5, hL5, pr5, htl5, hto5, ho1, ho2⟩ := h
      have hvl := Paired.length pr5
      walk_at "vc"
      refine ⟨F5, g, c, L, vs, rfl, e5.s, gh5, hL5, nL.1, nL.2, by omega, fun p ys F7 H7 hperm e7 gh7 hp7 => ?_⟩
      obtain ⟨ties7, pr7, hpt⟩ := paired_perm hperm pr5
      exact q p ys ties7 F7 H7 (e5.trans e7) gh7 hp7 (Paired.up e7.f pr7) (by rw [hpt.length_eq]; omega) fun t ht => hto5 t (hpt.mem_iff.mp ht)
end
end Sa
set_option Elab.async false
set_option linter.all false
set_option maxRecDepth 100000
set_option maxHeartbeats 4000000
namespace Sa
open PySem PySem.Spec PyProof.Rows L2
local macro_rules | `(tactic| walk_at "vc") => `(tactic| repeat (first | refine ⟨_, rfl, ?_⟩ | refine ⟨_, _, rfl, rfl, ?_⟩ | refine ⟨_, _, rfl, ?_⟩ | refine ⟨rfl, ?_⟩))
/-- what stands in the rows is small -/
def RowsB (rr : List (List (List (Option Int)))) : Prop := ∀ ls ∈ rr, ∀ l ∈ ls, ∀ z, some z ∈ l → -30000000 ≤ z ∧ z ≤ 30000000
section
variable {P : Program} {w : World} {K : PySem.W.Frag} {mg : Str → Option Value} {base : Heap}
def sp__law_times : Sp := fun vs H Q _ => ∃ F g c vr rr, ∃ n : Nat, vs = [.ref g, vr] ∧ Sub F H ∧ Gh F H g c ∧ LAll F vr rr ∧ RowsOk n rr ∧ RowsB rr ∧ 1 ≤ n ∧ n ≤ 12 ∧ ∀ r ts F' H', Ex (Sg g c) F H F' H' → Gh F' H' g c → RRow F' r ts → ts.length = n → (∀ z, some z ∈ ts → -1000000000 ≤ z ∧ z ≤ 1000000000) → Q r H'
theorem c__law_times (T : Txt K mg) : C8.Cal P w K mg base 3 "_law_times" sp__law_times [] := by
  have c__law_pick := c__law_pick (P := P) (w := w) (base := base) T
  have c__law_mixed := c__law_mixed (P := P) (w := w) (base := base) T
  have c__law_draw := c__law_draw (P := P) (w := w) (base := base) T
  refine mkC T.d__law_times scLtimes (fun _ _ _ _ _ _ us hl => match us, hl with | [_, _], _ => rfl) (fun vs H Q E h => ?_) (fun f cdv A outer s H vs Q E hr h => ?_)
  · obtain ⟨F, g, c, vr, rr, n, rfl, _⟩ := h
    rfl
  · obtain ⟨F, g, c, vr, rr, n, rfl, sb, hG, hvr, hok, hb, h1, h2, q⟩ := h
    refine ⟨_, (pss_cons (ps_asg (pe_tup (pa_cons (pe_op op_rep (pe_lst (pa_cons pe_non pa_nil)) (pe_callB call_len (by rfl) T.len (by decide +kernel) (pa_cons (pv 1) pa_nil))) (pa_cons (C8.pe_c c__law_pick hr (by decide) (by rfl) (pa_cons (pv 0) (pa_cons (pe_lst (pa_cons pe_int (pa_cons pe_int (pa_cons pe_int (pa_cons pe_int (pa_cons (pe_callB call_len (by rfl) T.len (by decide +kernel) (pa_cons (pv 1) pa_nil)) pa_nil)))))) pa_nil))) pa_nil))) (pg_tup rfl (pgs_cons ((pg_name (i := 2) scLtimes.nd rfl (Or.inr rfl))) (pgs_cons ((pg_name (i := 3) scLtimes.nd rfl (Or.inr rfl))) pgs_nil))))
    (pss_cons (ps_for PassesOwn.never rfl (pi_list (pe_slice sl_list (C8.pe_c c__law_mixed hr (by decide) (by rfl) (pa_cons (pv 0) (pa_cons (pe_listRg rfl (by rfl) T.list (prg_1 (by rfl) T.range (pe_callB call_len (by rfl) T.len (by decide +kernel) (pa_cons (pv 1) pa_nil)))) pa_nil))) po_none (po_some (C8.pe_c c__law_draw hr (by decide) (by rfl) (pa_cons (pv 0) (pa_cons (pe_op op_add (pe_callB call_len (by rfl) T.len (by decide +kernel) (pa_cons (pv 1) pa_nil)) pe_int) pa_nil)))))) (pg_name (i := 4) scLtimes.nd rfl (Or.inr rfl)) (pss_cons (ps_setLc (i := 5) (own := [("_law_one", 7)]) rfl scLtimes.nd rfl rfl (sw_true rfl rfl rfl (by decide +kernel)) (pi_range1 (by rfl) T.range (pa_cons (pe_callB call_len (by rfl) T.len (by decide +kernel) (pa_cons (pv 1) pa_nil)) pa_nil)) (blkOk_by (N := N_Ltimes) (sc := defScope sLtimes) (by decide +kernel)) (fun _ _ _ _ _ => pg_name (i := 7) scLtimes.nd rfl (Or.inl rfl) (Or.inr rfl)) (fun _ _ _ _ _ => (pts_one (PW.pt (pw_and (pt_cmpR op_notN (pe_ix (kx_ix_list K rfl) (pv 2) (pv 7) (fun _ _ => rfl)) pe_non (nomark _)) (pw_and1 (pt_cmpR op_notN (pe_ix (kx_ix_list K rfl) (pe_ix (kx_ix_list K rfl) (pe_ix (kx_ix_list K rfl) (pv 1) (pv 7) (fun _ _ => rfl)) (pv 3) (fun _ _ => rfl)) (pv 4) (fun _ _ => rfl)) pe_non (nomark _))))))) (fun _ _ _ _ _ => (pv 7)))
    (pss_cons (ps_set (i := 6) scLtimes.nd rfl (Or.inl rfl) (pe_callB (cr_max rfl) (by rfl) T.max (by decide +kernel) (pa_cons (pe_op op_cat (pe_lc (own := [("_law_one", 7)]) (tt := tYes) rfl scLtimes.nd (pi_list (pv 5)) (blkOk_by (N := N_Ltimes) (sc := defScope sLtimes) (by decide +kernel)) (fun _ _ _ _ _ => pg_name (i := 7) scLtimes.nd rfl (Or.inl rfl) (Or.inr rfl)) (fun _ _ _ _ _ => pts_nil) (fun _ _ _ _ _ => (pe_op op_add (pe_ix (kx_ix_list K rfl) (pv 2) (pv 7) (fun _ _ => rfl)) (pe_ix (kx_ix_list K rfl) (pe_ix (kx_ix_list K rfl) (pe_ix (kx_ix_list K rfl) (pv 1) (pv 7) (fun _ _ => rfl)) (pv 3) (fun _ _ => rfl)) (pv 4) (fun _ _ => rfl))))) (pe_lst (pa_cons (pe_op op_sub pe_int (pe_op op_pow pe_int pe_int)) pa_nil))) pa_nil)))
    (pss_cons (ps_if (pt_cmpR (op_eqD (hr.units)) (pv 5) (pe_lst pa_nil) (nomark _)) (pss_one (ps_set (i := 6) scLtimes.nd rfl (Or.inl rfl) (pe_op op_sub (C8.pe_c c__law_draw hr (by decide) (by rfl) (pa_cons (pv 0) (pa_cons pe_int pa_nil))) pe_int))) pss_nil)
    (pss_one (ps_asg (pe_op op_add (pv 6) (C8.pe_c c__law_pick hr (by decide) (by rfl) (pa_cons (pv 0) (pa_cons (pe_lst (pa_cons pe_int (pa_cons pe_int (pa_cons pe_int (pa_cons pe_int (pa_cons (pe_op op_sub pe_int pe_int) (pa_cons (C8.pe_c c__law_draw hr (by decide) (by rfl) (pa_cons (pv 0) (pa_cons pe_int pa_nil))) pa_nil))))))) pa_nil)))) (pg_sub (pv 2) (pv 4) set_list)))))))
    (pss_one (ps_ret (pe_callTy call_tuple_of (by rfl) T.tuple (by decide +kernel) (pa_cons (pv 2) pa_nil)))))), ?_⟩
    have hr0 : LAll F vr rr := hvr
    obtain ⟨va, vs1, z2, zs2, z3, rfl, hva, _, _, _, _, _, yl1, _⟩ := LAll.row hok hr0 (a := 0) (m := 0) (by omega) (by omega)
    dsimp only [tSeq]
    refine asg_then (fun σ H5 => ∃ F5 L, ∃ far : Nat, σ = [some (.ref g), some (.ref va), some (.ref L), some (.int (far : Nat)), none, none, none, none] ∧ Ex (Sg g c) F H F5 H5 ∧ Gh F5 H5 g c ∧ H L = none ∧ F5 L = none ∧ H5 L = some (.lst ((List.replicate n (none : Option Int)).map ov)) ∧ far ≤ 2 * n + 2) (fun σ H5 h => ?_) fun fin => ?_
    · obtain ⟨F5, L, far, rfl, e5, gh5, hLo, fL5, hL5, hfar⟩ := h
      have nL := hG.ne hLo
      walk_at "vc"
      refine ⟨_, _, rfl, lenL' (lS (e5.fh _ _ hva)) yl1, ?_⟩
      walk_at "vc"
      refine ⟨⟨by omega, by omega, by omega, by omega, by omega⟩, fun p0 hp0 => ?_⟩
      obtain ⟨e6, hp1, s6⟩ := newL (S := S0) (ex0 e5.s) (xs := rgV 0 (n : Int)) hp0
      have gh6 := gh5.up e6
      have n1 := gh6.neF hp1
      have e06 := e5.then0 e6
      have kL6 := e6.keep hL5 (fun z => z) fL5
      generalize upd H5 p0 (.lst (rgV 0 (n : Int))) = H6 at e6 gh6 e06 kL6
      generalize upd F5 p0 (.lst (rgV 0 (n : Int))) = F6 at e6 gh6 e06 hp1 s6 kL6
      refine ⟨F6, g, c, p0, _, rfl, e06.s, gh6, e06.s _ _ hp1, n1.1, n1.2, by rw [rgV_length]; omega, fun p2 ys F7 H7 hperm e7 gh7 hp2 => ?_⟩
      rw [rg_nats] at hperm
      obtain ⟨od, rfl, hod⟩ := perm_nats hperm
      have ho := ord_of hod
      have e07 := e06.trans e7
      have kL7 := e7.keepG kL6.1 nL.1 nL.2 kL6.2
      walk_at "vc"
      refine ⟨_, _, rfl, lenL' (lS (e07.fh _ _ hva)) yl1, ?_⟩
      walk_at "vc"
      refine ⟨F7, g, c, n + 1, (by rw [show ((n + 1 : Nat) : Int) = (n : Int) + 1 by omega]; rfl), e07.s, gh7, by omega, by omega, fun r H8 hr e8 gh8 => ?_⟩
      have e08 := e07.trans e8
      have kL8 := e8.keepG kL7.1 nL.1 nL.2 kL7.2
      walk_at "vc"
      refine ⟨_, _, rfl, lS (e08.s _ _ hp2), fun p9 hp9 => ?_⟩
      have ecut : cutV (od.map nv) none (some (r : Int)) = (od.take r).map nv := by rw [cut_take, List.map_take]
      rw [ecut]
      obtain ⟨e9, hf9, s9⟩ := newL (S := S0) (ex0 e08.s) (xs := (od.take r).map nv) hp9
      obtain ⟨t1, t2, t3⟩ := sub_of_ord ho (k := r) (by omega)
      have e09 := e08.then0 e9
      have gh9 := gh8.up e9
      have kL9 := e9.keep kL8.1 (fun z => z) kL8.2
      generalize upd H8 p9 (.lst ((od.take r).map nv)) = H9 at e9 gh9 e09 kL9
      generalize upd F7 p9 (.lst ((od.take r).map nv)) = F9 at e9 gh9 e09 hf9 s9 kL9
      generalize od.take r = ws at hf9 t1 t2 t3
      walk_at "vc"
      refine ⟨⟨_, lS (e09.s _ _ hf9)⟩, ?_⟩
      refine for_it (walk_lm ws nv) (fun i σ H10 => ∃ u4 u5 u6 u7 F10 ts, σ = [some (.ref g), some (.ref va), some (.ref L), some (.int (far : Nat)), u4, u5, u6, u7] ∧ Ex (Sg g c) F H F10 H10 ∧ Gh F10 H10 g c ∧ F10 p9 = some (.lst (ws.map nv)) ∧ F10 L = none ∧ H10 L = some (.lst ((ts : List (Option Int)).map ov)) ∧ ts.length = n ∧ ∀ z, some z ∈ ts → -100000001 ≤ z ∧ z ≤ 7 + 30000003 * (i : Int))
        ⟨_, _, _, _, F9, List.replicate n none, rfl, e09, gh9, hf9, kL9.2, kL9.1, List.length_replicate, fun z hz => by have := (List.mem_replicate.mp hz).2; cases this⟩ (fun i σ H3 hi h => ?_) (fun i x σ H10 H11 hi h y => ?_) (fun σ H10 h => ?_)
      · obtain ⟨u4, u5, u6, u7, F10, ts, rfl, e10, gh10, hp10, fL10, hL10, htl, hb10⟩ := h
        exact lS (e10.s _ _ hp10)
      · obtain ⟨u4, u5, u6, u7, F10, ts, rfl, e10, gh10, hp10, fL10, hL10, htl, hb10⟩ := h
        obtain ⟨rfl, ex⟩ := y
        obtain ⟨w0, hw0, rfl⟩ := map_get ex
        have hwn : w0 < n := t3 w0 (List.mem_of_getElem? hw0)
        have hr10 : LAll H11 (.ref va) rr := Mono.up (r := LAll) (fun a o h => e10.fh a o h) hvr
        have hrow : ∀ {H : Hp}, LAll H (.ref va) rr → ∀ {a : Nat}, a < n → ∃ vs1 a2 vs2 a3, H va = some (.lst vs1) ∧ atI vs1 (a : Int) = some (.ref a2) ∧ H a2 = some (.lst vs2) ∧ atI vs2 (far : Int) = some (.ref a3) ∧ H a3 = some (.lst (((rr.getD a []).getD far []).map ov)) ∧ ((rr.getD a []).getD far []).length = n := by
          intro H h a ha
          obtain ⟨v1, vs1', a2, vs2, a3, e0, g1, g2, g3, g4, g5, g6, _⟩ := LAll.row hok h ha hfar
          cases e0
          exact ⟨vs1', a2, vs2, a3, g1, g2, g3, g4, g5, g6⟩
        walk_at "vc"
        refine ⟨_, _, rfl, lenL' (lS (e10.fh _ _ hva)) yl1, ?_⟩
        walk_at "vc"
        refine ⟨by omega, by omega, ?_⟩
        intro D hD
        refine lcX (re := Rn) (ds := List.range n) (walk_rg (by omega)) e10.s (fun b z => False.elim z) hD (lt_sz (by simp; omega)) (fun a => (ts.getD a none).isSome && (cellL rr a far w0).isSome) id (S := S0) (fun F1 H1 e => trivial) (fun j d x F11 H11 H12 hd e y Qy Qn q1 q2 => ?_) (fun F11 H11 ys11 e11 fD11 hDD11 pr11 => ?_)
        · obtain ⟨rfl, rfl⟩ := y
          obtain ⟨rfl, hi⟩ := range_get hd
          obtain ⟨vs1, a2, vs2, a3, g1, g2, g3, g4, g5, g6⟩ := hrow (Mono.up (r := LAll) (fun a o h => e.k a o (fun z => z) h) hr10) hi
          have hLd := e.k _ _ (fun z => z) hL10
          walk_at "vc"
          refine ⟨_, _, _, _, rfl, rfl, lS hLd, atI_cell htl hi, ?_⟩
          walk_at "vc"
          cases hx : ts.getD d none with
          | none =>
            refine ifF (by show ¬ ((!decide (V.non = V.non)) = true); simp) ?_
            refine ifF (by simp) ?_
            exact q2 (by rw [hx]; rfl) _ _ (Ex.refl e.s (fun b z => False.elim z))
          | some x =>
            refine ifT rfl ?_
            walk_at "vc"
            refine ⟨_, _, _, _, rfl, rfl, lS g1, g2, ?_⟩
            walk_at "vc"
            refine ⟨_, _, _, _, rfl, rfl, lS g3, g4, ?_⟩
            walk_at "vc"
            refine ⟨_, _, _, _, rfl, rfl, lS g5, atI_cell g6 hwn, ?_⟩
            walk_at "vc"
            have hcell : cellL rr d far w0 = ((rr.getD d []).getD far []).getD w0 none := rfl
            cases hy : ((rr.getD d []).getD far []).getD w0 none with
            | none =>
              refine ifF (by show ¬ ((!decide (V.non = V.non)) = true); simp) ?_
              exact q2 (by rw [hx, hcell, hy]; rfl) _ _ (Ex.refl e.s (fun b z => False.elim z))
            | some z =>
              refine ifT rfl ?_
              exact ⟨_, rfl, q1 (by rw [hx, hcell, hy]; rfl) _ _ _ (Ex.refl e.s (fun b z => False.elim z)) rfl⟩
        · have hs2 : ∀ a ∈ (List.range n).filter (fun a => (ts.getD a none).isSome && (cellL rr a far w0).isSome), a < n ∧ ∃ x y, ts.getD a none = some x ∧ cellL rr a far w0 = some y := by
            intro a ha
            obtain ⟨h1, h2⟩ := List.mem_filter.mp ha
            rw [Bool.and_eq_true, Option.isSome_iff_exists, Option.isSome_iff_exists] at h2
            obtain ⟨⟨x, hx⟩, y, hy⟩ := h2
            exact ⟨List.mem_range.mp h1, x, y, hx, hy⟩
          rw [List.map_id] at pr11
          have hsl : ((List.range n).filter (fun a => (ts.getD a none).isSome && (cellL rr a far w0).isSome)).length ≤ 12 := Nat.le_trans (List.length_filter_le _ _) (by rw [List.length_range]; exact h2)
          generalize (List.range n).filter (fun a => (ts.getD a none).isSome && (cellL rr a far w0).isSome) = sd at hs2 pr11 hsl
          have ew := paired_nats pr11
          subst ew
          have kL11 := e11.keep hL10 (fun z => z) fL10
          have gh11 := gh10.up e11
          have e011 := e10.then0 e11
          have hr11 : LAll H11 (.ref va) rr := Mono.up (r := LAll) (fun a o h => e011.fh a o h) hvr
          dsimp only [gName, tSeq]
          refine asg_then (fun σ H12 => ∃ u7 F12, ∃ tm : Int, σ = [some (.ref g), some (.ref va), some (.ref L), some (.int (far : Nat)), some (nv w0), some (.ref D), some (.int tm), u7] ∧ Ex (Sg g c) F H F12 H12 ∧ Gh F12 H12 g c ∧ F12 p9 = some (.lst (ws.map nv)) ∧ F12 L = none ∧ H12 L = some (.lst (ts.map ov)) ∧ F12 D = none ∧ H12 D = some (.lst (sd.map nv)) ∧ -100000000 ≤ tm ∧ (tm ≤ 7 + 30000003 * (i : Int) + 30000000)) (fun σ H12 h => ?_) fun fin => ?_
          · obtain ⟨u7, F12, tm, rfl, e12, gh12, hp12, fL12, hL12, fD12, hD12, htm1, htm2⟩ := h
            have nD := hG.ne (show H D = none from e10.old hD)
            have hDL : D ≠ L := by rintro rfl; rw [hL10] at hD; cases hD
            dsimp only [gName, tSeq]
            refine if_then (fun σ H12 => ∃ u7 F12, ∃ tm : Int, σ = [some (.ref g), some (.ref va), some (.ref L), some (.int (far : Nat)), some (nv w0), some (.ref D), some (.int tm), u7] ∧ Ex (Sg g c) F H F12 H12 ∧ Gh F12 H12 g c ∧ F12 p9 = some (.lst (ws.map nv)) ∧ F12 L = none ∧ H12 L = some (.lst (ts.map ov)) ∧ -100000000 ≤ tm ∧ (tm ≤ 7 + 30000003 * (i : Int) + 30000000)) (fun σ H13 h => ?_) fun fin => ?_
            · obtain ⟨u7, F12, tm, rfl, e12, gh12, hp12, fL12, hL12, htm1, htm2⟩ := h
              walk_at "vc"
              refine ⟨F12, g, c, 4, rfl, e12.s, gh12, by omega, by omega, fun r2 H14 hr2 e14 gh14 => ?_⟩
              have e014 := e12.trans e14
              have kL14 := e14.keepG hL12 nL.1 nL.2 fL12
              refine go_lst (xs := [V.int 0, V.int 0, V.int 0, V.int 1, V.int (0 - 1), V.int (r2 : Nat)]) (ex0 e014.s) (szk (by simp)) fun p15 F15 e15 s15 hp15 => ?_
              have gh15 := gh14.up e15
              have e015 := e014.then0 e15
              have n15 := gh15.neF hp15
              have kL15 := e15.keep kL14.1 (fun z => z) kL14.2
              refine ⟨F15, g, c, p15, _, rfl, e015.s, gh15, e015.s _ _ hp15, n15.1, n15.2, by simp, by simp, fun v H16 hv e16 gh16 => ?_⟩
              obtain ⟨pk, rfl, hk1, hk2⟩ : ∃ pk : Int, v = .int pk ∧ -1 ≤ pk ∧ pk ≤ 3 := by
                simp at hv
                rcases hv with rfl | rfl | rfl | rfl
                · exact ⟨_, rfl, by omega, by omega⟩
                · exact ⟨_, rfl, by omega, by omega⟩
                · exact ⟨_, rfl, by omega, by omega⟩
                · exact ⟨_, rfl, by omega, by omega⟩
              have e016 := e015.trans e16
              have kL16 := e16.keepG kL15.1 nL.1 nL.2 kL15.2
              walk_at "vc"
              refine ⟨_, _, _, w0, rfl, rfl, kL16.1, ixN_nat (by rw [List.length_map]; omega), ?_⟩
              refine ⟨_, _, _, _, F15, ts.set w0 (some (tm + pk)), rfl, e016.put (.inl hLo) kL16.2, gh16.put nL, s15 _ _ hp12, kL16.2, by rw [upd_same, List.map_set]; rfl, by rw [List.length_set]; exact htl, fun z hz => ?_⟩
              rcases List.mem_or_eq_of_mem_set hz with hz | hz
              · have := hb10 z hz
                omega
              · have hz := Option.some.inj hz
                omega
            · walk_at "vc"
              refine ⟨szk (by simp), fun p13 hp13 => ?_⟩
              have e13 := e12.trans (Ex.own (o := .lst ([] : List V)) e12.s hp13 gh12.t)
              have gh13 : Gh F12 (upd H12 p13 (.lst [])) g c := gh12.put (gh12.ne hp13)
              have hL13 : upd H12 p13 (.lst []) L = some (.lst (ts.map ov)) := by rw [upd_ne (by rintro rfl; rw [hL12] at hp13; cases hp13)]; exact hL12
              have hD13 : upd H12 p13 (.lst []) D = some (.lst (sd.map nv)) := by rw [upd_ne (by rintro rfl; rw [hD12] at hp13; cases hp13)]; exact hD12
              refine ⟨_, _, dp_lnats hD13, .lst (lS upd_same) .nil, shaped_lst (canLayAll_map _ (fun _ => rfl) sd) (Nat.le_trans (depthAll_map _ 0 (fun _ => Nat.le_refl _) sd) (by omega)), shaped_lst rfl (Nat.zero_le _), ?_⟩
              generalize upd H12 p13 (.lst []) = H13 at e13 gh13 hL13
              refine ⟨_, rfl, ?_⟩
              refine ite2 (fun hc => ?_) (fun hc => ?_)
              · refine ⟨_, rfl, ?_⟩
                refine ⟨F12, g, c, 9, rfl, e13.s, gh13, by omega, by omega, fun r H14 hr e14 gh14 => ?_⟩
                have kL14 := e14.keepG hL13 nL.1 nL.2 fL12
                refine ⟨_, _, rfl, rfl, ?_⟩
                exact fin _ _ ⟨_, F12, (r : Int) - 4, rfl, e13.trans e14, gh14, hp12, fL12, kL14.1, by omega, by omega⟩
              · exact fin _ _ ⟨_, F12, tm, rfl, e13, gh13, hp12, fL12, hL13, htm1, htm2⟩
          · walk_at "vc"
            refine ⟨⟨_, lS hDD11⟩, ?_⟩
            intro D3 hD3
            refine lcX (re := Ri) (ds := sd) (walk_lm sd nv) e011.s (fun b z => False.elim z) hD3 (lt_sz (by omega)) (fun _ => true) (fun a => (ts.getD a none).getD 0 + (cellL rr a far w0).getD 0) (S := S0) (fun F1 H1 e => lS (e.k _ _ (fun z => z) hDD11)) (fun j d x F12 H12 H13 hd e y Qy Qn q1 q2 => ?_) (fun F12 H12 ys12 e12 fD12 hDD12 pr12 => ?_)
            · obtain ⟨rfl, ex2⟩ := y
              obtain ⟨a0, ez, rfl⟩ := map_get ex2
              have ed : a0 = d := by rw [hd] at ez; exact (Option.some.inj ez).symm
              subst ed
              obtain ⟨hi, x1, y1, hx1, hy1⟩ := hs2 a0 (List.mem_of_getElem? hd)
              obtain ⟨vs1, a2, vs2, a3, g1, g2, g3, g4, g5, g6⟩ := hrow (Mono.up (r := LAll) (fun a o h => e.k a o (fun z => z) h) hr11) hi
              have hLd := e.k _ _ (fun z => z) kL11.1
              have hcell : ((rr.getD a0 []).getD far []).getD w0 none = some y1 := hy1
              have hA1 : atI (ts.map ov) (a0 : Int) = some (V.int x1) := by rw [atI_cell htl hi, hx1]; rfl
              have hA2 := atI_cell g6 hwn
              rw [hcell] at hA2
              have hA3 : atI (((rr.getD a0 []).getD far []).map ov) (w0 : Int) = some (V.int y1) := hA2
              walk_at "vc"
              refine ⟨_, _, _, _, rfl, rfl, lS hLd, hA1, ?_⟩
              walk_at "vc"
              refine ⟨_, _, _, _, rfl, rfl, lS g1, g2, ?_⟩
              walk_at "vc"
              refine ⟨_, _, _, _, rfl, rfl, lS g3, g4, ?_⟩
              walk_at "vc"
              refine ⟨_, _, _, _, rfl, rfl, lS g5, hA3, ?_⟩
              refine ⟨_, _, rfl, rfl, ?_⟩
              exact q1 rfl _ _ _ (Ex.refl e.s (fun b z => False.elim z)) (by rw [hx1, hy1]; rfl)
            · rw [filter_tt'] at pr12
              have ew := paired_ints pr12
              subst ew
              have kL12 := e12.keep kL11.1 (fun z => z) kL11.2
              have kD12 := e12.keep hDD11 (fun z => z) fD11
              have gh12 := gh11.up e12
              have e012 := e011.then0 e12
              have hzs : ∀ z ∈ sd.map (fun a => (ts.getD a none).getD 0 + (cellL rr a far w0).getD 0), z ≤ 7 + 30000003 * (i : Int) + 30000000 := by
                intro z hz
                obtain ⟨a, ha, rfl⟩ := List.mem_map.mp hz
                obtain ⟨hi, x1, y1, hx1, hy1⟩ := hs2 a ha
                rw [hx1, hy1]
                have b1 := hb10 x1 (by rw [← hx1]; exact List.mem_of_getElem? (getD_getG (d := none) (by omega)))
                have hra : rr.getD a [] ∈ rr := List.mem_of_getElem? (getD_getG (d := []) (by rw [hok.len]; exact hi))
                have hrl := hok.rows _ hra
                have hrb : (rr.getD a []).getD far [] ∈ rr.getD a [] := List.mem_of_getElem? (getD_getG (d := []) (by omega))
                have hrl2 := hrl.2 _ hrb
                have b2 := hb _ hra _ hrb y1 (by rw [← (show ((rr.getD a []).getD far []).getD w0 none = some y1 from hy1)]; exact List.mem_of_getElem? (getD_getG (d := none) (by omega)))
                show x1 + y1 ≤ _
                omega
              have hzl : (sd.map (fun a => (ts.getD a none).getD 0 + (cellL rr a far w0).getD 0)).length ≤ 12 := by rw [List.length_map]; exact hsl
              generalize sd.map (fun a => (ts.getD a none).getD 0 + (cellL rr a far w0).getD 0) = zs at hzs hzl hDD12
              walk_at "vc"
              refine ⟨⟨by omega, by omega, by decide⟩, ?_⟩
              walk_at "vc"
              refine ⟨szk (by simp), fun p14 hp14 => ?_⟩
              have e14 : Ex S0 F12 H12 F12 (upd H12 p14 (.lst [V.int (0 - (10 : Int) ^ (8 : Int).toNat)])) := Ex.own e012.s hp14 (fun b z => False.elim z)
              have gh14 := gh12.up e14
              have e014 := e012.then0 e14
              have kL14 := e14.keep kL12.1 (fun z => z) kL12.2
              have kD14 := e14.keep kD12.1 (fun z => z) kD12.2
              have hD314 := (e14.keep hDD12 (fun z => z) fD12).1
              have hp14' : upd H12 p14 (.lst [V.int (0 - (10 : Int) ^ (8 : Int).toNat)]) p14 = some (.lst [V.int (0 - (10 : Int) ^ (8 : Int).toNat)]) := upd_same
              generalize upd H12 p14 (.lst [V.int (0 - (10 : Int) ^ (8 : Int).toNat)]) = H14 at e14 gh14 e014 kL14 kD14 hD314 hp14'
              refine ⟨_, _, _, _, rfl, rfl, hD314, hp14', szk (by simp; omega), fun p15 hp15 => ?_⟩
              have e15 : Ex S0 F12 H14 F12 (upd H14 p15 (.lst (zs.map V.int ++ [V.int (0 - (10 : Int) ^ (8 : Int).toNat)]))) := Ex.own e014.s hp15 (fun b z => False.elim z)
              have gh15 := gh14.up e15
              have e015 := e014.then0 e15
              have kL15 := e15.keep kL14.1 (fun z => z) kL14.2
              have kD15 := e15.keep kD14.1 (fun z => z) kD14.2
              refine ⟨p15, zs ++ [(0 - (10 : Int) ^ (8 : Int).toNat)], rfl, lS (by rw [List.map_append]; exact upd_same), by simp, fun m hm hle => ?_⟩
              have hm8 : (10 : Int) ^ (8 : Int).toNat = 100000000 := by decide
              have hlo := hle (0 - (10 : Int) ^ (8 : Int).toNat) (by simp)
              refine fin _ _ ⟨_, F12, m, rfl, e015, gh15, e12.f _ _ (e11.f _ _ hp10), kL15.2, kL15.1, kD15.2, kD15.1, by omega, ?_⟩
              rcases List.mem_append.mp hm with hm | hm
              · exact hzs m hm
              · rw [List.mem_singleton] at hm
                omega
      · obtain ⟨u4, u5, u6, u7, F10, ts, rfl, e10, gh10, hp10, fL10, hL10, htl, hb10⟩ := h
        walk_at "vc"
        refine ⟨_, _, rfl, .inl ⟨lS hL10, fun p hp => ?_⟩⟩
        obtain ⟨e11, hf11, s11⟩ := newT (S := S0) (ex0 e10.s) (xs := ts.map ov) hp
        have hwl : ws.length ≤ 12 := by omega
        exact q _ ts _ _ (e10.then0 e11) (gh10.up e11) ⟨p, _, rfl, hf11, paired_of ov (fun _ => ov_ro _) ts⟩ htl (fun z hz => by have := hb10 z hz; omega)
    · refine ⟨szk (by simp), fun p1 hp1 => ?_⟩
      have e1 : Ex S0 F H F (upd H p1 (.lst [V.non])) := Ex.own sb hp1 (fun b z => False.elim z)
      have gh1 := hG.up e1
      have h1p : upd H p1 (.lst [V.non]) p1 = some (.lst [V.non]) := upd_same
      generalize upd H p1 (.lst [V.non]) = H1 at e1 gh1 h1p
      walk_at "vc"
      refine ⟨_, _, rfl, lenL' (lS (e1.s _ _ hva)) yl1, ?_⟩
      refine ⟨p1, n, _, rfl, rfl, h1p, by omega, by omega, szk (by simp; omega), fun L hL => ?_⟩
      have hrep : (List.replicate ((n : Int)).toNat [V.non]).flatten = (List.replicate n (none : Option Int)).map ov := by
        rw [Int.toNat_natCast]
        have : ∀ k : Nat, (List.replicate k [V.non]).flatten = (List.replicate k (none : Option Int)).map ov := by
          intro k
          induction k with
          | zero => rfl
          | succ k ih => rw [List.replicate_succ, List.replicate_succ, List.flatten_cons, List.map_cons, ih]; rfl
        exact this n
      rw [hrep]
      have hLo : H L = none := e1.old hL
      have fL : F L = none := sb.free hLo
      have nL := hG.ne hLo
      have e2 : Ex S0 F H F (upd H1 L (.lst ((List.replicate n (none : Option Int)).map ov))) := e1.trans (Ex.own e1.s hL (fun b z => False.elim z))
      have gh2 := gh1.put (o := .lst ((List.replicate n (none : Option Int)).map ov)) nL
      have hL2 : upd H1 L (.lst ((List.replicate n (none : Option Int)).map ov)) L = some (.lst ((List.replicate n (none : Option Int)).map ov)) := upd_same
      generalize upd H1 L (.lst ((List.replicate n (none : Option Int)).map ov)) = H2 at e2 gh2 hL2
      walk_at "vc"
      refine ⟨_, _, rfl, lenL' (lS (e2.s _ _ hva)) yl1, ?_⟩
      refine go_lst (xs := [V.int 1, V.int 1, V.int 2, V.int 3, V.int (n : Nat)]) (ex0 e2.s) (szk (by simp)) fun p3 F3 e3 s3 hp3 => ?_
      have e03 := (e2.trans e3).toG hG
      have gh3 := gh2.up e3
      have n3 := gh3.neF hp3
      have kL3 := e3.keep hL2 (fun z => z) fL
      refine ⟨F3, g, c, p3, _, rfl, e03.s, gh3, e03.s _ _ hp3, n3.1, n3.2, by simp, by simp, fun v H4 hv e4 gh4 => ?_⟩
      obtain ⟨far, rfl, hfar⟩ : ∃ far : Nat, v = .int (far : Int) ∧ far ≤ 2 * n + 2 := by
        simp at hv
        rcases hv with rfl | rfl | rfl | rfl
        · exact ⟨1, rfl, by omega⟩
        · exact ⟨2, rfl, by omega⟩
        · exact ⟨3, rfl, by omega⟩
        · exact ⟨n, rfl, by omega⟩
      have kL4 := e4.keepG kL3.1 nL.1 nL.2 kL3.2
      have e04 := e03.trans e4
      refine go_t2 (ex0 e04.s) fun p5 F5 e5 s5 hp5 => ?_
      have kL5 := e5.keep kL4.1 (fun z => z) kL4.2
      refine ⟨_, _, rfl, tS (e5.s _ _ hp5), rfl, ?_⟩
      refine ⟨_, _, rfl, ?_⟩
      refine ⟨_, _, rfl, ?_⟩
      refine ⟨rfl, ?_⟩
      exact fin _ _ ⟨F5, L, far, rfl, e04.then0 e5, gh4.up e5, hLo, kL5.2, kL5.1, hfar⟩
end
end Sa
set_option Elab.async false
set_option linter.all false
set_option maxRecDepth 100000
set_option maxHeartbeats 4000000
namespace Sa
open PySem PySem.Spec PyProof.Rows L2
local macro_rules | `(tactic| walk_at "vc") => `(tactic| repeat (first | refine ⟨_, rfl, ?_⟩ | refine ⟨_, _, rfl, rfl, ?_⟩ | refine ⟨_, _, rfl, ?_⟩ | refine ⟨rfl, ?_⟩))
section
variable {P : Program} {w : World} {K : PySem.W.Frag} {mg : Str → Option Value} {base : Heap}
theorem go_slk {K : PySem.W.Frag} {S : Addr → Prop} {F H F1 H1 : Hp} {Q : VK} {a : Addr} {n k : Nat} {z : Int} {x : V} (e : Ex S F H F1 H1) (ha : F1 a = some (.tup (List.replicate n x))) (hz : z = (k : Int)) (hk : 1 ≤ k) (hn : 1 ≤ n) (q : ∀ p F' H', Ex S F H F' H' → Sub F1 F' → F' p = some (.tup (List.replicate (n - k) x)) → Q (.ref p) H') : rSlA K (.ref a) (some z) none H1 Q := by
  subst hz
  refine ⟨a, _, rfl, tS (e.s _ _ ha), fun h => ?_, fun _ p hp => ?_⟩
  · have h1 := h.1
    rw [HT.sIx_nat, List.length_replicate] at h1
    omega
  · have hc : cutV (List.replicate n x) (some (k : Int)) none = List.replicate (n - k) x := by
      unfold cutV
      rw [HT.sIx_none, HT.sIx_nat, List.length_replicate, List.drop_replicate, List.take_replicate]
      congr 1
      omega
    rw [hc]
    exact let z := newT e (p := p) (xs := List.replicate (n - k) x) hp; q p _ _ z.1 z.2.2 z.2.1
/-- a value that is refused as times, and the place told -/
def RBadT (n : Nat) : Rp Unit := fun F v _ => ∃ p vv at_, v = .ref p ∧ F p = some (.tup [vv, .int at_]) ∧ BadT F vv n at_
theorem RBadT.up {n : Nat} {F F' : Hp} {v : V} {u : Unit} (e : Sub F F') (h : RBadT n F v u) : RBadT n F' v u := by
  obtain ⟨p, vv, at_, h1, h2, h3⟩ := h
  exact ⟨p, vv, at_, h1, e _ _ h2, h3.up e⟩
instance {n : Nat} : Mono (RBadT n) := ⟨fun e h => RBadT.up e h⟩
theorem bad_last {F : Hp} {p : Addr} {n : Nat} {v : V} {k : Kd} (h : F p = some (.tup (List.replicate (n - 1) V.non ++ [v]))) (hn : 1 ≤ n) (hk : KdOf F v k) (h1 : v ≠ .non) (h2 : isTime v = false) : BadT F (.ref p) n ((n : Int) - 1) :=
  .inr (.inr ⟨p, _, n - 1, v, k, rfl, h, by simp; omega, by omega, by rw [List.getElem?_append_right (by simp)]; simp, hk, h1, h2, fun j hj => by rw [List.getElem?_append_left (by simp; omega), List.getElem?_replicate, if_pos (by omega)]⟩)
theorem bad_first {F : Hp} {p : Addr} {n : Nat} {v : V} {xs : List V} {k : Kd} (h : F p = some (.tup (v :: xs))) (hl : (v :: xs).length = n) (hk : KdOf F v k) (h1 : v ≠ .non) (h2 : isTime v = false) : BadT F (.ref p) n 0 :=
  .inr (.inr ⟨p, _, 0, v, k, rfl, h, hl, rfl, rfl, hk, h1, h2, fun j hj => by omega⟩)
def sp__law_bad_times : Sp := fun vs H Q _ => ∃ F, ∃ n : Nat, vs = [.int n] ∧ Sub F H ∧ 1 ≤ n ∧ n ≤ 12 ∧ ∀ r vs us F' H', Ex S0 F H F' H' → F' r = some (.lst vs) → Paired (RBadT n F') vs us → us.length ≤ 20 → Q (.ref r) H'
theorem c__law_bad_times (T : Txt K mg) : C8.Cal P w K mg base 1 "_law_bad_times" sp__law_bad_times [] := by
  refine mkC T.d__law_bad_times scLbadtimes (fun _ _ _ _ _ _ us hl => match us, hl with | [_], _ => rfl) (fun vs H Q E h => ?_) (fun f cdv A outer s H vs Q E hr h => ?_)
  · obtain ⟨F, n, rfl, _⟩ := h
    rfl
  · obtain ⟨F, n, rfl, sb, h1, h2, q⟩ := h
    refine ⟨_, (pss_cons (ps_set (i := 1) scLbadtimes.nd rfl (Or.inl rfl) (pe_op op_repA (pe_tup (pa_cons pe_non pa_nil)) (pv 0)))
    (pss_cons (ps_set (i := 2) scLbadtimes.nd rfl (Or.inl rfl) (pe_lst (pa_cons (pe_tup (pa_cons (pe_callTy call_list_of (by rfl) T.list (by decide +kernel) (pa_cons (pv 1) pa_nil)) (pa_cons (pe_op op_sub pe_int pe_int) pa_nil))) (pa_cons (pe_tup (pa_cons (pe_op op_catA (pv 1) (pe_tup (pa_cons pe_int pa_nil))) (pa_cons (pe_op op_sub pe_int pe_int) pa_nil))) (pa_cons (pe_tup (pa_cons (pe_slice sl_tupA (pv 1) (po_some pe_int) po_none) (pa_cons (pe_op op_sub pe_int pe_int) pa_nil))) (pa_cons (pe_tup (pa_cons pe_non (pa_cons (pe_op op_sub pe_int pe_int) pa_nil))) (pa_cons (pe_tup (pa_cons pe_int (pa_cons (pe_op op_sub pe_int pe_int) pa_nil))) pa_nil)))))))
    (pss_cons (ps_set (i := 2) scLbadtimes.nd rfl (Or.inl rfl) (pe_op op_cat (pv 2) (pe_lst (pa_cons (pe_tup (pa_cons (pe_op op_catA (pe_slice sl_tupA (pv 1) (po_some pe_int) po_none) (pe_tup (pa_cons pe_bl pa_nil))) (pa_cons (pe_op op_sub (pv 0) pe_int) pa_nil))) (pa_cons (pe_tup (pa_cons (pe_op op_catA (pe_tup (pa_cons pe_str pa_nil)) (pe_slice sl_tupA (pv 1) (po_some pe_int) po_none)) (pa_cons pe_int pa_nil))) (pa_cons (pe_tup (pa_cons (pe_op op_catA (pe_slice sl_tupA (pv 1) (po_some pe_int) po_none) (pe_tup (pa_cons (pe_op op_add (pe_op op_pow pe_int pe_int) pe_int) pa_nil))) (pa_cons (pe_op op_sub (pv 0) pe_int) pa_nil))) pa_nil))))))
    (pss_one (ps_ret (pe_op op_cat (pv 2) (pe_slice sl_list (pe_lst (pa_cons (pe_tup (pa_cons (pe_op op_catA (pe_tup (pa_cons (pe_op op_sub (pe_op op_sub pe_int (pe_op op_pow pe_int pe_int)) pe_int) pa_nil)) (pe_slice sl_tupA (pv 1) (po_some pe_int) po_none)) (pa_cons pe_int pa_nil))) (pa_cons (pe_tup (pa_cons (pe_op op_catA (pe_op op_catA (pe_tup (pa_cons (pe_tup (pa_cons pe_int pa_nil)) pa_nil)) (pe_slice sl_tupA (pv 1) (po_some pe_int) po_none)) (pe_tup (pa_cons pe_bl pa_nil))) (pa_cons pe_int pa_nil))) pa_nil))) po_none (po_some (pe_op op_add pe_int (pe_callTy call_int1 (by rfl) T.int (by decide +kernel) (pa_cons (pe_cmpR op_gt (pv 0) pe_int (nomark _)) pa_nil))))))))))), ?_⟩
    walk_at "vc"
    refine go_t1 (ex0 sb) fun a1 F1 e1 s1 ha1 => ?_
    walk_at "vc"
    refine go_rep' (k := n) e1 ha1 rfl (by omega) fun N F2 H2 e2 s2 hN => ?_
    dsimp only [gName, tSeq]
    refine asg_then (fun σ H5 => ∃ F5 L vs us, σ = [some (.int (n : Nat)), some (.ref N), some (.ref L)] ∧ Ex S0 F H F5 H5 ∧ Sub F2 F5 ∧ F5 L = some (.lst vs) ∧ Paired (RBadT n F5) vs us ∧ us.length = 5) (fun σ H5 h => ?_) fun fin => ?_
    · obtain ⟨F5, L, vs, us, rfl, e5, s5, hL, pr5, hul⟩ := h
      have hN := s5 _ _ hN
      walk_at "vc"
      dsimp only [tNoPart]
      refine go_slk (k := 1) e5 hN rfl (by omega) h1 fun p6 F6 H6 e6 s6 h6 => ?_
      walk_at "vc"
      refine go_t1 e6 fun p7 F7 e7 s7 h7 => ?_
      refine go_cat e7 (s7 _ _ h6) h7 (szk (by simp; omega)) fun p8 F8 H8 e8 s8 h8 => ?_
      walk_at "vc"
      refine go_t2 e8 fun p9 F9 e9 s9 h9 => ?_
      have b1 : RBadT n F9 (.ref p9) () := ⟨p9, _, _, rfl, h9, bad_last (k := .bl) (s9 _ _ h8) h1 ⟨_, rfl⟩ (by simp) rfl⟩
      have hN := s9 _ _ (s8 _ _ (s7 _ _ (s6 _ _ hN)))
      walk_at "vc"
      refine go_t1 e9 fun p10 F10 e10 s10 h10 => ?_
      have hN := s10 _ _ hN
      walk_at "vc"
      dsimp only [tNoPart]
      refine go_slk (k := 1) e10 hN rfl (by omega) h1 fun p11 F11 H11 e11 s11 h11 => ?_
      have hN := s11 _ _ hN
      refine go_cat e11 (s11 _ _ h10) h11 (szk (by simp; omega)) fun p12 F12 H12 e12 s12 h12 => ?_
      have hN := s12 _ _ hN
      walk_at "vc"
      refine go_t2 e12 fun p13 F13 e13 s13 h13 => ?_
      have hN := s13 _ _ hN
      have b2 : RBadT n F13 (.ref p13) () := ⟨p13, _, _, rfl, h13, bad_first (k := .str) (s13 _ _ h12) (by simp; omega) ⟨_, rfl⟩ (by simp) rfl⟩
      walk_at "vc"
      dsimp only [tNoPart]
      refine go_slk (k := 1) e13 hN rfl (by omega) h1 fun p14 F14 H14 e14 s14 h14 => ?_
      have hN := s14 _ _ hN
      walk_at "vc"
      refine ⟨⟨by omega, by omega, by decide⟩, ?_⟩
      walk_at "vc"
      refine go_t1 e14 fun p15 F15 e15 s15 h15 => ?_
      have hN := s15 _ _ hN
      refine go_cat e15 (s15 _ _ h14) h15 (szk (by simp; omega)) fun p16 F16 H16 e16 s16 h16 => ?_
      have hN := s16 _ _ hN
      walk_at "vc"
      refine go_t2 e16 fun p17 F17 e17 s17 h17 => ?_
      have hN := s17 _ _ hN
      have b3 : RBadT n F17 (.ref p17) () := ⟨p17, _, _, rfl, h17, bad_last (k := .int) (s17 _ _ h16) h1 ⟨_, rfl⟩ (by simp) (by decide)⟩
      walk_at "vc"
      refine go_lst (xs := [V.ref p9, V.ref p13, V.ref p17]) e17 (szk (by simp)) fun p18 F18 e18 s18 h18 => ?_
      have hN := s18 _ _ hN
      have t3 := s18
      have t2 := s14.tr (s15.tr (s16.tr (s17.tr t3)))
      have t1 := s10.tr (s11.tr (s12.tr (s13.tr t2)))
      have hL := t1 _ _ (s9 _ _ (s8 _ _ (s7 _ _ (s6 _ _ hL))))
      have t0 : Sub F5 F18 := s6.tr (s7.tr (s8.tr (s9.tr t1)))
      refine go_catL (K := K) e18 hL h18 (by rw [Paired.length pr5, hul]; simp) fun p19 F19 e19 s19 h19 => ?_
      have pr19 : Paired (RBadT n F19) (vs ++ [V.ref p9, V.ref p13, V.ref p17]) (us ++ [(), (), ()]) := Paired.app (Paired.up (t0.tr s19) pr5) (.cons (b1.up (t1.tr s19)) (.cons (b2.up (t2.tr s19)) (.cons (b3.up (t3.tr s19)) .nil)))
      have hN := s19 _ _ hN
      walk_at "vc"
      refine ⟨⟨by omega, by omega, by decide⟩, ?_⟩
      walk_at "vc"
      refine go_t1 e19 fun q1 G1 d1 r1 g1 => ?_
      have hN := r1 _ _ hN
      walk_at "vc"
      dsimp only [tNoPart]
      refine go_slk (k := 1) d1 hN rfl (by omega) h1 fun q2 G2 K2 d2 r2 g2 => ?_
      have hN := r2 _ _ hN
      refine go_cat d2 (r2 _ _ g1) g2 (szk (by simp; omega)) fun q3 G3 K3 d3 r3 g3 => ?_
      have hN := r3 _ _ hN
      walk_at "vc"
      refine go_t2 d3 fun q4 G4 d4 r4 g4 => ?_
      have hN := r4 _ _ hN
      have c1 : RBadT n G4 (.ref q4) () := ⟨q4, _, _, rfl, g4, bad_first (k := .int) (r4 _ _ g3) (by simp; omega) ⟨_, rfl⟩ (by simp) (by decide)⟩
      walk_at "vc"
      refine go_t1 d4 fun q5 G5 d5 r5 g5 => ?_
      have hN := r5 _ _ hN
      walk_at "vc"
      refine go_t1 d5 fun q6 G6 d6 r6 g6 => ?_
      have hN := r6 _ _ hN
      walk_at "vc"
      dsimp only [tNoPart]
      refine go_slk (k := 2) d6 hN rfl (by omega) h1 fun q7 G7 K7 d7 r7 g7 => ?_
      refine go_cat d7 (r7 _ _ g6) g7 (szk (by simp; omega)) fun q8 G8 K8 d8 r8 g8 => ?_
      walk_at "vc"
      refine go_t1 d8 fun q9 G9 d9 r9 g9 => ?_
      refine go_cat d9 (r9 _ _ g8) g9 (szk (by simp; omega)) fun q10 G10 K10 d10 r10 g10 => ?_
      walk_at "vc"
      refine go_t2 d10 fun q11 G11 d11 r11 g11 => ?_
      have c2 : 2 ≤ n → RBadT n G11 (.ref q11) () := fun h => ⟨q11, _, _, rfl, g11, bad_first (k := .tup) (r11 _ _ g10) (by simp; omega) ⟨q5, _, rfl, r11 _ _ (r10 _ _ (r9 _ _ (r8 _ _ (r7 _ _ (r6 _ _ g5)))))⟩ (by simp) rfl⟩
      walk_at "vc"
      refine go_lst (xs := [V.ref q4, V.ref q11]) d11 (szk (by simp)) fun q12 G12 d12 r12 g12 => ?_
      walk_at "vc"
      refine .inr ⟨_, rfl, ?_⟩
      walk_at "vc"
      refine ⟨_, _, rfl, lS (d12.s _ _ g12), fun q13 hq13 => ?_⟩
      have ecut : ∃ k : Nat, cutV [V.ref q4, V.ref q11] none (some (1 + (if decide ((1 : Int) < (n : Nat)) = true then 1 else 0))) = [V.ref q4, V.ref q11].take k ∧ (k = 1 ∨ (k = 2 ∧ 2 ≤ n)) := by
        by_cases hn2 : 2 ≤ n
        · rw [if_pos (decide_eq_true (by omega))]
          exact ⟨2, cut_take _ 2, .inr ⟨rfl, hn2⟩⟩
        · rw [if_neg (by simp; omega)]
          exact ⟨1, cut_take _ 1, .inl rfl⟩
      obtain ⟨k, ek, hk⟩ := ecut
      rw [ek]
      obtain ⟨d13, g13, r13⟩ := newL (S := S0) d12 (xs := [V.ref q4, V.ref q11].take k) hq13
      generalize upd G12 q13 (.lst ([V.ref q4, V.ref q11].take k)) = G13 at d13 g13 r13
      have t5 := r12.tr r13
      have t4 := r5.tr (r6.tr (r7.tr (r8.tr (r9.tr (r10.tr (r11.tr t5))))))
      have t3 := r1.tr (r2.tr (r3.tr (r4.tr t4)))
      obtain ⟨vs2, us2, ev, pr2, hul2⟩ : ∃ vs2 us2, [V.ref q4, V.ref q11].take k = vs2 ∧ Paired (RBadT n G13) vs2 us2 ∧ us2.length ≤ 2 := by
        rcases hk with rfl | ⟨rfl, hn2⟩
        · exact ⟨_, [()], rfl, .cons (c1.up t4) .nil, by simp⟩
        · exact ⟨_, [(), ()], rfl, .cons (c1.up t4) (.cons ((c2 hn2).up t5) .nil), by simp⟩
      rw [ev] at g13
      have pr3 := Paired.up t3 pr19
      refine go_catL (K := K) d13 (t3 _ _ h19) g13 (by rw [Paired.length pr3, Paired.length pr2, List.length_append, hul]; simp; omega) fun q14 G14 d14 r14 g14 => ?_
      exact q _ _ _ _ _ d14 g14 (Paired.app (Paired.up r14 pr3) (Paired.up r14 pr2)) (by rw [List.length_append, List.length_append, hul]; simp; omega)
    · walk_at "vc"
      refine ⟨_, _, rfl, .inr (tS (e2.s _ _ hN)), fun p3 hp3 => ?_⟩
      obtain ⟨e3, h3, s3⟩ := newL e2 (xs := List.replicate n V.non) hp3
      have hN := s3 _ _ hN
      walk_at "vc"
      refine go_t2 e3 fun p4 F4 e4 s4 h4 => ?_
      have b1 : RBadT n F4 (.ref p4) () := ⟨p4, _, _, rfl, h4, .inl ⟨.lst, ⟨p3, _, rfl, s4 _ _ h3⟩, by decide, rfl⟩⟩
      have hN := s4 _ _ hN
      walk_at "vc"
      refine go_t1 e4 fun p5 F5 e5 s5 h5 => ?_
      have hN := s5 _ _ hN
      refine go_cat e5 hN h5 (szk (by simp; omega)) fun p6 F6 H6 e6 s6 h6 => ?_
      have hN := s6 _ _ hN
      walk_at "vc"
      refine go_t2 e6 fun p7 F7 e7 s7 h7 => ?_
      have hN := s7 _ _ hN
      have b2 : RBadT n F7 (.ref p7) () := ⟨p7, _, _, rfl, h7, .inr (.inl ⟨p6, _, rfl, s7 _ _ h6, by simp, rfl⟩)⟩
      walk_at "vc"
      dsimp only [tNoPart]
      refine go_slk (k := 1) e7 hN rfl (by omega) h1 fun p8 F8 H8 e8 s8 h8 => ?_
      walk_at "vc"
      refine go_t2 e8 fun p9 F9 e9 s9 h9 => ?_
      have b3 : RBadT n F9 (.ref p9) () := ⟨p9, _, _, rfl, h9, .inr (.inl ⟨p8, _, rfl, s9 _ _ h8, by rw [List.length_replicate]; omega, rfl⟩)⟩
      walk_at "vc"
      refine go_t2 e9 fun p10 F10 e10 s10 h10 => ?_
      have b4 : RBadT n F10 (.ref p10) () := ⟨p10, _, _, rfl, h10, .inl ⟨.non, rfl, by decide, rfl⟩⟩
      walk_at "vc"
      refine go_t2 e10 fun p11 F11 e11 s11 h11 => ?_
      have b5 : RBadT n F11 (.ref p11) () := ⟨p11, _, _, rfl, h11, .inl ⟨.int, ⟨5, rfl⟩, by decide, rfl⟩⟩
      walk_at "vc"
      refine go_lst (xs := [V.ref p4, V.ref p7, V.ref p9, V.ref p10, V.ref p11]) e11 (szk (by simp)) fun p12 F12 e12 s12 h12 => ?_
      have t5 := s12
      have t4 := s11.tr t5
      have t3 := s10.tr t4
      have t2 := s8.tr (s9.tr t3)
      have t1 := s5.tr (s6.tr (s7.tr t2))
      exact fin _ _ ⟨F12, p12, _, [(), (), (), (), ()], rfl, e12, s3.tr (s4.tr t1), h12, .cons (b1.up t1) (.cons (b2.up t2) (.cons (b3.up t3) (.cons (b4.up t4) (.cons (b5.up t5) .nil)))), rfl⟩
end
end Sa
set_option Elab.async false
set_option linter.all false
set_option maxRecDepth 100000
set_option maxHeartbeats 4000000
namespace Sa
/-! ### rows and walks, in plain Lean -/
theorem getD_set (r : Row) (i j : Nat) (z : Option Int) : (r.set i z).getD j none = if i = j ∧ i < r.length then z else r.getD j none := by
  rw [List.getD_eq_getElem?_getD, List.getElem?_set, List.getD_eq_getElem?_getD]
  by_cases h : i = j
  · subst h
    by_cases h2 : i < r.length
    · simp [h2]
    · simp [h2]
  · simp [h]
/-- one relaxing step keeps what stands or makes it more -/
theorem relax_ge (row fd : Row) (t : Nat × Nat × Int) (b : Nat) (w : Int) (h : fd.getD b none = some w) : ∃ w', (relax row fd t).getD b none = some w' ∧ w ≤ w' := by
  unfold relax
  cases h1 : row.getD t.1 none with
  | none => exact ⟨w, h, Int.le_refl _⟩
  | some a =>
    dsimp only
    cases h2 : fd.getD t.2.1 none with
    | none =>
      dsimp only
      refine ⟨w, ?_, Int.le_refl _⟩
      rw [getD_set, if_neg, h]
      rintro ⟨rfl, _⟩
      rw [h] at h2
      cases h2
    | some c =>
      dsimp only
      split
      · rename_i hc
        rw [getD_set]
        split
        · rename_i hb
          obtain ⟨rfl, _⟩ := hb
          rw [h] at h2
          cases h2
          exact ⟨_, rfl, by omega⟩
        · exact ⟨w, h, Int.le_refl _⟩
      · exact ⟨w, h, Int.le_refl _⟩
theorem foldl_ge (row : Row) (b : Nat) : ∀ (ties : Ties) (fd : Row) (w : Int), fd.getD b none = some w → ∃ w', (ties.foldl (relax row) fd).getD b none = some w' ∧ w ≤ w'
  | [], fd, w, h => ⟨w, h, Int.le_refl _⟩
  | t :: ts, fd, w, h => by
    obtain ⟨w1, h1, l1⟩ := relax_ge row fd t b w h
    obtain ⟨w2, h2, l2⟩ := foldl_ge row b ts _ w1 h1
    exact ⟨w2, h2, by omega⟩
theorem nextRow_ge {ties : Ties} {row : Row} {b : Nat} {w : Int} (h : row.getD b none = some w) : ∃ w', (nextRow ties row).getD b none = some w' ∧ w ≤ w' := foldl_ge row b ties row w h
/-- the tie itself is taken -/
theorem relax_tie {row fd : Row} {t : Nat × Nat × Int} {x : Int} (h : row.getD t.1 none = some x) (hl : t.2.1 < fd.length) : ∃ w', (relax row fd t).getD t.2.1 none = some w' ∧ x + t.2.2 ≤ w' := by
  unfold relax
  rw [h]
  dsimp only
  cases h2 : fd.getD t.2.1 none with
  | none =>
    dsimp only
    exact ⟨_, by rw [getD_set, if_pos ⟨rfl, hl⟩], Int.le_refl _⟩
  | some c =>
    dsimp only
    split
    · exact ⟨_, by rw [getD_set, if_pos ⟨rfl, hl⟩], Int.le_refl _⟩
    · exact ⟨c, h2, by omega⟩
theorem foldl_tie {row : Row} {t : Nat × Nat × Int} {x : Int} (h : row.getD t.1 none = some x) : ∀ (ties : Ties) (fd : Row), t ∈ ties → t.2.1 < fd.length → ∃ w', (ties.foldl (relax row) fd).getD t.2.1 none = some w' ∧ x + t.2.2 ≤ w'
  | [], fd, hm, _ => by cases hm
  | u :: ts, fd, hm, hl => by
    rcases List.mem_cons.mp hm with rfl | hm
    · obtain ⟨w1, h1, l1⟩ := relax_tie h hl
      obtain ⟨w2, h2, l2⟩ := foldl_ge row _ ts _ w1 h1
      exact ⟨w2, h2, by omega⟩
    · exact foldl_tie h ts _ hm (by rw [relax_len]; exact hl)
theorem nextRow_tie {ties : Ties} {row : Row} {t : Nat × Nat × Int} {x : Int} (h : row.getD t.1 none = some x) (hm : t ∈ ties) (hl : t.2.1 < row.length) : ∃ w', (nextRow ties row).getD t.2.1 none = some w' ∧ x + t.2.2 ≤ w' := foldl_tie h ties row hm hl
/-- where a value comes from -/
theorem relax_src {row fd : Row} {t : Nat × Nat × Int} {b : Nat} {w : Int} (h : (relax row fd t).getD b none = some w) : fd.getD b none = some w ∨ (t.2.1 = b ∧ ∃ x, row.getD t.1 none = some x ∧ w = x + t.2.2) := by
  unfold relax at h
  cases h1 : row.getD t.1 none with
  | none => rw [h1] at h; exact .inl h
  | some a =>
    rw [h1] at h
    dsimp only at h
    have key : (fd.set t.2.1 (some (a + t.2.2))).getD b none = some w → fd.getD b none = some w ∨ (t.2.1 = b ∧ ∃ x, some a = some x ∧ w = x + t.2.2) := by
      intro h
      rw [getD_set] at h
      split at h
      · rename_i hb
        cases h
        exact .inr ⟨hb.1, a, rfl, rfl⟩
      · exact .inl h
    cases h2 : fd.getD t.2.1 none with
    | none => rw [h2] at h; exact key h
    | some c =>
      rw [h2] at h
      dsimp only at h
      split at h
      · exact key h
      · exact .inl h
theorem foldl_src {row : Row} {b : Nat} {w : Int} : ∀ (ties : Ties) (fd : Row), (ties.foldl (relax row) fd).getD b none = some w → fd.getD b none = some w ∨ ∃ t ∈ ties, t.2.1 = b ∧ ∃ x, row.getD t.1 none = some x ∧ w = x + t.2.2
  | [], fd, h => .inl h
  | t :: ts, fd, h => by
    rcases foldl_src ts _ h with h1 | ⟨u, hu, h1⟩
    · rcases relax_src h1 with h2 | h2
      · exact .inl h2
      · exact .inr ⟨t, List.mem_cons_self .., h2⟩
    · exact .inr ⟨u, List.mem_cons_of_mem _ hu, h1⟩
theorem iterRow_succ (ties : Ties) (r : Row) : ∀ k, iterRow ties r (k + 1) = iterRow ties (nextRow ties r) k
  | 0 => rfl
  | k + 1 => by show nextRow ties (iterRow ties r (k + 1)) = _; rw [iterRow_succ ties r k]; rfl
theorem iterRow_fix {ties : Ties} {r : Row} (h : nextRow ties r = r) : ∀ k, iterRow ties r k = r
  | 0 => rfl
  | k + 1 => by rw [iterRow_succ, h, iterRow_fix h k]
theorem iterRow_up {ties : Ties} {r : Row} {b k : Nat} {w : Int} (h : (iterRow ties r k).getD b none = some w) : ∀ m, k ≤ m → ∃ w', (iterRow ties r m).getD b none = some w' ∧ w ≤ w'
  | 0, hm => by rw [show k = 0 by omega] at h; exact ⟨w, h, Int.le_refl _⟩
  | m + 1, hm => by
    by_cases e : k = m + 1
    · subst e; exact ⟨w, h, Int.le_refl _⟩
    · obtain ⟨w1, h1, l1⟩ := iterRow_up h m (by omega)
      obtain ⟨w2, h2, l2⟩ := nextRow_ge (ties := ties) h1
      exact ⟨w2, h2, by omega⟩
/-- a chain of ties from a to b -/
def Chn (ties : Ties) : Nat → Ties → Nat → Prop
  | a, [], b => a = b
  | a, t :: l, b => t ∈ ties ∧ t.1 = a ∧ Chn ties t.2.1 l b
def wsum (l : Ties) : Int := (l.map fun t => t.2.2).sum
theorem wsum_cons (t : Nat × Nat × Int) (l : Ties) : wsum (t :: l) = t.2.2 + wsum l := by unfold wsum; simp
theorem wsum_app (l m : Ties) : wsum (l ++ m) = wsum l + wsum m := by unfold wsum; simp
theorem Chn.app {ties : Ties} {b c : Nat} : ∀ {l m : Ties} {a : Nat}, Chn ties a l b → Chn ties b m c → Chn ties a (l ++ m) c
  | [], m, a, h, h2 => by cases (show a = b from h); exact h2
  | t :: l, m, a, h, h2 => ⟨h.1, h.2.1, Chn.app h.2.2 h2⟩
theorem Chn.split {ties : Ties} {c : Nat} : ∀ {l m : Ties} {a : Nat}, Chn ties a (l ++ m) c → ∃ b, Chn ties a l b ∧ Chn ties b m c
  | [], m, a, h => ⟨a, rfl, h⟩
  | t :: l, m, a, h => by
    obtain ⟨b, h1, h2⟩ := Chn.split (l := l) h.2.2
    exact ⟨b, ⟨h.1, h.2.1, h1⟩, h2⟩
theorem Chn.lt {ties : Ties} {n : Nat} (ok : TiesOk n ties) : ∀ {l : Ties} {a b : Nat}, Chn ties a l b → ∀ t ∈ l, t.1 < n
  | [], a, b, _, t, ht => by cases ht
  | u :: l, a, b, h, t, ht => by
    rcases List.mem_cons.mp ht with rfl | ht
    · exact (ok _ h.1).1
    · exact Chn.lt ok h.2.2 t ht
theorem iterRow_chn {ties : Ties} {n : Nat} (ok : TiesOk n ties) {b : Nat} : ∀ (l : Ties) (r : Row) (a : Nat) (x : Int), r.length = n → r.getD a none = some x → Chn ties a l b → ∃ w, (iterRow ties r l.length).getD b none = some w ∧ x + wsum l ≤ w
  | [], r, a, x, hl, h, c => by cases (show a = b from c); exact ⟨x, h, by show x + 0 ≤ x; omega⟩
  | t :: l, r, a, x, hl, h, c => by
    obtain ⟨h1, h2, h3⟩ := c
    subst h2
    obtain ⟨w1, e1, l1⟩ := nextRow_tie h h1 (by rw [hl]; exact (ok _ h1).2)
    obtain ⟨w2, e2, l2⟩ := iterRow_chn ok l (nextRow ties r) t.2.1 w1 (by rw [nextRow_len]; exact hl) e1 h3
    refine ⟨w2, ?_, ?_⟩
    · rw [List.length_cons, iterRow_succ]; exact e2
    · rw [wsum_cons]; omega
theorem start_get {n t b : Nat} {w : Int} (h : (startRow n t).getD b none = some w) : b = t ∧ b < n ∧ w = 0 := by
  by_cases hb : b < n
  · unfold startRow at h
    rw [List.getD_eq_getElem?_getD, List.getElem?_map, List.getElem?_range hb] at h
    dsimp at h
    split at h
    · cases h; exact ⟨by assumption, hb, rfl⟩
    · cases h
  · rw [List.getD_eq_getElem?_getD, List.getElem?_eq_none (by rw [startRow_len]; omega)] at h
    cases h
theorem start_diag {n t : Nat} (h : t < n) : (startRow n t).getD t none = some 0 := by
  unfold startRow
  rw [List.getD_eq_getElem?_getD, List.getElem?_map, List.getElem?_range h]
  simp
theorem iterRow_src {ties : Ties} {n a : Nat} : ∀ (m b : Nat) (w : Int), (iterRow ties (startRow n a) m).getD b none = some w → ∃ l, Chn ties a l b ∧ l.length ≤ m ∧ wsum l = w
  | 0, b, w, h => by
    obtain ⟨h1, h2, h3⟩ := start_get h
    exact ⟨[], h1.symm, Nat.le_refl _, h3.symm⟩
  | m + 1, b, w, h => by
    rcases foldl_src ties _ h with h1 | ⟨t, ht, h1, x, h2, h3⟩
    · obtain ⟨l, e1, e2, e3⟩ := iterRow_src m b w h1
      exact ⟨l, e1, by omega, e3⟩
    · obtain ⟨l, e1, e2, e3⟩ := iterRow_src m _ x h2
      refine ⟨l ++ [t], Chn.app e1 ⟨ht, rfl, h1⟩, by simp; omega, ?_⟩
      rw [wsum_app, wsum_cons, e3, h3]
      show x + (t.2.2 + 0) = _
      omega
/-- cell a, m, b: at least as much as each chain of at most m ties -/
theorem iterRow_max {ties : Ties} {n : Nat} (ok : TiesOk n ties) {a b m : Nat} {l : Ties} (ha : a < n) (h : Chn ties a l b) (hl : l.length ≤ m) : ∃ w, (iterRow ties (startRow n a) m).getD b none = some w ∧ wsum l ≤ w := by
  obtain ⟨w, e, le⟩ := iterRow_chn ok l (startRow n a) a 0 (startRow_len _ _) (start_diag ha) h
  obtain ⟨w', e', le'⟩ := iterRow_up e m hl
  exact ⟨w', e', by omega⟩
/-! ### the layers are the rows -/
theorem layFrom_at {ties : Ties} : ∀ (f : Nat) (row : Row) (m : Nat), m ≤ f → layerAt (layFrom ties row f) m = iterRow ties row m
  | 0, row, m, h => by rw [show m = 0 by omega]; rfl
  | f + 1, row, m, h => by
    unfold layFrom
    split
    · rename_i e
      rw [iterRow_fix e]
      unfold layerAt
      rw [show min m ([row].length - 1) = 0 by simp]
      rfl
    · have hne := List.length_pos_iff.mpr (layFrom_ne ties (nextRow ties row) f)
      cases m with
      | zero => unfold layerAt; rw [Nat.zero_min]; rfl
      | succ k =>
        rw [iterRow_succ, ← layFrom_at f (nextRow ties row) k (by omega)]
        unfold layerAt
        rw [List.length_cons, show min (k + 1) ((layFrom ties (nextRow ties row) f).length + 1 - 1) = min k ((layFrom ties (nextRow ties row) f).length - 1) + 1 by omega]
        rw [List.getD_cons_succ]
theorem layFrom_some {ties : Ties} {b : Nat} : ∀ (f : Nat) (row : Row) (w : Int), row.getD b none = some w → ∀ r ∈ layFrom ties row f, ∃ w', r.getD b none = some w'
  | 0, row, w, h, r, hm => by
    unfold layFrom at hm
    rw [List.mem_singleton.mp hm]
    exact ⟨w, h⟩
  | f + 1, row, w, h, r, hm => by
    unfold layFrom at hm
    split at hm
    · rw [List.mem_singleton.mp hm]
      exact ⟨w, h⟩
    · rcases List.mem_cons.mp hm with rfl | hm
      · exact ⟨w, h⟩
      · obtain ⟨w1, h1, _⟩ := nextRow_ge (ties := ties) h
        exact layFrom_some f _ w1 h1 r hm
theorem evOf_get {n : Nat} {ties : Ties} {t : Nat} (h : t < n) : (evOf n ties).getD t [] = layersOf n ties t := by
  unfold evOf
  rw [List.getD_eq_getElem?_getD, List.getElem?_map, List.getElem?_range h]
  rfl
theorem diag_ev (n : Nat) (ties : Ties) : Diag n (evOf n ties) := by
  intro t m ht
  rw [evOf_get ht]
  have hne := List.length_pos_iff.mpr (layFrom_ne ties (startRow n t) (2 * n))
  have : layerAt (layersOf n ties t) m ∈ layersOf n ties t := by
    unfold layerAt layersOf
    exact List.mem_of_getElem? (getD_getG (d := []) (by omega))
  exact layFrom_some _ _ _ (start_diag ht) _ this
theorem allR_get {n : Nat} {ties : Ties} {a m : Nat} (ha : a < n) (hm : m ≤ 2 * n + 2) : ((allR n ties).getD a []).getD m [] = iterRow ties (startRow n a) m := by
  unfold allR rowsL
  rw [List.getD_eq_getElem?_getD (l := List.map _ (List.range n)), List.getElem?_map, List.getElem?_range ha]
  show (List.map _ _).getD m [] = _
  rw [List.getD_eq_getElem?_getD, List.getElem?_map, List.getElem?_range (by omega)]
  rfl
theorem cellL_allR {n : Nat} {ties : Ties} {a m b : Nat} (ha : a < n) (hm : m ≤ 2 * n + 2) : cellL (allR n ties) a m b = (iterRow ties (startRow n a) m).getD b none := by
  unfold cellL
  rw [allR_get ha hm]
theorem rows_ok {n : Nat} (ties : Ties) (h1 : 1 ≤ n) (h2 : n ≤ 12) : RowsOk n (allR n ties) := by
  refine ⟨h1, h2, by simp [allR], fun rows hm => ?_, fun t m ht hm => ?_⟩
  · unfold allR at hm
    obtain ⟨t, ht, rfl⟩ := List.mem_map.mp hm
    unfold rowsL
    refine ⟨by simp, fun r hr => ?_⟩
    obtain ⟨k, _, rfl⟩ := List.mem_map.mp hr
    rw [iterRow_len, startRow_len]
  · rw [cellL_allR ht hm]
    obtain ⟨w, e, _⟩ := iterRow_up (ties := ties) (k := 0) (start_diag ht) m (by omega)
    exact ⟨w, e⟩
theorem chn_bound {ties : Ties} {n : Nat} (ok : ∀ t ∈ ties, TieOk n t) : ∀ {l : Ties} {a b : Nat}, Chn ties a l b → -1000000 * (l.length : Int) ≤ wsum l ∧ wsum l ≤ 1000000 * (l.length : Int)
  | [], a, b, _ => ⟨by show _ ≤ (0 : Int); simp, by show (0 : Int) ≤ _; simp⟩
  | t :: l, a, b, h => by
    have := chn_bound ok h.2.2
    have := ok _ h.1
    unfold TieOk at this
    rw [wsum_cons, List.length_cons]
    omega
theorem rows_b {n : Nat} {ties : Ties} (h2 : n ≤ 12) (ok : ∀ t ∈ ties, TieOk n t) : RowsB (allR n ties) := by
  intro ls hls l hl z hz
  unfold allR at hls
  obtain ⟨a, ha, rfl⟩ := List.mem_map.mp hls
  unfold rowsL at hl
  obtain ⟨k, hk, rfl⟩ := List.mem_map.mp hl
  obtain ⟨b, hb⟩ := List.getElem?_of_mem hz
  obtain ⟨c, e1, e2, e3⟩ := iterRow_src k b z (by rw [List.getD_eq_getElem?_getD, hb]; rfl)
  have := chn_bound ok e1
  have := List.mem_range.mp hk
  omega
theorem ties_ok {n : Nat} {ties : Ties} (ok : ∀ t ∈ ties, TieOk n t) : TiesOk n ties := fun t ht => ⟨(ok t ht).1, (ok t ht).2.1⟩
end Sa
set_option Elab.async false
set_option linter.all false
set_option maxRecDepth 100000
set_option maxHeartbeats 4000000
namespace Sa
/-! ### the limits: the law's are the program's -/
/-- the first m below N -/
def IsF (f : Nat → Bool) (N : Nat) : Option Nat → Prop
  | none => ∀ m, m < N → f m = false
  | some x => x < N ∧ f x = true ∧ ∀ m, m < x → f m = false
theorem IsF.unique {f : Nat → Bool} {N : Nat} : ∀ {a b : Option Nat}, IsF f N a → IsF f N b → a = b
  | none, none, _, _ => rfl
  | none, some y, h, k => by have := h y k.1; rw [k.2.1] at this; cases this
  | some x, none, h, k => by have := k x h.1; rw [h.2.1] at this; cases this
  | some x, some y, h, k => by
    rcases Nat.lt_trichotomy x y with l | l | l
    · have := k.2.2 x l; rw [h.2.1] at this; cases this
    · rw [l]
    · have := h.2.2 y l; rw [k.2.1] at this; cases this
theorem IsF.no {f : Nat → Bool} {N m : Nat} (h : IsF f N none) (hm : m < N) : f m = false := h m hm
theorem IsF.at {f : Nat → Bool} {N x : Nat} (h : IsF f N (some x)) : f x = true := h.2.1
theorem IsF.lt {f : Nat → Bool} {N x : Nat} (h : IsF f N (some x)) : x < N := h.1
theorem IsF.pre {f : Nat → Bool} {N x m : Nat} (h : IsF f N (some x)) (hm : m < x) : f m = false := h.2.2 m hm
theorem isF_head (f : Nat → Bool) : ∀ N, IsF f N ((List.range N).filter f).head?
  | 0 => fun m h => by omega
  | N + 1 => by
    have ih := isF_head f N
    rw [List.range_succ, List.filter_append, List.head?_append]
    cases h : ((List.range N).filter f).head? with
    | some x =>
      rw [h] at ih
      exact ⟨Nat.lt_succ_of_lt ih.1, ih.2⟩
    | none =>
      rw [h] at ih
      cases hf : f N with
      | true =>
        rw [List.filter_cons_of_pos (by exact hf)]
        exact ⟨Nat.lt_succ_self _, hf, ih⟩
      | false =>
        rw [List.filter_cons_of_neg (by rw [hf]; exact Bool.false_ne_true)]
        intro m hm
        by_cases e : m = N
        · rw [e]; exact hf
        · exact ih m (by omega)
theorem any_false {α : Type} {l : List α} {f : α → Bool} : l.any f = false ↔ ∀ x ∈ l, f x = false := by
  rw [List.any_eq_false]
  exact ⟨fun h x hx => Bool.eq_false_iff.mpr (h x hx), fun h x hx => by rw [h x hx]; exact Bool.false_ne_true⟩
section
variable {n : Nat} {ties : Ties} {ts : List (Option Int)}
/-- a pair that stands too near at m -/
def Near (n : Nat) (ties : Ties) (ts : List (Option Int)) (m : Nat) : Prop := ∃ a b x y w, ts[a]? = some (some x) ∧ ts[b]? = some (some y) ∧ (iterRow ties (startRow n a) m).getD b none = some w ∧ y - x < w
/-- a thing without a time, with a ring at m -/
def RingAt (n : Nat) (ties : Ties) (m t : Nat) : Prop := ∃ w, (iterRow ties (startRow n t) m).getD t none = some w ∧ 0 < w
theorem bool_iff {a b : Bool} (h : a = true ↔ b = true) : a = b := by cases a <;> cases b <;> simp_all
theorem getD_of {a : Nat} {x : Int} (h : ts[a]? = some (some x)) : ts.getD a none = some x := by rw [List.getD_eq_getElem?_getD, h]; rfl
theorem get_lt {a : Nat} {x : Option Int} (h : ts[a]? = some x) : a < ts.length := (List.getElem?_eq_some_iff.mp h).1
theorem get_of {a : Nat} {x : Int} (h : ts.getD a none = some x) : ts[a]? = some (some x) := by
  rw [List.getD_eq_getElem?_getD] at h
  cases h2 : ts[a]? with
  | none => rw [h2] at h; cases h
  | some z => rw [h2] at h; rw [show z = some x from h]
theorem tooShort_iff (hl : ts.length = n) {m : Nat} (hm : m ≤ 2 * n) : tooShort (evOf n ties) ts m = true ↔ Near n ties ts m := by
  unfold tooShort comeOf
  rw [List.any_eq_true]
  constructor
  · rintro ⟨a, ha, h⟩
    rw [List.any_eq_true] at h
    obtain ⟨b, hb, h⟩ := h
    obtain ⟨ha1, ha2⟩ := List.mem_filter.mp ha
    obtain ⟨hb1, hb2⟩ := List.mem_filter.mp hb
    obtain ⟨x, hx⟩ := Option.isSome_iff_exists.mp ha2
    obtain ⟨y, hy⟩ := Option.isSome_iff_exists.mp hb2
    have ha3 := List.mem_range.mp ha1
    unfold pairBad at h
    rw [evOf_get (by omega), show layerAt (layersOf n ties a) m = _ from layFrom_at _ _ _ hm] at h
    split at h
    · cases h
    · rename_i w hw
      refine ⟨a, b, x, y, w, get_of hx, get_of hy, hw, ?_⟩
      have := of_decide_eq_true h
      unfold tval at this
      rw [hx, hy] at this
      exact this
  · rintro ⟨a, b, x, y, w, hx, hy, hw, h⟩
    have ha := get_lt hx
    have hb := get_lt hy
    refine ⟨a, List.mem_filter.mpr ⟨List.mem_range.mpr ha, by rw [getD_of hx]; rfl⟩, ?_⟩
    rw [List.any_eq_true]
    refine ⟨b, List.mem_filter.mpr ⟨List.mem_range.mpr hb, by rw [getD_of hy]; rfl⟩, ?_⟩
    unfold pairBad
    rw [evOf_get (by omega), show layerAt (layersOf n ties a) m = _ from layFrom_at _ _ _ hm, hw]
    refine decide_eq_true ?_
    unfold tval
    rw [getD_of hx, getD_of hy]
    exact h
theorem rowPos_iff {m t : Nat} (ht : t < n) (hm : m ≤ 2 * n) : rowPos (evOf n ties) m t = true ↔ RingAt n ties m t := by
  unfold rowPos
  rw [evOf_get ht, show layerAt (layersOf n ties t) m = _ from layFrom_at _ _ _ hm]
  unfold RingAt
  cases (iterRow ties (startRow n t) m).getD t none with
  | none => exact Iff.intro (fun h => by cases h) (fun ⟨w, h, _⟩ => by cases h)
  | some w => exact Iff.intro (fun h => ⟨w, rfl, of_decide_eq_true h⟩) (fun ⟨w', h, l⟩ => by cases h; exact decide_eq_true l)
theorem posAt_iff {m t : Nat} (ht : t < n) (hm : m ≤ 2 * n + 2) : posAt (allR n ties) m t = true ↔ RingAt n ties m t := by
  unfold posAt
  rw [cellL_allR ht hm]
  unfold RingAt
  cases (iterRow ties (startRow n t) m).getD t none with
  | none => exact Iff.intro (fun h => by cases h) (fun ⟨w, h, _⟩ => by cases h)
  | some w => exact Iff.intro (fun h => ⟨w, rfl, of_decide_eq_true h⟩) (fun ⟨w', h, l⟩ => by cases h; exact decide_eq_true l)
theorem held_iff (h1 : 1 ≤ n) (h2 : n ≤ 12) (hl : ts.length = n) (N R : Nat) : heldB (allR n ties) ts N R = true ↔ (¬ Near n ties ts (min N (2 * n + 2)) ∧ ∀ t, t < n → ts.getD t none = none → ¬ RingAt n ties (min R (2 * n + 2)) t) := by
  have ok := rows_ok ties h1 h2
  unfold heldB
  rw [Bool.not_eq_true', any_false, ok.len]
  constructor
  · intro h
    constructor
    · rintro ⟨a, b, x, y, w, hx, hy, hw, hlt⟩
      have ha := get_lt hx
      have hb := get_lt hy
      have := h a (List.mem_range.mpr (by omega))
      unfold badA at this
      rw [Bool.or_eq_false_iff, any_false, ok.len, ok.last] at this
      have := this.2 b (List.mem_range.mpr (by omega))
      unfold pbad at this
      rw [getD_of hx, getD_of hy, cellL_allR (by omega) (by omega), hw] at this
      exact absurd hlt (of_decide_eq_false this)
    · intro t ht hn hr
      have := h t (List.mem_range.mpr ht)
      unfold badA at this
      rw [Bool.or_eq_false_iff, hn, ok.last, (posAt_iff ht (by omega)).mpr hr] at this
      cases this.1
  · rintro ⟨h3, h4⟩ a ha
    have ha := List.mem_range.mp ha
    unfold badA
    rw [Bool.or_eq_false_iff, any_false, ok.len, ok.last]
    constructor
    · cases hx : ts.getD a none with
      | some x => rfl
      | none =>
        rw [Option.isNone_none, Bool.true_and]
        exact Bool.eq_false_iff.mpr fun z => h4 a ha hx ((posAt_iff ha (by omega)).mp z)
    · intro b hb
      have hb := List.mem_range.mp hb
      unfold pbad
      rw [cellL_allR (by omega) (by omega)]
      split
      · rename_i x y w hx hy hw
        exact decide_eq_false fun z => h3 ⟨a, b, x, y, w, get_of hx, get_of hy, hw, z⟩
      · rfl
theorem near_up {m k : Nat} (h : Near n ties ts m) (hk : m ≤ k) : Near n ties ts k := by
  obtain ⟨a, b, x, y, w, hx, hy, hw, hlt⟩ := h
  obtain ⟨w', e, l⟩ := iterRow_up hw k hk
  exact ⟨a, b, x, y, w', hx, hy, e, by omega⟩
theorem ring_up {m k t : Nat} (h : RingAt n ties m t) (hk : m ≤ k) : RingAt n ties k t := by
  obtain ⟨w, hw, hlt⟩ := h
  obtain ⟨w', e, l⟩ := iterRow_up hw k hk
  exact ⟨w', e, by omega⟩
theorem ring_zero {t : Nat} : ¬ RingAt n ties 0 t := by
  rintro ⟨w, hw, hlt⟩
  obtain ⟨_, _, rfl⟩ := start_get hw
  omega
theorem held_zero (h1 : 1 ≤ n) (h2 : n ≤ 12) (hl : ts.length = n) {m : Nat} (hm : m ≤ 2 * n) : heldB (allR n ties) ts m 0 = !tooShort (evOf n ties) ts m := by
  refine bool_iff ?_
  rw [held_iff h1 h2 hl, Bool.not_eq_true', Bool.eq_false_iff, Ne, tooShort_iff hl hm, show min m (2 * n + 2) = m by omega]
  exact ⟨fun h => h.1, fun h => ⟨h, fun t ht _ => by rw [show min 0 (2 * n + 2) = 0 by omega]; exact ring_zero⟩⟩
theorem lim1 (h1 : 1 ≤ n) (h2 : n ≤ 12) (hl : ts.length = n) : (limL n (allR n ties) ts).1 = (limOf n (evOf n ties) ts).1 := by
  have hF := isF_head (tooShort (evOf n ties) ts) (2 * n + 1)
  have hG : firstW n (allR n ties) ts = ((List.range (2 * n + 1)).filter (tooShort (evOf n ties) ts)).head? := by
    unfold firstW
    congr 1
    refine List.filter_congr fun m hm => ?_
    rw [held_zero h1 h2 hl (by have := List.mem_range.mp hm; omega), Bool.not_not]
  show (if heldB (allR n ties) ts (2 * n) 0 = true then none else some ((firstW n (allR n ties) ts).getD 0)) = ((List.range (2 * n + 1)).filter (tooShort (evOf n ties) ts)).head?
  rw [hG, held_zero h1 h2 hl (Nat.le_refl _)]
  generalize ((List.range (2 * n + 1)).filter (tooShort (evOf n ties) ts)).head? = z at hF
  cases z with
  | none => rw [hF (2 * n) (by omega)]; rfl
  | some x =>
    have : tooShort (evOf n ties) ts (2 * n) = true := (tooShort_iff hl (Nat.le_refl _)).mpr (near_up ((tooShort_iff hl (by have := hF.1; omega)).mp hF.2.1) (by have := hF.1; omega))
    rw [this]
    rfl
theorem acc_isF {f : Nat → Nat → Bool} {N : Nat} (up : ∀ t m, m < N → f m t = true → f (N - 1) t = true) (hN : 1 ≤ N) : ∀ (l : List Nat) (done : List Nat) (acc : Option Nat), IsF (fun m => done.any (f m)) N acc →
    IsF (fun m => (done ++ l).any (f m)) N (l.foldl (fun acc t => if f (N - 1) t = true then (match acc with | none => some ((((List.range N).filter fun m => f m t).head?).getD 0) | some x => some (min x ((((List.range N).filter fun m => f m t).head?).getD 0))) else acc) acc)
  | [], done, acc, h => by rw [List.append_nil]; exact h
  | t :: l, done, acc, h => by
    rw [show done ++ t :: l = (done ++ [t]) ++ l by simp, List.foldl_cons]
    refine acc_isF up hN l (done ++ [t]) _ ?_
    have hF := isF_head (fun m => f m t) N
    have hany : ∀ m, (done ++ [t]).any (f m) = (done.any (f m) || f m t) := fun m => by rw [List.any_append]; simp
    generalize ((List.range N).filter fun m => f m t).head? = z at hF
    cases z with
    | none =>
      have b0 : ∀ m, m < N → f m t = false := fun m hm => hF.no hm
      rw [if_neg (by rw [b0 (N - 1) (by omega)]; exact Bool.false_ne_true)]
      cases acc with
      | none =>
        have a0 : ∀ m, m < N → done.any (f m) = false := fun m hm => h.no hm
        exact fun m hm => by show (done ++ [t]).any (f m) = false; rw [hany, a0 m hm, b0 m hm]; rfl
      | some x =>
        have a1 := h.lt
        have a2 : done.any (f x) = true := h.at
        have a3 : ∀ m, m < x → done.any (f m) = false := fun m hm => h.pre hm
        exact ⟨a1, by show (done ++ [t]).any (f x) = true; rw [hany, a2]; rfl, fun m hm => by show (done ++ [t]).any (f m) = false; rw [hany, a3 m hm, b0 m (by omega)]; rfl⟩
    | some y =>
      have b1 := hF.lt
      have b2 : f y t = true := hF.at
      have b3 : ∀ m, m < y → f m t = false := fun m hm => hF.pre hm
      rw [if_pos (up t y b1 b2)]
      cases acc with
      | none =>
        have a0 : ∀ m, m < N → done.any (f m) = false := fun m hm => h.no hm
        refine ⟨b1, ?_, fun m hm => ?_⟩
        · show (done ++ [t]).any (f y) = true
          rw [hany, b2, Bool.or_true]
        · show (done ++ [t]).any (f m) = false
          have hm : m < y := hm
          rw [hany, a0 m (by omega), b3 m hm]; rfl
      | some x =>
        have a1 := h.lt
        have a2 : done.any (f x) = true := h.at
        have a3 : ∀ m, m < x → done.any (f m) = false := fun m hm => h.pre hm
        show IsF _ N (some (min x y))
        refine ⟨by omega, ?_, fun m hm => ?_⟩
        · show (done ++ [t]).any (f (min x y)) = true
          rw [hany]
          by_cases e : x ≤ y
          · rw [show min x y = x by omega, a2]; rfl
          · rw [show min x y = y by omega, b2, Bool.or_true]
        · show (done ++ [t]).any (f m) = false
          rw [hany, a3 m (by omega), b3 m (by omega)]; rfl
theorem foldl_congr2 {α β : Type} {f g : α → β → α} : ∀ {l : List β}, (∀ a, ∀ t ∈ l, f a t = g a t) → ∀ a, l.foldl f a = l.foldl g a
  | [], _, _ => rfl
  | t :: l, h, a => by
    rw [List.foldl_cons, List.foldl_cons, h a t (List.mem_cons_self ..)]
    exact foldl_congr2 (fun a t ht => h a t (List.mem_cons_of_mem _ ht)) _
theorem missOf_lt' {i : Nat} (h : i ∈ missOf ts) : i < ts.length := by
  unfold missOf at h
  exact List.mem_range.mp (List.mem_filter.mp h).1
theorem lim2 (h1 : 1 ≤ n) (h2 : n ≤ 12) (hl : ts.length = n) : (limL n (allR n ties) ts).2 = (limOf n (evOf n ties) ts).2 := by
  have hF := isF_head (hasRing (evOf n ties) ts) (n + 1)
  refine IsF.unique (f := hasRing (evOf n ties) ts) (N := n + 1) ?_ hF
  -- both by rowPos at m ≤ n
  have key := acc_isF (f := fun m t => decide (m ≤ n) && (decide (t < n) && rowPos (evOf n ties) m t)) (N := n + 1) (fun t m hm h => ?_) (by omega) (missOf ts) [] none (fun m hm => rfl)
  · rw [show limL n (allR n ties) ts = (_, (missOf ts).foldl (accR n (allR n ties)) none) from rfl]
    show IsF _ _ ((missOf ts).foldl (accR n (allR n ties)) none)
    rw [foldl_congr2 (f := accR n (allR n ties)) (g := fun acc t => if (fun m t => decide (m ≤ n) && (decide (t < n) && rowPos (evOf n ties) m t)) (n + 1 - 1) t = true then (match acc with | none => some ((((List.range (n + 1)).filter fun m => (fun m t => decide (m ≤ n) && (decide (t < n) && rowPos (evOf n ties) m t)) m t).head?).getD 0) | some x => some (min x ((((List.range (n + 1)).filter fun m => (fun m t => decide (m ≤ n) && (decide (t < n) && rowPos (evOf n ties) m t)) m t).head?).getD 0))) else acc) ?_]
    · have hcg : ∀ {z : Option Nat}, IsF (fun m => ([] ++ missOf ts).any fun t => decide (m ≤ n) && (decide (t < n) && rowPos (evOf n ties) m t)) (n + 1) z → IsF (hasRing (evOf n ties) ts) (n + 1) z := by
        intro z hz
        have e : ∀ m, m < n + 1 → hasRing (evOf n ties) ts m = ([] ++ missOf ts).any fun t => decide (m ≤ n) && (decide (t < n) && rowPos (evOf n ties) m t) := by
          intro m hm
          unfold hasRing
          rw [List.nil_append]
          refine bool_iff ?_
          rw [List.any_eq_true, List.any_eq_true]
          constructor
          · rintro ⟨t, ht, h⟩
            exact ⟨t, ht, by rw [h, decide_eq_true (show m ≤ n by omega), decide_eq_true (show t < n by have := missOf_lt' ht; omega)]; rfl⟩
          · rintro ⟨t, ht, h⟩
            rw [Bool.and_eq_true, Bool.and_eq_true] at h
            exact ⟨t, ht, h.2.2⟩
        cases z with
        | none => exact fun m hm => by rw [e m hm]; exact hz m hm
        | some x => exact ⟨hz.1, by rw [e x hz.1]; exact hz.2.1, fun m hm => by rw [e m (by have := hz.1; omega)]; exact hz.2.2 m hm⟩
      exact hcg key
    · intro acc t ht
      have htn : t < n := by have := missOf_lt' ht; omega
      have hp : ∀ m, m ≤ n → posAt (allR n ties) m t = (decide (m ≤ n) && (decide (t < n) && rowPos (evOf n ties) m t)) := by
        intro m hm
        rw [decide_eq_true hm, decide_eq_true htn, Bool.true_and, Bool.true_and]
        refine bool_iff ?_
        rw [posAt_iff htn (by omega), rowPos_iff htn (by omega)]
      have hfr : firstR n (allR n ties) t = ((List.range (n + 1)).filter fun m => decide (m ≤ n) && (decide (t < n) && rowPos (evOf n ties) m t)).head? := by
        unfold firstR
        congr 1
        exact List.filter_congr fun m hm => hp m (by have := List.mem_range.mp hm; omega)
      unfold accR
      rw [hfr, hp n (Nat.le_refl _)]
      rfl
  · show (decide (n + 1 - 1 ≤ n) && (decide (t < n) && rowPos (evOf n ties) (n + 1 - 1) t)) = true
    have h : (decide (m ≤ n) && (decide (t < n) && rowPos (evOf n ties) m t)) = true := h
    rw [Bool.and_eq_true, Bool.and_eq_true] at h ⊢
    obtain ⟨e1, e2, e3⟩ := h
    have htn := of_decide_eq_true e2
    refine ⟨decide_eq_true (by omega), e2, ?_⟩
    rw [rowPos_iff htn (by omega)] at e3 ⊢
    exact ring_up e3 (by omega)
theorem lim_eq (h1 : 1 ≤ n) (h2 : n ≤ 12) (hl : ts.length = n) : limL n (allR n ties) ts = limOf n (evOf n ties) ts := Prod.ext (lim1 h1 h2 hl) (lim2 h1 h2 hl)
end
end Sa
set_option Elab.async false
set_option linter.all false
set_option maxRecDepth 100000
set_option maxHeartbeats 4000000
namespace Sa
/-! ### what the limits allow is held -/
theorem nodup_le : ∀ (n : Nat) (l : List Nat), l.Nodup → (∀ x ∈ l, x < n) → l.length ≤ n
  | 0, l, _, h => by
    cases l with
    | nil => exact Nat.le_refl _
    | cons a t => exact absurd (h a (List.mem_cons_self ..)) (Nat.not_lt_zero _)
  | n + 1, l, hn, h => by
    have h1 := nodup_le n (l.filter fun x => decide (x ≠ n)) (hn.filter _) (fun x hx => by
      obtain ⟨a, b⟩ := List.mem_filter.mp hx
      have := h x a
      have := of_decide_eq_true b
      omega)
    have h2 : l.length ≤ (l.filter fun x => decide (x ≠ n)).length + 1 := by
      clear h h1
      induction l with
      | nil => exact Nat.zero_le _
      | cons a t ih =>
        obtain ⟨ha, ht⟩ := List.nodup_cons.mp hn
        by_cases e : a = n
        · subst e
          rw [List.filter_cons_of_neg (by simp), List.filter_eq_self.mpr]
          · rw [List.length_cons]; exact Nat.le_refl _
          · intro x hx
            exact decide_eq_true fun z => ha (z ▸ hx)
        · rw [List.filter_cons_of_pos (by simpa using e), List.length_cons, List.length_cons]
          have := ih ht
          omega
    omega
theorem dup_split {α : Type} {f : α → Nat} : ∀ {l : List α}, ¬ (l.map f).Nodup → ∃ l1 x l2 y l3, l = l1 ++ x :: (l2 ++ y :: l3) ∧ f x = f y
  | [], h => absurd List.nodup_nil h
  | a :: t, h => by
    by_cases ht : (t.map f).Nodup
    · have : f a ∈ t.map f := Classical.byContradiction fun z => h (List.nodup_cons.mpr ⟨z, ht⟩)
      obtain ⟨y, hy, e⟩ := List.mem_map.mp this
      obtain ⟨l2, l3, rfl⟩ := List.append_of_mem hy
      exact ⟨[], a, l2, y, l3, rfl, e.symm⟩
    · obtain ⟨l1, x, l2, y, l3, rfl, e⟩ := dup_split ht
      exact ⟨a :: l1, x, l2, y, l3, rfl, e⟩
/-- a long chain holds a short ring -/
theorem ring_in {ties : Ties} {n : Nat} (ok : TiesOk n ties) {l : Ties} {a b : Nat} (h : Chn ties a l b) (hl : n < l.length) :
    ∃ l1 c l2 v, l = l1 ++ c ++ l2 ∧ 1 ≤ c.length ∧ c.length ≤ n ∧ v < n ∧ Chn ties a l1 v ∧ Chn ties v c v ∧ Chn ties v l2 b := by
  have hd : ¬ ((l.take (n + 1)).map (·.1)).Nodup := fun z => by
    have := nodup_le n _ z (fun x hx => by
      obtain ⟨t, ht, rfl⟩ := List.mem_map.mp hx
      exact Chn.lt ok h t (List.mem_of_mem_take ht))
    rw [List.length_map, List.length_take] at this
    omega
  obtain ⟨l1, x, l2, y, l3, e, exy⟩ := dup_split hd
  have hlen : (l.take (n + 1)).length = n + 1 := by rw [List.length_take]; omega
  rw [e] at hlen
  obtain ⟨z, hz⟩ : ∃ z, l = l.take (n + 1) ++ z := ⟨_, (List.take_append_drop (n + 1) l).symm⟩
  rw [e] at hz
  have he : l = l1 ++ (x :: l2) ++ (y :: (l3 ++ z)) := by
    rw [hz]
    simp
  rw [he] at h
  obtain ⟨v, h12, h3⟩ := Chn.split h
  obtain ⟨u, h1, h2⟩ := Chn.split h12
  have eu : x.1 = u := h2.2.1
  have ev : y.1 = v := h3.2.1
  have euv : u = v := by rw [← eu, ← ev]; exact exy
  subst euv
  refine ⟨l1, x :: l2, _, u, he, by simp, ?_, ?_, h1, h2, h3⟩
  · simp at hlen ⊢
    omega
  · rw [← eu]; exact (ok x h2.1).1
/-- where no short ring gains, short chains are the best -/
theorem chn_short {ties : Ties} {n : Nat} (ok : TiesOk n ties) (hc : ∀ v c, v < n → Chn ties v c v → c.length ≤ n → wsum c ≤ 0) : ∀ (k : Nat) (l : Ties) (a b : Nat), l.length ≤ k → Chn ties a l b → ∃ l', Chn ties a l' b ∧ l'.length ≤ n ∧ wsum l ≤ wsum l'
  | 0, l, a, b, hk, h => ⟨l, h, by omega, Int.le_refl _⟩
  | k + 1, l, a, b, hk, h => by
    by_cases hl : n < l.length
    · obtain ⟨l1, c, l2, v, rfl, c1, c2, hv, h1, h2, h3⟩ := ring_in ok h hl
      rw [List.length_append, List.length_append] at hk
      obtain ⟨l', e1, e2, e3⟩ := chn_short ok hc k (l1 ++ l2) a b (by rw [List.length_append]; omega) (Chn.app h1 h3)
      refine ⟨l', e1, e2, ?_⟩
      have := hc v c hv h2 c2
      rw [wsum_app] at e3
      rw [wsum_app, wsum_app]
      omega
    · exact ⟨l, h, by omega, Int.le_refl _⟩
section
variable {n : Nat} {ties : Ties} {ts : List (Option Int)}
theorem near_of {m a b : Nat} {x y : Int} {l : Ties} (ok : TiesOk n ties) (hl : ts.length = n) (hx : ts[a]? = some (some x)) (hy : ts[b]? = some (some y)) (h : Chn ties a l b) (hm : l.length ≤ m) (hw : y - x < wsum l) : Near n ties ts m := by
  obtain ⟨w, e, le⟩ := iterRow_max ok (show a < n by have := get_lt hx; omega) h hm
  exact ⟨a, b, x, y, w, hx, hy, e, by omega⟩
theorem ring_of {m t : Nat} {l : Ties} (ok : TiesOk n ties) (ht : t < n) (h : Chn ties t l t) (hm : l.length ≤ m) (hw : 0 < wsum l) : RingAt n ties m t := by
  obtain ⟨w, e, le⟩ := iterRow_max ok ht h hm
  exact ⟨w, e, by omega⟩
theorem held_fit (h1 : 1 ≤ n) (h2 : n ≤ 12) (hl : ts.length = n) (ok : TiesOk n ties) {N R : Nat} (hRN : R ≤ N) (hNR : N ≤ 2 * R) (hp : fitB (limOf n (evOf n ties) ts) N R = true) : heldB (allR n ties) ts N R = true := by
  rw [held_iff h1 h2 hl]
  have hF1 := isF_head (tooShort (evOf n ties) ts) (2 * n + 1)
  have hF2 := isF_head (hasRing (evOf n ties) ts) (n + 1)
  unfold fitB at hp
  rw [Bool.and_eq_true] at hp
  obtain ⟨p1, p2⟩ := hp
  have e1 : (limOf n (evOf n ties) ts).1 = ((List.range (2 * n + 1)).filter (tooShort (evOf n ties) ts)).head? := rfl
  have e2 : (limOf n (evOf n ties) ts).2 = ((List.range (n + 1)).filter (hasRing (evOf n ties) ts)).head? := rfl
  rw [e1] at p1
  rw [e2] at p2
  generalize ((List.range (2 * n + 1)).filter (tooShort (evOf n ties) ts)).head? = z1 at hF1 p1
  generalize ((List.range (n + 1)).filter (hasRing (evOf n ties) ts)).head? = z2 at hF2 p2
  -- (1) no pair too near at m ≤ N, m ≤ 2n
  have c1 : ∀ m, m ≤ N → m ≤ 2 * n → ¬ Near n ties ts m := by
    intro m hm hm2 hN
    have ht := (tooShort_iff hl hm2).mpr hN
    cases z1 with
    | none => rw [hF1.no (by omega)] at ht; cases ht
    | some x =>
      have := of_decide_eq_true p1
      rw [hF1.pre (by omega)] at ht; cases ht
  -- (2) no ring at a missing thing for m ≤ R, m ≤ n
  have c2 : ∀ m t, m ≤ R → m ≤ n → t < n → ts.getD t none = none → ¬ RingAt n ties m t := by
    intro m t hm hmn ht hnn hr
    have hh : hasRing (evOf n ties) ts m = true := by
      unfold hasRing
      rw [List.any_eq_true]
      refine ⟨t, ?_, (rowPos_iff ht (by omega)).mpr hr⟩
      unfold missOf
      exact List.mem_filter.mpr ⟨List.mem_range.mpr (by omega), by rw [hnn]; rfl⟩
    cases z2 with
    | none => rw [hF2.no (by omega)] at hh; cases hh
    | some x =>
      have := of_decide_eq_true p2
      rw [hF2.pre (by omega)] at hh; cases hh
  by_cases hR : R ≤ n
  · rw [show min N (2 * n + 2) = N by omega, show min R (2 * n + 2) = R by omega]
    exact ⟨c1 N (Nat.le_refl _) (by omega), fun t ht hnn => c2 R t (Nat.le_refl _) hR ht hnn⟩
  · have hc : ∀ v c, v < n → Chn ties v c v → c.length ≤ n → wsum c ≤ 0 := by
      intro v c hv h hcl
      refine Classical.byContradiction fun hw => ?_
      cases hx : ts.getD v none with
      | none => exact c2 n v (by omega) (Nat.le_refl _) hv hx (ring_of ok hv h hcl (by omega))
      | some x => exact c1 n (by omega) (by omega) (near_of ok hl (get_of hx) (get_of hx) h hcl (by omega))
    constructor
    · rintro ⟨a, b, x, y, w, hx, hy, hw, hlt⟩
      obtain ⟨l, k1, k2, k3⟩ := iterRow_src _ _ _ hw
      obtain ⟨l', j1, j2, j3⟩ := chn_short ok hc _ l a b (Nat.le_refl _) k1
      exact c1 n (by omega) (by omega) (near_of ok hl hx hy j1 j2 (by omega))
    · rintro t ht hnn ⟨w, hw, hlt⟩
      obtain ⟨l, k1, k2, k3⟩ := iterRow_src _ _ _ hw
      obtain ⟨l', j1, j2, j3⟩ := chn_short ok hc _ l t t (Nat.le_refl _) k1
      exact c2 n t (by omega) (Nat.le_refl _) ht hnn (ring_of ok ht j1 j2 (by omega))
end
end Sa
set_option Elab.async false
set_option linter.all false
set_option maxRecDepth 100000
set_option maxHeartbeats 4000000
namespace Sa
/-! ### all cuts of a few orders -/
def compF : Nat → Nat → List (List Nat)
  | 0, _ => [[]]
  | f + 1, n => if n = 0 then [[]] else (List.range n).flatMap fun s => (compF f (n - (s + 1))).map fun c => (s + 1) :: c
theorem compF_all : ∀ (f n : Nat) (c : List Nat), n ≤ f → c.sum = n → (∀ x ∈ c, 1 ≤ x) → c ∈ compF f n
  | 0, n, c, hn, hs, hp => by
    cases c with
    | nil => exact List.mem_singleton.mpr rfl
    | cons x t =>
      have := hp x (List.mem_cons_self ..)
      rw [List.sum_cons] at hs
      omega
  | f + 1, n, c, hn, hs, hp => by
    unfold compF
    cases c with
    | nil => rw [if_pos (by rw [← hs]; rfl)]; exact List.mem_singleton.mpr rfl
    | cons x t =>
      have hx := hp x (List.mem_cons_self ..)
      rw [List.sum_cons] at hs
      rw [if_neg (by omega)]
      refine List.mem_flatMap.mpr ⟨x - 1, List.mem_range.mpr (by omega), List.mem_map.mpr ⟨t, ?_, ?_⟩⟩
      · exact compF_all f _ t (by omega) (by omega) fun y hy => hp y (List.mem_cons_of_mem _ hy)
      · rw [show x - 1 + 1 = x by omega]
theorem cuts_dec : ∀ o, o ≤ 7 → 1 ≤ o → ∀ c ∈ compF o o, c ∈ cutsL o := by decide +kernel
theorem cuts_good : ∀ o, o ≤ 7 → 1 ≤ o → ∀ c ∈ cutsL o, c.sum = o ∧ (∀ x ∈ c, 1 ≤ x) ∧ 1 ≤ c.length ∧ c.length ≤ o := by decide +kernel
theorem best_dec : ∀ o, o ≤ 7 → (∀ m, m < o → bestCut o (m + 1) ∈ cutsL o ∧ (bestCut o (m + 1)).length = m + 1) ∧ (∀ c ∈ cutsL o, walkR (bestCut o c.length) ≤ walkR c ∧ ringR (bestCut o c.length) ≤ ringR c) ∧
    ∀ m, m < o → 1 ≤ m → walkR (bestCut o m) ≤ walkR (bestCut o (m + 1)) ∧ ringR (bestCut o m) ≤ ringR (bestCut o (m + 1)) := by decide +kernel
theorem worst_dec : ∀ o, o ≤ 7 → (∀ m, m < o → worstCut o (m + 1) ∈ cutsL o ∧ (worstCut o (m + 1)).length = m + 1) ∧ (∀ c ∈ cutsL o, walkR c ≤ walkR (worstCut o c.length) ∧ ringR c ≤ ringR (worstCut o c.length)) ∧
    ∀ m, m < o → 1 ≤ m → walkR (worstCut o m) ≤ walkR (worstCut o (m + 1)) ∧ ringR (worstCut o m) ≤ ringR (worstCut o (m + 1)) := by decide +kernel
theorem rounds_fold (g : Nat → Bool) : ∀ (N k : Nat), (∀ j, k < j → j < k + N → g (j + 1) = true → g j = true) → (List.range' k N).foldl (fun fd i => if g (i + 1) = true then i + 1 else fd) k = roundsGo g N k
  | 0, k, _ => rfl
  | N + 1, k, h => by
    rw [List.range'_succ, List.foldl_cons]
    unfold roundsGo
    by_cases e : g (k + 1) = true
    · rw [if_pos e, if_pos e]
      exact rounds_fold g N (k + 1) fun j h1 h2 => h j (by omega) (by omega)
    · rw [if_neg e, if_neg e]
      have hall : ∀ d, d ≤ N → ¬ g (k + 1 + d) = true := by
        intro d
        induction d with
        | zero => exact fun _ => e
        | succ d ih => exact fun hd z => ih (by omega) (h (k + 1 + d) (by omega) (by omega) z)
      have : ∀ (M s : Nat), (∀ d, d < M → ¬ g (s + d + 1) = true) → (List.range' s M).foldl (fun fd i => if g (i + 1) = true then i + 1 else fd) k = k := by
        intro M
        induction M with
        | zero => exact fun _ _ => rfl
        | succ M ih =>
          intro s hs
          rw [List.range'_succ, List.foldl_cons, if_neg (hs 0 (by omega))]
          exact ih (s + 1) fun d hd => by have := hs (d + 1) (by omega); rw [show s + 1 + d + 1 = s + (d + 1) + 1 by omega]; exact this
      exact this N (k + 1) fun d hd => by have := hall (d + 1) (by omega); rw [show k + 1 + d + 1 = k + 1 + (d + 1) by omega]; exact this
/-- the law's loop over many orders -/
def manyF (g : Nat → Bool) (i : Nat) : Nat := (List.range i).foldl (fun s k => if s = k ∧ g (k + 1) = true then k + 1 else s) 0
theorem manyF_succ (g : Nat → Bool) (i : Nat) : manyF g (i + 1) = if manyF g i = i ∧ g (i + 1) = true then i + 1 else manyF g i := by
  unfold manyF
  rw [List.range_succ, List.foldl_append]
  rfl
theorem many_fold (g : Nat → Bool) : ∀ (N k : Nat), (List.range' k N).foldl (fun s i => if s = i ∧ g (i + 1) = true then i + 1 else s) k = roundsGo g N k
  | 0, k => rfl
  | N + 1, k => by
    rw [List.range'_succ, List.foldl_cons]
    unfold roundsGo
    by_cases e : g (k + 1) = true
    · rw [if_pos ⟨rfl, e⟩, if_pos e]
      exact many_fold g N (k + 1)
    · rw [if_neg (fun z => e z.2), if_neg e]
      have : ∀ (M s : Nat), k < s → (List.range' s M).foldl (fun s i => if s = i ∧ g (i + 1) = true then i + 1 else s) k = k := by
        intro M
        induction M with
        | zero => exact fun _ _ => rfl
        | succ M ih =>
          intro s hs
          rw [List.range'_succ, List.foldl_cons, if_neg (fun z => by have := z.1; omega)]
          exact ih (s + 1) (by omega)
      exact this N (k + 1) (by omega)
theorem manyF_go (g : Nat → Bool) (o : Nat) : manyF g o = roundsGo g o 0 := by
  unfold manyF
  rw [List.range_eq_range']
  exact many_fold g o 0
theorem manyF_le (g : Nat → Bool) : ∀ i, manyF g i ≤ i
  | 0 => Nat.le_refl _
  | i + 1 => by
    rw [manyF_succ]
    have := manyF_le g i
    split <;> omega
theorem someOf_map (cuts : List (List Nat)) (f : List Nat → Bool) (m : Nat) (b : Bool) : b ∈ someOf cuts (cuts.map f) m ↔ ∃ c ∈ cuts, c.length = m ∧ f c = b := by
  unfold someOf
  rw [List.mem_map]
  constructor
  · rintro ⟨i, hi, rfl⟩
    obtain ⟨h1, h2⟩ := List.mem_filter.mp hi
    have h1 := List.mem_range.mp h1
    have h2 := of_decide_eq_true h2
    rw [List.getD_eq_getElem?_getD, List.getElem?_eq_getElem h1] at h2
    refine ⟨cuts[i], List.getElem_mem h1, h2, ?_⟩
    rw [List.getD_eq_getElem?_getD, List.getElem?_map, List.getElem?_eq_getElem h1]
    rfl
  · rintro ⟨c, hc, h1, rfl⟩
    obtain ⟨i, hi, rfl⟩ := List.getElem_of_mem hc
    refine ⟨i, List.mem_filter.mpr ⟨List.mem_range.mpr hi, decide_eq_true ?_⟩, ?_⟩
    · rw [List.getD_eq_getElem?_getD, List.getElem?_eq_getElem hi]; exact h1
    · rw [List.getD_eq_getElem?_getD, List.getElem?_map, List.getElem?_eq_getElem hi]
      rfl
theorem below_up {a b : Nat} {l : Option Nat} (h : below b l = true) (e : a ≤ b) : below a l = true := by
  cases l with
  | none => rfl
  | some z =>
    have := of_decide_eq_true h
    exact decide_eq_true (by omega)
theorem fits_up {p : Pr} {c d : List Nat} (h : fits p d = true) (e1 : walkR c ≤ walkR d) (e2 : ringR c ≤ ringR d) : fits p c = true := by
  unfold fits fitB at h ⊢
  rw [Bool.and_eq_true] at h ⊢
  exact ⟨below_up h.1 e1, below_up h.2 e2⟩
theorem rounds_fold2 {α : Type} {f g : α → Nat → α} : ∀ {l : List Nat}, (∀ a, ∀ t ∈ l, f a t = g a t) → ∀ a, l.foldl f a = l.foldl g a
  | [], _, _ => rfl
  | t :: l, h, a => by
    rw [List.foldl_cons, List.foldl_cons, h a t (List.mem_cons_self ..)]
    exact rounds_fold2 (fun a t ht => h a t (List.mem_cons_of_mem _ ht)) _
theorem rounds_best (p : Pr) {o : Nat} (ho : o ≤ 7) : roundsL (cutsL o) ((cutsL o).map (fits p)) o false = roundsN p o bestCut := by
  obtain ⟨b1, b2, b3⟩ := best_dec o ho
  have hk : ∀ k, k < o → okM false (someOf (cutsL o) ((cutsL o).map (fits p)) (k + 1)) = fits p (bestCut o (k + 1)) := by
    intro k hk
    show List.any _ id = _
    obtain ⟨m1, m2⟩ := b1 k hk
    cases hf : fits p (bestCut o (k + 1)) with
    | true =>
      rw [List.any_eq_true]
      exact ⟨true, (someOf_map _ _ _ _).mpr ⟨_, m1, m2, hf⟩, rfl⟩
    | false =>
      rw [List.any_eq_false]
      intro b hb hb1
      obtain ⟨c, hc, hl, rfl⟩ := (someOf_map _ _ _ _).mp hb
      have := b2 c hc
      rw [hl] at this
      rw [fits_up hb1 this.1 this.2] at hf
      cases hf
  show (List.range o).foldl _ 0 = roundsGo (fun k => fits p (bestCut o k)) o 0
  rw [rounds_fold2 (g := fun fd i => if fits p (bestCut o (i + 1)) = true then i + 1 else fd) (fun a t ht => by rw [hk t (List.mem_range.mp ht)]), List.range_eq_range']
  exact rounds_fold (fun k => fits p (bestCut o k)) o 0 fun j h1 h2 h3 => fits_up h3 (b3 j (by omega) h1).1 (b3 j (by omega) h1).2
theorem rounds_worst (p : Pr) {o : Nat} (ho : o ≤ 7) : roundsL (cutsL o) ((cutsL o).map (fits p)) o true = roundsN p o worstCut := by
  obtain ⟨b1, b2, b3⟩ := worst_dec o ho
  have hk : ∀ k, k < o → okM true (someOf (cutsL o) ((cutsL o).map (fits p)) (k + 1)) = fits p (worstCut o (k + 1)) := by
    intro k hk
    show List.all _ id = _
    obtain ⟨m1, m2⟩ := b1 k hk
    cases hf : fits p (worstCut o (k + 1)) with
    | true =>
      rw [List.all_eq_true]
      intro b hb
      obtain ⟨c, hc, hl, rfl⟩ := (someOf_map _ _ _ _).mp hb
      have := b2 c hc
      rw [hl] at this
      exact fits_up hf this.1 this.2
    | false =>
      refine Bool.eq_false_iff.mpr fun z => ?_
      rw [List.all_eq_true] at z
      have := z (fits p (worstCut o (k + 1))) ((someOf_map _ _ _ _).mpr ⟨_, m1, m2, rfl⟩)
      rw [hf] at this
      cases this
  show (List.range o).foldl _ 0 = roundsGo (fun k => fits p (worstCut o k)) o 0
  rw [rounds_fold2 (g := fun fd i => if fits p (worstCut o (i + 1)) = true then i + 1 else fd) (fun a t ht => by rw [hk t (List.mem_range.mp ht)]), List.range_eq_range']
  exact rounds_fold (fun k => fits p (worstCut o k)) o 0 fun j h1 h2 h3 => fits_up h3 (b3 j (by omega) h1).1 (b3 j (by omega) h1).2
/-! ### the least waiting -/
theorem held_mem {p : Pr} {o : Nat} {c : List Nat} (ho : o ≤ 7) (h1 : 1 ≤ o) (h : Held p o c) : c ∈ cutsL o := cuts_dec o ho h1 c (compF_all o o c (Nat.le_refl _) h.sum h.pos)
theorem held_cut {p : Pr} {o : Nat} {c : List Nat} (ho : o ≤ 7) (h1 : 1 ≤ o) (h : c ∈ cutsL o) (hf : fits p c = true) : Held p o c := ⟨(cuts_good o ho h1 c h).1, (cuts_good o ho h1 c h).2.1, hf⟩
theorem least_none {p : Pr} {o : Nat} (ho : o ≤ 7) (h1 : 1 ≤ o) (h : Least p o none) : ∀ b ∈ (cutsL o).map (fits p), b = false := by
  intro b hb
  obtain ⟨c, hc, rfl⟩ := List.mem_map.mp hb
  exact Bool.eq_false_iff.mpr fun z => h c (held_cut ho h1 hc z)
theorem least_some {p : Pr} {o : Nat} {x : WC} (ho : o ≤ 7) (h1 : 1 ≤ o) (h : Least p o (some x)) : true ∈ (cutsL o).map (fits p) := List.mem_map.mpr ⟨x.2, held_mem ho h1 h.1, h.1.fit⟩
/-- the least of the held cuts' waitings -/
theorem least_min {p : Pr} {o : Nat} {x : WC} {m : Nat} (ho : o ≤ 7) (h1 : 1 ≤ o) (h : Least p o (some x)) (h2 : ∃ c ∈ cutsL o, fits p c = true ∧ waitN c = m) (h3 : ∀ c ∈ cutsL o, fits p c = true → m ≤ waitN c) : m = x.1 := by
  obtain ⟨c, hc, hf, rfl⟩ := h2
  have e1 := h.2.2 c (held_cut ho h1 hc hf)
  have e2 := h3 x.2 (held_mem ho h1 h.1) h.1.fit
  rw [h.2.1] at e2
  omega
theorem least_two {p : Pr} {o : Nat} {x : WC} {y : Nat} (h : Least p o (some x)) (k : LeastL p o (some y)) : y = x.1 := by
  obtain ⟨⟨c, hc, e⟩, k2⟩ := k
  have := h.2.2 c hc
  have := k2 x.2 h.1
  have := h.2.1
  omega
theorem walk_le_cons (b : Nat) (t : List Nat) : walkR (b :: t) = (b + 1) * walkR t := by
  have go : ∀ (c : List Nat) (a : Nat), c.foldl (fun a b => a * (b + 1)) a = a * walkR c := by
    intro c
    induction c with
    | nil => intro a; show a = a * 1; omega
    | cons b t ih =>
      intro a
      unfold walkR
      rw [List.foldl_cons, List.foldl_cons, ih, ih, Nat.one_mul, Nat.mul_assoc]
  show t.foldl _ (1 * (b + 1)) = _
  rw [go, Nat.one_mul]
theorem reach_two {c : List Nat} (h1 : ∀ x ∈ c, 1 ≤ x) (h2 : 1 ≤ c.sum) : ringR c ≤ walkR c ∧ walkR c ≤ 2 * ringR c := by
  cases c with
  | nil => simp at h2
  | cons b t =>
    have hb := h1 b (List.mem_cons_self ..)
    rw [walk_le_cons]
    show b * walkR t ≤ _ ∧ _ ≤ 2 * (b * walkR t)
    rw [← Nat.mul_assoc]
    exact ⟨Nat.mul_le_mul_right _ (by omega), Nat.mul_le_mul_right _ (by omega)⟩
/-- the ring of nine -/
def ring9 : Ties := (List.range 9).map fun a => (a, (a + 1) % 9, if a = 0 then (1 : Int) else 0)
def none9 : List (Option Int) := List.replicate 9 none
theorem ring9_lim : limOf 9 (evOf 9 ring9) none9 = (none, some 9) := by decide +kernel
theorem ring9_rounds : roundsN (none, some 9) 5 bestCut = 3 ∧ roundsN (none, some 9) 5 worstCut = 1 ∧ roundsN (none, some 9) 4 worstCut = 4 := by decide +kernel
theorem ring9_dec : (∀ c ∈ compF 5 5, fits (none, some 9) c = true → 3 ≤ waitN c) ∧ (∀ c ∈ compF 8 8, fits (none, some 9) c = true → 21 ≤ waitN c ∧ (waitN c = 21 → c = [1, 7])) := by decide +kernel
theorem ring9_least {o : Nat} {x : Option WC} (h : Least (none, some 9) o x) (ho : o = 5 ∨ o = 8) : ∃ y, x = some y ∧ (o = 5 → y.1 = 3) ∧ (o = 8 → y = (21, [1, 7])) := by
  cases x with
  | none =>
    rcases ho with rfl | rfl
    · exact absurd ⟨by rfl, by decide, by decide⟩ (h [1, 3, 1])
    · exact absurd ⟨by rfl, by decide, by decide⟩ (h [1, 7])
  | some y =>
    obtain ⟨y1, y2⟩ := y
    obtain ⟨h1, h2, h3⟩ := h
    have hm : ∀ f, o = f → y2 ∈ compF f f := fun f e => compF_all f f y2 (Nat.le_refl _) (by rw [← e]; exact h1.sum) h1.pos
    refine ⟨_, rfl, fun e => ?_, fun e => ?_⟩
    · subst e
      have a := ring9_dec.1 y2 (hm 5 rfl) h1.fit
      have b := h3 [1, 3, 1] ⟨rfl, by decide, by decide⟩
      have c : waitN [1, 3, 1] = 3 := rfl
      show y1 = 3
      have h2 : waitN y2 = y1 := h2
      have b : y1 ≤ _ := b
      omega
    · subst e
      have a := ring9_dec.2 y2 (hm 8 rfl) h1.fit
      have b := h3 [1, 7] ⟨rfl, by decide, by decide⟩
      have c : waitN [1, 7] = 21 := rfl
      have h2 : waitN y2 = y1 := h2
      have b : y1 ≤ _ := b
      have e1 : y1 = 21 := by omega
      subst e1
      rw [a.2 h2]
end Sa
set_option Elab.async false
set_option linter.all false
set_option maxRecDepth 100000
set_option maxHeartbeats 4000000
namespace Sa
open PySem PySem.Spec PyProof.Rows L2
local macro_rules | `(tactic| walk_at "vc") => `(tactic| repeat (first | refine ⟨_, rfl, ?_⟩ | refine ⟨_, _, rfl, rfl, ?_⟩ | refine ⟨_, _, rfl, ?_⟩ | refine ⟨rfl, ?_⟩))
/-! ### what stays where tables of code objects grow -/
def strip (F : Hp) : Hp := fun b => match F b with
  | some (.tbl _) => none
  | x => x
section
variable {F H H1 : Hp}
theorem strip_sub : Sub (strip F) F := by
  intro b o h
  unfold strip at h
  split at h
  · cases h
  · exact h
theorem strip_ne {b : Addr} {o : HO} (h : strip F b = some o) : ∀ ps, o ≠ .tbl ps := by
  rintro ps rfl
  unfold strip at h
  split at h
  · cases h
  · rename_i n
    exact n ps h
theorem strip_of {b : Addr} {o : HO} (h : F b = some o) (n : ∀ ps, o ≠ .tbl ps) : strip F b = some o := by
  unfold strip
  rw [h]
  split
  · rename_i ps e
    exact absurd (Option.some.inj e) (n ps)
  · rfl
theorem strip_tup {b : Addr} {xs : List V} (h : F b = some (.tup xs)) : strip F b = some (.tup xs) := strip_of h (fun _ z => by cases z)
theorem strip_lst {b : Addr} {xs : List V} (h : F b = some (.lst xs)) : strip F b = some (.lst xs) := strip_of h (fun _ z => by cases z)
theorem strip_ext (sb : Sub F H) (e : LamX.ExtN H H1) : Sub (strip F) H1 := fun b o h => e b o (sb b o (strip_sub b o h)) (strip_ne h)
theorem strip_mono {F' : Hp} (e : Sub F F') : Sub (strip F) (strip F') := fun b o h => strip_of (e b o (strip_sub b o h)) (strip_ne h)
end
class Stp {α : Type} (r : Rp α) : Prop where
  st : ∀ {F : Hp} {v : V} {x : α}, r F v x → r (strip F) v x
instance : Stp Ri := ⟨fun h => h⟩
instance : Stp Rn := ⟨fun h => h⟩
instance : Stp Rb := ⟨fun h => h⟩
instance {α : Type} {r : Rp α} [Stp r] : Stp (Ro r) := ⟨fun {F v x} h => by
  cases x with
  | none => exact h
  | some y => exact Stp.st (r := r) h⟩
theorem Paired.st {α : Type} {r : Rp α} [Stp r] {F : Hp} {vs : List V} {xs : List α} (h : Paired (r F) vs xs) : Paired (r (strip F)) vs xs := Paired.mono (fun _ _ q => Stp.st q) h
instance {α : Type} {r : Rp α} [Stp r] : Stp (Rl r) := ⟨fun {F v x} h => by
  obtain ⟨a, vs, rfl, h1, h2⟩ := h
  exact ⟨a, vs, rfl, strip_lst h1, Paired.st h2⟩⟩
instance {α : Type} {r : Rp α} [Stp r] : Stp (Rt r) := ⟨fun {F v x} h => by
  obtain ⟨a, vs, rfl, h1, h2⟩ := h
  exact ⟨a, vs, rfl, strip_tup h1, Paired.st h2⟩⟩
instance {α β : Type} {r : Rp α} {s : Rp β} [Stp r] [Stp s] : Stp (R2 r s) := ⟨fun {F v x} h => by
  obtain ⟨a, u, w, rfl, h1, h2, h3⟩ := h
  exact ⟨a, u, w, rfl, strip_tup h1, Stp.st h2, Stp.st h3⟩⟩
instance {α β γ : Type} {r : Rp α} {s : Rp β} {t : Rp γ} [Stp r] [Stp s] [Stp t] : Stp (R3 r s t) := ⟨fun {F v x} h => by
  obtain ⟨a, u, w, z, rfl, h1, h2, h3, h4⟩ := h
  exact ⟨a, u, w, z, rfl, strip_tup h1, Stp.st h2, Stp.st h3, Stp.st h4⟩⟩
theorem RTab.st {K : PySem.W.Frag} {F : Hp} {v : V} {n : Nat} {ties : Ties} (h : RTab K F v n ties) : RTab K (strip F) v n ties := by
  obtain ⟨a, C, dx, fs, at1, vs, vu, h1, h2, h3, h4, h5, h6, h7, h8, h9, h10⟩ := h
  exact ⟨a, C, dx, fs, at1, vs, vu, h1, strip_of h2 (fun _ z => by cases z), h3, h4, h5, h6, h7, strip_tup h8, h9, Stp.st (r := Rt (R3 Rn Rn Ri)) h10⟩
theorem KdOf.st {F : Hp} {v : V} {k : Kd} (h : KdOf F v k) : KdOf (strip F) v k := by
  cases k with
  | tup => obtain ⟨a, xs, rfl, q⟩ := h; exact ⟨a, xs, rfl, strip_tup q⟩
  | lst => obtain ⟨a, xs, rfl, q⟩ := h; exact ⟨a, xs, rfl, strip_lst q⟩
  | _ => exact h
theorem BadT.st {F : Hp} {vv : V} {n : Nat} {at_ : Int} (h : BadT F vv n at_) : BadT (strip F) vv n at_ := by
  rcases h with ⟨k, h1, h2⟩ | ⟨a, xs, h1, h2, h3⟩ | ⟨a, xs, i, v, k, h1, h2, h3, h4, h5, h6, h7⟩
  · exact .inl ⟨k, KdOf.st h1, h2⟩
  · exact .inr (.inl ⟨a, xs, h1, strip_tup h2, h3⟩)
  · exact .inr (.inr ⟨a, xs, i, v, k, h1, strip_tup h2, h3, h4, h5, KdOf.st h6, h7⟩)
instance {n : Nat} : Stp (RBadT n) := ⟨fun {F v x} h => by
  obtain ⟨p, vv, at_, h1, h2, h3⟩ := h
  exact ⟨p, vv, at_, h1, strip_tup h2, h3.st⟩⟩
/-- from F, H on: tables of code objects may grow -/
structure Ep (T : List (Addr × Str)) (F H F' H' : Hp) : Prop where
  s : Sub F' H'
  e : LamX.ExtN H H'
  f : Sub (strip F) F'
  t : LamX.Tabs T H'
theorem Ex.extN {F H F' H' : Hp} (e : Ex S0 F H F' H') : LamX.ExtN H H' := LamX.ExtN.of fun b o h => e.k b o (fun z => z) h
theorem Ex.tabs {T : List (Addr × Str)} {F H F' H' : Hp} (e : Ex S0 F H F' H') (t : LamX.Tabs T H) : LamX.Tabs T H' := t.ext fun b o h => e.k b o (fun z => z) h
/-! ### a def that makes a lambda: its code object, its table -/
def FdT (K : PySem.W.Frag) (mg : Str → Option Value) (base : Heap) (x : Str) (st : Stmt) (P : Addr) : Prop := ∃ f fd c, FunD K x x (defArgs st) (defBody st) (defScope st) [] [] f fd ∧ mg x = some (.ref f) ∧ fd.code = .ref c ∧ LamX.TabB base mg c P
def qL (x : Str) : Str := x ++ ".<locals>." ++ "<lambda>"
section
variable {P : Program} {w : World} {K : PySem.W.Frag} {mg : Str → Option Value} {base : Heap}
theorem mkCT {x : Str} {st : Stmt} {N ps : List Str} {k : Nat} {sp : Sp} {TP : Addr} (F : FdT K mg base x st TP) (S : FnScope N ps (defScope st))
    (hb : ∀ (kV doc pm : Value) (an : Option Addr) (cdv ct : Value) (us : List Value), us.length = ps.length → bindArgs (PySem.W.fnOf x x (defArgs st) (defBody st) (defScope st) .none kV doc pm an cdv ct) ⟨us, []⟩ = pure (ps.zip us))
    (len : ∀ vs H Q E, sp vs H Q E → vs.length = ps.length)
    (hbody : ∀ (f c : Addr) (A : Around) (outer : List Env) (s : Shared) (H : Hp) (vs : List V) (Q : VK) (E : XK), LamX.TabB base mg c TP → Room k (A.deeper (envOfC x (defScope st) s.heap.objs.size f (.ref c))) → sp vs H Q E →
      ∃ t, PSs (cxOf C8.CX0 P w K mg base N x (defScope st) f (.ref c) A outer s H E).nox (defBody st) t ∧ t { nx := fun _ H' => Q .non H', rt := Q } (start N vs) H) : C8.Cal P w K mg base (k + 1) x sp [] := by
  obtain ⟨f, fd, c, F, hm, hcd, TB⟩ := F
  obtain ⟨oc, od, dV, kV, doc, pm, an, cdv, ct, osl, rfl, lk, hc, _, _⟩ := id F.ex
  have hcd : cdv = .ref c := hcd
  subst hcd
  refine ⟨f, _, ps, [], fn_of lk hc S len fun A outer s H vs Q E hr hsp => ?_, hm, F.kp, F.bindsN hb, .nil⟩
  obtain ⟨t, h1, h2⟩ := hbody f c A outer s H vs Q E TB hr hsp
  exact ⟨t, h1.nox, h2⟩
/-- _law_told(lambda: ..) -/
theorem pe_told {X : Cx} {T : List (Addr × Str)} {CR CN CT c TP : Addr} {j k : Nat} {params : Arguments} {body : Expr} {scope : Scope} {t : XK → TE} {p lpos pos : Pos} (T0 : Txt X.K X.mg) (EC : ErrC X.K X.mg CR CN CT) (hg : Gl X "_law_told")
    (TB : LamX.TabB X.base X.mg c TP) (hcode : X.env.code = .ref c) (hmT : (TP, X.env.qual ++ "<lambda>") ∈ T) (hu : ∀ p ∈ T, p.1 = TP → p.2 = X.env.qual ++ "<lambda>") (hr : Room j X.A) (hj : k + 2 ≤ j) (L : LamX.LamS X.env.scope scope) (hdef : defaultsOf params X.env = ([], []))
    (hbind : ∀ (q : Str) (cl : List (Str × Addr)) (pm cv ctv : Value), bindArgs (PySem.W.kla_fn "<lambda>" q params body scope cl pm cv ctv) ⟨[], []⟩ = pure [])
    (hbody : ∀ (A : Around) (outer : List Env) (s : Shared) (H : Hp) (E : XK) (f c' : Addr), Room k (A.deeper (LamX.lamEnv X scope s.heap.objs.size f c')) → PE (LamX.lamCx X A outer s H E scope f c') body (t E)) :
    PE X (.Call (.Name "_law_told" p) [.Lambda params body scope lpos] [] pos) (LamX.tLam T (TT3 CR CN CT) t) := by
  obtain ⟨g, fd, FD, hm⟩ := T0.d__law_told
  obtain ⟨oc, od, dV, kV, doc, pm, an, cdv, ct, osl, rfl, lk, hc, _, _⟩ := id FD.ex
  exact LamX.pe_lamcall (Ng := N_Ltold) hg hm FD.kp lk hc (FD.bindsN fun _ _ _ _ _ _ us hl => match us, hl with | [_], _ => rfl) scLtold rfl (.inl rfl) (told_gives3 EC T0.isinstance) TB hcode hmT hu (hr.mono hj) L hdef hbind hbody
/-! ### least_waiting, by keywords too; without a refusal -/
abbrev gV3 : List V → List V := fun zs => match zs with
  | [a, b, c] => [c, b, a]
  | l => l
/-- how keywords alone are put in the parameters' order -/
structure KB0 (K : PySem.W.Frag) (fd : FuncData) (ps ks : List Str) (g : List Value → List Value) (gV : List V → List V) : Prop where
  to : ∀ (s : Shared) (ws : List Value), K.In s.heap → (g ws).length = ps.length → BindsTo s fd ⟨[], ks.zip ws⟩ (ps.zip (g ws))
  rel : ∀ {zs : List V} {ws : List Value}, Vals zs ws → Vals (gV zs) (g ws)
structure CalK3 (CX : CXT) (P : Program) (w : World) (K : PySem.W.Frag) (mg : Str → Option Value) (base : Heap) (k : Nat) (x : Str) (ks : List Str) (gV : List V → List V) (sp : Sp) : Prop where
  ex : ∃ (f : Addr) (fd : FuncData) (ps : List Str) (g : List Value → List Value), FnOk P w K mg base CX k f fd ps sp ∧ mg x = some (.ref f) ∧ PySem.W.keepIn K (.ref f) = true ∧ KB0 K fd ps ks g gV
abbrev gW3 : List Value → List Value := fun ws => match ws with
  | [a, b, c] => [c, b, a]
  | l => l
theorem kb3 {fd : FuncData} {x : Str} {st : Stmt} {ps ks : List Str} (F : ∃ f, FunD K x x (defArgs st) (defBody st) (defScope st) [] [] f fd)
    (hb : ∀ (kV doc pm : Value) (an : Option Addr) (cdv ct : Value) (a b c : Value), bindArgs (PySem.W.fnOf x x (defArgs st) (defBody st) (defScope st) .none kV doc pm an cdv ct) ⟨[], ks.zip [a, b, c]⟩ = pure (ps.zip [c, b, a])) (hp : ps.length = 3) : KB0 K fd ps ks gW3 gV3 := by
  obtain ⟨f, F⟩ := F
  obtain ⟨oc, od, dV, kV, doc, pm, an, cdv, ct, osl, rfl, lk, hcd, hD, hK⟩ := F.ex
  have hdv : dV = .none := by
    rcases hD with ⟨_, rfl⟩ | ⟨e, _⟩
    · rfl
    · exact absurd rfl e
  subst hdv
  refine ⟨fun s ws X hl => ?_, fun {zs ws} rz => ?_⟩
  · match ws, hl with
    | [a, b, c], _ => exact .of_eq (hb kV doc pm an cdv ct a b c)
    | [], hl => rw [hp] at hl; cases hl
    | [_], hl => rw [hp] at hl; cases hl
    | [_, _], hl => rw [hp] at hl; cases hl
    | _ :: _ :: _ :: _ :: _, hl => rw [hp] at hl; cases hl
  · cases rz with
    | nil => exact .nil
    | cons r1 rz => cases rz with
      | nil => exact .cons r1 .nil
      | cons r2 rz => cases rz with
        | nil => exact .cons r1 (.cons r2 .nil)
        | cons r3 rz => cases rz with
          | nil => exact .cons r3 (.cons r2 (.cons r1 .nil))
          | cons r4 rz => exact .cons r1 (.cons r2 (.cons r3 (.cons r4 rz)))
theorem FnD.calK {CX : CXT} {x : Str} {st : Stmt} {ps ks : List Str} {k : Nat} {sp : Sp} (F : FnD P w K mg base CX k x st ps sp) (hp : ps.length = 3)
    (hb : ∀ (kV doc pm : Value) (an : Option Addr) (cdv ct : Value) (a b c : Value), bindArgs (PySem.W.fnOf x x (defArgs st) (defBody st) (defScope st) .none kV doc pm an cdv ct) ⟨[], ks.zip [a, b, c]⟩ = pure (ps.zip [c, b, a])) : CalK3 CX P w K mg base k x ks gV3 sp := by
  obtain ⟨f, fd, F, hm, G⟩ := F
  exact ⟨f, fd, ps, gW3, G, hm, F.kp, kb3 ⟨f, F⟩ hb hp⟩
abbrev ks3 : List Str := ["orders", "times", "table"]
theorem k_most_rounds (T : Txt K mg) : CalK3 C8.CX0 P w K mg base 7 "most_rounds" ks3 gV3 (sp_most_rounds (K := K)) := (f_most_rounds T).calK rfl (fun _ _ _ _ _ _ _ _ _ => rfl)
theorem k_sure_rounds (T : Txt K mg) : CalK3 C8.CX0 P w K mg base 7 "sure_rounds" ks3 gV3 (sp_sure_rounds (K := K)) := (f_sure_rounds T).calK rfl (fun _ _ _ _ _ _ _ _ _ => rfl)
theorem k_least_waiting (T : Txt K mg) {CT CN CR : Addr} (kInvalidTimes : ExKl P w K mg base "InvalidTimes" "at" CT) (kInvalidNumber : ExKl P w K mg base "InvalidNumber" "word" CN) (kRefused : ExKl P w K mg base "Refused" "word" CR) :
    CalK3 (L2.CX P w) P w K mg base 7 "least_waiting" ks3 gV3 (fun vs H Q E => sp_least_good (K := K) CR vs H Q E ∨ sp_orders_bad (K := K) CT CN vs H Q E) := (fx_least_waiting T kInvalidTimes kInvalidNumber kRefused).calK rfl (fun _ _ _ _ _ _ _ _ _ => rfl)
end
section
variable {X : Cx} {k j : Nat} {x : Str} {ks : List Str} {gV : List V → List V} {sp : Sp} {p pos : Pos} {e : Expr} {es : List Expr} {kws : List Keyword} {t tk : TA} {E : XK}
/-- by keywords alone -/
theorem pe_kw3 {CX : CXT} (c : CalK3 CX X.prog X.w X.K X.mg X.base k x ks gV sp) (hx : Passes CX X E) (hr : Room j X.A) (hk : k ≤ j) (hg : Gl X x) (hkw : PK X kws tk)
    (hall : (backToKw pos (keywordEach kws X.env)).all (·.1.isSome) = true := by rfl) (hks : (backToKw pos (keywordEach kws X.env)).filterMap (·.1) = ks := by rfl) (hdb : (x == ("__debug__" : Str)) = false := by decide)
    (hpl : ((backTo pos (starEach [] X.env)).any (·.1) || (backToKw pos (keywordEach kws X.env)).any (·.1.isNone)) = false := by rfl) :
    PE X (.Call (.Name x p) [] kws pos) (tKw sp gV E tk) := by
  obtain ⟨f, fd, ps, g, F, hm, kp, b⟩ := c.ex
  refine ⟨fun pins s σ H Q I h => ?_⟩
  refine wpAny_Call_Name_kw (ld_glob I hg hm ?_ hdb)
  refine PySem.W.callWith_KW0 (h₀ := X.base) I.ok.mod.kin kp hall ?_ hpl
  refine thn (hkw.run pos pins s σ H _ I h) fun ws s2 ⟨zs, H2, I2, rz, q2⟩ => ⟨I2.kIn, ?_⟩
  rw [hks]
  have rz2 := b.rel rz
  have hlen : (g ws).length = ps.length := rz2.length.symm.trans (F.len _ _ _ _ q2)
  have main := F.run X.A X.stack s2 H2 ⟨[], ks.zip ws⟩ (g ws) (gV zs) Q E (hr.mono hk) I2.env0 (b.to s2 ws I2.kIn hlen) rz2 q2
  refine wpAny_call (codeAny_mono main fun r s' z => ?_)
  match r, z with
  | .error e, z => exact hx pins σ H2 s2 e s' I2 z
  | .ok (.ret u), z => exact I2.after z
  | .ok .next, z => exact False.elim z
  | .ok .brk, z => exact False.elim z
  | .ok .cont, z => exact False.elim z
/-- by keywords, with a refusal -/
theorem pe_kwX (c : CalK3 (L2.CX X.prog X.w) X.prog X.w X.K X.mg X.base k x ks gV sp) (tk0 : Takes X (fun cls d _ H => E cls d H)) (hr : Room j X.A) (hk : k ≤ j) (hg : Gl X x) (hkw : PK X kws tk)
    (hall : (backToKw pos (keywordEach kws X.env)).all (·.1.isSome) = true := by rfl) (hks : (backToKw pos (keywordEach kws X.env)).filterMap (·.1) = ks := by rfl) (hdb : (x == ("__debug__" : Str)) = false := by decide)
    (hpl : ((backTo pos (starEach [] X.env)).any (·.1) || (backToKw pos (keywordEach kws X.env)).any (·.1.isNone)) = false := by rfl) :
    PE X (.Call (.Name x p) [] kws pos) (tKw sp gV E tk)   := pe_kw3 c (passes_call tk0 fun _ _ _ _ h => h) hr hk hg hkw hall hks hdb hpl
/-- where nothing is refused -/
theorem pe_c0 (c : CalX X.prog X.w X.K X.mg X.base k x sp) (hr : Room j X.A) (hk : k ≤ j) (hg : Gl X x) (ha : PA X (e :: es) t)
    (hdb : (x == ("__debug__" : Str)) = false := by decide) (he : starEach (e :: es) X.env = (false, eval e X.env) :: starEach es X.env := by rfl) (hpl : (backTo pos (starEach es X.env)).any (·.1) = false := by rfl) :
    PE X (.Call (.Name x p) (e :: es) [] pos) (tCallS sp (fun _ _ _ _ => False) t) := by
  obtain ⟨f, fd, ps, F, hm, kp, b⟩ := c.ex
  exact pe_callS F (hr.mono hk) hg hm kp b (fun σ => fun pins H s e s' I z => by
    obtain ⟨a, B, H', cls, d, _, _, _, _, _, _, _, q⟩ := z
    exact q.elim) ha hdb he hpl
end
section
variable {K : PySem.W.Frag}
theorem Ok.st {F : Hp} {v vt : V} {n : Nat} {ties : Ties} {ts : List (Option Int)} (h : Ok K F v vt n ties ts) : Ok K (strip F) v vt n ties ts := by
  obtain ⟨ht, hto, hn, hts, hl, hb, hdi⟩ := h
  exact ⟨ht.st, hto, hn, Stp.st (r := RRow) hts, hl, hb, hdi⟩
theorem told_good {TS : List (Addr × Str)} {CR CN CT : Addr} {F H H1 : Hp} {v vt : V} {n o : Nat} {ties : Ties} {ts : List (Option Int)} {Q : VK} (sb : Sub F H) (ok : Ok K F v vt n ties ts) (h1 : 1 ≤ o) (h2 : o ≤ 60) (e : LamX.ExtN H H1) (t1 : LamX.Tabs TS H1)
    (q1 : ∀ p r x F' H', Ep TS F H F' H' → F' p = some (.tup [.str "told", r]) → RWC F' r x → Least (limOf n (evOf n ties) ts) o (some x) → leastF (limOf n (evOf n ties) ts) o = some x → Q (.ref p) H')
    (q2 : ∀ p F' H', Ep TS F H F' H' → F' p = some (.tup [.str "refused", .str "held", .bl false]) → Least (limOf n (evOf n ties) ts) o none → leastF (limOf n (evOf n ties) ts) o = none → Q (.ref p) H') :
    sp_least_good (K := K) CR [v, vt, .int o] H1 (fun v H' => [V.str "told", v].length ≤ sizeLine ∧ ∀ p, H' p = none → Q (.ref p) (upd H' p (.tup [.str "told", v]))) (E3 CR CN CT Q) := by
  refine ⟨strip F, v, vt, n, ties, ts, o, rfl, strip_ext sb e, ok.st, h1, h2, fun r x F' H' ex hL hx hr => ⟨szk (by simp), fun p hp => ?_⟩, fun hL hx d H2 ex hd => .inl ⟨rfl, .str "held", d, rfl, upd_same, fun p hp => ?_⟩⟩
  · obtain ⟨z1, z2, z3⟩ := newT ex (xs := [V.str "told", r]) hp
    exact q1 p r x _ _ ⟨z1.s, e.trans z1.extN, z1.f, z1.tabs t1⟩ z2 (Mono.up (r := RWC) z3 hr) hL hx
  · have ex2 := ex.trans (Ex.own (o := .xd [("word", .str "held")]) ex.s hd (fun b z => False.elim z))
    obtain ⟨z1, z2, z3⟩ := newT ex2 (xs := [V.str "refused", .str "held", .bl false]) hp
    exact q2 p _ _ ⟨z1.s, e.trans z1.extN, z1.f, z1.tabs t1⟩ z2 hL hx
/-- what is told of a refused value: times -/
theorem told_times {TS : List (Addr × Str)} {CR CN CT : Addr} {F H H1 : Hp} {at_ : Int} {Q : VK} (sb : Sub F H) (e : LamX.ExtN H H1) (t1 : LamX.Tabs TS H1) {d : Addr} {H2 : Hp} (ex : Ex S0 (strip F) H1 (strip F) H2) (hd : H2 d = none)
    (q : ∀ p F' H', Ep TS F H F' H' → F' p = some (.tup [.str "times", .int at_]) → Q (.ref p) H') : E3 CR CN CT Q (.ref CT) (some d) (upd H2 d (.xd [("at", .int at_)])) := by
  refine .inr (.inr ⟨rfl, .int at_, d, rfl, upd_same, fun p hp => ?_⟩)
  have ex2 := ex.trans (Ex.own (o := .xd [("at", .int at_)]) ex.s hd (fun b z => False.elim z))
  obtain ⟨z1, z2, z3⟩ := newT ex2 (xs := [V.str "times", .int at_]) hp
  exact q p _ _ ⟨z1.s, e.trans z1.extN, z1.f, z1.tabs t1⟩ z2
theorem told_number {TS : List (Addr × Str)} {CR CN CT : Addr} {F H H1 : Hp} {Q : VK} {wd : Str} (sb : Sub F H) (e : LamX.ExtN H H1) (t1 : LamX.Tabs TS H1) {d : Addr} {H2 : Hp} (ex : Ex S0 (strip F) H1 (strip F) H2) (hd : H2 d = none)
    (q : ∀ p F' H', Ep TS F H F' H' → F' p = some (.tup [.str "number", .str wd]) → Q (.ref p) H') : E3 CR CN CT Q (.ref CN) (some d) (upd H2 d (.xd [("word", .str wd)])) := by
  refine .inr (.inl ⟨rfl, .str wd, d, rfl, upd_same, fun p hp => ?_⟩)
  have ex2 := ex.trans (Ex.own (o := .xd [("word", .str wd)]) ex.s hd (fun b z => False.elim z))
  obtain ⟨z1, z2, z3⟩ := newT ex2 (xs := [V.str "number", .str wd]) hp
  exact q p _ _ ⟨z1.s, e.trans z1.extN, z1.f, z1.tabs t1⟩ z2
end
end Sa
set_option Elab.async false
set_option linter.all false
set_option maxRecDepth 100000
set_option maxHeartbeats 4000000
namespace Sa
open PySem PySem.Spec PyProof.Rows L2
local macro_rules | `(tactic| walk_at "vc") => `(tactic| repeat (first | refine ⟨_, rfl, ?_⟩ | refine ⟨_, _, rfl, rfl, ?_⟩ | refine ⟨_, _, rfl, ?_⟩ | refine ⟨rfl, ?_⟩))
/-! ### what is told, as data -/
def cutD (c : List Nat) : PyData := .tuple (c.map fun n : Nat => PyData.int (n : Int))
def wcD (x : WC) : PyData := .tuple [.int (x.1 : Int), cutD x.2]
def toldD (x : WC) : PyData := .tuple [.str "told", wcD x]
def refD : PyData := .tuple [.str "refused", .str "held", .bool false]
section
variable {K : PySem.W.Frag} {F : Hp}
theorem dp_wc {v : V} {x : WC} (h : RWC F v x) : Dp K F v (wcD x) := by
  obtain ⟨a, u, w, rfl, h1, h2, ⟨b, vs, rfl, h3, pr⟩⟩ := h
  have ew : vs = x.2.map nv := paired_nats pr
  subst ew
  have h2 : u = .int (x.1 : Int) := h2
  subst h2
  exact .tup (tS h1) (.cons (.int _) (.cons (dp_nats h3) .nil))
theorem dp_told {p : Addr} {v : V} {x : WC} (h : F p = some (.tup [.str "told", v])) (hr : RWC F v x) : Dp K F (.ref p) (toldD x) := .tup (tS h) (.cons (.str _) (.cons (dp_wc hr) .nil))
theorem dp_ref {p : Addr} (h : F p = some (.tup [.str "refused", .str "held", .bl false])) : Dp K F (.ref p) refD := .tup (tS h) (.cons (.str _) (.cons (.str _) (.cons (.bl _) .nil)))
end
theorem can_cut (c : List Nat) : (cutD c).canLay0 = true := canLayAll_map (fun n : Nat => PyData.int (n : Int)) (fun _ => rfl) c
theorem dep_cut (c : List Nat) : (cutD c).depth ≤ 1 := Nat.succ_le_succ (depthAll_map (fun n : Nat => PyData.int (n : Int)) 0 (fun _ => Nat.le_refl _) c)
theorem can_wc (x : WC) : (wcD x).canLay0 = true := by
  show (true && ((cutD x.2).canLay0 && true)) = true
  rw [can_cut]; rfl
theorem dep_wc (x : WC) : (wcD x).depth ≤ 2 := by
  show max 0 (max (cutD x.2).depth 0) + 1 ≤ 2
  have := dep_cut x.2
  omega
theorem sh_wc (x : WC) : SeqAt.shaped (wcD x) = true := shaped_of (can_wc x) (Nat.le_trans (dep_wc x) (by omega))
theorem sh_told (x : WC) : SeqAt.shaped (toldD x) = true := by
  refine shaped_of ?_ ?_
  · show ((PyData.str "told").canLay0 && ((wcD x).canLay0 && true)) = true
    rw [can_wc]; decide +kernel
  · show max 0 (max (wcD x).depth 0) + 1 ≤ 64
    have := dep_wc x
    omega
theorem sh_ref : SeqAt.shaped refD = true := by decide +kernel
theorem eqv_cut (c d : List Nat) : PyData.eqv (cutD c) (cutD d) = decide (c = d) := eqvAll_map (fun n : Nat => PyData.int (n : Int)) (fun x y => by
  rw [eqv_int]
  by_cases e : x = y
  · subst e; simp
  · rw [decide_eq_false (by omega), decide_eq_false e]) c d
theorem eqv_wc (x y : WC) : PyData.eqv (wcD x) (wcD y) = decide (x = y) := by
  show (PyData.eqv (.int (x.1 : Int)) (.int (y.1 : Int)) && (PyData.eqv (cutD x.2) (cutD y.2) && true)) = _
  rw [eqv_int, eqv_cut, Bool.and_true]
  obtain ⟨x1, x2⟩ := x
  obtain ⟨y1, y2⟩ := y
  by_cases e1 : x1 = y1
  · subst e1
    by_cases e2 : x2 = y2
    · subst e2; simp
    · simp [e2]
  · rw [decide_eq_false (show ¬ ((x1 : Int) = y1) by omega), decide_eq_false (fun z => e1 (congrArg (fun q : WC => q.1) z))]
    rfl
theorem eqv_toldr (x : WC) : PyData.eqv (toldD x) (toldD x) = true := by
  show (PyData.eqv (.str "told") (.str "told") && (PyData.eqv (wcD x) (wcD x) && true)) = true
  rw [eqv_wc, decide_eq_true rfl]; decide +kernel
theorem eqv_refr : PyData.eqv refD refD = true := by decide +kernel
theorem held_waits {p : Pr} {o w : Nat} : w ∈ ((List.range (cutsL o).length).filter fun i => ((cutsL o).map (fits p)).getD i false).map (fun i => waitN ((cutsL o).getD i [])) ↔ ∃ c ∈ cutsL o, fits p c = true ∧ waitN c = w := by
  rw [List.mem_map]
  constructor
  · rintro ⟨i, hi, rfl⟩
    obtain ⟨h1, h2⟩ := List.mem_filter.mp hi
    have h1 := List.mem_range.mp h1
    rw [List.getD_eq_getElem?_getD, List.getElem?_map, List.getElem?_eq_getElem h1] at h2
    refine ⟨(cutsL o)[i], List.getElem_mem h1, h2, ?_⟩
    rw [List.getD_eq_getElem?_getD, List.getElem?_eq_getElem h1]
    rfl
  · rintro ⟨c, hc, hf, rfl⟩
    obtain ⟨i, hi, rfl⟩ := List.getElem_of_mem hc
    refine ⟨i, List.mem_filter.mpr ⟨List.mem_range.mpr hi, ?_⟩, ?_⟩
    · rw [List.getD_eq_getElem?_getD, List.getElem?_map, List.getElem?_eq_getElem hi]; exact hf
    · rw [List.getD_eq_getElem?_getD, List.getElem?_eq_getElem hi]
      rfl
theorem inV_bls (bs : List Bool) : inV (.bl true) (bs.map V.bl) = bs.any id := by
  unfold inV
  rw [List.any_map]
  congr 1
  funext b
  cases b <;> rfl
theorem flat_bls (bs : List Bool) : (bs.map V.bl).all flatV = true := by
  rw [List.all_map]
  exact List.all_eq_true.mpr fun b _ => rfl
theorem tt3_good {K : PySem.W.Frag} {TS : List (Addr × Str)} {CR CN CT : Addr} {F H H1 : Hp} {v vt : V} {n o : Nat} {ties : Ties} {ts : List (Option Int)} {Q : VK} {tl : XK → Hp → VK → Prop} (sb : Sub F H) (ok : Ok K F v vt n ties ts) (h1 : 1 ≤ o) (h2 : o ≤ 60) (e : LamX.ExtN H H1) (t1 : LamX.Tabs TS H1)
    (htl : ∀ E Q', sp_least_good (K := K) CR [v, vt, .int o] H1 Q' E → tl E H1 Q')
    (q1 : ∀ p r x F' H', Ep TS F H F' H' → F' p = some (.tup [.str "told", r]) → RWC F' r x → Least (limOf n (evOf n ties) ts) o (some x) → leastF (limOf n (evOf n ties) ts) o = some x → Q (.ref p) H')
    (q2 : ∀ p F' H', Ep TS F H F' H' → F' p = some (.tup [.str "refused", .str "held", .bl false]) → Least (limOf n (evOf n ties) ts) o none → leastF (limOf n (evOf n ties) ts) o = none → Q (.ref p) H') : TT3 CR CN CT tl H1 Q := htl _ _ (told_good sb ok h1 h2 e t1 q1 q2)
theorem Ep.extN {TS : List (Addr × Str)} {F0 H0 F H F' H' : Hp} (e : Ex S0 F0 H0 F H) (ep : Ep TS F H F' H') : LamX.ExtN H0 H' := e.extN.trans ep.e
section
variable {P : Program} {w : World} {K : PySem.W.Frag} {mg : Str → Option Value} {base : Heap}
theorem cuts_goodB {o : Nat} (h7 : o ≤ 7) (h1 : 1 ≤ o) {c : List Nat} (h : c ∈ cutsL o) : GoodB c := by
  obtain ⟨a, b, _, d⟩ := cuts_good o h7 h1 c h
  exact ⟨by omega, fun x hx => ⟨b x hx, by have := mem_le_sum hx; omega⟩⟩
theorem cuts_len {o : Nat} (h7 : o ≤ 7) : (cutsL o).length ≤ 64 := by
  unfold cutsL
  rw [List.length_map]
  exact (cuts_facts o h7).1
def sp__law_right (TS : List (Addr × Str)) : Sp := fun vs H Q _ => ∃ F v vr vt n ties ts, ∃ o : Nat, vs = [v, vr, vt, .int o] ∧ Sub F H ∧ Ok K F v vt n ties ts ∧ LAll F vr (allR n ties) ∧ 1 ≤ n ∧ 1 ≤ o ∧ o ≤ 7 ∧ LamX.Tabs TS H ∧ ∀ H', LamX.ExtN H H' → LamX.Tabs TS H' → Q (.bl true) H'
theorem c__law_right (T : Txt K mg) {CR CN CT TP : Addr} (EC : ErrC K mg CR CN CT) (kInvalidTimes : ExKl P w K mg base "InvalidTimes" "at" CT) (kInvalidNumber : ExKl P w K mg base "InvalidNumber" "word" CN) (kRefused : ExKl P w K mg base "Refused" "word" CR) {TS : List (Addr × Str)} (FT : FdT K mg base "_law_right" sLright TP) (hTS : (TP, qL "_law_right") ∈ TS) (hUS : ∀ p ∈ TS, p.1 = TP → p.2 = qL "_law_right") : C8.Cal P w K mg base 16 "_law_right" (sp__law_right (K := K) TS) [] := by
  have c__law_cuts := c__law_cuts (P := P) (w := w) (base := base) T
  have c__law_limits := c__law_limits (P := P) (w := w) (base := base) T
  have c__law_below := c__law_below (P := P) (w := w) (base := base) T
  have c_most_rounds := c_most_rounds (P := P) (w := w) (base := base) T
  have c__law_rounds := c__law_rounds (P := P) (w := w) (base := base) T
  have c_sure_rounds := c_sure_rounds (P := P) (w := w) (base := base) T
  have c__law_cut_right := c__law_cut_right (P := P) (w := w) (base := base) T
  have c__law_reaches := c__law_reaches (P := P) (w := w) (base := base) T
  have c__law_waiting := c__law_waiting (P := P) (w := w) (base := base) T
  refine mkCT FT scLright (fun _ _ _ _ _ _ us hl => match us, hl with | [_, _, _, _], _ => rfl) (fun vs H Q E h => ?_) (fun f cdv A outer s H vs Q E TB hr h => ?_)
  · obtain ⟨F, v, vr, vt, n, ties, ts, o, rfl, _⟩ := h
    rfl
  · have x_least_waiting := x_least_waiting (P := P) (w := w) (base := base) T kInvalidTimes kInvalidNumber kRefused
    have k_least_waiting := k_least_waiting (P := P) (w := w) (base := base) T kInvalidTimes kInvalidNumber kRefused
    have k_most_rounds := k_most_rounds (P := P) (w := w) (base := base) T
    have k_sure_rounds := k_sure_rounds (P := P) (w := w) (base := base) T
    obtain ⟨F, v, vr, vt, n, ties, ts, o, rfl, sb, ok, hvr, hn1, h1, h7, ht, q⟩ := h
    obtain ⟨htab, hto, hn, hts, hl, hb, hdi⟩ := id ok
    have rok := rows_ok ties hn1 hn
    refine ⟨_, (pss_cons (ps_asg (pe_tup (pa_cons (C8.pe_c c__law_cuts hr (by decide) (by rfl) (pa_cons (pv 3) pa_nil)) (pa_cons (C8.pe_c c__law_limits hr (by decide) (by rfl) (pa_cons (pv 1) (pa_cons (pv 2) pa_nil))) pa_nil))) (pg_tup rfl (pgs_cons ((pg_name (i := 4) scLright.nd rfl (Or.inr rfl))) (pgs_cons ((pg_name (i := 5) scLright.nd rfl (Or.inr rfl))) pgs_nil))))
    (pss_cons (ps_set (i := 6) scLright.nd rfl (Or.inr rfl) (pe_lc (own := [("_law_cut", 9)]) (tt := tYes) rfl scLright.nd (pi_list (pv 4)) (blkOk_by (N := N_Lright) (sc := defScope sLright) (by decide +kernel)) (fun _ _ _ _ _ => pg_name (i := 9) scLright.nd rfl (Or.inl rfl) (Or.inr rfl)) (fun _ _ _ _ _ => pts_nil) (fun _ _ _ _ _ => (C8.pe_c c__law_below hr (by decide) (by rfl) (pa_cons (pv 5) (pa_cons (C8.pe_c c__law_reaches hr (by decide) (by rfl) (pa_cons (pv 9) pa_nil)) pa_nil))))))
    (pss_cons (ps_if (pt_cmpR op_ne (C8.pe_c c_most_rounds hr (by decide) (by rfl) (pa_cons (pv 0) (pa_cons (pv 2) (pa_cons (pv 3) pa_nil)))) (C8.pe_c c__law_rounds hr (by decide) (by rfl) (pa_cons (pv 4) (pa_cons (pv 6) (pa_cons (pv 3) (pa_cons pe_bl pa_nil))))) (nomark _)) (pss_one (ps_ret pe_bl)) pss_nil)
    (pss_cons (ps_if (pt_cmpR op_ne (C8.pe_c c_sure_rounds hr (by decide) (by rfl) (pa_cons (pv 0) (pa_cons (pv 2) (pa_cons (pv 3) pa_nil)))) (C8.pe_c c__law_rounds hr (by decide) (by rfl) (pa_cons (pv 4) (pa_cons (pv 6) (pa_cons (pv 3) (pa_cons pe_bl pa_nil))))) (nomark _)) (pss_one (ps_ret pe_bl)) pss_nil)
    (pss_cons (ps_if (pt_cmpR op_ne (pe_kw3 (E := C8.E0) k_most_rounds C8.pass0 hr (by decide) (by rfl) (pk_cons (pv 3) (pk_cons (pv 2) (pk_cons (pv 0) pk_nil)))) (C8.pe_c c__law_rounds hr (by decide) (by rfl) (pa_cons (pv 4) (pa_cons (pv 6) (pa_cons (pv 3) (pa_cons pe_bl pa_nil))))) (nomark _)) (pss_one (ps_ret pe_bl)) pss_nil)
    (pss_cons (ps_if (pt_cmpR op_ne (pe_kw3 (E := C8.E0) k_sure_rounds C8.pass0 hr (by decide) (by rfl) (pk_cons (pv 3) (pk_cons (pv 2) (pk_cons (pv 0) pk_nil)))) (C8.pe_c c__law_rounds hr (by decide) (by rfl) (pa_cons (pv 4) (pa_cons (pv 6) (pa_cons (pv 3) (pa_cons pe_bl pa_nil))))) (nomark _)) (pss_one (ps_ret pe_bl)) pss_nil)
    (pss_cons (ps_set (i := 7) scLright.nd rfl (Or.inl rfl) (pe_told (k := 12) T EC (by rfl) TB rfl hTS hUS hr (by decide) (LamX.lamS_by (sc := defScope sLright) (by decide +kernel)) rfl (fun _ _ _ _ _ => rfl) (fun A outer s H E f c hr => (pe_cx x_least_waiting (takes_of rfl rfl rfl rfl) hr (by decide) (by rfl) (pa_cons (pv 0) (pa_cons (pv 2) (pa_cons (pv 3) pa_nil)))))))
    (pss_cons (ps_if (pt_cmpR (op_neD (hr.units)) (pe_told (k := 12) T EC (by rfl) TB rfl hTS hUS hr (by decide) (LamX.lamS_by (sc := defScope sLright) (by decide +kernel)) rfl (fun _ _ _ _ _ => rfl) (fun A outer s H E f c hr => (pe_kwX k_least_waiting (takes_of rfl rfl rfl rfl) hr (by decide) (by rfl) (pk_cons (pv 3) (pk_cons (pv 2) (pk_cons (pv 0) pk_nil)))))) (pv 7) (nomark _)) (pss_one (ps_ret pe_bl)) pss_nil)
    (pss_cons (ps_if (pt_cmpR op_notIn_seq pe_bl (pv 6) (by rfl)) (pss_one (ps_ret (pe_cmpR (op_eqD (hr.units)) (pv 7) (pe_tup (pa_cons pe_str (pa_cons pe_str (pa_cons pe_bl pa_nil)))) (nomark _)))) pss_nil)
    (pss_cons (ps_set (i := 8) scLright.nd rfl (Or.inl rfl) (pe_callB (cr_min rfl) (by rfl) T.min (by decide +kernel) (pa_cons (pe_lc (own := [("_law_at", 10)]) rfl scLright.nd (pi_range1 (by rfl) T.range (pa_cons (pe_callB call_len (by rfl) T.len (by decide +kernel) (pa_cons (pv 4) pa_nil)) pa_nil)) (blkOk_by (N := N_Lright) (sc := defScope sLright) (by decide +kernel)) (fun _ _ _ _ _ => pg_name (i := 10) scLright.nd rfl (Or.inl rfl) (Or.inr rfl)) (fun _ _ _ _ _ => (pts_one (pt_val (pe_ix (kx_ix_list K rfl) (pv 6) (pv 10) (fun _ _ => rfl))))) (fun _ _ _ _ _ => (C8.pe_c c__law_waiting hr (by decide) (by rfl) (pa_cons (pe_ix (kx_ix_list K rfl) (pv 4) (pv 10) (fun _ _ => rfl)) pa_nil)))) pa_nil)))
    (pss_one (ps_ret (pe_and (pe_cmpR op_eq (pe_ix ix_tup (pv 7) pe_int (fun _ _ => rfl)) pe_str (nomark _)) (pe_one (C8.pe_c c__law_cut_right hr (by decide) (by rfl) (pa_cons (pv 1) (pa_cons (pv 2) (pa_cons (pv 3) (pa_cons (pe_ix ix_tup (pv 7) pe_int (fun _ _ => rfl)) (pa_cons (pv 8) pa_nil)))))))))))))))))))), ?_⟩
    walk_at "vc"
    refine ⟨F, o, rfl, sb, h1, h7, fun rc F1 H1 e1 hrc => ?_⟩
    walk_at "vc"
    refine ⟨F1, _, _, n, allR n ties, ts, rfl, e1.s, Mono.up (r := LAll) e1.f hvr, rok, Mono.up (r := RRow) e1.f hts, hl, fun rp F2 H2 e2 hrp => ?_⟩
    rw [lim_eq hn1 hn hl] at hrp
    refine go_t2 (e1.trans e2) fun p3 F3 e3 s3 hp3 => ?_
    have hrc3 : Rl (Rt Rn) F3 rc (cutsL o) := Mono.up (e2.f.tr s3) hrc
    have hrp3 := Mono.up (r := RPr) s3 hrp
    clear hrc hrp e1 e2 s3
    refine ⟨_, _, rfl, tS (e3.s _ _ hp3), rfl, ?_⟩
    walk_at "vc"
    obtain ⟨L, cvs, rfl, hL, prL⟩ := id hrc3
    have hcl := cuts_len h7
    obtain ⟨p, hp⟩ : ∃ p, limOf n (evOf n ties) ts = p := ⟨_, rfl⟩
    rw [hp] at hrp3
    refine ⟨_, rfl, ⟨_, lS (e3.s _ _ hL)⟩, ?_⟩
    intro D hD
    refine lcX (re := Rb) (ds := cutsL o) (walk_lp prL) e3.s (fun b z => False.elim z) hD (lt_sz (by omega)) (fun _ => true) (fits p) (S := S0) (fun F1 H1 e => lS (e.fh _ _ hL)) (fun j d x F4 H5 H6 hd e y Qy Qn q1 q2 => ?_) (fun F4 H5 ys e fD hDD pr1 => ?_)
    · obtain ⟨rfl, e5⟩ := y
      obtain ⟨d', hd', hrd⟩ := Paired.getL prL e5
      have ed : d' = d := by rw [hd] at hd'; exact (Option.some.inj hd').symm
      subst ed
      walk_at "vc"
      refine ⟨F4, _, d', rfl, e.s, Mono.up (r := Rt Rn) e.f hrd, cuts_goodB h7 h1 (List.mem_of_getElem? hd), fun r6 F6 H6 e6 hr6 => ?_⟩
      refine ⟨F6, _, _, p, (walkR d', ringR d'), rfl, e6.s, Mono.up (r := RPr) (e.f.tr e6.f) hrp3, hr6, ?_⟩
      exact q1 rfl _ _ _ e6 rfl
    · rw [filter_tt'] at pr1
      obtain ⟨e4, hF4D, s4⟩ := frzL e hD hDD fD
      have e5 := e3.trans e4
      have hheld : Rl Rb _ (.ref D) ((cutsL o).map (fits p)) := ⟨D, ys, rfl, hF4D, Paired.up s4 pr1⟩
      have hcut := Mono.up (r := Rl (Rt Rn)) e4.f hrc3
      have hpr := Mono.up (r := RPr) e4.f hrp3
      have ok5 := Ok.up e5.f ok
      have hr5 := Mono.up (r := LAll) e5.f hvr
      have ht5 := e5.tabs ht
      clear hrc3 hrp3 prL hF4D s4 pr1 hDD fD e e3
      generalize upd F4 D (.lst ys) = F5 at e4 e5 hheld hcut hpr ok5 hr5
      walk_at "vc"
      refine ⟨F5, _, _, n, ties, ts, o, rfl, e5.s, ok5, h1, by omega, fun H6 e6 => ?_⟩
      have e5 := e5.trans e6
      walk_at "vc"
      refine ⟨F5, _, _, cutsL o, (cutsL o).map (fits p), o, false, rfl, e5.s, hcut, hheld, by simp, hcl, by omega, fun H7 e7 => ?_⟩
      have e5 := e5.trans e7
      rw [hp, rounds_best p h7]
      walk_at "vc"
      refine ifF (by simp) ?_
      walk_at "vc"
      refine ⟨F5, _, _, n, ties, ts, o, rfl, e5.s, ok5, h1, by omega, fun H6 e6 => ?_⟩
      have e5 := e5.trans e6
      walk_at "vc"
      refine ⟨F5, _, _, cutsL o, (cutsL o).map (fits p), o, true, rfl, e5.s, hcut, hheld, by simp, hcl, by omega, fun H7 e7 => ?_⟩
      have e5 := e5.trans e7
      rw [hp, rounds_worst p h7]
      walk_at "vc"
      refine ifF (by simp) ?_
      walk_at "vc"
      refine ⟨F5, _, _, n, ties, ts, o, rfl, e5.s, ok5, h1, by omega, fun H6 e6 => ?_⟩
      have e5 := e5.trans e6
      walk_at "vc"
      refine ⟨F5, _, _, cutsL o, (cutsL o).map (fits p), o, false, rfl, e5.s, hcut, hheld, by simp, hcl, by omega, fun H7 e7 => ?_⟩
      have e5 := e5.trans e7
      rw [hp, rounds_best p h7]
      walk_at "vc"
      refine ifF (by simp) ?_
      walk_at "vc"
      refine ⟨F5, _, _, n, ties, ts, o, rfl, e5.s, ok5, h1, by omega, fun H6 e6 => ?_⟩
      have e5 := e5.trans e6
      walk_at "vc"
      refine ⟨F5, _, _, cutsL o, (cutsL o).map (fits p), o, true, rfl, e5.s, hcut, hheld, by simp, hcl, by omega, fun H7 e7 => ?_⟩
      have e5 := e5.trans e7
      rw [hp, rounds_worst p h7]
      walk_at "vc"
      refine ifF (by simp) ?_
      walk_at "vc"
      refine ⟨e5.tabs ht, fun H8 e8 t8 => ?_⟩
      refine tt3_good (K := K) e5.s ok5 h1 (by omega) e8 t8 (fun E' Q' z => ?_) (fun p9 r9 x F9 H9 ep hp9 hr9 hL9 hx9 => ?_) (fun p9 F9 H9 ep hp9 hL9 hx9 => ?_)
      · walk_at "vc"
        exact .inl z
      · have eN := e5.extN.trans ep.e
        have ok9 := Ok.up ep.f ok5.st
        have hr9' := Mono.up (r := LAll) ep.f (Stp.st (r := LAll) hr5)
        have hcut9 := Mono.up (r := Rl (Rt Rn)) ep.f (Stp.st (r := Rl (Rt Rn)) hcut)
        have hheld9 := Mono.up (r := Rl Rb) ep.f (Stp.st (r := Rl Rb) hheld)
        have ht9 := ep.t
        have hp9s := strip_tup hp9
        have hr9s := Stp.st (r := RWC) hr9
        refine ⟨ep.t, fun H10 e10 t10 => ?_⟩
        refine tt3_good (K := K) ep.s ok9 h1 (by omega) e10 t10 (fun E' Q' z => ?_) (fun p11 r11 x' F11 H11 ep2 hp11 hr11 hL11 hx11 => ?_) (fun p11 F11 H11 ep2 hp11 hL11 hx11 => ?_)
        · walk_at "vc"
          exact .inl z
        · have ex : x' = x := by rw [hx9] at hx11; exact (Option.some.inj hx11).symm
          subst ex
          rw [hp] at hL9
          have eN2 := eN.trans ep2.e
          have hr11r := Mono.up (r := LAll) ep2.f (Stp.st (r := LAll) hr9')
          have hcut11 := Mono.up (r := Rl (Rt Rn)) ep2.f (Stp.st (r := Rl (Rt Rn)) hcut9)
          have hheld11 := Mono.up (r := Rl Rb) ep2.f (Stp.st (r := Rl Rb) hheld9)
          have hts11 := Mono.up (r := RRow) ep2.f (Stp.st (r := RRow) ok9.hts)
          have hp9' := ep2.f _ _ hp9s
          have hr9'' := Mono.up (r := RWC) ep2.f hr9s
          walk_at "vc"
          refine ⟨_, _, dp_up ep2.s _ _ (dp_told hp11 hr11), dp_up ep2.s _ _ (dp_told hp9' hr9''), sh_told _, sh_told _, ?_⟩
          rw [eqv_toldr]
          walk_at "vc"
          obtain ⟨D2, ys2, eD, hD2, prD⟩ := id hheld11
          cases eD
          have ew : ys2 = ((cutsL o).map (fits p)).map V.bl := paired_bls prD
          subst ew
          refine ⟨D, _, rfl, .inl (lS (ep2.s _ _ hD2)), rfl, flat_bls _, ?_⟩
          have hin : inV (.bl true) (((cutsL o).map (fits p)).map V.bl) = true := by
            rw [inV_bls, List.any_eq_true]
            exact ⟨true, least_some h7 h1 hL9, rfl⟩
          rw [hin]
          walk_at "vc"
          obtain ⟨L2, cvs2, eL, hL2, prL2⟩ := id hcut11
          cases eL
          refine ⟨_, _, rfl, lenL' (lS (ep2.s _ _ hL2)) (Paired.length prL2), ?_⟩
          walk_at "vc"
          refine ⟨by omega, by omega, ?_⟩
          intro D3 hD3
          refine lcX (re := Rn) (ds := List.range (cutsL o).length) (walk_rg (by simp)) ep2.s (fun b z => False.elim z) hD3 (lt_sz (by simp; omega)) (fun i => ((cutsL o).map (fits p)).getD i false) (fun i => waitN ((cutsL o).getD i [])) (S := S0) (fun F1 H1 e => trivial) (fun i d x F12 H12 H13 hd e y Qy Qn q1 q2 => ?_) (fun F12 H12 ys e12 fD3 hDD3 pr12 => ?_)
          · obtain ⟨rfl, rfl⟩ := y
            obtain ⟨rfl, hi⟩ := range_get hd
            walk_at "vc"
            refine ⟨_, _, _, _, rfl, rfl, lS (e.fh _ _ hD2), atI_nat (i := d) (v := V.bl (((cutsL o).map (fits p)).getD d false)) (by rw [List.getElem?_map, getD_getG (d := false) (by simp; omega)]; rfl), ?_⟩
            walk_at "vc"
            cases hb1 : ((cutsL o).map (fits p)).getD d false with
            | false => exact q2 hb1 _ _ (Ex.refl e.s (fun b z => False.elim z))
            | true =>
              obtain ⟨u, hu, hru⟩ := Paired.get (i := d) (y := (cutsL o).getD d []) prL2 (getD_getG (by omega))
              refine ⟨_, rfl, ?_⟩
              walk_at "vc"
              refine ⟨_, _, _, _, rfl, rfl, lS (e.fh _ _ hL2), atI_nat hu, ?_⟩
              have hgb := cuts_goodB h7 h1 (show (cutsL o).getD d [] ∈ cutsL o from List.mem_of_getElem? (getD_getG (by omega)))
              refine ⟨F12, _, (cutsL o).getD d [], rfl, e.s, Mono.up (r := Rt Rn) e.f hru, by have := hgb.1; omega, fun x hx => by have := (hgb.2 x hx).2; omega, fun H14 e14 => ?_⟩
              exact q1 hb1 _ _ _ e14 rfl
          · have ew := paired_nats pr12
            subst ew
            have hmem : ∃ c ∈ cutsL o, fits p c = true ∧ waitN c = x'.1 := ⟨x'.2, held_mem h7 h1 hL9.1, hL9.1.fit, hL9.2.1⟩
            refine ⟨D3, (((List.range (cutsL o).length).filter fun i => ((cutsL o).map (fits p)).getD i false).map (fun i => waitN ((cutsL o).getD i []))).map fun n : Nat => (n : Int), rfl, lS (by rw [hDD3, List.map_map, List.map_map, List.map_map]; rfl), ?_, fun m hm hmin => ?_⟩
            · rw [List.length_map]
              exact List.length_pos_of_mem (held_waits.mpr hmem)
            · obtain ⟨k, hk, rfl⟩ := List.mem_map.mp hm
              have ek : k = x'.1 := least_min h7 h1 hL9 (held_waits.mp hk) fun c hc hf => by
                have := hmin (waitN c : Int) (List.mem_map.mpr ⟨_, held_waits.mpr ⟨c, hc, hf, rfl⟩, rfl⟩)
                omega
              subst ek
              walk_at "vc"
              refine ⟨_, _, _, _, rfl, rfl, tS (e12.fh _ _ hp9'), (atI_nat (i := 0) (v := V.str "told") rfl : _), ?_⟩
              walk_at "vc"
              refine ⟨_, _, _, _, rfl, rfl, tS (e12.fh _ _ hp9'), (atI_nat (i := 1) (v := r9) rfl : _), ?_⟩
              walk_at "vc"
              refine ⟨F12, _, _, _, n, allR n ties, ts, o, x', rfl, e12.s, Mono.up (r := LAll) e12.f hr11r, rok, Mono.up (r := RRow) e12.f hts11, hl, Mono.up (r := RWC) e12.f hr9'', hL9.1.sum, hL9.1.pos, hL9.2.1, by omega, fun H15 e15 => ?_⟩
              obtain ⟨k1, k2⟩ := reach_two hL9.1.pos (by rw [hL9.1.sum]; exact h1)
              rw [held_fit hn1 hn hl hto k1 k2 (by rw [hp]; exact hL9.1.fit)]
              exact q _ (eN2.trans (e12.extN.trans e15.extN)) (e15.tabs (e12.tabs ep2.t))
        · rw [hx9] at hx11
          cases hx11
      · have eN := e5.extN.trans ep.e
        have ok9 := Ok.up ep.f ok5.st
        have hheld9 := Mono.up (r := Rl Rb) ep.f (Stp.st (r := Rl Rb) hheld)
        have hp9s := strip_tup hp9
        refine ⟨ep.t, fun H10 e10 t10 => ?_⟩
        refine tt3_good (K := K) ep.s ok9 h1 (by omega) e10 t10 (fun E' Q' z => ?_) (fun p11 r11 x' F11 H11 ep2 hp11 hr11 hL11 hx11 => ?_) (fun p11 F11 H11 ep2 hp11 hL11 hx11 => ?_)
        · walk_at "vc"
          exact .inl z
        · rw [hx9] at hx11
          cases hx11
        · rw [hp] at hL9
          have eN2 := eN.trans ep2.e
          have hheld11 := Mono.up (r := Rl Rb) ep2.f (Stp.st (r := Rl Rb) hheld9)
          have hp9' := ep2.f _ _ hp9s
          walk_at "vc"
          refine ⟨_, _, dp_up ep2.s _ _ (dp_ref hp11), dp_up ep2.s _ _ (dp_ref hp9'), sh_ref, sh_ref, ?_⟩
          rw [eqv_refr]
          walk_at "vc"
          obtain ⟨D2, ys2, eD, hD2, prD⟩ := id hheld11
          cases eD
          have ew : ys2 = ((cutsL o).map (fits p)).map V.bl := paired_bls prD
          subst ew
          refine ⟨D, _, rfl, .inl (lS (ep2.s _ _ hD2)), rfl, flat_bls _, ?_⟩
          have hin : inV (.bl true) (((cutsL o).map (fits p)).map V.bl) = false := by
            rw [inV_bls, List.any_eq_false]
            intro b hb
            rw [least_none h7 h1 hL9 b hb]
            exact Bool.false_ne_true
          rw [hin]
          walk_at "vc"
          refine go_tup (xs := [V.str "refused", V.str "held", V.bl false]) (ex0 ep2.s) (szk (by simp)) fun p13 F13 e13 s13 hp13 => ?_
          refine ⟨_, _, dp_up e13.s _ _ (dp_ref (s13 _ _ hp9')), dp_up e13.s _ _ (dp_ref hp13), sh_ref, sh_ref, ?_⟩
          rw [eqv_refr]
          exact q _ (eN2.trans e13.extN) (e13.tabs ep2.t)
end
end Sa
set_option Elab.async false
set_option linter.all false
set_option maxRecDepth 100000
set_option maxHeartbeats 4000000
namespace Sa
open PySem PySem.Spec PyProof.Rows L2
local macro_rules | `(tactic| walk_at "vc") => `(tactic| repeat (first | refine ⟨_, rfl, ?_⟩ | refine ⟨_, _, rfl, rfl, ?_⟩ | refine ⟨_, _, rfl, ?_⟩ | refine ⟨rfl, ?_⟩))
section
variable {P : Program} {w : World} {K : PySem.W.Frag} {mg : Str → Option Value} {base : Heap}
def sp__law_many_right (TS : List (Addr × Str)) : Sp := fun vs H Q _ => ∃ F v vr vt n ties ts, ∃ o : Nat, vs = [v, vr, vt, .int o] ∧ Sub F H ∧ Ok K F v vt n ties ts ∧ LAll F vr (allR n ties) ∧ 1 ≤ n ∧ 1 ≤ o ∧ o ≤ 60 ∧ LamX.Tabs TS H ∧ ∀ H', LamX.ExtN H H' → LamX.Tabs TS H' → Q (.bl true) H'
theorem c__law_many_right (T : Txt K mg) {CR CN CT TP : Addr} (EC : ErrC K mg CR CN CT) (kInvalidTimes : ExKl P w K mg base "InvalidTimes" "at" CT) (kInvalidNumber : ExKl P w K mg base "InvalidNumber" "word" CN) (kRefused : ExKl P w K mg base "Refused" "word" CR) {TS : List (Addr × Str)} (FT : FdT K mg base "_law_many_right" sLmanyright TP) (hTS : (TP, qL "_law_many_right") ∈ TS) (hUS : ∀ p ∈ TS, p.1 = TP → p.2 = qL "_law_many_right") : C8.Cal P w K mg base 16 "_law_many_right" (sp__law_many_right (K := K) TS) [] := by
  have c__law_limits := c__law_limits (P := P) (w := w) (base := base) T
  have c__law_least_waiting := c__law_least_waiting (P := P) (w := w) (base := base) T
  have c__law_cut_right := c__law_cut_right (P := P) (w := w) (base := base) T
  have c_most_rounds := c_most_rounds (P := P) (w := w) (base := base) T
  have c_sure_rounds := c_sure_rounds (P := P) (w := w) (base := base) T
  have c__law_below := c__law_below (P := P) (w := w) (base := base) T
  have c__law_reaches := c__law_reaches (P := P) (w := w) (base := base) T
  refine mkCT FT scLmanyright (fun _ _ _ _ _ _ us hl => match us, hl with | [_, _, _, _], _ => rfl) (fun vs H Q E h => ?_) (fun f cdv A outer s H vs Q E TB hr h => ?_)
  · obtain ⟨F, v, vr, vt, n, ties, ts, o, rfl, _⟩ := h
    rfl
  · have x_least_waiting := x_least_waiting (P := P) (w := w) (base := base) T kInvalidTimes kInvalidNumber kRefused
    obtain ⟨F, v, vr, vt, n, ties, ts, o, rfl, sb, ok, hvr, hn1, h1, h7, ht, q⟩ := h
    obtain ⟨htab, hto, hn, hts, hl, hb, hdi⟩ := id ok
    have rok := rows_ok ties hn1 hn
    refine ⟨_, (pss_cons (ps_par3 (i := 4) (j := 5) (l := 6) (by rfl) scLmanyright.nd rfl rfl rfl (by decide) (by decide) (by decide) rfl rfl rfl (pa_cons (C8.pe_c c__law_limits hr (by decide) (by rfl) (pa_cons (pv 1) (pa_cons (pv 2) pa_nil))) (pa_cons pe_int (pa_cons pe_int pa_nil))) (by rfl))
    (pss_cons (ps_for PassesOwn.never rfl (pi_range2 (by rfl) T.range (pa_cons pe_int (pa_cons (pe_op op_add (pv 3) pe_int) pa_nil))) (pg_name (i := 7) scLmanyright.nd rfl (Or.inl rfl)) (pss_cons (ps_set (i := 8) scLmanyright.nd rfl (Or.inl rfl) (pe_ifExp (pt_cmpR op_gt (pv 7) pe_int (nomark _)) (pe_op op_catA (pe_tup (pa_cons pe_int (pa_cons (pe_op op_add (pe_op op_sub (pv 3) (pv 7)) pe_int) pa_nil))) (pe_op op_repA (pe_tup (pa_cons pe_int pa_nil)) (pe_op op_sub (pv 7) pe_int))) (pe_tup (pa_cons (pv 3) pa_nil))))
    (pss_cons (ps_set (i := 9) scLmanyright.nd rfl (Or.inl rfl) (pe_op op_catA (pe_op op_repA (pe_tup (pa_cons (pe_op op_add (pe_op op_fdiv (pv 3) (pv 7)) pe_int) pa_nil)) (pe_op op_mod (pe_callTy call_int1 (by rfl) T.int (by decide +kernel) (pa_cons (pv 3) pa_nil)) (pv 7))) (pe_op op_repA (pe_tup (pa_cons (pe_op op_fdiv (pv 3) (pv 7)) pa_nil)) (pe_op op_sub (pv 7) (pe_op op_mod (pe_callTy call_int1 (by rfl) T.int (by decide +kernel) (pa_cons (pv 3) pa_nil)) (pv 7))))))
    (pss_cons (ps_set (i := 5) scLmanyright.nd rfl (Or.inl rfl) (pe_ifExp (PW.pt (pw_and (pt_cmpR op_eq (pv 5) (pe_op op_sub (pv 7) pe_int) (nomark _)) (pw_and1 (pt_val (C8.pe_c c__law_below hr (by decide) (by rfl) (pa_cons (pv 4) (pa_cons (C8.pe_c c__law_reaches hr (by decide) (by rfl) (pa_cons (pv 8) pa_nil)) pa_nil))))))) (pv 7) (pv 5)))
    (pss_one (ps_set (i := 6) scLmanyright.nd rfl (Or.inl rfl) (pe_ifExp (PW.pt (pw_and (pt_cmpR op_eq (pv 6) (pe_op op_sub (pv 7) pe_int) (nomark _)) (pw_and1 (pt_val (C8.pe_c c__law_below hr (by decide) (by rfl) (pa_cons (pv 4) (pa_cons (C8.pe_c c__law_reaches hr (by decide) (by rfl) (pa_cons (pv 9) pa_nil)) pa_nil))))))) (pv 7) (pv 6))))))))
    (pss_cons (ps_if (PW.pt (pw_or (pt_cmpR op_ne (C8.pe_c c_most_rounds hr (by decide) (by rfl) (pa_cons (pv 0) (pa_cons (pv 2) (pa_cons (pv 3) pa_nil)))) (pv 5) (nomark _)) (pw_or1 (pt_cmpR op_ne (C8.pe_c c_sure_rounds hr (by decide) (by rfl) (pa_cons (pv 0) (pa_cons (pv 2) (pa_cons (pv 3) pa_nil)))) (pv 6) (nomark _))))) (pss_one (ps_ret pe_bl)) pss_nil)
    (pss_cons (ps_par (i := 10) (j := 11) (by rfl) scLmanyright.nd rfl rfl (by decide) rfl rfl (pa_cons (pe_told (k := 12) T EC (by rfl) TB rfl hTS hUS hr (by decide) (LamX.lamS_by (sc := defScope sLmanyright) (by decide +kernel)) rfl (fun _ _ _ _ _ => rfl) (fun A outer s H E f c hr => (pe_cx x_least_waiting (takes_of rfl rfl rfl rfl) hr (by decide) (by rfl) (pa_cons (pv 0) (pa_cons (pv 2) (pa_cons (pv 3) pa_nil)))))) (pa_cons (C8.pe_c c__law_least_waiting hr (by decide) (by rfl) (pa_cons (pv 4) (pa_cons (pv 3) pa_nil))) pa_nil)) (by rfl))
    (pss_cons (ps_if (pt_cmpR op_isN (pv 11) pe_non (nomark _)) (pss_one (ps_ret (pe_cmpR (op_eqD (hr.units)) (pv 10) (pe_tup (pa_cons pe_str (pa_cons pe_str (pa_cons pe_bl pa_nil)))) (nomark _)))) pss_nil)
    (pss_one (ps_ret (pe_and (pe_cmpR op_eq (pe_ix ix_tup (pv 10) pe_int (fun _ _ => rfl)) pe_str (nomark _)) (pe_one (C8.pe_c c__law_cut_right hr (by decide) (by rfl) (pa_cons (pv 1) (pa_cons (pv 2) (pa_cons (pv 3) (pa_cons (pe_ix ix_tup (pv 10) pe_int (fun _ _ => rfl)) (pa_cons (pv 11) pa_nil))))))))))))))), ?_⟩
    walk_at "vc"
    refine ⟨F, _, _, n, allR n ties, ts, rfl, sb, hvr, rok, hts, hl, fun rp F2 H2 e2 hrp => ?_⟩
    rw [lim_eq hn1 hn hl] at hrp
    obtain ⟨p, hp⟩ : ∃ p, limOf n (evOf n ties) ts = p := ⟨_, rfl⟩
    have hsm : Small p := by rw [← hp]; exact limOf_small hn
    rw [hp] at hrp
    refine ⟨_, _, _, rfl, ?_⟩
    walk_at "vc"
    refine ⟨⟨by omega, by omega, by omega, by omega⟩, ?_⟩
    refine for_it (walk_rg2 (lo := 1) (n := o) rfl (by omega)) (fun i σ H3 => ∃ u7 u8 u9 u10 u11 F3, σ = [some v, some vr, some vt, some (.int (o : Nat)), some rp, some (.int (manyF (fun k => fits p (bestCut o k)) i : Nat)), some (.int (manyF (fun k => fits p (worstCut o k)) i : Nat)), u7, u8, u9, u10, u11] ∧ Ex S0 F H F3 H3 ∧ RPr F3 rp p)
      ⟨none, none, none, none, none, F2, rfl, e2, hrp⟩ (fun i σ H3 _ h => trivial) (fun i x σ H3 H4 hi h y => ?_) (fun σ H3 h => ?_)
    · obtain ⟨u7, u8, u9, u10, u11, F3, rfl, e3, hr3⟩ := h
      obtain ⟨rfl, hx⟩ := y
      have hx2 : x = V.int ((i + 1 : Nat) : Int) := by rw [hx]; show V.int _ = V.int _; congr 1; omega
      subst hx2
      clear hx
      have hlb := manyF_le (fun k => fits p (bestCut o k)) i
      have hlw := manyF_le (fun k => fits p (worstCut o k)) i
      have hsb := manyF_succ (fun k => fits p (bestCut o k)) i
      have hsw := manyF_succ (fun k => fits p (worstCut o k)) i
      generalize manyF (fun k => fits p (bestCut o k)) i = mb at hlb hsb
      generalize manyF (fun k => fits p (worstCut o k)) i = mw at hlw hsw
      have hgb : GoodB (bestCut o (i + 1)) := bestCut_good h7 (by omega) (by omega)
      have hgw : GoodB (worstCut o (i + 1)) := worstCut_good h7 (by omega) (by omega)
      dsimp only [gName, tSeq]
      refine asg_then (fun σ H5 => ∃ F5 rb, σ = [some v, some vr, some vt, some (.int (o : Nat)), some rp, some (.int (mb : Nat)), some (.int (mw : Nat)), some (.int ((i + 1 : Nat) : Int)), some rb, u9, u10, u11] ∧ Ex S0 F H F5 H5 ∧ Sub F3 F5 ∧ Rt Rn F5 rb (bestCut o (i + 1))) (fun σ H5 h => ?_) fun fin => ?_
      · obtain ⟨F5, rb, rfl, e5, s5, hrb⟩ := h
        have hr5 := Mono.up (r := RPr) s5 hr3
        dsimp only [gName, tSeq]
        refine asg_then (fun σ H5 => ∃ F5 rb rw, σ = [some v, some vr, some vt, some (.int (o : Nat)), some rp, some (.int (mb : Nat)), some (.int (mw : Nat)), some (.int ((i + 1 : Nat) : Int)), some rb, some rw, u10, u11] ∧ Ex S0 F H F5 H5 ∧ RPr F5 rp p ∧ Rt Rn F5 rb (bestCut o (i + 1)) ∧ Rt Rn F5 rw (worstCut o (i + 1))) (fun σ H6 h => ?_) fun fin => ?_
        · obtain ⟨F6, rb, rw, rfl, e6, hr6, hrb6, hrw6⟩ := h
          dsimp only [gName, tSeq]
          refine asg_then (fun σ H5 => ∃ F7, σ = [some v, some vr, some vt, some (.int (o : Nat)), some rp, some (.int ((if mb = i ∧ fits p (bestCut o (i + 1)) = true then i + 1 else mb : Nat) : Int)), some (.int (mw : Nat)), some (.int ((i + 1 : Nat) : Int)), some rb, some rw, u10, u11] ∧ Ex S0 F H F7 H5 ∧ RPr F7 rp p ∧ Rt Rn F7 rw (worstCut o (i + 1))) (fun σ H7 h => ?_) fun fin => ?_
          · obtain ⟨F7, rfl, e7, hr7, hrw7⟩ := h
            walk_at "vc"
            refine ite2 (fun hc => ?_) (fun hc => ?_)
            · have hc : V.int (mw : Nat) = V.int (((i + 1 : Nat) : Int) - 1) := of_decide_eq_true hc
              have hmw : mw = i := by have := V.int.inj hc; omega
              refine ⟨_, rfl, ?_⟩
              walk_at "vc"
              refine ⟨F7, rw, _, rfl, e7.s, hrw7, hgw, fun r8 F8 H8 e8 hr8 => ?_⟩
              refine ⟨F8, _, _, p, (walkR (worstCut o (i + 1)), ringR (worstCut o (i + 1))), rfl, e8.s, Mono.up (r := RPr) e8.f hr7, hr8, ?_⟩
              walk_at "vc"
              refine ite2 (fun hf => ?_) (fun hf => ?_)
              · refine ⟨_, rfl, ?_⟩
                exact ⟨some (.int ((i + 1 : Nat) : Int)), some rb, some rw, u10, u11, F8, by rw [hsb, hsw, if_pos (c := mw = i ∧ fits p (worstCut o (i + 1)) = true) ⟨hmw, hf⟩]; rfl, e7.trans e8, Mono.up (r := RPr) e8.f hr7⟩
              · refine ⟨_, rfl, ?_⟩
                exact ⟨some (.int ((i + 1 : Nat) : Int)), some rb, some rw, u10, u11, F8, by rw [hsb, hsw, if_neg (c := mw = i ∧ fits p (worstCut o (i + 1)) = true) (fun z => hf z.2)]; rfl, e7.trans e8, Mono.up (r := RPr) e8.f hr7⟩
            · have hmw : mw ≠ i := fun z => hc (decide_eq_true (by rw [z]; show V.int _ = V.int _; congr 1; omega))
              refine ifF Bool.false_ne_true ?_
              refine ⟨_, rfl, ?_⟩
              exact ⟨some (.int ((i + 1 : Nat) : Int)), some rb, some rw, u10, u11, F7, by rw [hsb, hsw, if_neg (c := mw = i ∧ fits p (worstCut o (i + 1)) = true) (fun z => hmw z.1)]; rfl, e7, hr7⟩
          · walk_at "vc"
            refine ite2 (fun hc => ?_) (fun hc => ?_)
            · have hc : V.int (mb : Nat) = V.int (((i + 1 : Nat) : Int) - 1) := of_decide_eq_true hc
              have hmb : mb = i := by have := V.int.inj hc; omega
              walk_at "vc"
              refine ⟨F6, rb, _, rfl, e6.s, hrb6, hgb, fun r8 F8 H8 e8 hr8 => ?_⟩
              refine ⟨F8, _, _, p, (walkR (bestCut o (i + 1)), ringR (bestCut o (i + 1))), rfl, e8.s, Mono.up (r := RPr) e8.f hr6, hr8, ?_⟩
              walk_at "vc"
              refine ite2 (fun hf => ?_) (fun hf => ?_)
              · refine ⟨_, rfl, ?_⟩
                exact fin _ _ ⟨F8, by rw [if_pos ⟨hmb, hf⟩]; rfl, e6.trans e8, Mono.up (r := RPr) e8.f hr6, Mono.up (r := Rt Rn) e8.f hrw6⟩
              · refine ⟨_, rfl, ?_⟩
                exact fin _ _ ⟨F8, by rw [if_neg (fun z => hf z.2)]; rfl, e6.trans e8, Mono.up (r := RPr) e8.f hr6, Mono.up (r := Rt Rn) e8.f hrw6⟩
            · have hmb : mb ≠ i := fun z => hc (decide_eq_true (by rw [z]; show V.int _ = V.int _; congr 1; omega))
              refine ifF Bool.false_ne_true ?_
              refine ⟨_, rfl, ?_⟩
              exact fin _ _ ⟨F6, by rw [if_neg (fun z => hmb z.1)]; rfl, e6, hr6, hrw6⟩
        · have lt : o % (i + 1) < i + 1 := Nat.mod_lt _ (by omega)
          walk_at "vc"
          refine ⟨⟨by omega, by omega⟩, ?_⟩
          walk_at "vc"
          refine go_t1 e5 fun p1 F6 e6 s6 h6 => ?_
          walk_at "vc"
          refine .inl ⟨_, rfl, ?_⟩
          walk_at "vc"
          refine ⟨by omega, ?_⟩
          refine go_rep' (k := o % (i + 1)) e6 h6 (by show (o : Int) % ((i + 1 : Nat) : Int) = _; omega) (by omega) fun p2 F7 H7 e7 s7 h7' => ?_
          walk_at "vc"
          refine ⟨⟨by omega, by omega⟩, ?_⟩
          refine go_t1 e7 fun p3 F8 e8 s8 h8 => ?_
          walk_at "vc"
          refine .inl ⟨_, rfl, ?_⟩
          walk_at "vc"
          refine ⟨by omega, ?_⟩
          walk_at "vc"
          refine go_rep' (k := i + 1 - o % (i + 1)) e8 h8 (by show ((i + 1 : Nat) : Int) - (o : Int) % ((i + 1 : Nat) : Int) = _; omega) (by omega) fun p4 F9 H9 e9 s9 h9 => ?_
          refine go_cat e9 (s9 _ _ (s8 _ _ h7')) h9 (szk (by rw [List.length_replicate, List.length_replicate]; omega)) fun p5 F10 H10 e10 s10 h10 => ?_
          have t6 := s6.tr (s7.tr (s8.tr (s9.tr s10)))
          exact fin _ _ ⟨F10, rb, .ref p5, rfl, e10, Mono.up (r := RPr) t6 hr5, Mono.up (r := Rt Rn) t6 hrb, ⟨p5, _, rfl, h10, Paired.app (paired_rep (by show V.int _ = V.int _; congr 1)) (paired_rep (by show V.int _ = V.int _; congr 1))⟩⟩
      · walk_at "vc"
        refine ite2 (fun hc => ?_) (fun hc => ?_)
        · have hc : (1 : Int) < ((i + 1 : Nat) : Int) := of_decide_eq_true hc
          walk_at "vc"
          refine go_t2 e3 fun p1 F6 e6 s6 h6 => ?_
          refine go_t1 e6 fun p2 F7 e7 s7 h7' => ?_
          walk_at "vc"
          refine go_rep' (k := i + 1 - 2) e7 h7' (by show ((i + 1 : Nat) : Int) - 2 = _; omega) (by omega) fun p4 F9 H9 e9 s9 h9 => ?_
          refine go_cat e9 (s9 _ _ (s7 _ _ h6)) h9 (szk (by rw [List.length_replicate]; simp; omega)) fun p5 F10 H10 e10 s10 h10 => ?_
          refine fin _ _ ⟨F10, .ref p5, rfl, e10, s6.tr (s7.tr (s9.tr s10)), ⟨p5, _, rfl, h10, ?_⟩⟩
          unfold bestCut
          rw [if_neg (by omega)]
          refine Paired.app (.cons rfl (.cons ?_ .nil)) (paired_rep rfl)
          show V.int _ = V.int _
          congr 1
          omega
        · have hc : ¬ (1 : Int) < ((i + 1 : Nat) : Int) := fun z => hc (decide_eq_true z)
          have hi0 : i = 0 := by omega
          subst hi0
          walk_at "vc"
          refine go_t1 e3 fun p1 F6 e6 s6 h6 => ?_
          exact fin _ _ ⟨F6, .ref p1, rfl, e6, s6, ⟨p1, _, rfl, h6, .cons rfl .nil⟩⟩
    · obtain ⟨u7, u8, u9, u10, u11, F3, rfl, e3, hr3⟩ := h
      have hob : manyF (fun k => fits p (bestCut o k)) o = roundsN p o bestCut := manyF_go _ _
      have how : manyF (fun k => fits p (worstCut o k)) o = roundsN p o worstCut := manyF_go _ _
      rw [hob, how]
      have ok3 := Ok.up e3.f ok
      have hvr3 := Mono.up (r := LAll) e3.f hvr
      walk_at "vc"
      refine ⟨F3, _, _, n, ties, ts, o, rfl, e3.s, ok3, h1, h7, fun H4 e4 => ?_⟩
      have e4 := e3.trans e4
      rw [hp]
      walk_at "vc"
      refine ifF (by simp) ?_
      walk_at "vc"
      refine ⟨F3, _, _, n, ties, ts, o, rfl, e4.s, ok3, h1, h7, fun H5 e5 => ?_⟩
      have e5 := e4.trans e5
      rw [hp]
      walk_at "vc"
      refine ifF (by simp) ?_
      walk_at "vc"
      refine ⟨e5.tabs ht, fun H8 e8 t8 => ?_⟩
      refine tt3_good (K := K) e5.s ok3 h1 h7 e8 t8 (fun E' Q' z => ?_) (fun p9 r9 x F9 H9 ep hp9 hr9 hL9 hx9 => ?_) (fun p9 F9 H9 ep hp9 hL9 hx9 => ?_)
      · walk_at "vc"
        exact .inl z
      · rw [hp] at hL9
        have eN := e5.extN.trans ep.e
        have hr9' := Mono.up (r := LAll) ep.f (Stp.st (r := LAll) hvr3)
        have hts9 := Mono.up (r := RRow) ep.f (Stp.st (r := RRow) ok3.hts)
        have hpr9 := Mono.up (r := RPr) ep.f (Stp.st (r := RPr) hr3)
        walk_at "vc"
        refine ⟨F9, rp, p, o, rfl, ep.s, hpr9, hsm, h1, h7, fun xl H10 e10 hxl => ?_⟩
        cases xl with
        | none => exact absurd hL9.1 (hxl _)
        | some y =>
          have ey := least_two hL9 hxl
          subst ey
          refine ⟨_, _, rfl, ?_⟩
          walk_at "vc"
          refine ⟨_, _, _, _, rfl, rfl, tS (e10.fh _ _ hp9), (atI_nat (i := 0) (v := V.str "told") rfl : _), ?_⟩
          walk_at "vc"
          refine ⟨_, _, _, _, rfl, rfl, tS (e10.fh _ _ hp9), (atI_nat (i := 1) (v := r9) rfl : _), ?_⟩
          walk_at "vc"
          refine ⟨F9, _, _, _, n, allR n ties, ts, o, x, rfl, e10.s, hr9', rok, hts9, hl, hr9, hL9.1.sum, hL9.1.pos, hL9.2.1, h7, fun H15 e15 => ?_⟩
          obtain ⟨k1, k2⟩ := reach_two hL9.1.pos (by rw [hL9.1.sum]; exact h1)
          rw [held_fit hn1 hn hl hto k1 k2 (by rw [hp]; exact hL9.1.fit)]
          exact q _ (eN.trans (e10.extN.trans e15.extN)) (e15.tabs (e10.tabs ep.t))
      · rw [hp] at hL9
        have eN := e5.extN.trans ep.e
        have hpr9 := Mono.up (r := RPr) ep.f (Stp.st (r := RPr) hr3)
        walk_at "vc"
        refine ⟨F9, rp, p, o, rfl, ep.s, hpr9, hsm, h1, h7, fun xl H10 e10 hxl => ?_⟩
        cases xl with
        | some y =>
          obtain ⟨⟨c, hc, _⟩, _⟩ := hxl
          exact absurd hc (hL9 c)
        | none =>
          refine ⟨_, _, rfl, ?_⟩
          walk_at "vc"
          refine go_tup (xs := [V.str "refused", V.str "held", V.bl false]) (ex0 e10.s) (szk (by simp)) fun p13 F13 e13 s13 hp13 => ?_
          refine ⟨_, _, dp_up e13.s _ _ (dp_ref (s13 _ _ hp9)), dp_up e13.s _ _ (dp_ref hp13), sh_ref, sh_ref, ?_⟩
          rw [eqv_refr]
          exact q _ (eN.trans (e10.extN.trans e13.extN)) (e13.tabs (e10.tabs ep.t))
end
end Sa
set_option Elab.async false
set_option linter.all false
set_option maxRecDepth 100000
set_option maxHeartbeats 4000000
namespace Sa
open PySem PySem.Spec PyProof.Rows L2
local macro_rules | `(tactic| walk_at "vc") => `(tactic| repeat (first | refine ⟨_, rfl, ?_⟩ | refine ⟨_, _, rfl, rfl, ?_⟩ | refine ⟨_, _, rfl, ?_⟩ | refine ⟨rfl, ?_⟩))
def timD (i : Int) : PyData := .tuple [.str "times", .int i]
def numD : PyData := .tuple [.str "number", .str "orders"]
theorem dp_tim {K : PySem.W.Frag} {F : Hp} {p : Addr} {i : Int} (h : F p = some (.tup [.str "times", .int i])) : Dp K F (.ref p) (timD i) := .tup (tS h) (.cons (.str _) (.cons (.int _) .nil))
theorem dp_num {K : PySem.W.Frag} {F : Hp} {p : Addr} (h : F p = some (.tup [.str "number", .str "orders"])) : Dp K F (.ref p) numD := .tup (tS h) (.cons (.str _) (.cons (.str _) .nil))
theorem sh_tim (i : Int) : SeqAt.shaped (timD i) = true := by
  refine shaped_of ?_ ?_
  · show ((PyData.str "times").canLay0 && (true && true)) = true
    decide +kernel
  · show max 0 (max 0 0) + 1 ≤ 64
    omega
theorem sh_num : SeqAt.shaped numD = true := by decide +kernel
theorem eqv_timr (i : Int) : PyData.eqv (timD i) (timD i) = true := by
  show (PyData.eqv (.str "times") (.str "times") && (PyData.eqv (.int i) (.int i) && true)) = true
  rw [eqv_int, decide_eq_true rfl]; decide +kernel
theorem eqv_numr : PyData.eqv numD numD = true := by decide +kernel
section
variable {K : PySem.W.Frag} {TS : List (Addr × Str)} {CR CN CT : Addr} {F H H1 : Hp} {v vv vo : V} {n : Nat} {ties : Ties} {Q : VK} {tl : XK → Hp → VK → Prop}
theorem tt3_times {at_ : Int} (sb : Sub F H) (ht : RTab K F v n ties) (hn : n ≤ 12) (hb : BadT F vv n at_) (e : LamX.ExtN H H1) (t1 : LamX.Tabs TS H1) (htl : ∀ E Q', sp_orders_bad (K := K) CT CN [v, vv, vo] H1 Q' E → tl E H1 Q')
    (q : ∀ p F' H', Ep TS F H F' H' → F' p = some (.tup [.str "times", .int at_]) → Q (.ref p) H') : TT3 CR CN CT tl H1 Q :=
  htl _ _ ⟨strip F, v, vv, vo, n, ties, rfl, strip_ext sb e, ht.st, hn, .inl ⟨at_, hb.st, fun d H2 ex hd => told_times sb e t1 ex hd q⟩⟩
theorem tt3_num {ts : List (Option Int)} {k : Kd} (sb : Sub F H) (ht : RTab K F v n ties) (hn : n ≤ 12) (hts : RRow F vv ts) (hl : ts.length = n) (hb : ∀ t, some t ∈ ts → -1000000000 ≤ t ∧ t ≤ 1000000000) (hk : KdOf F vo k) (ho : badO vo) (e : LamX.ExtN H H1) (t1 : LamX.Tabs TS H1)
    (htl : ∀ E Q', sp_orders_bad (K := K) CT CN [v, vv, vo] H1 Q' E → tl E H1 Q')
    (q : ∀ p F' H', Ep TS F H F' H' → F' p = some (.tup [.str "number", .str "orders"]) → Q (.ref p) H') : TT3 CR CN CT tl H1 Q :=
  htl _ _ ⟨strip F, v, vv, vo, n, ties, rfl, strip_ext sb e, ht.st, hn, .inr ⟨ts, k, Stp.st (r := RRow) hts, hl, hb, KdOf.st hk, ho, fun d H2 ex hd => told_number sb e t1 ex hd q⟩⟩
/-- what stands through the loops -/
structure BadI (K : PySem.W.Frag) (TS : List (Addr × Str)) (H0 : Hp) (v : V) (n : Nat) (ties : Ties) (F H : Hp) : Prop where
  s : Sub F H
  e : LamX.ExtN H0 H
  tab : RTab K F v n ties
  t : LamX.Tabs TS H
theorem BadI.ep {H0 F' H' : Hp} (I : BadI K TS H0 v n ties F H) (ep : Ep TS F H F' H') : BadI K TS H0 v n ties F' H' := ⟨ep.s, I.e.trans ep.e, RTab.up ep.f I.tab.st, ep.t⟩
theorem BadI.ex {H0 F' H' : Hp} (I : BadI K TS H0 v n ties F H) (e : Ex S0 F H F' H') : BadI K TS H0 v n ties F' H' := ⟨e.s, I.e.trans e.extN, RTab.up e.f I.tab, e.tabs I.t⟩
end
theorem paired_none {F : Hp} : ∀ n : Nat, Paired (Ro Ri F) (List.replicate n V.non) (List.replicate n none)
  | 0 => .nil
  | n + 1 => .cons rfl (paired_none n)
def AllBad (F : Hp) (xs : List V) : Prop := ∀ x ∈ xs, ∃ k, KdOf F x k ∧ badO x
theorem AllBad.up {F F' : Hp} {xs : List V} (h : AllBad F xs) (e : Sub F F') : AllBad F' xs := fun x hx => by
  obtain ⟨k, h1, h2⟩ := h x hx
  exact ⟨k, KdOf.up e h1, h2⟩
theorem AllBad.ep {TS : List (Addr × Str)} {F H F' H' : Hp} {xs : List V} (h : AllBad F xs) (ep : Ep TS F H F' H') : AllBad F' xs := fun x hx => by
  obtain ⟨k, h1, h2⟩ := h x hx
  exact ⟨k, KdOf.up ep.f (KdOf.st h1), h2⟩
section
variable {P : Program} {w : World} {K : PySem.W.Frag} {mg : Str → Option Value} {base : Heap}
def sp__law_bad_right (TS : List (Addr × Str)) : Sp := fun vs H Q _ => ∃ F v n ties, vs = [v, .int (n : Nat)] ∧ Sub F H ∧ RTab K F v n ties ∧ 1 ≤ n ∧ n ≤ 12 ∧ LamX.Tabs TS H ∧ ∀ H', LamX.ExtN H H' → LamX.Tabs TS H' → Q (.bl true) H'
theorem c__law_bad_right (T : Txt K mg) {CR CN CT TP : Addr} (EC : ErrC K mg CR CN CT) (kInvalidTimes : ExKl P w K mg base "InvalidTimes" "at" CT) (kInvalidNumber : ExKl P w K mg base "InvalidNumber" "word" CN) (kRefused : ExKl P w K mg base "Refused" "word" CR) {TS : List (Addr × Str)} (FT : FdT K mg base "_law_bad_right" sLbadright TP) (hTS : (TP, qL "_law_bad_right") ∈ TS) (hUS : ∀ p ∈ TS, p.1 = TP → p.2 = qL "_law_bad_right") : C8.Cal P w K mg base 16 "_law_bad_right" (sp__law_bad_right (K := K) TS) [] := by
  have c__law_bad_times := c__law_bad_times (P := P) (w := w) (base := base) T
  refine mkCT FT scLbadright (fun _ _ _ _ _ _ us hl => match us, hl with | [_, _], _ => rfl) (fun vs H Q E h => ?_) (fun f cdv A outer s H vs Q E TB hr h => ?_)
  · obtain ⟨F, v, n, ties, rfl, _⟩ := h
    rfl
  · have x_least_waiting := x_least_waiting (P := P) (w := w) (base := base) T kInvalidTimes kInvalidNumber kRefused
    have x_most_rounds := x_most_rounds (P := P) (w := w) (base := base) T kInvalidTimes kInvalidNumber
    have x_sure_rounds := x_sure_rounds (P := P) (w := w) (base := base) T kInvalidTimes kInvalidNumber
    obtain ⟨F, v, n, ties, rfl, sb, htab, hn1, hn, ht, q⟩ := h
    refine ⟨_, (pss_cons (ps_for PassesOwn.never rfl (pi_list (C8.pe_c c__law_bad_times hr (by decide) (by rfl) (pa_cons (pv 1) pa_nil))) (pg_tup rfl (pgs_cons ((pg_name (i := 2) scLbadright.nd rfl (Or.inr rfl))) (pgs_cons ((pg_name (i := 3) scLbadright.nd rfl (Or.inl rfl))) pgs_nil))) (pss_one (ps_for PassesOwn.never rfl (pi_list (pe_lst (pa_cons pe_int (pa_cons pe_int pa_nil)))) (pg_name (i := 4) scLbadright.nd rfl (Or.inr rfl)) (pss_cons (ps_if (pt_cmpR (op_neD (hr.units)) (pe_told (k := 12) T EC (by rfl) TB rfl hTS hUS hr (by decide) (LamX.lamS_by (sc := defScope sLbadright) (by decide +kernel)) rfl (fun _ _ _ _ _ => rfl) (fun A outer s H E f c hr => (pe_cx x_most_rounds (takes_of rfl rfl rfl rfl) hr (by decide) (by rfl) (pa_cons (pv 0) (pa_cons (pv 2) (pa_cons (pv 4) pa_nil)))))) (pe_tup (pa_cons pe_str (pa_cons (pv 3) pa_nil))) (nomark _)) (pss_one (ps_ret pe_bl)) pss_nil)
    (pss_cons (ps_if (pt_cmpR (op_neD (hr.units)) (pe_told (k := 12) T EC (by rfl) TB rfl hTS hUS hr (by decide) (LamX.lamS_by (sc := defScope sLbadright) (by decide +kernel)) rfl (fun _ _ _ _ _ => rfl) (fun A outer s H E f c hr => (pe_cx x_sure_rounds (takes_of rfl rfl rfl rfl) hr (by decide) (by rfl) (pa_cons (pv 0) (pa_cons (pv 2) (pa_cons (pv 4) pa_nil)))))) (pe_tup (pa_cons pe_str (pa_cons (pv 3) pa_nil))) (nomark _)) (pss_one (ps_ret pe_bl)) pss_nil)
    (pss_one (ps_if (pt_cmpR (op_neD (hr.units)) (pe_told (k := 12) T EC (by rfl) TB rfl hTS hUS hr (by decide) (LamX.lamS_by (sc := defScope sLbadright) (by decide +kernel)) rfl (fun _ _ _ _ _ => rfl) (fun A outer s H E f c hr => (pe_cx x_least_waiting (takes_of rfl rfl rfl rfl) hr (by decide) (by rfl) (pa_cons (pv 0) (pa_cons (pv 2) (pa_cons (pv 4) pa_nil)))))) (pe_tup (pa_cons pe_str (pa_cons (pv 3) pa_nil))) (nomark _)) (pss_one (ps_ret pe_bl)) pss_nil)))))))
    (pss_cons (ps_set (i := 5) scLbadright.nd rfl (Or.inr rfl) (pe_op op_repA (pe_tup (pa_cons pe_non pa_nil)) (pv 1)))
    (pss_cons (ps_for PassesOwn.never rfl (pi_list (pe_lst (pa_cons pe_int (pa_cons pe_int (pa_cons (pe_op op_sub pe_int pe_int) (pa_cons pe_bl (pa_cons pe_non (pa_cons pe_str (pa_cons (pe_tup (pa_cons pe_int pa_nil)) (pa_cons (pe_lst (pa_cons pe_int pa_nil)) pa_nil)))))))))) (pg_name (i := 2) scLbadright.nd rfl (Or.inr rfl)) (pss_cons (ps_if (pt_cmpR (op_neD (hr.units)) (pe_told (k := 12) T EC (by rfl) TB rfl hTS hUS hr (by decide) (LamX.lamS_by (sc := defScope sLbadright) (by decide +kernel)) rfl (fun _ _ _ _ _ => rfl) (fun A outer s H E f c hr => (pe_cx x_most_rounds (takes_of rfl rfl rfl rfl) hr (by decide) (by rfl) (pa_cons (pv 0) (pa_cons (pv 5) (pa_cons (pv 2) pa_nil)))))) (pe_tup (pa_cons pe_str (pa_cons pe_str pa_nil))) (nomark _)) (pss_one (ps_ret pe_bl)) pss_nil)
    (pss_cons (ps_if (pt_cmpR (op_neD (hr.units)) (pe_told (k := 12) T EC (by rfl) TB rfl hTS hUS hr (by decide) (LamX.lamS_by (sc := defScope sLbadright) (by decide +kernel)) rfl (fun _ _ _ _ _ => rfl) (fun A outer s H E f c hr => (pe_cx x_sure_rounds (takes_of rfl rfl rfl rfl) hr (by decide) (by rfl) (pa_cons (pv 0) (pa_cons (pv 5) (pa_cons (pv 2) pa_nil)))))) (pe_tup (pa_cons pe_str (pa_cons pe_str pa_nil))) (nomark _)) (pss_one (ps_ret pe_bl)) pss_nil)
    (pss_one (ps_if (pt_cmpR (op_neD (hr.units)) (pe_told (k := 12) T EC (by rfl) TB rfl hTS hUS hr (by decide) (LamX.lamS_by (sc := defScope sLbadright) (by decide +kernel)) rfl (fun _ _ _ _ _ => rfl) (fun A outer s H E f c hr => (pe_cx x_least_waiting (takes_of rfl rfl rfl rfl) hr (by decide) (by rfl) (pa_cons (pv 0) (pa_cons (pv 5) (pa_cons (pv 2) pa_nil)))))) (pe_tup (pa_cons pe_str (pa_cons pe_str pa_nil))) (nomark _)) (pss_one (ps_ret pe_bl)) pss_nil)))))
    (pss_one (ps_ret pe_bl))))), ?_⟩
    walk_at "vc"
    refine ⟨F, n, rfl, sb, hn1, hn, fun r vs us F1 H1 e1 hr1 pr1 hul => ?_⟩
    have I1 : BadI K TS H v n ties F1 H1 := ⟨e1.s, e1.extN, RTab.up e1.f htab, e1.tabs ht⟩
    refine ⟨_, rfl, ⟨_, lS (e1.s _ _ hr1)⟩, ?_⟩
    refine for_it (walk_lp pr1) (fun i σ H3 => ∃ u2 u3 u4 u5 F3, σ = [some v, some (.int (n : Nat)), u2, u3, u4, u5] ∧ BadI K TS H v n ties F3 H3 ∧ F3 r = some (.lst vs) ∧ Paired (RBadT n F3) vs us)
      ⟨none, none, none, none, F1, rfl, I1, hr1, pr1⟩ (fun i σ H3 _ h => ?_) (fun i x σ H3 H4 hi h y => ?_) (fun σ H3 h => ?_)
    · obtain ⟨u2, u3, u4, u5, F3, rfl, I, hr, pr⟩ := h
      exact lS (I.s _ _ hr)
    · obtain ⟨u2, u3, u4, u5, F3, rfl, I, hr, pr⟩ := h
      obtain ⟨rfl, ex⟩ := y
      obtain ⟨u0, _, ⟨p0, vv, at_, rfl, hp0, hb⟩⟩ := Paired.getL pr ex
      walk_at "vc"
      refine ⟨_, _, rfl, tS (I.s _ _ hp0), rfl, ?_⟩
      refine ⟨_, _, rfl, ?_⟩
      refine ⟨_, _, rfl, ?_⟩
      refine ⟨rfl, ?_⟩
      walk_at "vc"
      refine go_lst (xs := [V.int 1, V.int 0]) (ex0 I.s) (szk (by simp)) fun p2 F4 e4 s4 hp2 => ?_
      have I := I.ex e4
      have hr := s4 _ _ hr
      have pr := Paired.up s4 pr
      have hb := BadT.up s4 hb
      refine ⟨_, rfl, ⟨_, lS (I.s _ _ hp2)⟩, ?_⟩
      refine for_it (walk_lm [(1 : Int), 0] V.int) (fun j σ H5 => ∃ u4 u5 F5, σ = [some v, some (.int (n : Nat)), some vv, some (.int at_), u4, u5] ∧ BadI K TS H v n ties F5 H5 ∧ F5 r = some (.lst vs) ∧ Paired (RBadT n F5) vs us ∧ F5 p2 = some (.lst [V.int 1, V.int 0]) ∧ BadT F5 vv n at_)
        ⟨u4, u5, F4, rfl, I, hr, pr, hp2, hb⟩ (fun j σ H5 _ h => ?_) (fun j x σ H5 H6 hj h y => ?_) (fun σ H5 h => ?_)
      · obtain ⟨u4, u5, F5, rfl, I, hr, pr, hp2, hb⟩ := h
        exact lS (I.s _ _ hp2)
      · clear I hr pr hp2 hb e4 s4 hp0 I1 hr1 pr1 e1
        obtain ⟨u4, u5, F5, rfl, I, hr, pr, hp2, hb⟩ := h
        obtain ⟨rfl, ex⟩ := y
        obtain ⟨io, hio, rfl⟩ := map_get ex
        walk_at "vc"
        refine ⟨I.t, fun H1 e1 t1 => ?_⟩
        refine tt3_times (K := K) (vo := V.int io) I.s I.tab hn hb e1 t1 (fun E' Q' z => ?_) (fun pA FA HA ep hpA => ?_)
        · walk_at "vc"
          exact z
        have I := I.ep ep
        have hb := BadT.up ep.f hb.st
        have hp2 := ep.f _ _ (strip_lst hp2)
        have hr := ep.f _ _ (strip_lst hr)
        have pr := Paired.up ep.f (Paired.st pr)
        walk_at "vc"
        refine go_t2 (ex0 I.s) fun pB FB eB sB hpB => ?_
        have I := I.ex eB
        have hb := BadT.up sB hb
        have hp2 := sB _ _ hp2
        have hr := sB _ _ hr
        have pr := Paired.up sB pr
        refine ⟨_, _, dp_up I.s _ _ (dp_tim (sB _ _ hpA)), dp_up I.s _ _ (dp_tim hpB), sh_tim _, sh_tim _, ?_⟩
        rw [eqv_timr]
        walk_at "vc"
        refine ⟨I.t, fun H1 e1 t1 => ?_⟩
        refine tt3_times (K := K) (vo := V.int io) I.s I.tab hn hb e1 t1 (fun E' Q' z => ?_) (fun pA FA HA ep hpA => ?_)
        · walk_at "vc"
          exact z
        have I := I.ep ep
        have hb := BadT.up ep.f hb.st
        have hp2 := ep.f _ _ (strip_lst hp2)
        have hr := ep.f _ _ (strip_lst hr)
        have pr := Paired.up ep.f (Paired.st pr)
        walk_at "vc"
        refine go_t2 (ex0 I.s) fun pB FB eB sB hpB => ?_
        have I := I.ex eB
        have hb := BadT.up sB hb
        have hp2 := sB _ _ hp2
        have hr := sB _ _ hr
        have pr := Paired.up sB pr
        refine ⟨_, _, dp_up I.s _ _ (dp_tim (sB _ _ hpA)), dp_up I.s _ _ (dp_tim hpB), sh_tim _, sh_tim _, ?_⟩
        rw [eqv_timr]
        walk_at "vc"
        refine ⟨I.t, fun H1 e1 t1 => ?_⟩
        refine tt3_times (K := K) (vo := V.int io) I.s I.tab hn hb e1 t1 (fun E' Q' z => ?_) (fun pA FA HA ep hpA => ?_)
        · walk_at "vc"
          exact .inr z
        have I := I.ep ep
        have hb := BadT.up ep.f hb.st
        have hp2 := ep.f _ _ (strip_lst hp2)
        have hr := ep.f _ _ (strip_lst hr)
        have pr := Paired.up ep.f (Paired.st pr)
        walk_at "vc"
        refine go_t2 (ex0 I.s) fun pB FB eB sB hpB => ?_
        have I := I.ex eB
        have hb := BadT.up sB hb
        have hp2 := sB _ _ hp2
        have hr := sB _ _ hr
        have pr := Paired.up sB pr
        refine ⟨_, _, dp_up I.s _ _ (dp_tim (sB _ _ hpA)), dp_up I.s _ _ (dp_tim hpB), sh_tim _, sh_tim _, ?_⟩
        rw [eqv_timr]
        walk_at "vc"
        exact ⟨_, _, FB, rfl, I, hr, pr, hp2, hb⟩
      · obtain ⟨u4, u5, F5, rfl, I, hr, pr, hp2, hb⟩ := h
        exact ⟨_, _, _, _, F5, rfl, I, hr, pr⟩
    · obtain ⟨u2, u3, u4, u5, F3, rfl, I, hr, pr⟩ := h
      clear hr pr I1 hr1 pr1 e1
      walk_at "vc"
      refine go_t1 (ex0 I.s) fun p4 F4 e4 s4 hp4 => ?_
      walk_at "vc"
      refine go_rep' (k := n) e4 hp4 rfl (by omega) fun pN F5 H5 e5 s5 hpN => ?_
      have I := I.ex e5
      have hts : RRow F5 (.ref pN) (List.replicate n none) := ⟨pN, _, rfl, hpN, paired_none n⟩
      have hnb : ∀ t, some t ∈ (List.replicate n none : List (Option Int)) → -1000000000 ≤ t ∧ t ≤ 1000000000 := fun t ht => by have := (List.mem_replicate.mp ht).2; cases this
      clear e4 s4 hp4 e5 s5
      walk_at "vc"
      refine go_t1 (ex0 I.s) fun p6 F6 e6 s6 hp6 => ?_
      have I := I.ex e6
      walk_at "vc"
      refine go_lst (xs := [V.int 1]) (ex0 I.s) (szk (by simp)) fun p7 F7 e7 s7 hp7 => ?_
      have I := I.ex e7
      walk_at "vc"
      refine go_lst (xs := [V.int 0, V.int 61, V.int (0 - 1), V.bl true, V.non, V.str "2", V.ref p6, V.ref p7]) (ex0 I.s) (szk (by simp)) fun p2 F8 e8 s8 hp2 => ?_
      have I := I.ex e8
      have hts := Mono.up (r := RRow) (s6.tr (s7.tr s8)) hts
      have hall : AllBad F8 [V.int 0, V.int 61, V.int (0 - 1), V.bl true, V.non, V.str "2", V.ref p6, V.ref p7] := by
        intro x hx
        simp only [List.mem_cons, List.not_mem_nil, or_false] at hx
        rcases hx with rfl | rfl | rfl | rfl | rfl | rfl | rfl | rfl
        · exact ⟨.int, ⟨_, rfl⟩, fun i hi => by cases hi; omega⟩
        · exact ⟨.int, ⟨_, rfl⟩, fun i hi => by cases hi; omega⟩
        · exact ⟨.int, ⟨_, rfl⟩, fun i hi => by cases hi; omega⟩
        · exact ⟨.bl, ⟨_, rfl⟩, fun i hi => by cases hi⟩
        · exact ⟨.non, rfl, fun i hi => by cases hi⟩
        · exact ⟨.str, ⟨_, rfl⟩, fun i hi => by cases hi⟩
        · exact ⟨.tup, ⟨p6, _, rfl, s8 _ _ (s7 _ _ hp6)⟩, fun i hi => by cases hi⟩
        · exact ⟨.lst, ⟨p7, _, rfl, s8 _ _ hp7⟩, fun i hi => by cases hi⟩
      refine ⟨_, rfl, ⟨_, lS (I.s _ _ hp2)⟩, ?_⟩
      generalize hxs : [V.int 0, V.int 61, V.int (0 - 1), V.bl true, V.non, V.str "2", V.ref p6, V.ref p7] = xs at hp2 hall I ⊢
      refine for_it (walk_list (xs := xs)) (fun j σ H9 => ∃ u2 u3 u4 F9, σ = [some v, some (.int (n : Nat)), u2, u3, u4, some (.ref pN)] ∧ BadI K TS H v n ties F9 H9 ∧ F9 p2 = some (.lst xs) ∧ RRow F9 (.ref pN) (List.replicate n none) ∧ AllBad F9 xs)
        ⟨u2, u3, u4, F8, rfl, I, hp2, hts, hall⟩ (fun j σ H9 _ h => ?_) (fun j x σ H9 H10 hj h y => ?_) (fun σ H9 h => ?_)
      · obtain ⟨u2, u3, u4, F9, rfl, I, hp2, hts, hall⟩ := h
        exact lS (I.s _ _ hp2)
      · clear I hp2 hts hall e6 e7 e8 s6 s7 s8 hp6 hp7
        obtain ⟨u2, u3, u4, F9, rfl, I, hp2, hts, hall⟩ := h
        obtain ⟨rfl, ex⟩ := y
        obtain ⟨k, hk, ho⟩ := hall x (List.mem_of_getElem? ex)
        generalize hxo : x = xo at hk ho
        subst hxo
        walk_at "vc"
        refine ⟨I.t, fun H1 e1 t1 => ?_⟩
        refine tt3_num (K := K) (vo := x) (ts := List.replicate n none) I.s I.tab hn hts (by simp) hnb hk ho e1 t1 (fun E' Q' z => ?_) (fun pA FA HA ep hpA => ?_)
        · walk_at "vc"
          exact z
        have I := I.ep ep
        have hts := Mono.up (r := RRow) ep.f (Stp.st (r := RRow) hts)
        have hk := KdOf.up ep.f (KdOf.st hk)
        have hp2 := ep.f _ _ (strip_lst hp2)
        have hall := hall.ep ep
        walk_at "vc"
        refine go_t2 (ex0 I.s) fun pB FB eB sB hpB => ?_
        have I := I.ex eB
        have hts := Mono.up (r := RRow) sB hts
        have hk := KdOf.up sB hk
        have hp2 := sB _ _ hp2
        have hall := hall.up sB
        refine ⟨_, _, dp_up I.s _ _ (dp_num (sB _ _ hpA)), dp_up I.s _ _ (dp_num hpB), sh_num, sh_num, ?_⟩
        rw [eqv_numr]
        walk_at "vc"
        refine ⟨I.t, fun H1 e1 t1 => ?_⟩
        refine tt3_num (K := K) (vo := x) (ts := List.replicate n none) I.s I.tab hn hts (by simp) hnb hk ho e1 t1 (fun E' Q' z => ?_) (fun pA FA HA ep hpA => ?_)
        · walk_at "vc"
          exact z
        have I := I.ep ep
        have hts := Mono.up (r := RRow) ep.f (Stp.st (r := RRow) hts)
        have hk := KdOf.up ep.f (KdOf.st hk)
        have hp2 := ep.f _ _ (strip_lst hp2)
        have hall := hall.ep ep
        walk_at "vc"
        refine go_t2 (ex0 I.s) fun pB FB eB sB hpB => ?_
        have I := I.ex eB
        have hts := Mono.up (r := RRow) sB hts
        have hk := KdOf.up sB hk
        have hp2 := sB _ _ hp2
        have hall := hall.up sB
        refine ⟨_, _, dp_up I.s _ _ (dp_num (sB _ _ hpA)), dp_up I.s _ _ (dp_num hpB), sh_num, sh_num, ?_⟩
        rw [eqv_numr]
        walk_at "vc"
        refine ⟨I.t, fun H1 e1 t1 => ?_⟩
        refine tt3_num (K := K) (vo := x) (ts := List.replicate n none) I.s I.tab hn hts (by simp) hnb hk ho e1 t1 (fun E' Q' z => ?_) (fun pA FA HA ep hpA => ?_)
        · walk_at "vc"
          exact .inr z
        have I := I.ep ep
        have hts := Mono.up (r := RRow) ep.f (Stp.st (r := RRow) hts)
        have hk := KdOf.up ep.f (KdOf.st hk)
        have hp2 := ep.f _ _ (strip_lst hp2)
        have hall := hall.ep ep
        walk_at "vc"
        refine go_t2 (ex0 I.s) fun pB FB eB sB hpB => ?_
        have I := I.ex eB
        have hts := Mono.up (r := RRow) sB hts
        have hk := KdOf.up sB hk
        have hp2 := sB _ _ hp2
        have hall := hall.up sB
        refine ⟨_, _, dp_up I.s _ _ (dp_num (sB _ _ hpA)), dp_up I.s _ _ (dp_num hpB), sh_num, sh_num, ?_⟩
        rw [eqv_numr]
        walk_at "vc"
        exact ⟨_, _, _, FB, rfl, I, hp2, hts, hall⟩
      · obtain ⟨u2, u3, u4, F9, rfl, I, hp2, hts, hall⟩ := h
        walk_at "vc"
        exact q _ I.e I.t
end
end Sa
set_option Elab.async false
set_option linter.all false
set_option maxRecDepth 100000
set_option maxHeartbeats 4000000
namespace Sa
open PySem PySem.Spec PyProof.Rows L2
local macro_rules | `(tactic| walk_at "vc") => `(tactic| repeat (first | refine ⟨_, rfl, ?_⟩ | refine ⟨_, _, rfl, rfl, ?_⟩ | refine ⟨_, _, rfl, ?_⟩ | refine ⟨rfl, ?_⟩))
/-! ### what stands through the law -/
theorem tabs_keep {TS : List (Addr × Str)} {H H' : Hp} (t : LamX.Tabs TS H) (k : ∀ b o, H b = some o → (∀ xs, o ≠ .lst xs) → H' b = some o) : LamX.Tabs TS H' := by
  intro p hp
  obtain ⟨ps, h1, h2, h3⟩ := t p hp
  refine ⟨ps, k _ _ h1 (fun _ z => by cases z), h2, fun pos cv hcv => ?_⟩
  obtain ⟨c, e1, e2⟩ := h3 pos cv hcv
  exact ⟨c, e1, k _ _ e2 (fun _ z => by unfold LamX.CodeO at z; cases z)⟩
structure LawI (TS : List (Addr × Str)) (F H : Hp) (g c : Addr) : Prop where
  s : Sub F H
  gh : Gh F H g c
  t : LamX.Tabs TS H
section
variable {TS : List (Addr × Str)} {F H F' H' : Hp} {g c : Addr}
theorem LawI.o (I : LawI TS F H g c) (e : Ex S0 F H F' H') : LawI TS F' H' g c := ⟨e.s, I.gh.up e, e.tabs I.t⟩
theorem LawI.gg (I : LawI TS F H g c) (e : Ex (Sg g c) F H F' H') (gh : Gh F' H' g c) : LawI TS F' H' g c := by
  refine ⟨e.s, gh, tabs_keep I.t fun b o h n => e.k b o (fun z => ?_) h⟩
  obtain ⟨cs, st, G⟩ := I.gh
  rcases z with rfl | rfl
  · rw [G.hg] at h; exact n _ (Option.some.inj h).symm
  · rw [G.hc] at h; exact n _ (Option.some.inj h).symm
theorem LawI.ep (I : LawI TS F H g c) (e : LamX.ExtN H H') (t : LamX.Tabs TS H') : LawI TS (strip F) H' g c := by
  refine ⟨strip_ext I.s e, ?_, t⟩
  obtain ⟨cs, st, G⟩ := I.gh
  have none_ : ∀ b, F b = none → strip F b = none := fun b h => by unfold strip; rw [h]
  exact ⟨cs, st, e _ _ G.hg (fun _ z => by cases z), e _ _ G.hc (fun _ z => by cases z), none_ _ G.fg, none_ _ G.fc, G.ne, G.le⟩
theorem make_tab {x dx C : Addr} {fs : List (Str × V)} (sb : Sub F H) (hx : H x = none) (hdx : H dx = none) (e : Ex (fun b => b = x) F (upd (upd H dx (.own x)) x (.ins C dx [])) F H') (hx' : H' x = some (.ins C dx fs)) : Ex S0 F H (upd F x (.ins C dx fs)) H' := by
  have keep : ∀ b o, H b = some o → H' b = some o := fun b o h => by
    have n1 := ne_of_none h hx
    have n2 := ne_of_none h hdx
    exact e.k b o n1 (by rw [upd_ne n1, upd_ne n2]; exact h)
  have e1 : Ex S0 F H F H' := ⟨Sub.rfl, e.s, fun _ _ => rfl, fun b o _ h => keep b o h, fun b h => by
    cases q : H b with
    | none => exact absurd q h
    | some o => rw [keep b o q]; simp, fun b z => z.elim⟩
  exact e1.frz hx hx' (sb.free hx)
end
def GoodM (i : Nat) (v : V) : Prop := ∃ n : Nat, v = .int (n : Nat) ∧ 1 ≤ n ∧ n ≤ 12 ∧ (i = 3 → 4 ≤ n)
def GoodT (v : V) : Prop := ∃ m : Nat, v = .int (m : Nat) ∧ 1 ≤ m ∧ m ≤ 1000000
theorem goodM {i : Nat} {ns : List Nat} (h : ∀ n ∈ ns, 1 ≤ n ∧ n ≤ 12 ∧ (i = 3 → 4 ≤ n)) : ∀ v ∈ ns.map nv, GoodM i v := fun v hv => by
  obtain ⟨n, hn, rfl⟩ := List.mem_map.mp hv
  exact ⟨n, rfl, h n hn⟩
theorem goodT {ns : List Nat} (h : ∀ n ∈ ns, 1 ≤ n ∧ n ≤ 1000000) : ∀ v ∈ ns.map nv, GoodT v := fun v hv => by
  obtain ⟨n, hn, rfl⟩ := List.mem_map.mp hv
  exact ⟨n, rfl, h n hn⟩
def nine : List Str := ["a", "b", "c", "d", "e", "f", "g", "h", "i"]
theorem nine_ok : NamesOk nine := by
  refine ⟨by decide, by decide, (show ∀ z ∈ nine, 1 ≤ z.length ∧ z.length ≤ 6 ∧ ∀ c ∈ z.cps.toList, c ∈ lettersS.cps.toList by decide +kernel), fun i a b ha hb => ?_⟩
  have hi : i < 8 := by
    have := (List.getElem?_eq_some_iff.mp hb).1
    have e : nine.length = 9 := rfl
    omega
  have key : ∀ i, i < 8 → ∀ a ∈ nine[i]?, ∀ b ∈ nine[i + 1]?, a.cps.toList < b.cps.toList := by decide +kernel
  exact key i hi a ha b hb
theorem ring9_ok : ∀ t ∈ ring9, TieOk 9 t := show ∀ t ∈ ring9, t.1 < 9 ∧ t.2.1 < 9 ∧ t.1 ≠ t.2.1 ∧ -1000000 ≤ t.2.2 ∧ t.2.2 ≤ 1000000 by decide +kernel
section
variable {P : Program} {w : World} {K : PySem.W.Frag} {mg : Str → Option Value} {base : Heap}
def sp_law (TS : List (Addr × Str)) : Sp := fun vs H Q _ => ∃ a, ∃ ns : List Int, vs = [.ref a] ∧ SqL K H a (ns.map V.int) ∧ ns.length ≤ 63 ∧ LamX.Tabs TS H ∧ ∀ H', Q (.bl true) H'
theorem f_law (T : Txt K mg) {C CR CN CT : Addr} (TD : TabD K mg C) (kInvalidTimes : ExKl P w K mg base "InvalidTimes" "at" CT) (kInvalidNumber : ExKl P w K mg base "InvalidNumber" "word" CN) (kRefused : ExKl P w K mg base "Refused" "word" CR) {TS : List (Addr × Str)} (c__law_right : C8.Cal P w K mg base 16 "_law_right" (sp__law_right (K := K) TS) []) (c__law_many_right : C8.Cal P w K mg base 16 "_law_many_right" (sp__law_many_right (K := K) TS) []) (c__law_bad_right : C8.Cal P w K mg base 16 "_law_bad_right" (sp__law_bad_right (K := K) TS) []) : FnD P w K mg base C8.CX0 17 "law" slaw ["_law_script"] (sp_law (K := K) TS) := by
  have c__law_heap := c__law_heap (P := P) (w := w) (base := base) T
  have c__law_pick := c__law_pick (P := P) (w := w) (base := base) T
  have c__law_all_rows := c__law_all_rows (P := P) (w := w) (base := base) T
  have c__law_long_ring := c__law_long_ring (P := P) (w := w) (base := base) T
  have c__law_ties := c__law_ties (P := P) (w := w) (base := base) T
  have c__law_names := c__law_names (P := P) (w := w) (base := base) T
  have c__law_times := c__law_times (P := P) (w := w) (base := base) T
  have c_most_rounds := c_most_rounds (P := P) (w := w) (base := base) T
  have c_sure_rounds := c_sure_rounds (P := P) (w := w) (base := base) T
  have c__law_draw := c__law_draw (P := P) (w := w) (base := base) T
  refine mkF T.d_law sclaw (fun vs H Q E h => ?_) (fun f cdv A outer s H vs Q E hr h => ?_)
  · obtain ⟨a, ns, rfl, _⟩ := h
    rfl
  · have x_least_waiting := x_least_waiting (P := P) (w := w) (base := base) T kInvalidTimes kInvalidNumber kRefused
    have cTable := cTable (P := P) (w := w) (base := base) T TD
    obtain ⟨a, ns, rfl, hS, hns, ht, q⟩ := h
    refine ⟨_, (pss_cons (ps_set (i := 1) sclaw.nd rfl (Or.inl rfl) (C8.pe_c c__law_heap hr (by decide) (by rfl) (pa_cons (pv 0) pa_nil)))
    (pss_cons (ps_for PassesOwn.never rfl (pi_range1 (by rfl) T.range (pa_cons pe_int pa_nil)) (pg_name (i := 2) sclaw.nd rfl (Or.inl rfl)) (pss_cons (ps_set (i := 3) sclaw.nd rfl (Or.inl rfl) (C8.pe_c c__law_pick hr (by decide) (by rfl) (pa_cons (pv 1) (pa_cons (pe_ix ix_list (pe_lst (pa_cons (pe_lst (pa_cons pe_int (pa_cons pe_int (pa_cons pe_int (pa_cons pe_int pa_nil))))) (pa_cons (pe_lst (pa_cons pe_int (pa_cons pe_int (pa_cons pe_int pa_nil)))) (pa_cons (pe_lst (pa_cons pe_int (pa_cons pe_int (pa_cons pe_int pa_nil)))) (pa_cons (pe_lst (pa_cons pe_int (pa_cons pe_int (pa_cons pe_int (pa_cons pe_int pa_nil))))) pa_nil))))) (pv 2) (fun _ _ => rfl)) pa_nil))))
    (pss_cons (ps_set (i := 4) sclaw.nd rfl (Or.inl rfl) (C8.pe_c c__law_pick hr (by decide) (by rfl) (pa_cons (pv 1) (pa_cons (pe_ix ix_list (pe_lst (pa_cons (pe_lst (pa_cons pe_int (pa_cons pe_int pa_nil))) (pa_cons (pe_lst (pa_cons pe_int (pa_cons pe_int pa_nil))) (pa_cons (pe_lst (pa_cons pe_int (pa_cons (pe_op op_pow pe_int pe_int) pa_nil))) (pa_cons (pe_lst (pa_cons pe_int pa_nil)) pa_nil))))) (pv 2) (fun _ _ => rfl)) pa_nil))))
    (pss_cons (ps_set (i := 5) sclaw.nd rfl (Or.inl rfl) (pe_ifExp (pt_cmpR op_eq (pv 2) pe_int (nomark _)) (C8.pe_c c__law_long_ring hr (by decide) (by rfl) (pa_cons (pv 1) (pa_cons (pv 3) pa_nil))) (C8.pe_c c__law_ties hr (by decide) (by rfl) (pa_cons (pv 1) (pa_cons (pv 3) (pa_cons (pv 4) pa_nil))))))
    (pss_cons (ps_set (i := 6) sclaw.nd rfl (Or.inl rfl) (C8.pe_mk cTable hr (by decide) (by rfl) (pa_cons (C8.pe_c c__law_names hr (by decide) (by rfl) (pa_cons (pv 1) (pa_cons (pv 3) pa_nil))) (pa_cons (pe_callTy call_tuple_of (by rfl) T.tuple (by decide +kernel) (pa_cons (pv 5) pa_nil)) pa_nil))))
    (pss_cons (ps_set (i := 7) sclaw.nd rfl (Or.inl rfl) (C8.pe_c c__law_all_rows hr (by decide) (by rfl) (pa_cons (pv 3) (pa_cons (pe_fld (pv 6) rfl) pa_nil))))
    (pss_cons (ps_set (i := 8) sclaw.nd rfl (Or.inl rfl) (pe_ifExp (PW.pt (pw_or (pt_cmpR op_lt (pv 2) pe_int (nomark _)) (pw_or1 (pt_cmpR op_eq (C8.pe_c c__law_draw hr (by decide) (by rfl) (pa_cons (pv 1) (pa_cons pe_int pa_nil))) pe_int (nomark _))))) (C8.pe_c c__law_times hr (by decide) (by rfl) (pa_cons (pv 1) (pa_cons (pv 7) pa_nil))) (pe_op op_repA (pe_tup (pa_cons pe_non pa_nil)) (pv 3))))
    (pss_cons (ps_if (pt_not (pt_val (C8.pe_c c__law_right hr (by decide) (by rfl) (pa_cons (pv 6) (pa_cons (pv 7) (pa_cons (pv 8) (pa_cons (pe_op op_add pe_int (C8.pe_c c__law_draw hr (by decide) (by rfl) (pa_cons (pv 1) (pa_cons (pe_ix ix_list (pe_lst (pa_cons pe_int (pa_cons pe_int (pa_cons pe_int (pa_cons pe_int pa_nil))))) (pv 2) (fun _ _ => rfl)) pa_nil)))) pa_nil))))))) (pss_one (ps_ret pe_bl)) pss_nil)
    (pss_one (ps_if (PW.pt (pw_and (pt_cmpR op_gt (pv 2) pe_int (nomark _)) (pw_and1 (pt_not (pt_val (C8.pe_c c__law_many_right hr (by decide) (by rfl) (pa_cons (pv 6) (pa_cons (pv 7) (pa_cons (pv 8) (pa_cons (C8.pe_c c__law_pick hr (by decide) (by rfl) (pa_cons (pv 1) (pa_cons (pe_lst (pa_cons pe_int (pa_cons pe_int (pa_cons pe_int (pa_cons pe_int (pa_cons pe_int (pa_cons pe_int (pa_cons pe_int (pa_cons pe_int pa_nil))))))))) pa_nil))) pa_nil)))))))))) (pss_one (ps_ret pe_bl)) pss_nil))))))))))
    (pss_cons (ps_if (pt_not (pt_val (C8.pe_c c__law_bad_right hr (by decide) (by rfl) (pa_cons (pv 6) (pa_cons (pv 3) pa_nil))))) (pss_one (ps_ret pe_bl)) pss_nil)
    (pss_cons (ps_set (i := 9) sclaw.nd rfl (Or.inl rfl) (pe_tup (pa_cons pe_str (pa_cons pe_str (pa_cons pe_str (pa_cons pe_str (pa_cons pe_str (pa_cons pe_str (pa_cons pe_str (pa_cons pe_str (pa_cons pe_str pa_nil)))))))))))
    (pss_cons (ps_set (i := 10) sclaw.nd rfl (Or.inl rfl) (C8.pe_mk cTable hr (by decide) (by rfl) (pa_cons (pv 9) (pa_cons (pe_callTy call_tuple_of (by rfl) T.tuple (by decide +kernel) (pa_cons (pe_lc (own := [("_law_at", 11)]) (tt := tYes) rfl sclaw.nd (pi_range1 (by rfl) T.range (pa_cons pe_int pa_nil)) (blkOk_by (N := N_law) (sc := defScope slaw) (by decide +kernel)) (fun _ _ _ _ _ => pg_name (i := 11) sclaw.nd rfl (Or.inl rfl) (Or.inr rfl)) (fun _ _ _ _ _ => pts_nil) (fun _ _ _ _ _ => (pe_tup (pa_cons (pv 11) (pa_cons (pe_op op_mod (pe_callTy call_int1 (by rfl) T.int (by decide +kernel) (pa_cons (pe_op op_add (pv 11) pe_int) pa_nil)) pe_int) (pa_cons (pe_callTy call_int1 (by rfl) T.int (by decide +kernel) (pa_cons (pe_cmpR op_eq (pv 11) pe_int (nomark _)) pa_nil)) pa_nil)))))) pa_nil)) pa_nil))))
    (pss_cons (ps_if (PW.pt (pw_or (pt_cmpR op_ne (C8.pe_c c_most_rounds hr (by decide) (by rfl) (pa_cons (pv 10) (pa_cons (pe_op op_repA (pe_tup (pa_cons pe_non pa_nil)) pe_int) (pa_cons pe_int pa_nil)))) pe_int (nomark _)) (pw_or (pt_cmpR op_ne (C8.pe_c c_sure_rounds hr (by decide) (by rfl) (pa_cons (pv 10) (pa_cons (pe_op op_repA (pe_tup (pa_cons pe_non pa_nil)) pe_int) (pa_cons pe_int pa_nil)))) pe_int (nomark _)) (pw_or1 (pt_cmpR op_ne (C8.pe_c c_sure_rounds hr (by decide) (by rfl) (pa_cons (pv 10) (pa_cons (pe_op op_repA (pe_tup (pa_cons pe_non pa_nil)) pe_int) (pa_cons pe_int pa_nil)))) pe_int (nomark _)))))) (pss_one (ps_ret pe_bl)) pss_nil)
    (pss_one (ps_ret (pe_and (pe_cmpR op_eq (pe_ix ix_tup (pe_c0 x_least_waiting hr (by decide) (by rfl) (pa_cons (pv 10) (pa_cons (pe_op op_repA (pe_tup (pa_cons pe_non pa_nil)) pe_int) (pa_cons pe_int pa_nil)))) pe_int (fun _ _ => rfl)) pe_int (nomark _)) (pe_one (pe_cmpR (op_eqD (hr.units)) (pe_c0 x_least_waiting hr (by decide) (by rfl) (pa_cons (pv 10) (pa_cons (pe_op op_repA (pe_tup (pa_cons pe_non pa_nil)) pe_int) (pa_cons pe_int pa_nil)))) (pe_tup (pa_cons pe_int (pa_cons (pe_tup (pa_cons pe_int (pa_cons pe_int pa_nil))) pa_nil))) (nomark _)))))))))))), ?_⟩
    walk_at "vc"
    refine ⟨fun _ => none, a, ns, rfl, fun b o z => (by cases z), hS, hns, fun g c F1 H1 e1 gh1 => ?_⟩
    have I1 : LawI TS F1 H1 g c := ⟨e1.s, gh1, e1.tabs ht⟩
    walk_at "vc"
    refine ⟨by omega, by omega, ?_⟩
    refine for_it (walk_r0 (n := 4) (by rfl)) (fun i σ H3 => ∃ u2 u3 u4 u5 u6 u7 u8 u9 u10 u11 F3, σ = [some (.ref a), some (.ref g), u2, u3, u4, u5, u6, u7, u8, u9, u10, u11] ∧ LawI TS F3 H3 g c ∧ (1 ≤ i → ∃ n ties v, u3 = some (.int (n : Nat)) ∧ u6 = some v ∧ RTab K F3 v n ties ∧ 1 ≤ n ∧ n ≤ 12))
      ⟨none, none, none, none, none, none, none, none, none, none, F1, rfl, I1, fun z => by omega⟩ (fun i σ H3 _ h => trivial) (fun i x σ H3 H4 hi h y => ?_) (fun σ H3 h => ?_)
    · obtain ⟨u2, u3, u4, u5, u6, u7, u8, u9, u10, u11, F3, rfl, I, _⟩ := h
      obtain ⟨rfl, rfl⟩ := y
      dsimp only [gName, tSeq]
      refine asg_then (fun σ H5 => ∃ F5, ∃ n : Nat, σ = [some (.ref a), some (.ref g), some (.int (i : Nat)), some (.int (n : Nat)), u4, u5, u6, u7, u8, u9, u10, u11] ∧ LawI TS F5 H5 g c ∧ 1 ≤ n ∧ n ≤ 12 ∧ (i = 3 → 4 ≤ n)) (fun σ H5 h => ?_) fun fin => ?_
      · obtain ⟨F5, n, rfl, I, g1, g2, g3⟩ := h
        dsimp only [gName, tSeq]
        refine asg_then (fun σ H5 => ∃ F5, ∃ m : Nat, σ = [some (.ref a), some (.ref g), some (.int (i : Nat)), some (.int (n : Nat)), some (.int (m : Nat)), u5, u6, u7, u8, u9, u10, u11] ∧ LawI TS F5 H5 g c ∧ 1 ≤ m ∧ m ≤ 1000000) (fun σ H5 h => ?_) fun fin => ?_
        · obtain ⟨F6, m, rfl, I, m1, m2⟩ := h
          dsimp only [gName, tSeq]
          refine asg_then (fun σ H5 => ∃ F5 tr vs ties, σ = [some (.ref a), some (.ref g), some (.int (i : Nat)), some (.int (n : Nat)), some (.int (m : Nat)), some (.ref tr), u6, u7, u8, u9, u10, u11] ∧ LawI TS F5 H5 g c ∧ F5 tr = some (.lst vs) ∧ Paired (RTie F5) vs ties ∧ ties.length ≤ 60 ∧ ∀ t ∈ ties, TieOk n t) (fun σ H5 h => ?_) fun fin => ?_
          · obtain ⟨F7, tr, vs, ties, rfl, I, htr, prt, htl, hto⟩ := h
            dsimp only [gName, tSeq]
            refine asg_then (fun σ H5 => ∃ F5 x, σ = [some (.ref a), some (.ref g), some (.int (i : Nat)), some (.int (n : Nat)), some (.int (m : Nat)), some (.ref tr), some (.ref x), u7, u8, u9, u10, u11] ∧ LawI TS F5 H5 g c ∧ RTab K F5 (.ref x) n ties) (fun σ H5 h => ?_) fun fin => ?_
            · obtain ⟨F8, x, rfl, I, htab⟩ := h
              dsimp only [gName, tSeq]
              refine asg_then (fun σ H5 => ∃ F5 vr, σ = [some (.ref a), some (.ref g), some (.int (i : Nat)), some (.int (n : Nat)), some (.int (m : Nat)), some (.ref tr), some (.ref x), some vr, u8, u9, u10, u11] ∧ LawI TS F5 H5 g c ∧ RTab K F5 (.ref x) n ties ∧ LAll F5 vr (allR n ties)) (fun σ H5 h => ?_) fun fin => ?_
              · obtain ⟨F9, vr, rfl, I, htab, hvr⟩ := h
                dsimp only [gName, tSeq]
                refine asg_then (fun σ H5 => ∃ F5 vt ts, σ = [some (.ref a), some (.ref g), some (.int (i : Nat)), some (.int (n : Nat)), some (.int (m : Nat)), some (.ref tr), some (.ref x), some vr, some vt, u9, u10, u11] ∧ LawI TS F5 H5 g c ∧ RTab K F5 (.ref x) n ties ∧ LAll F5 vr (allR n ties) ∧ RRow F5 vt ts ∧ ts.length = n ∧ ∀ z, some z ∈ ts → -1000000000 ≤ z ∧ z ≤ 1000000000) (fun σ H5 h => ?_) fun fin => ?_
                · obtain ⟨F10, vt, ts, rfl, I, htab, hvr, hts, hl, hb⟩ := h
                  have okk : Ok K F10 (.ref x) vt n ties ts := ⟨htab, ties_ok hto, g2, hts, hl, hb, diag_ev n ties⟩
                  walk_at "vc"
                  refine go_lst (xs := [V.int 4, V.int 6, V.int 5, V.int 7]) (ex0 I.s) (szk (by simp)) fun p11 F11 e11 s11 hp11 => ?_
                  have I := I.o e11
                  have okk := Ok.up s11 okk
                  have hvr := Mono.up (r := LAll) s11 hvr
                  obtain ⟨m0, hm0, k1, k2⟩ : ∃ m0 : Nat, [V.int 4, V.int 6, V.int 5, V.int 7][i]? = some (.int (m0 : Nat)) ∧ 1 ≤ m0 ∧ m0 ≤ 7 := by
                    match i, hi with
                    | 0, _ => exact ⟨4, rfl, by omega, by omega⟩
                    | 1, _ => exact ⟨6, rfl, by omega, by omega⟩
                    | 2, _ => exact ⟨5, rfl, by omega, by omega⟩
                    | 3, _ => exact ⟨7, rfl, by omega, by omega⟩
                  walk_at "vc"
                  refine ⟨_, _, _, _, rfl, rfl, lS (I.s _ _ hp11), atI_nat hm0, ?_⟩
                  walk_at "vc"
                  refine ⟨F11, g, c, m0, rfl, I.s, I.gh, k1, by omega, fun r H12 hr e12 gh12 => ?_⟩
                  have I := I.gg e12 gh12
                  walk_at "vc"
                  refine ⟨F11, _, _, _, n, ties, ts, 1 + r, by rw [show ((1 + r : Nat) : Int) = 1 + (r : Int) by omega]; rfl, I.s, okk, hvr, g1, by omega, by omega, I.t, fun H13 eN t13 => ?_⟩
                  have I := I.ep eN t13
                  have okk := Ok.st okk
                  have hvr := Stp.st (r := LAll) hvr
                  walk_at "vc"
                  refine ite2 (fun hc => ?_) (fun hc => ?_)
                  · walk_at "vc"
                    refine go_lst (xs := ([60, 10, 12, 9, 11, 16, 22, 13] : List Nat).map nv) (ex0 I.s) (szk (by simp)) fun p14 F14 e14 s14 hp14 => ?_
                    have I := I.o e14
                    have okk := Ok.up s14 okk
                    have hvr := Mono.up (r := LAll) s14 hvr
                    have np := I.gh.neF hp14
                    walk_at "vc"
                    refine ⟨F14, g, c, p14, _, rfl, I.s, I.gh, I.s _ _ hp14, np.1, np.2, by simp, by simp, fun v H15 hv e15 gh15 => ?_⟩
                    have I := I.gg e15 gh15
                    obtain ⟨o, ho, rfl⟩ := List.mem_map.mp hv
                    have ho2 : 1 ≤ o ∧ o ≤ 60 := (show ∀ o ∈ ([60, 10, 12, 9, 11, 16, 22, 13] : List Nat), 1 ≤ o ∧ o ≤ 60 by decide) o ho
                    walk_at "vc"
                    refine ⟨F14, _, _, _, n, ties, ts, o, rfl, I.s, okk, hvr, g1, ho2.1, ho2.2, I.t, fun H16 eN2 t16 => ?_⟩
                    have I := I.ep eN2 t16
                    have okk := Ok.st okk
                    walk_at "vc"
                    exact ⟨_, _, _, _, _, _, _, _, _, _, _, rfl, I, fun _ => ⟨n, ties, _, rfl, rfl, okk.ht, g1, g2⟩⟩
                  · exact ⟨_, _, _, _, _, _, _, _, _, _, _, rfl, I, fun _ => ⟨n, ties, _, rfl, rfl, okk.ht, g1, g2⟩⟩
                · have rb := rows_b g2 hto
                  have rk := rows_ok ties g1 g2
                  walk_at "vc"
                  refine ite2 (fun hc => ?_) (fun hc => ?_)
                  · walk_at "vc"
                    refine ⟨F9, g, c, vr, allR n ties, n, rfl, I.s, I.gh, hvr, rk, rb, g1, g2, fun r ts F10 H10 e10 gh10 hts hl hb => ?_⟩
                    exact fin _ _ ⟨F10, r, ts, rfl, I.gg e10 gh10, RTab.up e10.f htab, Mono.up (r := LAll) e10.f hvr, hts, hl, hb⟩
                  · walk_at "vc"
                    refine ⟨F9, g, c, 3, rfl, I.s, I.gh, by omega, by omega, fun r H10 hr e10 gh10 => ?_⟩
                    have I := I.gg e10 gh10
                    walk_at "vc"
                    refine ite2 (fun hc => ?_) (fun hc => ?_)
                    · walk_at "vc"
                      refine ⟨F9, g, c, vr, allR n ties, n, rfl, I.s, I.gh, hvr, rk, rb, g1, g2, fun r ts F10 H10 e10 gh10 hts hl hb => ?_⟩
                      exact fin _ _ ⟨F10, r, ts, rfl, I.gg e10 gh10, RTab.up e10.f htab, Mono.up (r := LAll) e10.f hvr, hts, hl, hb⟩
                    · walk_at "vc"
                      refine go_t1 (ex0 I.s) fun p11 F11 e11 s11 hp11 => ?_
                      walk_at "vc"
                      refine go_rep' (k := n) e11 hp11 rfl (by omega) fun p12 F12 H12 e12 s12 hp12 => ?_
                      have s13 := s11.tr s12
                      exact fin _ _ ⟨F12, .ref p12, List.replicate n none, rfl, I.o e12, RTab.up s13 htab, Mono.up (r := LAll) s13 hvr, ⟨p12, _, rfl, hp12, paired_none n⟩, List.length_replicate, fun z hz => by have := (List.mem_replicate.mp hz).2; cases this⟩
              · obtain ⟨ax, C', dx', fs', at1, us, vu, eX, h2, h3, h4, h5, h6, h7, h8, h9, h10⟩ := id htab
                cases eX
                walk_at "vc"
                refine ⟨_, C', dx', fs', _, rfl, I.s _ _ h2, h3, h5, h7, ?_⟩
                refine ⟨F8, vu, n, ties, rfl, I.s, h10, ties_ok hto, g2, fun r F9 H9 e9 hr9 => ?_⟩
                exact fin _ _ ⟨F9, r, rfl, I.o e9, RTab.up e9.f htab, hr9⟩
            · walk_at "vc"
              refine ⟨F7, g, c, n, rfl, I.s, I.gh, g1, g2, fun r nms F8 H8 e8 gh8 hnm hnl hok => ?_⟩
              have I := I.gg e8 gh8
              walk_at "vc"
              refine go_tupOf (ex0 I.s) (I.s _ _ (e8.f _ _ htr)) fun p9 F9 e9 s9 hp9 => ?_
              have I := I.o e9
              intro x dx hx hdx hne
              refine ⟨F9, x, dx, _, _, nms, ties, rfl, fun b o h => ?_, I.s.free hx, upd_same, Mono.up (r := Rt Rs) s9 hnm, hok, ⟨p9, _, rfl, hp9, Paired.up (e8.f.tr s9) prt⟩, htl, by rw [hnl]; exact hto, fun H10 fs e10 hx10 hRT => ?_⟩
              · have z := I.s _ _ h
                rw [upd_ne (ne_of_none z hx), upd_ne (ne_of_none z hdx)]; exact z
              · refine ⟨rfl, ?_⟩
                have e11 := make_tab I.s hx hdx e10 hx10
                exact fin _ _ ⟨_, x, rfl, I.o e11, by rw [← hnl]; exact hRT _ e11.f upd_same⟩
          · walk_at "vc"
            refine ite2 (fun hc => ?_) (fun hc => ?_)
            · have hc : V.int (i : Nat) = V.int 3 := of_decide_eq_true hc
              have hi3 : i = 3 := by have := V.int.inj hc; omega
              walk_at "vc"
              refine ⟨F6, g, c, n, rfl, I.s, I.gh, g3 hi3, g2, fun r vs ties F7 H7 e7 gh7 hr pr hl hto => ?_⟩
              exact fin _ _ ⟨F7, r, vs, ties, rfl, I.gg e7 gh7, hr, pr, hl, hto⟩
            · walk_at "vc"
              refine ⟨F6, g, c, n, m, rfl, I.s, I.gh, g1, g2, m2, m1, fun r vs ties F7 H7 e7 gh7 hr pr hl hto => ?_⟩
              exact fin _ _ ⟨F7, r, vs, ties, rfl, I.gg e7 gh7, hr, pr, hl, hto⟩
        · walk_at "vc"
          refine go_lst (xs := [V.int 3, V.int 1]) (ex0 I.s) (szk (by simp)) fun p1 F4 e4 s4 h1 => ?_
          have I := I.o e4
          walk_at "vc"
          refine go_lst (xs := [V.int 2, V.int 9]) (ex0 I.s) (szk (by simp)) fun p2 F5 e5 s5 h2 => ?_
          have I := I.o e5
          walk_at "vc"
          refine ⟨⟨by omega, by omega, by decide⟩, ?_⟩
          walk_at "vc"
          refine go_lst (xs := [V.int 5, V.int (10 ^ (6 : Int).toNat)]) (ex0 I.s) (szk (by simp)) fun p3 F6 e6 s6 h3 => ?_
          have I := I.o e6
          walk_at "vc"
          refine go_lst (xs := [V.int 4]) (ex0 I.s) (szk (by simp)) fun p4 F7 e7 s7 h4 => ?_
          have I := I.o e7
          walk_at "vc"
          refine go_lst (xs := [V.ref p1, V.ref p2, V.ref p3, V.ref p4]) (ex0 I.s) (szk (by simp)) fun p5 F8 e8 s8 h5 => ?_
          have I := I.o e8
          have h1 := s8 _ _ (s7 _ _ (s6 _ _ (s5 _ _ h1)))
          have h2 := s8 _ _ (s7 _ _ (s6 _ _ h2))
          have h3 := s8 _ _ (s7 _ _ h3)
          have h4 := s8 _ _ h4
          rw [show (10 : Int) ^ (6 : Int).toNat = ((1000000 : Nat) : Int) by decide] at h3
          obtain ⟨pi, xs, hpi, hxs, hl1, hl2, good⟩ : ∃ pi xs, [V.ref p1, V.ref p2, V.ref p3, V.ref p4][i]? = some (V.ref pi) ∧ F8 pi = some (.lst xs) ∧ 1 ≤ xs.length ∧ xs.length ≤ 1000 ∧ ∀ v ∈ xs, GoodT v := by
            match i, hi with
            | 0, _ => exact ⟨p1, _, rfl, h1, by simp, by simp, goodT (ns := [3, 1]) (by decide)⟩
            | 1, _ => exact ⟨p2, _, rfl, h2, by simp, by simp, goodT (ns := [2, 9]) (by decide)⟩
            | 2, _ => exact ⟨p3, _, rfl, h3, by simp, by simp, goodT (ns := [5, 1000000]) (by decide)⟩
            | 3, _ => exact ⟨p4, _, rfl, h4, by simp, by simp, goodT (ns := [4]) (by decide)⟩
          walk_at "vc"
          refine ⟨_, _, _, _, rfl, rfl, lS (I.s _ _ h5), atI_nat hpi, ?_⟩
          walk_at "vc"
          have np := I.gh.neF hxs
          refine ⟨F8, g, c, pi, xs, rfl, I.s, I.gh, I.s _ _ hxs, np.1, np.2, hl1, hl2, fun v H9 hv e9 gh9 => ?_⟩
          obtain ⟨m, rfl, k1, k2⟩ := good v hv
          exact fin _ _ ⟨F8, m, rfl, I.gg e9 gh9, k1, k2⟩
      · walk_at "vc"
        refine go_lst (xs := [V.int 4, V.int 3, V.int 2, V.int 1]) (ex0 I.s) (szk (by simp)) fun p1 F4 e4 s4 h1 => ?_
        have I := I.o e4
        walk_at "vc"
        refine go_lst (xs := [V.int 5, V.int 6, V.int 4]) (ex0 I.s) (szk (by simp)) fun p2 F5 e5 s5 h2 => ?_
        have I := I.o e5
        walk_at "vc"
        refine go_lst (xs := [V.int 12, V.int 9, V.int 11]) (ex0 I.s) (szk (by simp)) fun p3 F6 e6 s6 h3 => ?_
        have I := I.o e6
        walk_at "vc"
        refine go_lst (xs := [V.int 9, V.int 12, V.int 10, V.int 8]) (ex0 I.s) (szk (by simp)) fun p4 F7 e7 s7 h4 => ?_
        have I := I.o e7
        walk_at "vc"
        refine go_lst (xs := [V.ref p1, V.ref p2, V.ref p3, V.ref p4]) (ex0 I.s) (szk (by simp)) fun p5 F8 e8 s8 h5 => ?_
        have I := I.o e8
        have h1 := s8 _ _ (s7 _ _ (s6 _ _ (s5 _ _ h1)))
        have h2 := s8 _ _ (s7 _ _ (s6 _ _ h2))
        have h3 := s8 _ _ (s7 _ _ h3)
        have h4 := s8 _ _ h4
        obtain ⟨pi, xs, hpi, hxs, hl1, hl2, good⟩ : ∃ pi xs, [V.ref p1, V.ref p2, V.ref p3, V.ref p4][i]? = some (V.ref pi) ∧ F8 pi = some (.lst xs) ∧ 1 ≤ xs.length ∧ xs.length ≤ 1000 ∧ ∀ v ∈ xs, GoodM i v := by
          match i, hi with
          | 0, _ => exact ⟨p1, _, rfl, h1, by simp, by simp, goodM (ns := [4, 3, 2, 1]) (by decide)⟩
          | 1, _ => exact ⟨p2, _, rfl, h2, by simp, by simp, goodM (ns := [5, 6, 4]) (by decide)⟩
          | 2, _ => exact ⟨p3, _, rfl, h3, by simp, by simp, goodM (ns := [12, 9, 11]) (by decide)⟩
          | 3, _ => exact ⟨p4, _, rfl, h4, by simp, by simp, goodM (ns := [9, 12, 10, 8]) (by decide)⟩
        walk_at "vc"
        refine ⟨_, _, _, _, rfl, rfl, lS (I.s _ _ h5), atI_nat hpi, ?_⟩
        walk_at "vc"
        have np := I.gh.neF hxs
        refine ⟨F8, g, c, pi, xs, rfl, I.s, I.gh, I.s _ _ hxs, np.1, np.2, hl1, hl2, fun v H9 hv e9 gh9 => ?_⟩
        obtain ⟨n, rfl, g1, g2, g3⟩ := good v hv
        exact fin _ _ ⟨F8, n, rfl, I.gg e9 gh9, g1, g2, g3⟩
    · obtain ⟨u2, u3, u4, u5, u6, u7, u8, u9, u10, u11, F3, rfl, I, hL⟩ := h
      obtain ⟨n, ties, v, rfl, rfl, htab, g1, g2⟩ := hL (by omega)
      walk_at "vc"
      refine ⟨F3, v, n, ties, rfl, I.s, htab, g1, g2, I.t, fun H4 eN t4 => ?_⟩
      have I := I.ep eN t4
      clear htab hL
      walk_at "vc"
      refine go_tup (xs := nine.map V.str) (ex0 I.s) (szk (by simp [nine])) fun p5 F5 e5 s5 hp5 => ?_
      have I := I.o e5
      walk_at "vc"
      refine ⟨by omega, by omega, ?_⟩
      intro D hD
      refine lcX (re := R3 Rn Rn Ri) (ds := List.range 9) (walk_rg (by simp)) I.s (fun b z => False.elim z) hD (lt_sz (by simp)) (fun _ => true) (fun k => ((k, (k + 1) % 9, if k = 0 then (1 : Int) else 0) : Nat × Nat × Int)) (S := S0) (fun F1 H1 e => trivial) (fun j d x F6 H6 H7 hd e y Qy Qn q1 q2 => ?_) (fun F6 H6 ys e6 fD6 hDD6 pr6 => ?_)
      · obtain ⟨rfl, rfl⟩ := y
        obtain ⟨rfl, hi⟩ := range_get hd
        walk_at "vc"
        refine .inl ⟨_, rfl, ?_⟩
        walk_at "vc"
        refine ⟨by omega, ?_⟩
        walk_at "vc"
        refine .inr ⟨_, rfl, ?_⟩
        walk_at "vc"
        refine go_tup (xs := [_, _, _]) (ex0 e.s) (szk (by simp)) fun p8 F8 e8 s8 hp8 => ?_
        refine q1 rfl _ _ _ e8 ⟨p8, _, _, _, rfl, hp8, rfl, ?_, ?_⟩
        · show V.int _ = V.int _
          congr 1
        · show V.int _ = V.int _
          congr 1
          by_cases hd0 : d = 0
          · subst hd0; rfl
          · rw [if_neg (fun z => hd0 (by have := V.int.inj (of_decide_eq_true z); omega))]
            exact (if_neg hd0).symm
      · rw [filter_tt'] at pr6
        have I := I.o e6
        walk_at "vc"
        refine go_tupOf (ex0 I.s) hDD6 fun p9 F9 e9 s9 hp9 => ?_
        have I := I.o e9
        have hnm : Rt Rs F9 (.ref p5) nine := ⟨p5, _, rfl, s9 _ _ (e6.f _ _ hp5), by have z := Paired.map2 (F := Rs F9) V.str id (fun _ => rfl) nine; rwa [List.map_id] at z⟩
        have hti : Rt (R3 Rn Rn Ri) F9 (.ref p9) ring9 := ⟨p9, ys, rfl, hp9, Paired.up s9 pr6⟩
        walk_at "vc"
        intro x dx hx hdx hne
        refine ⟨F9, x, dx, _, _, nine, ring9, rfl, fun b o h => ?_, I.s.free hx, upd_same, hnm, nine_ok, hti, by decide, ring9_ok, fun H10 fs e10 hx10 hRT => ?_⟩
        · have z := I.s _ _ h
          rw [upd_ne (ne_of_none z hx), upd_ne (ne_of_none z hdx)]; exact z
        · refine ⟨rfl, ?_⟩
          have e11 := make_tab I.s hx hdx e10 hx10
          have I := I.o e11
          have htab : RTab K _ (.ref x) 9 ring9 := hRT _ e11.f upd_same
          clear e11 hRT hti hnm
          generalize upd F9 x (.ins C dx fs) = F10 at I htab
          have none_ok : ∀ {F : Hp} {p : Addr}, F p = some (.tup (List.replicate 9 V.non)) → RTab K F (.ref x) 9 ring9 → Ok K F (.ref x) (.ref p) 9 ring9 none9 := fun h t => ⟨t, ties_ok ring9_ok, by omega, ⟨_, _, rfl, h, paired_none 9⟩, rfl, (fun z hz => by have := (List.mem_replicate.mp hz).2; cases this), diag_ev 9 ring9⟩
          walk_at "vc"
          refine go_t1 (ex0 I.s) fun p11 F11 e11 s11 hp11 => ?_
          walk_at "vc"
          dsimp only [tC]
          refine go_rep' (k := 9) (z := 9) e11 hp11 (by decide) (by omega) fun p12 F12 H12 e12 s12 hp12 => ?_
          have I := I.o e12
          have htab := RTab.up e12.f htab
          walk_at "vc"
          refine ⟨F12, _, _, 9, ring9, none9, 5, rfl, I.s, none_ok hp12 htab, by omega, by omega, fun H13 e13 => ?_⟩
          have I := I.o e13
          rw [ring9_lim, ring9_rounds.1]
          walk_at "vc"
          refine go_t1 (ex0 I.s) fun p11 F11 e11 s11 hp11 => ?_
          walk_at "vc"
          dsimp only [tC]
          refine go_rep' (k := 9) (z := 9) e11 hp11 (by decide) (by omega) fun p12 F12 H12 e12 s12 hp12 => ?_
          have I := I.o e12
          have htab := RTab.up e12.f htab
          walk_at "vc"
          refine ⟨F12, _, _, 9, ring9, none9, 5, rfl, I.s, none_ok hp12 htab, by omega, by omega, fun H13 e13 => ?_⟩
          have I := I.o e13
          rw [ring9_lim, ring9_rounds.2.1]
          walk_at "vc"
          refine go_t1 (ex0 I.s) fun p11 F11 e11 s11 hp11 => ?_
          walk_at "vc"
          dsimp only [tC]
          refine go_rep' (k := 9) (z := 9) e11 hp11 (by decide) (by omega) fun p12 F12 H12 e12 s12 hp12 => ?_
          have I := I.o e12
          have htab := RTab.up e12.f htab
          walk_at "vc"
          refine ⟨F12, _, _, 9, ring9, none9, 4, rfl, I.s, none_ok hp12 htab, by omega, by omega, fun H13 e13 => ?_⟩
          have I := I.o e13
          rw [ring9_lim, ring9_rounds.2.2]
          walk_at "vc"
          refine go_t1 (ex0 I.s) fun p11 F11 e11 s11 hp11 => ?_
          walk_at "vc"
          dsimp only [tC]
          refine go_rep' (k := 9) (z := 9) e11 hp11 (by decide) (by omega) fun p12 F12 H12 e12 s12 hp12 => ?_
          have I := I.o e12
          have htab := RTab.up e12.f htab
          walk_at "vc"
          refine .inl ⟨F12, _, _, 9, ring9, none9, 5, rfl, I.s, none_ok hp12 htab, by omega, by omega, fun r x5 F14 H14 e14 hL hxl hrw => ?_, fun hL _ _ _ _ _ => by rw [ring9_lim] at hL; obtain ⟨y, hy, _⟩ := ring9_least hL (.inl rfl); cases hy⟩
          rw [ring9_lim] at hL
          obtain ⟨y, hy, y5, y8⟩ := ring9_least hL (.inl rfl)
          cases hy
          have I := I.o e14
          have htab := RTab.up e14.f htab
          obtain ⟨ar, u1, w1, rfl, har, hu1, hw1⟩ := id hrw
          have hu1 : u1 = V.int (x5.1 : Nat) := hu1
          rw [y5 rfl] at hu1
          subst hu1
          walk_at "vc"
          refine ⟨_, _, _, _, rfl, rfl, tS (I.s _ _ har), (atI_nat (i := 0) (v := V.int ((3 : Nat) : Int)) rfl : _), ?_⟩
          walk_at "vc"
          walk_at "vc"
          refine go_t1 (ex0 I.s) fun p11 F11 e11 s11 hp11 => ?_
          walk_at "vc"
          dsimp only [tC]
          refine go_rep' (k := 9) (z := 9) e11 hp11 (by decide) (by omega) fun p12 F12 H12 e12 s12 hp12 => ?_
          have I := I.o e12
          have htab := RTab.up e12.f htab
          walk_at "vc"
          refine .inl ⟨F12, _, _, 9, ring9, none9, 8, rfl, I.s, none_ok hp12 htab, by omega, by omega, fun r x5 F14 H14 e14 hL hxl hrw => ?_, fun hL _ _ _ _ _ => by rw [ring9_lim] at hL; obtain ⟨y, hy, _⟩ := ring9_least hL (.inr rfl); cases hy⟩
          rw [ring9_lim] at hL
          obtain ⟨y, hy, y5, y8⟩ := ring9_least hL (.inr rfl)
          cases hy
          have I := I.o e14
          have htab := RTab.up e14.f htab
          have y8 := y8 rfl
          subst y8
          walk_at "vc"
          refine go_t2 (x := V.int 1) (y := V.int 7) (ex0 I.s) fun p15 F15 e15 s15 hp15 => ?_
          refine go_t2 (x := V.int 21) (y := V.ref p15) e15 fun p16 F16 e16 s16 hp16 => ?_
          have hw : RWC F16 (.ref p16) ((21, [1, 7]) : WC) := ⟨p16, _, _, rfl, hp16, rfl, p15, _, rfl, s16 _ _ hp15, .cons rfl (.cons rfl .nil)⟩
          refine ⟨_, _, dp_up e16.s _ _ (dp_wc (Mono.up (r := RWC) (s15.tr s16) hrw)), dp_up e16.s _ _ (dp_wc hw), sh_wc _, sh_wc _, ?_⟩
          rw [eqv_wc, decide_eq_true rfl]
          exact q _
end
end Sa
set_option Elab.async false
set_option linter.all false
set_option maxRecDepth 100000
set_option maxHeartbeats 0
namespace Sa
open PySem PySem.Spec PyProof.Rows L2
theorem txt_of {K : PySem.W.Frag} {w : World} {h : Heap} {mg : Str → Option Value} (X : K.In h) (G : h.Ns mainGlobals mg) (c : SaysZ w h K) : Txt K mg where
  d_is_integer := by obtain ⟨fd, F⟩ := c.t.d.def_ 0 (d := hd_is_integer) rfl; exact ⟨_, fd, F, He.glo_ok X G (c.t.d.fact 0 (f := .glo "is_integer") rfl)⟩
  d_is_number := by obtain ⟨fd, F⟩ := c.t.d.def_ 1 (d := hd_is_number) rfl; exact ⟨_, fd, F, He.glo_ok X G (c.t.d.fact 1 (f := .glo "is_number") rfl)⟩
  d_is_name := by obtain ⟨fd, F⟩ := c.t.d.def_ 2 (d := hd_is_name) rfl; exact ⟨_, fd, F, He.glo_ok X G (c.t.d.fact 2 (f := .glo "is_name") rfl)⟩
  d_is_ascending := by obtain ⟨fd, F⟩ := c.t.d.def_ 3 (d := hd_is_ascending) rfl; exact ⟨_, fd, F, He.glo_ok X G (c.t.d.fact 3 (f := .glo "is_ascending") rfl)⟩
  d_need_number := by obtain ⟨fd, F⟩ := c.t.d.def_ 4 (d := hd_need_number) rfl; exact ⟨_, fd, F, He.glo_ok X G (c.t.d.fact 4 (f := .glo "need_number") rfl)⟩
  d_is_time := by obtain ⟨fd, F⟩ := c.t.d.def_ 5 (d := hd_is_time) rfl; exact ⟨_, fd, F, He.glo_ok X G (c.t.d.fact 5 (f := .glo "is_time") rfl)⟩
  d_check_times := by obtain ⟨fd, F⟩ := c.t.d.def_ 6 (d := hd_check_times) rfl; exact ⟨_, fd, F, He.glo_ok X G (c.t.d.fact 6 (f := .glo "check_times") rfl)⟩
  d_are_batches := by obtain ⟨fd, F⟩ := c.t.d.def_ 7 (d := hd_are_batches) rfl; exact ⟨_, fd, F, He.glo_ok X G (c.t.d.fact 7 (f := .glo "are_batches") rfl)⟩
  d_check_batches := by obtain ⟨fd, F⟩ := c.t.d.def_ 8 (d := hd_check_batches) rfl; exact ⟨_, fd, F, He.glo_ok X G (c.t.d.fact 8 (f := .glo "check_batches") rfl)⟩
  d_come := by obtain ⟨fd, F⟩ := c.t.d.def_ 9 (d := hd_come) rfl; exact ⟨_, fd, F, He.glo_ok X G (c.t.d.fact 9 (f := .glo "come") rfl)⟩
  d_missing := by obtain ⟨fd, F⟩ := c.t.d.def_ 10 (d := hd_missing) rfl; exact ⟨_, fd, F, He.glo_ok X G (c.t.d.fact 10 (f := .glo "missing") rfl)⟩
  d_check_cut := by obtain ⟨fd, F⟩ := c.t.d.def_ 11 (d := hd_check_cut) rfl; exact ⟨_, fd, F, He.glo_ok X G (c.t.d.fact 11 (f := .glo "check_cut") rfl)⟩
  d_best_cut := by obtain ⟨fd, F⟩ := c.t.d.def_ 12 (d := hd_best_cut) rfl; exact ⟨_, fd, F, He.glo_ok X G (c.t.d.fact 12 (f := .glo "best_cut") rfl)⟩
  d_worst_cut := by obtain ⟨fd, F⟩ := c.t.d.def_ 13 (d := hd_worst_cut) rfl; exact ⟨_, fd, F, He.glo_ok X G (c.t.d.fact 13 (f := .glo "worst_cut") rfl)⟩
  d_waiting_of := by obtain ⟨fd, F⟩ := c.t.d.def_ 14 (d := hd_waiting_of) rfl; exact ⟨_, fd, F, He.glo_ok X G (c.t.d.fact 14 (f := .glo "waiting_of") rfl)⟩
  d_start_row := by obtain ⟨fd, F⟩ := c.t.d.def_ 15 (d := hd_start_row) rfl; exact ⟨_, fd, F, He.glo_ok X G (c.t.d.fact 15 (f := .glo "start_row") rfl)⟩
  d_next_row := by obtain ⟨fd, F⟩ := c.t.d.def_ 16 (d := hd_next_row) rfl; exact ⟨_, fd, F, He.glo_ok X G (c.t.d.fact 16 (f := .glo "next_row") rfl)⟩
  d_thing_layers := by obtain ⟨fd, F⟩ := c.t.d.def_ 17 (d := hd_thing_layers) rfl; exact ⟨_, fd, F, He.glo_ok X G (c.t.d.fact 17 (f := .glo "thing_layers") rfl)⟩
  d_layer_at := by obtain ⟨fd, F⟩ := c.t.d.def_ 18 (d := hd_layer_at) rfl; exact ⟨_, fd, F, He.glo_ok X G (c.t.d.fact 18 (f := .glo "layer_at") rfl)⟩
  d_all_layers := by obtain ⟨fd, F⟩ := c.t.d.def_ 19 (d := hd_all_layers) rfl; exact ⟨_, fd, F, He.glo_ok X G (c.t.d.fact 19 (f := .glo "all_layers") rfl)⟩
  d_walk_reach := by obtain ⟨fd, F⟩ := c.t.d.def_ 20 (d := hd_walk_reach) rfl; exact ⟨_, fd, F, He.glo_ok X G (c.t.d.fact 20 (f := .glo "walk_reach") rfl)⟩
  d_ring_reach := by obtain ⟨fd, F⟩ := c.t.d.def_ 21 (d := hd_ring_reach) rfl; exact ⟨_, fd, F, He.glo_ok X G (c.t.d.fact 21 (f := .glo "ring_reach") rfl)⟩
  d_is_too_short := by obtain ⟨fd, F⟩ := c.t.d.def_ 22 (d := hd_is_too_short) rfl; exact ⟨_, fd, F, He.glo_ok X G (c.t.d.fact 22 (f := .glo "is_too_short") rfl)⟩
  d_has_ring := by obtain ⟨fd, F⟩ := c.t.d.def_ 23 (d := hd_has_ring) rfl; exact ⟨_, fd, F, He.glo_ok X G (c.t.d.fact 23 (f := .glo "has_ring") rfl)⟩
  d_limits := by obtain ⟨fd, F⟩ := c.t.d.def_ 24 (d := hd_limits) rfl; exact ⟨_, fd, F, He.glo_ok X G (c.t.d.fact 24 (f := .glo "limits") rfl)⟩
  d_is_below := by obtain ⟨fd, F⟩ := c.t.d.def_ 25 (d := hd_is_below) rfl; exact ⟨_, fd, F, He.glo_ok X G (c.t.d.fact 25 (f := .glo "is_below") rfl)⟩
  d_reaches_fit := by obtain ⟨fd, F⟩ := c.t.d.def_ 26 (d := hd_reaches_fit) rfl; exact ⟨_, fd, F, He.glo_ok X G (c.t.d.fact 26 (f := .glo "reaches_fit") rfl)⟩
  d_is_within := by obtain ⟨fd, F⟩ := c.t.d.def_ 27 (d := hd_is_within) rfl; exact ⟨_, fd, F, He.glo_ok X G (c.t.d.fact 27 (f := .glo "is_within") rfl)⟩
  d_rounds_by := by obtain ⟨fd, F⟩ := c.t.d.def_ 28 (d := hd_rounds_by) rfl; exact ⟨_, fd, F, He.glo_ok X G (c.t.d.fact 28 (f := .glo "rounds_by") rfl)⟩
  d_check_orders := by obtain ⟨fd, F⟩ := c.t.d.def_ 29 (d := hd_check_orders) rfl; exact ⟨_, fd, F, He.glo_ok X G (c.t.d.fact 29 (f := .glo "check_orders") rfl)⟩
  d_most_rounds := by obtain ⟨fd, F⟩ := c.t.d.def_ 30 (d := hd_most_rounds) rfl; exact ⟨_, fd, F, He.glo_ok X G (c.t.d.fact 30 (f := .glo "most_rounds") rfl)⟩
  d_sure_rounds := by obtain ⟨fd, F⟩ := c.t.d.def_ 31 (d := hd_sure_rounds) rfl; exact ⟨_, fd, F, He.glo_ok X G (c.t.d.fact 31 (f := .glo "sure_rounds") rfl)⟩
  d_shorter_wait := by obtain ⟨fd, F⟩ := c.t.d.def_ 32 (d := hd_shorter_wait) rfl; exact ⟨_, fd, F, He.glo_ok X G (c.t.d.fact 32 (f := .glo "shorter_wait") rfl)⟩
  d_later_parts := by obtain ⟨fd, F⟩ := c.t.d.def_ 33 (d := hd_later_parts) rfl; exact ⟨_, fd, F, He.glo_ok X G (c.t.d.fact 33 (f := .glo "later_parts") rfl)⟩
  d_least_waiting := by obtain ⟨fd, F⟩ := c.t.d.def_ 34 (d := hd_least_waiting) rfl; exact ⟨_, fd, F, He.glo_ok X G (c.t.d.fact 34 (f := .glo "least_waiting") rfl)⟩
  d_are_things := by obtain ⟨fd, F⟩ := c.t.d.def_ 35 (d := hd_are_things) rfl; exact ⟨_, fd, F, He.glo_ok X G (c.t.d.fact 35 (f := .glo "are_things") rfl)⟩
  d_is_tie := by obtain ⟨fd, F⟩ := c.t.d.def_ 36 (d := hd_is_tie) rfl; exact ⟨_, fd, F, He.glo_ok X G (c.t.d.fact 36 (f := .glo "is_tie") rfl)⟩
  d__law_heap := by obtain ⟨fd, F⟩ := c.t.d.def_ 39 (d := hd__law_heap) rfl; exact ⟨_, fd, F, He.glo_ok X G (c.t.d.fact 37 (f := .glo "_law_heap") rfl)⟩
  d__law_draw := by obtain ⟨fd, F⟩ := c.t.d.def_ 40 (d := hd__law_draw) rfl; exact ⟨_, fd, F, He.glo_ok X G (c.t.d.fact 38 (f := .glo "_law_draw") rfl)⟩
  d__law_pick := by obtain ⟨fd, F⟩ := c.t.d.def_ 41 (d := hd__law_pick) rfl; exact ⟨_, fd, F, He.glo_ok X G (c.t.d.fact 39 (f := .glo "_law_pick") rfl)⟩
  d__law_mixed := by obtain ⟨fd, F⟩ := c.t.d.def_ 42 (d := hd__law_mixed) rfl; exact ⟨_, fd, F, He.glo_ok X G (c.t.d.fact 40 (f := .glo "_law_mixed") rfl)⟩
  d__law_names := by obtain ⟨fd, F⟩ := c.t.d.def_ 43 (d := hd__law_names) rfl; exact ⟨_, fd, F, He.glo_ok X G (c.t.d.fact 41 (f := .glo "_law_names") rfl)⟩
  d__law_tame := by obtain ⟨fd, F⟩ := c.t.d.def_ 44 (d := hd__law_tame) rfl; exact ⟨_, fd, F, He.glo_ok X G (c.t.d.fact 42 (f := .glo "_law_tame") rfl)⟩
  d__law_row := by obtain ⟨fd, F⟩ := c.t.d.def_ 45 (d := hd__law_row) rfl; exact ⟨_, fd, F, He.glo_ok X G (c.t.d.fact 43 (f := .glo "_law_row") rfl)⟩
  d__law_ring := by obtain ⟨fd, F⟩ := c.t.d.def_ 46 (d := hd__law_ring) rfl; exact ⟨_, fd, F, He.glo_ok X G (c.t.d.fact 44 (f := .glo "_law_ring") rfl)⟩
  d__law_ties := by obtain ⟨fd, F⟩ := c.t.d.def_ 47 (d := hd__law_ties) rfl; exact ⟨_, fd, F, He.glo_ok X G (c.t.d.fact 45 (f := .glo "_law_ties") rfl)⟩
  d__law_reaches := by obtain ⟨fd, F⟩ := c.t.d.def_ 48 (d := hd__law_reaches) rfl; exact ⟨_, fd, F, He.glo_ok X G (c.t.d.fact 46 (f := .glo "_law_reaches") rfl)⟩
  d__law_rows := by obtain ⟨fd, F⟩ := c.t.d.def_ 49 (d := hd__law_rows) rfl; exact ⟨_, fd, F, He.glo_ok X G (c.t.d.fact 47 (f := .glo "_law_rows") rfl)⟩
  d__law_all_rows := by obtain ⟨fd, F⟩ := c.t.d.def_ 50 (d := hd__law_all_rows) rfl; exact ⟨_, fd, F, He.glo_ok X G (c.t.d.fact 48 (f := .glo "_law_all_rows") rfl)⟩
  d__law_times := by obtain ⟨fd, F⟩ := c.t.d.def_ 51 (d := hd__law_times) rfl; exact ⟨_, fd, F, He.glo_ok X G (c.t.d.fact 49 (f := .glo "_law_times") rfl)⟩
  d__law_held := by obtain ⟨fd, F⟩ := c.t.d.def_ 52 (d := hd__law_held) rfl; exact ⟨_, fd, F, He.glo_ok X G (c.t.d.fact 50 (f := .glo "_law_held") rfl)⟩
  d__law_limits := by obtain ⟨fd, F⟩ := c.t.d.def_ 53 (d := hd__law_limits) rfl; exact ⟨_, fd, F, He.glo_ok X G (c.t.d.fact 51 (f := .glo "_law_limits") rfl)⟩
  d__law_below := by obtain ⟨fd, F⟩ := c.t.d.def_ 54 (d := hd__law_below) rfl; exact ⟨_, fd, F, He.glo_ok X G (c.t.d.fact 52 (f := .glo "_law_below") rfl)⟩
  d__law_told := by obtain ⟨fd, F⟩ := c.t.d.def_ 55 (d := hd__law_told) rfl; exact ⟨_, fd, F, He.glo_ok X G (c.t.d.fact 53 (f := .glo "_law_told") rfl)⟩
  d__law_bad_times := by obtain ⟨fd, F⟩ := c.t.d.def_ 56 (d := hd__law_bad_times) rfl; exact ⟨_, fd, F, He.glo_ok X G (c.t.d.fact 54 (f := .glo "_law_bad_times") rfl)⟩
  d__law_long_ring := by obtain ⟨fd, F⟩ := c.t.d.def_ 57 (d := hd__law_long_ring) rfl; exact ⟨_, fd, F, He.glo_ok X G (c.t.d.fact 55 (f := .glo "_law_long_ring") rfl)⟩
  d__law_cuts := by obtain ⟨fd, F⟩ := c.t.d.def_ 58 (d := hd__law_cuts) rfl; exact ⟨_, fd, F, He.glo_ok X G (c.t.d.fact 56 (f := .glo "_law_cuts") rfl)⟩
  d__law_waiting := by obtain ⟨fd, F⟩ := c.t.d.def_ 59 (d := hd__law_waiting) rfl; exact ⟨_, fd, F, He.glo_ok X G (c.t.d.fact 57 (f := .glo "_law_waiting") rfl)⟩
  d__law_rounds := by obtain ⟨fd, F⟩ := c.t.d.def_ 60 (d := hd__law_rounds) rfl; exact ⟨_, fd, F, He.glo_ok X G (c.t.d.fact 58 (f := .glo "_law_rounds") rfl)⟩
  d__law_cut_right := by obtain ⟨fd, F⟩ := c.t.d.def_ 61 (d := hd__law_cut_right) rfl; exact ⟨_, fd, F, He.glo_ok X G (c.t.d.fact 59 (f := .glo "_law_cut_right") rfl)⟩
  d__law_right := by obtain ⟨fd, F⟩ := c.t.d.def_ 62 (d := hd__law_right) rfl; exact ⟨_, fd, F, He.glo_ok X G (c.t.d.fact 60 (f := .glo "_law_right") rfl)⟩
  d__law_least_waiting := by obtain ⟨fd, F⟩ := c.t.d.def_ 63 (d := hd__law_least_waiting) rfl; exact ⟨_, fd, F, He.glo_ok X G (c.t.d.fact 61 (f := .glo "_law_least_waiting") rfl)⟩
  d__law_many_right := by obtain ⟨fd, F⟩ := c.t.d.def_ 64 (d := hd__law_many_right) rfl; exact ⟨_, fd, F, He.glo_ok X G (c.t.d.fact 62 (f := .glo "_law_many_right") rfl)⟩
  d__law_bad_right := by obtain ⟨fd, F⟩ := c.t.d.def_ 65 (d := hd__law_bad_right) rfl; exact ⟨_, fd, F, He.glo_ok X G (c.t.d.fact 63 (f := .glo "_law_bad_right") rfl)⟩
  d_law := by obtain ⟨fd, F⟩ := c.t.d.def_ 66 (d := hd_law) rfl; exact ⟨_, fd, F, He.glo_ok X G (c.t.d.fact 64 (f := .glo "law") rfl)⟩
  abs := He.free_ok X G (c.t.d.fact 72 (f := .free "abs") rfl)
  all := He.free_ok X G (c.t.d.fact 73 (f := .free "all") rfl)
  any := He.free_ok X G (c.t.d.fact 74 (f := .free "any") rfl)
  bool := He.free_ok X G (c.t.d.fact 75 (f := .free "bool") rfl)
  divmod := He.free_ok X G (c.t.d.fact 76 (f := .free "divmod") rfl)
  enumerate := He.free_ok X G (c.t.d.fact 77 (f := .free "enumerate") rfl)
  int := He.free_ok X G (c.t.d.fact 78 (f := .free "int") rfl)
  isinstance := He.free_ok X G (c.t.d.fact 79 (f := .free "isinstance") rfl)
  len := He.free_ok X G (c.t.d.fact 80 (f := .free "len") rfl)
  list := He.free_ok X G (c.t.d.fact 81 (f := .free "list") rfl)
  max := He.free_ok X G (c.t.d.fact 82 (f := .free "max") rfl)
  min := He.free_ok X G (c.t.d.fact 83 (f := .free "min") rfl)
  range := He.free_ok X G (c.t.d.fact 84 (f := .free "range") rfl)
  repr := He.free_ok X G (c.t.d.fact 85 (f := .free "repr") rfl)
  sorted := He.free_ok X G (c.t.d.fact 86 (f := .free "sorted") rfl)
  str := He.free_ok X G (c.t.d.fact 87 (f := .free "str") rfl)
  sum := He.free_ok X G (c.t.d.fact 88 (f := .free "sum") rfl)
  super := He.free_ok X G (c.t.d.fact 89 (f := .free "super") rfl)
  tuple := He.free_ok X G (c.t.d.fact 90 (f := .free "tuple") rfl)
  g_LONGEST_NAME := by obtain ⟨t, e⟩ := He.int_ok X G (c.t.d.fact 91 (f := .int "LONGEST_NAME" 6) rfl); exact ⟨_, e, t, rfl⟩
  g_MOST_TIME := by obtain ⟨t, e⟩ := He.int_ok X G (c.t.d.fact 92 (f := .int "MOST_TIME" 1000000000) rfl); exact ⟨_, e, t, rfl⟩
  g_MOST_BATCHES := by obtain ⟨t, e⟩ := He.int_ok X G (c.t.d.fact 93 (f := .int "MOST_BATCHES" 60) rfl); exact ⟨_, e, t, rfl⟩
  g_MOST_IN_BATCH := by obtain ⟨t, e⟩ := He.int_ok X G (c.t.d.fact 94 (f := .int "MOST_IN_BATCH" 100) rfl); exact ⟨_, e, t, rfl⟩
  g_MOST_LAYERS := by obtain ⟨t, e⟩ := He.int_ok X G (c.t.d.fact 95 (f := .int "MOST_LAYERS" 100) rfl); exact ⟨_, e, t, rfl⟩
  g_MOST_THINGS := by obtain ⟨t, e⟩ := He.int_ok X G (c.t.d.fact 96 (f := .int "MOST_THINGS" 12) rfl); exact ⟨_, e, t, rfl⟩
  g_MOST_TIES := by obtain ⟨t, e⟩ := He.int_ok X G (c.t.d.fact 97 (f := .int "MOST_TIES" 60) rfl); exact ⟨_, e, t, rfl⟩
  g_MOST_WEIGHT := by obtain ⟨t, e⟩ := He.int_ok X G (c.t.d.fact 98 (f := .int "MOST_WEIGHT" 1000000) rfl); exact ⟨_, e, t, rfl⟩
  g_LETTERS := by obtain ⟨t, e⟩ := He.str_ok X G (c.t.d.fact 99 (f := .str "LETTERS" "abcdefghijklmnopqrstuvwxyz") rfl); exact ⟨_, e, t, rfl⟩
theorem tab_of {K : PySem.W.Frag} {w : World} {h : Heap} {mg : Str → Option Value} (X : K.In h) (G : h.Ns mainGlobals mg) (c : SaysZ w h K) : TabD K mg (He.ga K "Table") where
  ex := by obtain ⟨fd, F⟩ := c.t.d.def_ 37 (d := hd_Table_init) rfl; exact ⟨_, fd, F, He.mkr_ok (c.t.d.fact 103 (f := .mkr "Table") rfl)⟩
  hm := He.glo_ok X G (c.t.d.fact 70 (f := .glo "Table") rfl)
  cl := He.cls_ok (c.t.d.fact 100 (f := .cls "Table") rfl)
  n1 := He.noat_ok (c.t.d.fact 101 (f := .noat "Table" "things") rfl)
  n2 := He.noat_ok (c.t.d.fact 102 (f := .noat "Table" "ties") rfl)
/-! ### the exceptions -/
theorem ban {a b : Bool} (h : (a && b) = true) : a = true ∧ b = true := Bool.and_eq_true_iff.mp h
structure ClsF (K : PySem.W.Frag) (C I : Addr) (fl : Str) : Prop where
  cls : (PySem.W.clsIn K C).isSome = true
  sub : PySem.W.mroIn K C (.ref C) = some true
  sup : PySem.W.ks_superIn K C C "__init__" = some (some (.builtin "ValueError.__init__"))
  val : PySem.W.subIn K (.ref C) (.type "ValueError") = some true
  opq : PySem.W.nsIn K cStatics "thirdparty.any" = some none
  fld : PySem.W.findIn K (.ref C) fl = some none
  ini : PySem.W.findIn K (.ref C) "__init__" = some (some (.ref I))
  fun_ : PySem.W.typeIn K (.ref I) = some (.type "function")
  xf : XfC K C
  sa : PySem.W.findIn K (.ref C) "__setattr__" = some (some (.builtin "object.__setattr__"))
  ty : PySem.W.typeIn K (.ref C) = some (.type "type")
  kp : PySem.W.keepIn K (.ref C) = true
theorem clsF {K : PySem.W.Frag} {C I : Addr} {fl : Str} (h : clsB K C I fl = true) : ClsF K C I fl := by
  unfold clsB at h
  obtain ⟨h1, h⟩ := ban h
  obtain ⟨h2, h⟩ := ban h
  obtain ⟨h3, h⟩ := ban h
  obtain ⟨h4, h⟩ := ban h
  obtain ⟨h5, h⟩ := ban h
  obtain ⟨h6, h⟩ := ban h
  obtain ⟨h7, h⟩ := ban h
  obtain ⟨h8, h⟩ := ban h
  obtain ⟨h9, h⟩ := ban h
  obtain ⟨h10, h⟩ := ban h
  obtain ⟨h11, h12⟩ := ban h
  exact ⟨h1, of_decide_eq_true h2, He.eqO_ok h3, of_decide_eq_true h4, He.eqO_ok h5, He.eqO_ok h6, He.eqO_ok h7, of_decide_eq_true h8, xfB_ok h9, He.eqO_ok h10, of_decide_eq_true h11, h12⟩
theorem oex_of {K : PySem.W.Frag} {C I : Addr} {fl : Str} (F : ClsF K C I fl) (h : oexB K C = true) : OexC K C := by
  refine ⟨?_, F.sa, F.xf.exC, F.ty, F.kp⟩
  unfold oexB at h
  split at h
  · rename_i dd cd sl ho
    split at h
    · rename_i D bm a0 a1 a2 a3 i a5 hm hs
      obtain ⟨e1, h⟩ := ban h
      obtain ⟨e2, h⟩ := ban h
      obtain ⟨e3, h⟩ := ban h
      obtain ⟨e4, e5⟩ := ban h
      have e1 : D = C := of_decide_eq_true e1
      have e2 : i = "ValueError.__new__" := of_decide_eq_true e2
      subst e1 e2
      obtain ⟨nm, bs, mro, ns, qn, hd, sn, sub, ab, col, del⟩ := cd
      have hm : mro = .ref D :: bm := hm
      have e6 : (!del) = true := e3
      have e7 : hd = true := e4
      have e8 : del = false := by cases del <;> first | rfl | cases e6
      clear e3 e4 e6
      subst hm e8 e7
      have hsl : sl = #[a0, a1, a2, a3, some (.builtin "ValueError.__new__"), a5] := by
        apply Array.toList_inj.mp
        rw [hs]
      subst hsl
      exact ⟨nm, qn, ns, bs, bm, sn, sub, ab, col, dd, a0, a1, a2, a3, a5, ho, e5⟩
    · cases h
  · cases h
theorem sup_of {K : PySem.W.Frag} {x fl : Str} {st : Stmt} (hw : supW K x = supV x st) (hb : supB K x fl = true) (htop : (theP.main.scope.names.lookup ("super" : Str)).isSome = false) :
    ClsF K (He.ga K x) (He.fAd K (x, some "__init__")) fl ∧ OexC K (He.ga K x) ∧ ∃ kV doc pm an cda ct cc, SupC theP K (x ++ ".__init__") (defArgs st) (defBody st) (defScope st) fl (He.ga K x) (He.fAd K (x, some "__init__")) (PySem.W.ksFn "__init__" (x ++ ".__init__") (defArgs st) (defBody st) (defScope st) .none kV doc pm an cda ct cc) := by
  unfold supB at hb
  obtain ⟨h1, hb⟩ := ban hb
  obtain ⟨h2, h3⟩ := ban hb
  have F := clsF h3
  have O := oex_of F h2
  refine ⟨F, O, ?_⟩
  unfold fdB at h1
  unfold supW at hw
  split at h1
  · rename_i oc od fd osl lk
    rw [lk] at hw
    obtain ⟨n1, n2, n3, n4, n5, n6, n7, n8, n9, n10, n11, n12, n13, n14, n15⟩ := fd
    have hw : (some (n1, n2, n3, n4, n5, n6, n7.map (·.1), n15) : SupW) = supV x st := hw
    unfold supV at hw
    simp only [Option.some.injEq, Prod.mk.injEq] at hw
    obtain ⟨w1, w2, w3, w4, w5, w6, w7, w8⟩ := hw
    obtain ⟨j1, h1⟩ := ban h1
    obtain ⟨j2, j3⟩ := ban h1
    have k1 : codB K n13 (x ++ ".__init__") = true := j1
    have k2 : celB K n7 (He.ga K x) = true := j2
    have k3 : nonB n8 = true := j3
    clear j1 j2 j3
    obtain ⟨cda, ecd⟩ : ∃ cda, n13 = .ref cda := by cases n13 <;> first | exact ⟨_, rfl⟩ | cases k1
    subst ecd
    unfold codB at k1
    dsimp only at k1
    · obtain ⟨c1, kf⟩ := ban k1
      clear k1
      split at kf
      · rename_i ccl cdd vs ccs lkc
        split at kf
        · rename_i file tf hfile
          obtain ⟨y, cc, e7⟩ : ∃ y cc, n7 = [(y, cc)] := by
            match n7, w7 with
            | [(y, cc)], _ => exact ⟨y, cc, rfl⟩
            | [], w7 => cases w7
            | _ :: _ :: _, w7 => exact absurd (congrArg List.length w7) (by simp)
          subst e7
          unfold celB at k2
          dsimp only at k2
          split at k2
          · rename_i cl cld D csl lkx
            have eD : D = He.ga K x := of_decide_eq_true k2
            have ey : y = ("__class__" : Str) := by simpa using w7
            have e8 : n8 = .none := by cases n8 <;> first | rfl | cases k3
            subst w1 w2 w3 w4 w5 w6 w8 ey e8
            refine ⟨n9, n10, n11, n12, .ref cda, n14, cc, ⟨⟨oc, od, .none, n9, n10, n11, n12, cda, cc, n14, osl, rfl, lk, c1, ⟨vs, file, tf, ccl, cdd, ccs, lkc, hfile, kf⟩, cl, cld, csl, by rw [← eD]; exact lkx⟩, F.cls, F.sub, F.sup, F.val, F.opq, O, F.fld, htop⟩⟩
          · cases k2
        · cases kf
      · cases kf
  · cases h1
theorem supS_of {scope : Scope} {fl : Str} (h1 : scope.kind = .function) (h2 : scope.isCoroutine = false) (h3 : scope.isGenerator = false) (h4 : scope.names.lookup ("self" : Str) = some .local) (h5 : scope.names.lookup fl = some .local) (h6 : scope.names.lookup ("__class__" : Str) = some .free)
    (h7 : scope.names.lookup ("super" : Str) = some .globalImplicit) (h8 : ∀ y ∈ scope.names, y.2 ≠ .cell ∧ (y.2 = .free → y.1 = ("__class__" : Str))) : SupS scope fl := ⟨h1, h2, h3, h4, h5, h6, h7, fun y hy => (h8 y hy).1, fun y hy => (h8 _ (PySem.mem_of_lookup hy)).2 rfl⟩
theorem top_super : (theP.main.scope.names.lookup ("super" : Str)).isSome = false := by decide +kernel
theorem kl_InvalidTimes {K : PySem.W.Frag} {w : World} {h base : Heap} {mg : Str → Option Value} (X : K.In h) (G : h.Ns mainGlobals mg) (c : SaysZ w h K) (hb : supB K "InvalidTimes" "at" = true) : ExKl theP w K mg base "InvalidTimes" "at" (He.ga K "InvalidTimes") := by
  obtain ⟨F, O, kV, doc, pm, an, cda, ct, cc, D⟩ := sup_of c.sT hb top_super
  refine ⟨_, _, O, F.ini, F.fun_, sup_fn (ar := _) D (supS_of rfl rfl rfl (by decide +kernel) (by decide +kernel) (by decide +kernel) (by decide +kernel) (by decide +kernel)) (by decide) (He.free_ok X G (c.t.d.fact 89 (f := .free "super") rfl)) rfl rfl (by decide) (by decide) (fun _ _ _ => rfl), .all fun us hl => ?_, He.glo_ok X G (c.t.d.fact 67 (f := .glo "InvalidTimes") rfl)⟩
  match us, hl with
  | [_, _], _ => rfl
theorem kl_InvalidNumber {K : PySem.W.Frag} {w : World} {h base : Heap} {mg : Str → Option Value} (X : K.In h) (G : h.Ns mainGlobals mg) (c : SaysZ w h K) (hb : supB K "InvalidNumber" "word" = true) : ExKl theP w K mg base "InvalidNumber" "word" (He.ga K "InvalidNumber") := by
  obtain ⟨F, O, kV, doc, pm, an, cda, ct, cc, D⟩ := sup_of c.sN hb top_super
  refine ⟨_, _, O, F.ini, F.fun_, sup_fn (ar := _) D (supS_of rfl rfl rfl (by decide +kernel) (by decide +kernel) (by decide +kernel) (by decide +kernel) (by decide +kernel)) (by decide) (He.free_ok X G (c.t.d.fact 89 (f := .free "super") rfl)) rfl rfl (by decide) (by decide) (fun _ _ _ => rfl), .all fun us hl => ?_, He.glo_ok X G (c.t.d.fact 68 (f := .glo "InvalidNumber") rfl)⟩
  match us, hl with
  | [_, _], _ => rfl
theorem kl_Refused {K : PySem.W.Frag} {w : World} {h base : Heap} {mg : Str → Option Value} (X : K.In h) (G : h.Ns mainGlobals mg) (c : SaysZ w h K) (hb : supB K "Refused" "word" = true) : ExKl theP w K mg base "Refused" "word" (He.ga K "Refused") := by
  obtain ⟨F, O, kV, doc, pm, an, cda, ct, cc, D⟩ := sup_of c.sR hb top_super
  refine ⟨_, _, O, F.ini, F.fun_, sup_fn (ar := _) D (supS_of rfl rfl rfl (by decide +kernel) (by decide +kernel) (by decide +kernel) (by decide +kernel) (by decide +kernel)) (by decide) (He.free_ok X G (c.t.d.fact 89 (f := .free "super") rfl)) rfl rfl (by decide) (by decide) (fun _ _ _ => rfl), .all fun us hl => ?_, He.glo_ok X G (c.t.d.fact 69 (f := .glo "Refused") rfl)⟩
  match us, hl with
  | [_, _], _ => rfl
/-- what the head says, for the law -/
theorem err_of {K : PySem.W.Frag} {w : World} {h : Heap} {mg : Str → Option Value} (X : K.In h) (G : h.Ns mainGlobals mg) (c : SaysZ w h K) (FT : ClsF K (He.ga K "InvalidTimes") (He.fAd K ("InvalidTimes", some "__init__")) "at") (FN : ClsF K (He.ga K "InvalidNumber") (He.fAd K ("InvalidNumber", some "__init__")) "word") (FR : ClsF K (He.ga K "Refused") (He.fAd K ("Refused", some "__init__")) "word") (hr : refB K (He.ga K "Refused") (He.ga K "InvalidNumber") = true) :
    ErrC K mg (He.ga K "Refused") (He.ga K "InvalidNumber") (He.ga K "InvalidTimes") := by
  unfold refB at hr
  obtain ⟨r1, hr⟩ := ban hr
  obtain ⟨r2, hr⟩ := ban hr
  obtain ⟨r3, hr⟩ := ban hr
  obtain ⟨r4, r5⟩ := ban hr
  exact ⟨FR.xf, FN.xf, FT.xf, FR.fld, FN.fld, FT.fld, He.glo_ok X G (c.t.d.fact 69 (f := .glo "Refused") rfl), He.glo_ok X G (c.t.d.fact 68 (f := .glo "InvalidNumber") rfl), He.glo_ok X G (c.t.d.fact 67 (f := .glo "InvalidTimes") rfl),
    He.exm_ok (c.t.d.fact 104 (f := .exm "Refused" "Refused" true) rfl), He.exm_ok (c.t.d.fact 105 (f := .exm "InvalidNumber" "Refused" false) rfl), He.exm_ok (c.t.d.fact 106 (f := .exm "InvalidTimes" "Refused" false) rfl), He.exm_ok (c.t.d.fact 107 (f := .exm "InvalidNumber" "InvalidNumber" true) rfl), He.exm_ok (c.t.d.fact 108 (f := .exm "InvalidTimes" "InvalidNumber" false) rfl), He.exm_ok (c.t.d.fact 109 (f := .exm "InvalidTimes" "InvalidTimes" true) rfl),
    ⟨FR.xf.ga, FR.xf.gg, FR.xf.exC, FR.xf.hdC, He.eqO_ok r1, He.eqO_ok r2, of_decide_eq_true r3, of_decide_eq_true r4⟩, of_decide_eq_true r5⟩
theorem fdT_of {K : PySem.W.Frag} {mg : Str → Option Value} {base : Heap} {x : Str} {st : Stmt} {fd : FuncData} (F : FunD K x x (defArgs st) (defBody st) (defScope st) [] [] (He.fAd K (x, none)) fd) (hm : mg x = some (.ref (He.fAd K (x, none)))) (TB : LamX.TabB base mg (He.cT K (x, none)).1 (tabAd K (x, none))) : FdT K mg base x st (tabAd K (x, none)) := by
  obtain ⟨oc, od, dV, kV, doc, pm, an, cdv, ct, osl, e, lk, hc, _, _⟩ := id F.ex
  obtain ⟨cd, ec⟩ := He.codeIn_ref hc
  have efd : fd.code = .ref cd := by rw [e]; exact ec
  have eo : He.codeOf K (x, none) = cd := He.codeOf_eq lk efd
  refine ⟨_, fd, cd, F, hm, efd, ?_⟩
  have z : (He.cT K (x, none)).1 = cd := eo
  rw [z] at TB
  exact TB
def tsL (K : PySem.W.Frag) : List (Addr × Str) := tfL.map fun p => (tabAd K p, qL p.1)
theorem law_at {w : World} {K : PySem.W.Frag} {h : Heap} {mg : Str → Option Value} {fa : Addr} (X : K.In h) (G : h.Ns mainGlobals mg) (hfa : mg ("law" : Str) = some (.ref fa)) (c : SaysZ w h K) :
    LamX.LawAtS PySem.Challenge.rw_saidatonce_k44_whole_rounds_and_waiting w K C8.CX0 17 63 "_law_script" mg fa h := by
  have TX := txt_of X G c
  have TD := tab_of X G c
  have hex := c.ex
  unfold exL at hex
  obtain ⟨b1, hex⟩ := ban hex
  obtain ⟨b2, hex⟩ := ban hex
  obtain ⟨b3, hex⟩ := ban hex
  obtain ⟨b4, b5⟩ := ban hex
  have nd : (tfL.map (tabAd K)).Nodup := of_decide_eq_true b5
  obtain ⟨FT, _⟩ := sup_of c.sT b1 top_super
  obtain ⟨FN, _⟩ := sup_of c.sN b2 top_super
  obtain ⟨FR, _⟩ := sup_of c.sR b3 top_super
  have EC := err_of X G c FT FN FR b4
  obtain ⟨f0, fdL, FL, hmL⟩ := id TX.d_law
  have ef : f0 = fa := by
    rw [hfa] at hmL
    injection hmL with hmL
    injection hmL with hmL
    exact hmL.symm
  subst ef
  have hU : ∀ p ∈ tfL, ∀ q ∈ tsL K, q.1 = tabAd K p → q.2 = qL p.1 := by
    intro p hp q hq e
    obtain ⟨p2, hp2, rfl⟩ := List.mem_map.mp hq
    have e : tabAd K p2 = tabAd K p := e
    have : p2 = p := by
      simp only [tfL, List.map_cons, List.map_nil, List.nodup_cons, List.mem_cons, List.not_mem_nil, or_false, not_or] at nd
      simp only [tfL, List.mem_cons, List.not_mem_nil, or_false] at hp hp2
      obtain ⟨⟨n1, n2⟩, n3, _⟩ := nd
      rcases hp with rfl | rfl | rfl <;> rcases hp2 with rfl | rfl | rfl <;> first | rfl | exact absurd e n1 | exact absurd e.symm n1 | exact absurd e n2 | exact absurd e.symm n2 | exact absurd e n3 | exact absurd e.symm n3
    rw [this]
  have hM : ∀ p ∈ tfL, (tabAd K p, qL p.1) ∈ tsL K := fun p hp => List.mem_map.mpr ⟨p, hp, rfl⟩
  refine ⟨fdL, tfL.map (He.cT K), sp_law (K := K) (tsL K), fun p hp => ?_, fun p hp => ?_, fun p hp => ?_, fun s u => ?_, fun H a ns hl _ hT hS => ?_, fun base XB GB TB => ?_⟩
  · obtain ⟨p', hp', rfl⟩ := List.mem_map.mp hp
    exact c.emp p' hp'
  · obtain ⟨p', hp', rfl⟩ := List.mem_map.mp hp
    exact c.out p' hp'
  · obtain ⟨p', hp', rfl⟩ := List.mem_map.mp hp
    exact PySem.W.codeHd_of_K X (c.hd p' hp')
  · exact FunD.bindsA (ps := ["_law_script"]) FL (fun _ _ _ _ _ _ us hl => match us, hl with | [_], _ => rfl) s [u] rfl
  · refine ⟨a, ns, rfl, hS, hl, fun q hq => ?_, fun _ => rfl⟩
    obtain ⟨p', hp', rfl⟩ := List.mem_map.mp hq
    exact LamX.TabS.nil (hT _ (List.mem_map.mpr ⟨p', hp', rfl⟩))
  · have tb : ∀ p ∈ tfL, LamX.TabB base mg (He.cT K p).1 (tabAd K p) := fun p hp => TB _ (List.mem_map.mpr ⟨p, hp, rfl⟩)
    have kT := kl_InvalidTimes (base := base) X G c b1
    have kN := kl_InvalidNumber (base := base) X G c b2
    have kR := kl_Refused (base := base) X G c b3
    have m1 : (("_law_right", none) : He.Defn) ∈ tfL := by simp [tfL]
    have m2 : (("_law_many_right", none) : He.Defn) ∈ tfL := by simp [tfL]
    have m3 : (("_law_bad_right", none) : He.Defn) ∈ tfL := by simp [tfL]
    obtain ⟨fd1, F1⟩ := c.t.d.def_ 62 (d := hd__law_right) rfl
    have T1 : FdT K mg base "_law_right" sLright (tabAd K ("_law_right", none)) := fdT_of F1 (He.glo_ok X G (c.t.d.fact 60 (f := .glo "_law_right") rfl)) (tb _ m1)
    have c1 := c__law_right (P := theP) (w := w) TX EC kT kN kR T1 (hM _ m1) (hU _ m1)
    obtain ⟨fd2, F2⟩ := c.t.d.def_ 64 (d := hd__law_many_right) rfl
    have T2 : FdT K mg base "_law_many_right" sLmanyright (tabAd K ("_law_many_right", none)) := fdT_of F2 (He.glo_ok X G (c.t.d.fact 62 (f := .glo "_law_many_right") rfl)) (tb _ m2)
    have c2 := c__law_many_right (P := theP) (w := w) TX EC kT kN kR T2 (hM _ m2) (hU _ m2)
    obtain ⟨fd3, F3⟩ := c.t.d.def_ 65 (d := hd__law_bad_right) rfl
    have T3 : FdT K mg base "_law_bad_right" sLbadright (tabAd K ("_law_bad_right", none)) := fdT_of F3 (He.glo_ok X G (c.t.d.fact 63 (f := .glo "_law_bad_right") rfl)) (tb _ m3)
    have c3 := c__law_bad_right (P := theP) (w := w) TX EC kT kN kR T3 (hM _ m3) (hU _ m3)
    obtain ⟨f1, fdX, FX, hmX, ok⟩ := f_law (P := theP) (w := w) (base := base) TX TD kT kN kR c1 c2 c3
    have e1 : f1 = f0 := by
      rw [hfa] at hmX
      injection hmX with hmX
      injection hmX with hmX
      exact hmX.symm
    subst e1
    have e2 : fdX = fdL := by
      obtain ⟨_, _, _, _, _, _, _, _, _, _, _, l1, _⟩ := FX.ex
      obtain ⟨_, _, _, _, _, _, _, _, _, _, _, l2, _⟩ := FL.ex
      rw [l1] at l2
      injection l2 with l2
      injection l2 with _ _ l2 _
      injection l2
    subst e2
    exact ok
end Sa
set_option Elab.async false
set_option linter.all false
set_option maxRecDepth 100000
set_option maxHeartbeats 0
open PySem PySem.W PySem.Calls PyProof.Rows
theorem PySem.Challenge.cw_saidatonce_k44_whole_rounds_and_waiting_holds : PySem.Challenge.rw_saidatonce_k44_whole_rounds_and_waiting.Holds := by
  w_on; o_law
  refine HandSHeadRun.head_any (r := Sa.theR) (q := view Sa.theR.prog [89]) (H := Sa.hkZ) (ob := Sa.obZ) (M := 5000) (loose := Sa.nmsL) (d := HandSHeadRun.topDef Sa.theR.prog 89) (kwd := []) Sa.obZ_eq
    (by kernel_rfl) (fun s => by kernel_rfl) Sa.runZ (by kernel_rfl) (by kernel_rfl) (by kernel_rfl) (by rfl) (by first | assumption | decide +kernel) (by decide +kernel) ⟨rfl, rfl, rfl, rfl, rfl, by decide +kernel⟩ ?hw ?hc
  case hw => w_witness2
  case hc =>
    refine LamX.walk_ofTsE (l := PySem.Challenge.rw_saidatonce_k44_whole_rounds_and_waiting) (n := 63) (k := 17) (x := "_law_script") (CX := fun _ => C8.CX0) rfl (by decide) (by kernel_rfl) ⟨rfl, by decide, by decide⟩ ?F (fun _ _ _ _ _ z => z)
    intro w mg fa h Y G hmg0
    obtain ⟨K, KX, c⟩ := Y
    have hmg : mg ("law" : PySem.Str) = some (.ref fa) := by
      have e : (HandSHeadRun.topDef Sa.theR.prog 89).name = ("law" : PySem.Str) := by kernel_rfl
      rw [← e]
      exact hmg0
    exact ⟨K, KX, Sa.law_at KX G hmg c⟩
