import PyProof.Rows.All
import Wide.All
import OpenK.AllK
import Wide.FinOn
import HandS.ForMost
import HandS.ForExc
import HandS.Wide
import HandS.TryMany
import HandS.IsInst
import HandS.Conv
import HandS.Style
import HandS.TupAny
import HandS.CallLocal
import HandS.ExcInit
import HandS.ExcField
import HandS.TupMul
import HandS.WideBits
import HandS.Defaults
import HandS.Head0
import HandS.Head1
import HandS.Head2
import HandS.HeadEnd
import HandS.HeadHook1
import HandS.HeadHook2
import HandS.HeadWalk
import PySem.Challenge.RW_radixroads_k41_whole_people_in_a_ring
set_option Elab.async false
set_option linter.all false
set_option maxRecDepth 100000
/-! Values without the heap. -/
namespace L3
open PySem PySem.Spec L2

inductive PV where
  | non | bl (b : Bool) | int (i : Int) | str (x : Str) | ty (n : String) | adr (a : Addr)
  | tup (xs : List PV) | lst (xs : List PV)
  | obj (C : Addr) (ns : List Str) (xs : List PV)
  | dk (ks : List Key) (xs : List PV) | dt (ks : List (List Key)) (xs : List PV)
  | own (p : PV) | new (p : PV) | st | scr (xs : List PV)
structure EX where
  C : Addr
  fs : Option (Str × PV)
abbrev PEnv := List (Option PV)
abbrev PQ := PV → Prop
abbrev XQ := EX → Prop
abbrev WEx := PEnv → PQ → XQ → Prop
abbrev WTs := PEnv → (Bool → Prop) → XQ → Prop
abbrev WAs := PEnv → (List PV → Prop) → XQ → Prop
structure PEnds where
  nx : PEnv → Prop
  rt : PV → Prop
  bk : PEnv → Prop
  ct : PEnv → Prop
  ex : EX → PEnv → Prop
abbrev WSt := PEnds → PEnv → Prop
abbrev FS := List PV → PQ → XQ → Prop

/-! ### what a value stands for -/
section
variable (K : PySem.W.Frag) (H : Hp)
mutual
inductive Rep : PV → V → Prop
  | non : Rep .non .non
  | bl (b : Bool) : Rep (.bl b) (.bl b)
  | int (i : Int) : Rep (.int i) (.int i)
  | str (x : Str) : Rep (.str x) (.str x)
  | ty (n : String) : Rep (.ty n) (.ty n)
  | adr (a : Addr) : Rep (.adr a) (.ref a)
  | tup {a : Addr} {xs : List V} {ps : List PV} : SqT K H a xs → Reps ps xs → Rep (.tup ps) (.ref a)
  | lst {a : Addr} {xs : List V} {ps : List PV} : H a = some (.lst xs) → Reps ps xs → Rep (.lst ps) (.ref a)
  | scr {a : Addr} {xs : List V} {ps : List PV} : SqL K H a xs → Reps ps xs → Rep (.scr ps) (.ref a)
  | obj {a C dx : Addr} {ns : List Str} {xs : List V} {ps : List PV} : H a = some (.ins C dx (ns.zip xs)) → ns.length = xs.length → Reps ps xs → Rep (.obj C ns ps) (.ref a)
  | dk {a : Addr} {ks : List Key} {xs : List V} {ps : List PV} : H a = some (.dK (ks.zip xs)) → ks.length = xs.length → Reps ps xs → Rep (.dk ks ps) (.ref a)
  | dt {a : Addr} {ks : List (List Key)} {xs : List V} {ps : List PV} : H a = some (.dT (ks.zip xs)) → ks.length = xs.length → Reps ps xs → Rep (.dt ks ps) (.ref a)
inductive Reps : List PV → List V → Prop
  | nil : Reps [] []
  | cons {p : PV} {v : V} {ps : List PV} {vs : List V} : Rep p v → Reps ps vs → Reps (p :: ps) (v :: vs)
end
end
theorem rd_mono {H H' : Hp} {a : Addr} {u : HO} (s : Same H H') (h : Rd H a u) : Rd H' a u := by
  rcases h with h | ⟨o, h⟩
  · exact .inl (s _ _ h)
  · exact .inr ⟨o, s _ _ h⟩
theorem sqT_mono {K : PySem.W.Frag} {H H' : Hp} {a : Addr} {xs : List V} (s : Same H H') (h : SqT K H a xs) : SqT K H' a xs := by
  rcases h with h | h
  · exact .inl (rd_mono s h)
  · exact .inr h
mutual
theorem Rep.mono {K : PySem.W.Frag} {H H' : Hp} (s : Same H H') : ∀ {p : PV} {v : V}, Rep K H p v → Rep K H' p v
  | _, _, .non => .non
  | _, _, .bl _ => .bl _
  | _, _, .int _ => .int _
  | _, _, .str _ => .str _
  | _, _, .ty _ => .ty _
  | _, _, .adr _ => .adr _
  | _, _, .tup h r => .tup (sqT_mono s h) (Reps.mono s r)
  | _, _, .lst h r => .lst (s _ _ h) (Reps.mono s r)
  | _, _, .scr h r => .scr (s.seq h) (Reps.mono s r)
  | _, _, .obj h l r => .obj (s _ _ h) l (Reps.mono s r)
  | _, _, .dk h l r => .dk (s _ _ h) l (Reps.mono s r)
  | _, _, .dt h l r => .dt (s _ _ h) l (Reps.mono s r)
theorem Reps.mono {K : PySem.W.Frag} {H H' : Hp} (s : Same H H') : ∀ {ps : List PV} {vs : List V}, Reps K H ps vs → Reps K H' ps vs
  | _, _, .nil => .nil
  | _, _, .cons h r => .cons (Rep.mono s h) (Reps.mono s r)
end
section
variable {K : PySem.W.Frag} {H H' : Hp}
theorem Reps.length : ∀ {ps : List PV} {vs : List V}, Reps K H ps vs → ps.length = vs.length
  | _, _, .nil => rfl
  | _, _, .cons _ r => by rw [List.length_cons, List.length_cons, Reps.length r]
theorem Reps.get : ∀ {ps : List PV} {vs : List V} {i : Nat} {p : PV}, Reps K H ps vs → ps[i]? = some p → ∃ v, vs[i]? = some v ∧ Rep K H p v
  | _, _, _, _, .nil, h => by simp at h
  | _, _, 0, _, .cons r _, h => by simp at h; subst h; exact ⟨_, rfl, r⟩
  | _, _, i + 1, p, .cons _ t, h => by
    obtain ⟨v, h1, h2⟩ := Reps.get (i := i) (p := p) t (by simpa using h)
    exact ⟨v, by simpa using h1, h2⟩
theorem Reps.append : ∀ {ps qs : List PV} {vs us : List V}, Reps K H ps vs → Reps K H qs us → Reps K H (ps ++ qs) (vs ++ us)
  | _, _, _, _, .nil, s => s
  | _, _, _, _, .cons r t, s => .cons r (Reps.append t s)
theorem Reps.take : ∀ {ps : List PV} {vs : List V} (n : Nat), Reps K H ps vs → Reps K H (ps.take n) (vs.take n)
  | _, _, 0, _ => .nil
  | _, _, _ + 1, .nil => .nil
  | _, _, n + 1, .cons r t => .cons r (Reps.take n t)
theorem Reps.drop : ∀ {ps : List PV} {vs : List V} (n : Nat), Reps K H ps vs → Reps K H (ps.drop n) (vs.drop n)
  | _, _, 0, r => r
  | _, _, _ + 1, .nil => .nil
  | _, _, n + 1, .cons _ t => Reps.drop n t
theorem Reps.reverse : ∀ {ps : List PV} {vs : List V}, Reps K H ps vs → Reps K H ps.reverse vs.reverse
  | _, _, .nil => .nil
  | _, _, .cons r t => by
    rw [List.reverse_cons, List.reverse_cons]
    exact Reps.append (Reps.reverse t) (.cons r .nil)
theorem Reps.set {p : PV} {v : V} (q : Rep K H p v) : ∀ {ps : List PV} {vs : List V} (i : Nat), Reps K H ps vs → Reps K H (ps.set i p) (vs.set i v)
  | _, _, _, .nil => .nil
  | _, _, 0, .cons _ t => .cons q t
  | _, _, i + 1, .cons r t => .cons r (Reps.set q i t)
theorem Reps.snoc {p : PV} {v : V} {ps : List PV} {vs : List V} (t : Reps K H ps vs) (q : Rep K H p v) : Reps K H (ps ++ [p]) (vs ++ [v]) := t.append (.cons q .nil)
theorem Reps.replicate {p : PV} {v : V} (q : Rep K H p v) : ∀ n : Nat, Reps K H (List.replicate n p) (List.replicate n v)
  | 0 => .nil
  | n + 1 => .cons q (Reps.replicate q n)
theorem Reps.ints : ∀ {ns : List Int} {vs : List V}, Reps K H (ns.map PV.int) vs → vs = ns.map V.int
  | [], _, .nil => rfl
  | n :: ns, _, .cons (.int _) t => by rw [Reps.ints t]; rfl
theorem Reps.of_ints : ∀ (ns : List Int), Reps K H (ns.map PV.int) (ns.map V.int)
  | [] => .nil
  | n :: ns => .cons (.int _) (Reps.of_ints ns)
theorem Reps.bls : ∀ {ns : List Bool} {vs : List V}, Reps K H (ns.map PV.bl) vs → vs = ns.map V.bl
  | [], _, .nil => rfl
  | n :: ns, _, .cons (.bl _) t => by rw [Reps.bls t]; rfl
end

/-! ### what stands at an address that is changed -/
open Classical in
noncomputable def hide (M : Addr → Prop) (H : Hp) : Hp := fun b => if M b then none else H b
theorem hide_some {M : Addr → Prop} {H : Hp} {b : Addr} {o : HO} : hide M H b = some o ↔ (¬ M b ∧ H b = some o) := by
  unfold hide
  by_cases h : M b
  · rw [if_pos h]
    exact Iff.intro (fun z => by cases z) (fun z => absurd h z.1)
  · rw [if_neg h]
    exact Iff.intro (fun z => And.intro h z) (fun z => z.2)
theorem hide_sub {M : Addr → Prop} {H : Hp} : Same (hide M H) H := fun b o h => (hide_some.mp h).2
theorem hide_step {M : Addr → Prop} {H H' : Hp} (s : ∀ b o, ¬ M b → H b = some o → H' b = some o) : Same (hide M H) (hide M H') := fun b o h => by
  obtain ⟨h1, h2⟩ := hide_some.mp h
  exact hide_some.mpr ⟨h1, s b o h1 h2⟩
theorem hide_anti {M M' : Addr → Prop} {H : Hp} (s : ∀ b, M' b → M b) : Same (hide M H) (hide M' H) := fun b o h => by
  obtain ⟨h1, h2⟩ := hide_some.mp h
  exact hide_some.mpr ⟨fun z => h1 (s b z), h2⟩

section
variable (K : PySem.W.Frag) (H : Hp)
inductive Top : PV → HO → Prop
  | lst {ps : List PV} {xs : List V} : Reps K H ps xs → Top (.lst ps) (.lst xs)
  | dk {ks : List Key} {ps : List PV} {xs : List V} : ks.length = xs.length → Reps K H ps xs → Top (.dk ks ps) (.dK (ks.zip xs))
  | dt {ks : List (List Key)} {ps : List PV} {xs : List V} : ks.length = xs.length → Reps K H ps xs → Top (.dt ks ps) (.dT (ks.zip xs))
end
theorem Top.mono {K : PySem.W.Frag} {H H' : Hp} (s : Same H H') {p : PV} {o : HO} : Top K H p o → Top K H' p o
  | .lst r => .lst (r.mono s)
  | .dk l r => .dk l (r.mono s)
  | .dt l r => .dt l (r.mono s)
theorem Top.rep {K : PySem.W.Frag} {H : Hp} {p : PV} {o : HO} {a : Addr} (t : Top K H p o) (h : H a = some o) : Rep K H p (.ref a) := by
  cases t with
  | lst r => exact .lst h r
  | dk l r => exact .dk h l r
  | dt l r => exact .dt h l r

def StOk (H : Hp) (a : Addr) : Prop := ∃ x y : Int, H a = some (.lst [.int x, .int y]) ∧ 0 ≤ x ∧ 0 ≤ y ∧ y < 2147483647

structure Gd where
  N : Addr → Prop
  S : Addr → Prop
  H0 : Hp
def isMut : PV → Bool
  | .own _ => true
  | .st => true
  | _ => false
/-- what may change -/
def MA (G : Gd) (ρ : PEnv) (σ : St) (a : Addr) : Prop := G.N a ∨ G.S a ∨ ∃ (i : Nat) (p : PV), ρ[i]? = some (some p) ∧ isMut p = true ∧ σ[i]? = some (some (.ref a))
/-- the drawn state -/
def SA (G : Gd) (ρ : PEnv) (σ : St) (a : Addr) : Prop := G.S a ∨ ∃ i : Nat, ρ[i]? = some (some .st) ∧ σ[i]? = some (some (.ref a))
theorem SA.ma {G : Gd} {ρ : PEnv} {σ : St} {a : Addr} (h : SA G ρ σ a) : MA G ρ σ a := by
  rcases h with h | ⟨i, h1, h2⟩
  · exact .inr (.inl h)
  · exact .inr (.inr ⟨i, _, h1, rfl, h2⟩)
section
variable (K : PySem.W.Frag) (Sa M : Addr → Prop) (H0 : Hp)
inductive SRep (H : Hp) : PV → V → Prop
  | plain {p : PV} {v : V} : Rep K (hide M H) p v → SRep H p v
  | own {p : PV} {a : Addr} {o : HO} : M a → ¬ Sa a → H0 a = none → H a = some o → Top K (hide M H) p o → SRep H (.own p) (.ref a)
  | st {a : Addr} : Sa a → SRep H .st (.ref a)
/-- new: laid since Hb -/
inductive ERep (Hb H : Hp) : PV → V → Prop
  | s {p : PV} {v : V} : SRep K Sa M H0 H p v → ERep Hb H p v
  | new {p : PV} {a : Addr} {o : HO} : ¬ M a → Hb a = none → H a = some o → Top K (hide (fun b => M b ∨ b = a) H) p o → ERep Hb H (.new p) (.ref a)
end
structure Good (K : PySem.W.Frag) (G : Gd) (ρ : PEnv) (σ : St) (H : Hp) : Prop where
  len : ρ.length = σ.length
  fr : ∀ b o, ¬ G.S b → G.H0 b = some o → H b = some o
  nn : ∀ b, G.N b → ¬ G.S b ∧ ∃ o, G.H0 b = some o
  sa : ∀ a, SA G ρ σ a → StOk H a
  sl : ∀ a, SA G ρ σ a → G.S a ∨ G.H0 a = none
  slot : ∀ (i : Nat) (p : PV), ρ[i]? = some (some p) → ∃ v, σ[i]? = some (some v) ∧ SRep K (SA G ρ σ) (MA G ρ σ) G.H0 H p v
  inj : ∀ (i j : Nat) (p q : PV) (a : Addr), ρ[i]? = some (some p) → ρ[j]? = some (some q) → isMut p = true → isMut q = true → σ[i]? = some (some (.ref a)) → σ[j]? = some (some (.ref a)) → i = j
def Step (G : Gd) (ρ : PEnv) (σ : St) (H H' : Hp) : Prop := ∀ b o, ¬ SA G ρ σ b → H b = some o → H' b = some o
section
variable {K : PySem.W.Frag} {G : Gd} {ρ : PEnv} {σ : St} {H H' H'' : Hp} {a : Addr}
theorem Step.refl : Step G ρ σ H H := fun _ _ _ h => h
theorem Step.trans (s : Step G ρ σ H H') (t : Step G ρ σ H' H'') : Step G ρ σ H H'' := fun b o n h => t b o n (s b o n h)
theorem Step.of_same (s : Same H H') : Step G ρ σ H H' := fun b o _ h => s b o h
theorem same_upd {o : HO} (h : H a = none) : Same H (upd H a o) := fun b u e => by
  rw [upd_ne (ne_of_none e h)]
  exact e
theorem Step.hide (s : Step G ρ σ H H') : Same (hide (MA G ρ σ) H) (L3.hide (MA G ρ σ) H') := hide_step fun b o n h => s b o (fun z => n z.ma) h
theorem Good.ma_some (g : Good K G ρ σ H) (h : MA G ρ σ a) : ∃ o, H a = some o := by
  rcases h with h | h | ⟨i, p, h1, h2, h3⟩
  · obtain ⟨n, o, e⟩ := g.nn a h
    exact ⟨o, g.fr a o n e⟩
  · obtain ⟨x, y, e, _⟩ := g.sa a (.inl h)
    exact ⟨_, e⟩
  · obtain ⟨v, e, r⟩ := g.slot i p h1
    rw [h3] at e
    cases e
    cases r with
    | plain r => cases r <;> cases h2
    | own _ _ _ e _ => exact ⟨_, e⟩
    | st s =>
      obtain ⟨x, y, e, _⟩ := g.sa _ s
      exact ⟨_, e⟩
theorem Good.new (g : Good K G ρ σ H) (h : H a = none) : ¬ MA G ρ σ a := fun z => by
  obtain ⟨o, e⟩ := g.ma_some z
  rw [h] at e
  cases e
theorem SRep.mono (s : Step G ρ σ H H') {p : PV} {v : V} : SRep K (SA G ρ σ) (MA G ρ σ) G.H0 H p v → SRep K (SA G ρ σ) (MA G ρ σ) G.H0 H' p v
  | .plain r => .plain (r.mono s.hide)
  | .own m n h e t => .own m n h (s _ _ n e) (t.mono s.hide)
  | .st h => .st h
theorem ERep.mono (s : Step G ρ σ H H') {Hb : Hp} {p : PV} {v : V} : ERep K (SA G ρ σ) (MA G ρ σ) G.H0 Hb H p v → ERep K (SA G ρ σ) (MA G ρ σ) G.H0 Hb H' p v
  | .s r => .s (r.mono s)
  | .new n h e t => .new n h (s _ _ (fun z => n z.ma) e) (t.mono (hide_step fun b o z y => s b o (fun w => z (.inl w.ma)) y))
/-- what was tracked is tracked -/
def Gr (Hb H : Hp) : Prop := ∀ a, H a = none → Hb a = none
theorem Gr.refl : Gr H H := fun _ h => h
theorem Gr.trans (a : Gr H H') (b : Gr H' H'') : Gr H H'' := fun x h => a x (b x h)
theorem Step.gr (s : Step G ρ σ H H') (g : Good K G ρ σ H') : Gr H H' := fun x h => by
  cases e : H x with
  | none => rfl
  | some o =>
    by_cases z : SA G ρ σ x
    · obtain ⟨_, _, q, _⟩ := g.sa x z
      rw [h] at q
      cases q
    · rw [s x o z e] at h
      cases h
theorem ERep.base {Sa M : Addr → Prop} {H0 Hb Hc : Hp} (s : Gr Hc Hb) {p : PV} {v : V} : ERep K Sa M H0 Hb H p v → ERep K Sa M H0 Hc H p v
  | .s r => .s r
  | .new n h e t => .new n (s _ h) e t
theorem Good.step (g : Good K G ρ σ H) (s : Step G ρ σ H H') (t : ∀ a, SA G ρ σ a → StOk H' a) : Good K G ρ σ H' where
  len := g.len
  fr := fun b o n h => by
    by_cases z : SA G ρ σ b
    · rcases g.sl b z with y | y
      · exact absurd y n
      · rw [y] at h; cases h
    · exact s b o z (g.fr b o n h)
  nn := g.nn
  sa := t
  sl := g.sl
  slot := fun i p h => by
    obtain ⟨v, e, r⟩ := g.slot i p h
    exact ⟨v, e, r.mono s⟩
  inj := g.inj
theorem StOk.mono (s : Same H H') (h : StOk H a) : StOk H' a := by
  obtain ⟨x, y, e, r⟩ := h
  exact ⟨x, y, s _ _ e, r⟩
theorem Good.same (g : Good K G ρ σ H) (s : Same H H') : Good K G ρ σ H' := g.step (.of_same s) fun a z => (g.sa a z).mono s
theorem Good.laid (g : Good K G ρ σ H) {o : HO} (h : H a = none) : Good K G ρ σ (upd H a o) := g.same (same_upd h)

/-! ### the judgements -/
def KQ (K : PySem.W.Frag) (G : Gd) (ρ : PEnv) (σ : St) (Hb H : Hp) (Qp : PQ) (Q : VK) : Prop :=
  ∀ p v H', Step G ρ σ H H' → Good K G ρ σ H' → ERep K (SA G ρ σ) (MA G ρ σ) G.H0 Hb H' p v → Qp p → Q v H'
/-- an exception as told -/
def XRep (K : PySem.W.Frag) (M : Addr → Prop) (H : Hp) (x : EX) (cls : Value) (d : Option Addr) : Prop :=
  cls = .ref x.C ∧ ∀ f p, x.fs = some (f, p) → ∃ dd fs v, d = some dd ∧ H dd = some (.xd fs) ∧ fs.lookup f = some v ∧ Rep K (hide M H) p v
def KX (K : PySem.W.Frag) (W : WX) (G : Gd) (ρ : PEnv) (σ : St) (H : Hp) (Rp : XQ) : Prop :=
  ∀ x cls d H', Step G ρ σ H H' → Good K G ρ σ H' → XRep K (MA G ρ σ) H' x cls d → Rp x → W cls d σ H'
theorem KX.step {W : WX} {Rp : XQ} (k : KX K W G ρ σ H Rp) (s : Step G ρ σ H H') : KX K W G ρ σ H' Rp := fun x cls d H2 s2 g2 r h => k x cls d H2 (s.trans s2) g2 r h
theorem KQ.step {Hb : Hp} {Qp : PQ} {Q : VK} (k : KQ K G ρ σ Hb H Qp Q) (s : Step G ρ σ H H') : KQ K G ρ σ Hb H' Qp Q := fun p v H2 s2 g2 r h => k p v H2 (s.trans s2) g2 r h
end
def lftE (K : PySem.W.Frag) (W : WX) (w : WEx) : TE := fun σ H Q => ∃ G ρ Qp Rp, Good K G ρ σ H ∧ w ρ Qp Rp ∧ KQ K G ρ σ H H Qp Q ∧ KX K W G ρ σ H Rp
def lftT (K : PySem.W.Frag) (W : WX) (w : WTs) : TT := fun σ H Q => ∃ G ρ Qp Rp, Good K G ρ σ H ∧ w ρ Qp Rp ∧ (∀ b H', Step G ρ σ H H' → Good K G ρ σ H' → Qp b → Q b H') ∧ KX K W G ρ σ H Rp
inductive EReps (K : PySem.W.Frag) (Sa M : Addr → Prop) (H0 Hb H : Hp) : List PV → List V → Prop
  | nil : EReps K Sa M H0 Hb H [] []
  | cons {p v ps vs} : ERep K Sa M H0 Hb H p v → EReps K Sa M H0 Hb H ps vs → EReps K Sa M H0 Hb H (p :: ps) (v :: vs)
def lftA (K : PySem.W.Frag) (W : WX) (w : WAs) : TA := fun σ H Q => ∃ G ρ Qp Rp, Good K G ρ σ H ∧ w ρ Qp Rp ∧
  (∀ ps vs H', Step G ρ σ H H' → Good K G ρ σ H' → EReps K (SA G ρ σ) (MA G ρ σ) G.H0 H H' ps vs → Qp ps → Q vs H') ∧ KX K W G ρ σ H Rp
structure VE (X : Cx) (W : WX) (e : Expr) (w : WEx) : Prop where
  pe : PE X e (lftE X.K W w)
structure VT (X : Cx) (W : WX) (e : Expr) (w : WTs) : Prop where
  pt : PT X e (lftT X.K W w)
structure VA (X : Cx) (W : WX) (es : List Expr) (w : WAs) : Prop where
  pa : PA X es (lftA X.K W w)
section
variable {X : Cx} {W : WX} {e : Expr} {es : List Expr} {K : PySem.W.Frag} {G : Gd} {ρ : PEnv} {σ : St} {H H' Hb : Hp}
theorem PE.imp {t t' : TE} (h : PE X e t) (i : ∀ σ H Q, t' σ H Q → t σ H Q) : PE X e t' := ⟨fun pins s σ H Q I q => h.run pins s σ H Q I (i σ H Q q)⟩
theorem PT.imp {t t' : TT} (h : PT X e t) (i : ∀ σ H Q, t' σ H Q → t σ H Q) : PT X e t' := ⟨fun pins s σ H Q I q => h.run pins s σ H Q I (i σ H Q q)⟩
theorem PA.imp {t t' : TA} (h : PA X es t) (i : ∀ σ H Q, t' σ H Q → t σ H Q) : PA X es t' := ⟨fun pos pins s σ H Q I q => h.run pos pins s σ H Q I (i σ H Q q)⟩
theorem PS.imp {st : Stmt} {t t' : TS} (h : PS X st t) (i : ∀ D σ H, t' D σ H → t D σ H) : PS X st t' := ⟨fun pins s σ H D I q => h.run pins s σ H D I (i D σ H q)⟩
theorem PSs.imp {st : List Stmt} {t t' : TS} (h : PSs X st t) (i : ∀ D σ H, t' D σ H → t D σ H) : PSs X st t' := ⟨fun pins s σ H D I q => h.run pins s σ H D I (i D σ H q)⟩
theorem EReps.mono (s : Step G ρ σ H H') : ∀ {ps : List PV} {vs : List V}, EReps K (SA G ρ σ) (MA G ρ σ) G.H0 Hb H ps vs → EReps K (SA G ρ σ) (MA G ρ σ) G.H0 Hb H' ps vs
  | _, _, .nil => .nil
  | _, _, .cons r t => .cons (r.mono s) (EReps.mono s t)
theorem EReps.base {Sa M : Addr → Prop} {H0 Hc : Hp} (s : Gr Hc Hb) : ∀ {ps : List PV} {vs : List V}, EReps K Sa M H0 Hb H ps vs → EReps K Sa M H0 Hc H ps vs
  | _, _, .nil => .nil
  | _, _, .cons r t => .cons (r.base s) (EReps.base s t)
theorem EReps.length {Sa M : Addr → Prop} {H0 : Hp} : ∀ {ps : List PV} {vs : List V}, EReps K Sa M H0 Hb H ps vs → ps.length = vs.length
  | _, _, .nil => rfl
  | _, _, .cons _ r => by rw [List.length_cons, List.length_cons, EReps.length r]
end

/-! ### names and constants -/
def wVar (i : Nat) : WEx := fun ρ Q _ => ∃ p, ρ[i]? = some (some p) ∧ Q p
def wC (p : PV) : WEx := fun _ Q _ => Q p
section
variable {X : Cx} {W : WX} {pos : Pos}
theorem ve_var (i : Nat) {x : Str} (hN : X.N[i]? = some x := by rfl) (hv : Vis X.env.scope x := by first | exact Or.inl rfl | exact Or.inr (Or.inl rfl) | exact Or.inr (Or.inr rfl)) (hd : (x == ("__debug__" : Str)) = false := by decide)
    (hcd : (x == ("__classdict__" : Str)) = false := by decide) : VE X W (.Name x pos) (wVar i) :=
  ⟨PE.imp (pe_var hN hv hd hcd) fun σ H Q ⟨G, ρ, Qp, Rp, g, ⟨p, e, q⟩, kq, _⟩ => by
    obtain ⟨v, e2, r⟩ := g.slot i p e
    exact ⟨v, e2, kq p v H .refl g (.s r) q⟩⟩
theorem ve_of_c {e : Expr} {v : V} {p : PV} (h : PE X e (tC v)) (r : ∀ H, Rep X.K H p v) : VE X W e (wC p) :=
  ⟨PE.imp h fun σ H Q ⟨G, ρ, Qp, Rp, g, q, kq, _⟩ => kq p v H .refl g (.s (.plain (r _))) q⟩
theorem ve_int {i j} : VE X W (.Constant (.int i) j pos) (wC (.int i)) := ve_of_c pe_int fun _ => .int i
theorem ve_bl {b j} : VE X W (.Constant (.bool b) j pos) (wC (.bl b)) := ve_of_c pe_bl fun _ => .bl b
theorem ve_non {j} : VE X W (.Constant .none j pos) (wC .non) := ve_of_c pe_non fun _ => .non
theorem ve_str {x j} : VE X W (.Constant (.str x) j pos) (wC (.str x)) := ve_of_c pe_str fun _ => .str x
end

/-! ### operators -/
/-- an operator by values -/
def OpV (X : Cx) (W : WX) (r : R2) (o : PV → PV → PQ → XQ → Prop) : Prop := ∀ {G ρ σ Hb H Qp Rp Q x y v u}, Good X.K G ρ σ H → Gr Hb H → ERep X.K (SA G ρ σ) (MA G ρ σ) G.H0 Hb H x v → ERep X.K (SA G ρ σ) (MA G ρ σ) G.H0 Hb H y u →
  o x y Qp Rp → KQ X.K G ρ σ Hb H Qp Q → KX X.K W G ρ σ H Rp → r v u H Q
def wOp (o : PV → PV → PQ → XQ → Prop) (a b : WEx) : WEx := fun ρ Q R => a ρ (fun x => b ρ (fun y => o x y Q R) R) R
section
variable {X : Cx} {W : WX} {pos : Pos} {a b : Expr} {wa wb : WEx} {r : R2} {o : PV → PV → PQ → XQ → Prop}
theorem lft_op (ho : OpV X W r o) {σ : St} {H : Hp} {Q : VK} (h : lftE X.K W (wOp o wa wb) σ H Q) : tOp r (lftE X.K W wa) (lftE X.K W wb) σ H Q := by
  obtain ⟨G, ρ, Qp, Rp, g, hw, kq, kx⟩ := h
  refine ⟨G, ρ, _, Rp, g, hw, fun p v H1 s1 g1 r1 hw1 => ?_, kx⟩
  refine ⟨G, ρ, _, Rp, g1, hw1, fun q u H2 s2 g2 r2 hw2 => ?_, kx.step s1⟩
  exact ho g2 ((s1.trans s2).gr g2) (r1.mono s2) (r2.base (s1.gr g1)) hw2 (kq.step (s1.trans s2)) (kx.step (s1.trans s2))
theorem ve_op {op : Operator} (ho : OpR X (binaryOp op) r) (hv : OpV X W r o) (ha : VE X W a wa) (hb : VE X W b wb) : VE X W (.BinOp a op b pos) (wOp o wa wb) :=
  ⟨PE.imp (pe_op ho ha.pe hb.pe) fun _ _ _ h => lft_op hv h⟩
end
end L3

/-! Values without the heap: operators, comparisons, tests. -/
namespace L3
open PySem PySem.Spec L2

def PV.items : PV → Option (List PV)
  | .lst ps => some ps
  | .own (.lst ps) => some ps
  | .new (.lst ps) => some ps
  | _ => none
def PV.asTup : PV → Option (List PV)
  | .tup ps => some ps
  | _ => none
/-- a list's or tuple's items -/
def PV.seq : PV → Option (List PV)
  | .tup ps => some ps
  | .scr ps => some ps
  | p => p.items
section
variable {K : PySem.W.Frag} {Sa M : Addr → Prop} {H0 Hb H : Hp} {p : PV} {v : V}
theorem ERep.items (r : ERep K Sa M H0 Hb H p v) {ps : List PV} (h : p.items = some ps) : ∃ a xs, v = .ref a ∧ H a = some (.lst xs) ∧ Reps K (hide M H) ps xs := by
  cases r with
  | s r =>
    cases r with
    | plain r =>
      cases r with
      | lst e q => cases h; exact ⟨_, _, rfl, hide_sub _ _ e, q⟩
      | _ => cases h
    | own m n e f t =>
      cases t with
      | lst q => cases h; exact ⟨_, _, rfl, f, q⟩
      | _ => cases h
    | st => cases h
  | new n e f t =>
    cases t with
    | lst q => cases h; exact ⟨_, _, rfl, f, q.mono (hide_anti fun _ z => .inl z)⟩
    | _ => cases h
theorem ERep.tup {ps : List PV} (r : ERep K Sa M H0 Hb H (.tup ps) v) : ∃ a xs, v = .ref a ∧ SqT K H a xs ∧ SqT K (hide M H) a xs ∧ Reps K (hide M H) ps xs := by
  cases r with
  | s r =>
    cases r with
    | plain r =>
      cases r with
      | tup e q => exact ⟨_, _, rfl, sqT_mono hide_sub e, e, q⟩
theorem ERep.scr {ps : List PV} (r : ERep K Sa M H0 Hb H (.scr ps) v) : ∃ a xs, v = .ref a ∧ SqL K H a xs ∧ Reps K (hide M H) ps xs := by
  cases r with
  | s r =>
    cases r with
    | plain r =>
      cases r with
      | scr e q => exact ⟨_, _, rfl, hide_sub.seq e, q⟩
theorem ERep.seq (r : ERep K Sa M H0 Hb H p v) {ps : List PV} (h : p.seq = some ps) : ∃ a xs, v = .ref a ∧ (SqL K H a xs ∨ SqT K H a xs) ∧ Reps K (hide M H) ps xs := by
  cases p with
  | tup qs =>
    obtain ⟨a, xs, e, t, _, q⟩ := r.tup
    cases h
    exact ⟨a, xs, e, .inr t, q⟩
  | scr qs =>
    obtain ⟨a, xs, e, t, q⟩ := r.scr
    cases h
    exact ⟨a, xs, e, .inl t, q⟩
  | _ =>
    obtain ⟨a, xs, e, t, q⟩ := r.items h
    exact ⟨a, xs, e, .inl (.of t), q⟩
theorem ERep.int {i : Int} (r : ERep K Sa M H0 Hb H (.int i) v) : v = .int i := by
  cases r with
  | s r => cases r with
    | plain r => cases r; rfl
theorem ERep.bl {b : Bool} (r : ERep K Sa M H0 Hb H (.bl b) v) : v = .bl b := by
  cases r with
  | s r => cases r with
    | plain r => cases r; rfl
theorem ERep.str {x : Str} (r : ERep K Sa M H0 Hb H (.str x) v) : v = .str x := by
  cases r with
  | s r => cases r with
    | plain r => cases r; rfl
theorem ERep.non (r : ERep K Sa M H0 Hb H .non v) : v = .non := by
  cases r with
  | s r => cases r with
    | plain r => cases r; rfl
theorem ERep.pint (i : Int) : ERep K Sa M H0 Hb H (.int i) (.int i) := .s (.plain (.int i))
theorem ERep.pbl (i : Bool) : ERep K Sa M H0 Hb H (.bl i) (.bl i) := .s (.plain (.bl i))
theorem ERep.pstr (i : Str) : ERep K Sa M H0 Hb H (.str i) (.str i) := .s (.plain (.str i))
end
section
variable {K : PySem.W.Frag} {G : Gd} {ρ : PEnv} {σ : St} {Hb H : Hp} {Qp : PQ} {Q : VK}
/-- a new list's end -/
theorem KQ.list (k : KQ K G ρ σ Hb H Qp Q) (g : Good K G ρ σ H) (gr : Gr Hb H) {ps : List PV} {xs : List V} (r : Reps K (hide (MA G ρ σ) H) ps xs) (h : Qp (.new (.lst ps))) {p : Addr} (hp : H p = none) : Q (.ref p) (upd H p (.lst xs)) :=
  k _ _ _ (.of_same (same_upd hp)) (g.laid hp) (.new (g.new hp) (gr _ hp) upd_same (.lst (r.mono fun b o z => by
    obtain ⟨z1, z2⟩ := hide_some.mp z
    have z3 := ne_of_none z2 hp
    exact hide_some.mpr ⟨fun y => y.elim z1 z3, by rw [upd_ne z3]; exact z2⟩))) h
theorem hide_upd {M : Addr → Prop} {p : Addr} {o : HO} (n : ¬ M p) : hide M (upd H p o) p = some o := hide_some.mpr ⟨n, upd_same⟩
/-- a new tuple's end -/
theorem KQ.tup (k : KQ K G ρ σ Hb H Qp Q) (g : Good K G ρ σ H) {ps : List PV} {xs : List V} (r : Reps K (hide (MA G ρ σ) H) ps xs) (h : Qp (.tup ps)) {p : Addr} (hp : H p = none) : Q (.ref p) (upd H p (.tup xs)) :=
  k _ _ _ (.of_same (same_upd hp)) (g.laid hp) (.s (.plain (.tup (.inl (.inl (hide_upd (g.new hp)))) (r.mono (Step.hide (.of_same (same_upd hp))))))) h
theorem KQ.int (k : KQ K G ρ σ Hb H Qp Q) (g : Good K G ρ σ H) {i : Int} (h : Qp (.int i)) : Q (.int i) H := k _ _ _ .refl g (.pint i) h
theorem KQ.bl (k : KQ K G ρ σ Hb H Qp Q) (g : Good K G ρ σ H) {i : Bool} (h : Qp (.bl i)) : Q (.bl i) H := k _ _ _ .refl g (.pbl i) h
theorem KQ.str (k : KQ K G ρ σ Hb H Qp Q) (g : Good K G ρ σ H) {i : Str} (h : Qp (.str i)) : Q (.str i) H := k _ _ _ .refl g (.pstr i) h
theorem KQ.at (k : KQ K G ρ σ Hb H Qp Q) (g : Good K G ρ σ H) {p : PV} {v : V} (r : Rep K (hide (MA G ρ σ) H) p v) (h : Qp p) : Q v H := k _ _ _ .refl g (.s (.plain r)) h
end

/-! ### + -/
def oAdd : PV → PV → PQ → XQ → Prop := fun x y Q _ => match x, y with
  | .int i, .int j => Q (.int (i + j))
  | .str a, .str b => a.length + b.length ≤ sizeLine ∧ Q (.str (a ++ b))
  | .tup ps, .tup qs => ps.length + qs.length ≤ sizeLine ∧ Q (.tup (ps ++ qs))
  | x, y => ∃ ps qs, x.items = some ps ∧ y.items = some qs ∧ ps.length + qs.length ≤ sizeLine ∧ Q (.new (.lst (ps ++ qs)))
def mulOk (i j : Int) : Prop := ∃ a b : Nat, i.natAbs < 2 ^ a ∧ j.natAbs < 2 ^ b ∧ a + b ≤ 134217728
def divOk (j : Int) : Prop := j ≠ 0 ∧ j.natAbs.log2 < 9000
def oSub : PV → PV → PQ → XQ → Prop := fun x y Q _ => match x, y with
  | .int i, .int j => Q (.int (i - j))
  | _, _ => False
def oMul : PV → PV → PQ → XQ → Prop := fun x y Q _ => match x, y with
  | .int i, .int j => mulOk i j ∧ Q (.int (i * j))
  | .tup ps, .int k => k ≤ 100000 ∧ ps.length * k.toNat ≤ sizeLine ∧ ps.length ≤ 100000 ∧ Q (.tup (List.replicate k.toNat ps).flatten)
  | x, .int k => ∃ ps, x.items = some ps ∧ -(2 ^ 63) ≤ k ∧ k < 2 ^ 63 ∧ ps.length * k.toNat ≤ sizeLine ∧ Q (.new (.lst (List.replicate k.toNat ps).flatten))
  | _, _ => False
def oDiv : PV → PV → PQ → XQ → Prop := fun x y Q _ => match x, y with
  | .int i, .int j => divOk j ∧ Q (.int (i.fdiv j))
  | _, _ => False
def oMod : PV → PV → PQ → XQ → Prop := fun x y Q _ => match x, y with
  | .int i, .int j => j ≠ 0 ∧ Q (.int (i.fmod j))
  | _, _ => False
def rAddV (K : PySem.W.Frag) : R2 := fun x y H Q => (rI0 (fun i j => .int (i + j)) x y H Q ∨ (∃ i j, x = .str i ∧ y = .str j ∧ i.length + j.length ≤ sizeLine ∧ Q (.str (i ++ j)) H)) ∨ (rCatA K x y H Q ∨ rCat x y H Q)
section
variable {X : Cx} {W : WX}
theorem or_add : OpR X (binaryOp .Add) (rAddV X.K) := (op_add.or op_add_str).or (op_catA.or op_cat)
theorem Reps.nil_of {K : PySem.W.Frag} {H : Hp} {ps : List PV} (r : Reps K H ps []) : ps = [] := by cases r; rfl
theorem ov_add : OpV X W (rAddV X.K) oAdd := by
  intro G ρ σ Hb H Qp Rp Q x y v u g gr rx ry h kq kx
  unfold oAdd at h
  split at h
  · cases rx.int; cases ry.int
    exact .inl (.inl ⟨_, _, rfl, rfl, kq.int g h⟩)
  · cases rx.str; cases ry.str
    exact .inl (.inr ⟨_, _, rfl, rfl, h.1, kq.str g h.2⟩)
  · obtain ⟨a, xs, rfl, ha, ha', qa⟩ := rx.tup
    obtain ⟨b, ys, rfl, hb, hb', qb⟩ := ry.tup
    refine .inr (.inl ⟨a, b, xs, ys, rfl, rfl, ha, hb, by rw [← qa.length, ← qb.length]; exact h.1, fun e => ?_, fun _ e => ?_, fun _ _ p hp => kq.tup g (qa.append qb) h.2 hp⟩)
    · subst e
      have e2 := qa.nil_of
      subst e2
      exact kq.at g (.tup hb' qb) h.2
    · subst e
      have e2 := qb.nil_of
      subst e2
      have h2 := h.2
      rw [List.append_nil] at h2
      exact kq.at g (.tup ha' qa) h2
  · obtain ⟨ps, qs, e1, e2, hz, h⟩ := h
    obtain ⟨a, xs, rfl, ha, qa⟩ := rx.items e1
    obtain ⟨b, ys, rfl, hb, qb⟩ := ry.items e2
    exact .inr (.inr ⟨a, b, xs, ys, rfl, rfl, ha, hb, by rw [← qa.length, ← qb.length]; exact hz, fun p hp => kq.list g gr (qa.append qb) h hp⟩)
theorem ov_sub : OpV X W (rI0 fun i j => .int (i - j)) oSub := by
  intro G ρ σ Hb H Qp Rp Q x y v u g gr rx ry h kq kx
  unfold oSub at h
  split at h
  · cases rx.int; cases ry.int
    exact ⟨_, _, rfl, rfl, kq.int g h⟩
  · exact h.elim
theorem or_div : OpR X (binaryOp .FloorDiv) (rI (fun _ j => divOk j) fun i j => .int (i.fdiv j)) := opI fun i j _ _ _ _ _ hc q => PyProof.Rows.floordiv_int hc.1 q (.inl (PyProof.noPylong_of_log2 hc.2))
theorem ov_div : OpV X W (rI (fun _ j => divOk j) fun i j => .int (i.fdiv j)) oDiv := by
  intro G ρ σ Hb H Qp Rp Q x y v u g gr rx ry h kq kx
  unfold oDiv at h
  split at h
  · cases rx.int; cases ry.int
    exact ⟨_, _, rfl, rfl, h.1, kq.int g h.2⟩
  · exact h.elim
theorem ov_mod : OpV X W (rI (fun _ j => j ≠ 0) fun i j => .int (i.fmod j)) oMod := by
  intro G ρ σ Hb H Qp Rp Q x y v u g gr rx ry h kq kx
  unfold oMod at h
  split at h
  · cases rx.int; cases ry.int
    exact ⟨_, _, rfl, rfl, h.1, kq.int g h.2⟩
  · exact h.elim
variable {pos : Pos} {a b : Expr} {wa wb : WEx}
theorem ve_add (ha : VE X W a wa) (hb : VE X W b wb) : VE X W (.BinOp a .Add b pos) (wOp oAdd wa wb) := ve_op or_add ov_add ha hb
theorem ve_sub (ha : VE X W a wa) (hb : VE X W b wb) : VE X W (.BinOp a .Sub b pos) (wOp oSub wa wb) := ve_op op_sub ov_sub ha hb
theorem ve_div (ha : VE X W a wa) (hb : VE X W b wb) : VE X W (.BinOp a .FloorDiv b pos) (wOp oDiv wa wb) := ve_op or_div ov_div ha hb
theorem ve_mod (ha : VE X W a wa) (hb : VE X W b wb) : VE X W (.BinOp a .Mod b pos) (wOp oMod wa wb) := ve_op op_modN ov_mod ha hb
/-- - x -/
def wNeg (a : WEx) : WEx := fun ρ Q R => a ρ (fun x => match x with | .int i => Q (.int (-i)) | _ => False) R
theorem ve_neg (ha : VE X W a wa) : VE X W (.UnaryOp .USub a pos) (wNeg wa) :=
  ⟨PE.imp (pe_un un_neg ha.pe) fun σ H Q ⟨G, ρ, Qp, Rp, g, hw, kq, kx⟩ => ⟨G, ρ, _, Rp, g, hw, fun p v H1 s1 g1 r1 h1 => by
    dsimp only at h1
    split at h1
    · cases r1.int
      exact ⟨_, rfl, (kq.step s1).int g1 h1⟩
    · exact h1.elim, kx⟩⟩
end

/-! ### comparisons -/
mutual
/-- a value as data -/
def PV.toD : PV → Option PyData
  | .non => some .none
  | .bl b => some (.bool b)
  | .int i => some (.int i)
  | .str x => some (.str x)
  | .tup ps => (toDs ps).map .tuple
  | .lst ps => (toDs ps).map .list
  | .own (.lst ps) => (toDs ps).map .list
  | .new (.lst ps) => (toDs ps).map .list
  | _ => none
def toDs : List PV → Option (List PyData)
  | [] => some []
  | p :: ps => match p.toD, toDs ps with
    | some d, some ds => some (d :: ds)
    | _, _ => none
end
theorem toDs_cons {p : PV} {ps : List PV} {ds : List PyData} (h : toDs (p :: ps) = some ds) : ∃ d ds', p.toD = some d ∧ toDs ps = some ds' ∧ ds = d :: ds' := by
  simp only [toDs] at h
  split at h
  · rename_i d ds' e1 e2
    cases h
    exact ⟨d, ds', e1, e2, rfl⟩
  · cases h
mutual
theorem Rep.dp {K : PySem.W.Frag} {H : Hp} : ∀ {p : PV} {v : V} {d : PyData}, Rep K H p v → p.toD = some d → Dp K H v d
  | _, _, _, .non, h => by simp only [PV.toD] at h; cases h; exact .non
  | _, _, _, .bl _, h => by simp only [PV.toD] at h; cases h; exact .bl _
  | _, _, _, .int _, h => by simp only [PV.toD] at h; cases h; exact .int _
  | _, _, _, .str _, h => by simp only [PV.toD] at h; cases h; exact .str _
  | _, _, _, .ty _, h => by simp only [PV.toD] at h; cases h
  | _, _, _, .adr _, h => by simp only [PV.toD] at h; cases h
  | _, _, d, .tup (ps := ps) e r, h => by
    simp only [PV.toD] at h
    cases q : toDs ps with
    | none => rw [q] at h; cases h
    | some ds => rw [q] at h; cases h; exact .tup e (Reps.dps r q)
  | _, _, d, .lst (ps := ps) e r, h => by
    simp only [PV.toD] at h
    cases q : toDs ps with
    | none => rw [q] at h; cases h
    | some ds => rw [q] at h; cases h; exact .lst (.of e) (Reps.dps r q)
  | _, _, _, .scr _ _, h => by simp only [PV.toD] at h; cases h
  | _, _, _, .obj _ _ _, h => by simp only [PV.toD] at h; cases h
  | _, _, _, .dk _ _ _, h => by simp only [PV.toD] at h; cases h
  | _, _, _, .dt _ _ _, h => by simp only [PV.toD] at h; cases h
theorem Reps.dps {K : PySem.W.Frag} {H : Hp} : ∀ {ps : List PV} {vs : List V} {ds : List PyData}, Reps K H ps vs → toDs ps = some ds → DpAll K H vs ds
  | _, _, _, .nil, h => by simp only [toDs] at h; cases h; exact .nil
  | _, _, _, .cons r t, h => by
    obtain ⟨d, ds', e1, e2, rfl⟩ := toDs_cons h
    exact .cons (Rep.dp r e1) (Reps.dps t e2)
end
mutual
theorem Dp.mono {K : PySem.W.Frag} {H H' : Hp} (s : Same H H') : ∀ {v : V} {d : PyData}, Dp K H v d → Dp K H' v d
  | _, _, .non => .non
  | _, _, .bl _ => .bl _
  | _, _, .int _ => .int _
  | _, _, .str _ => .str _
  | _, _, .lst h r => .lst (s.seq h) (DpAll.mono s r)
  | _, _, .tup h r => .tup (sqT_mono s h) (DpAll.mono s r)
theorem DpAll.mono {K : PySem.W.Frag} {H H' : Hp} (s : Same H H') : ∀ {v : List V} {d : List PyData}, DpAll K H v d → DpAll K H' v d
  | _, _, .nil => .nil
  | _, _, .cons h r => .cons (Dp.mono s h) (DpAll.mono s r)
end
theorem ERep.dp {K : PySem.W.Frag} {Sa M : Addr → Prop} {H0 Hb H : Hp} {p : PV} {v : V} {d : PyData} (r : ERep K Sa M H0 Hb H p v) (h : p.toD = some d) : Dp K H v d := by
  cases r with
  | s r =>
    cases r with
    | plain r => exact Dp.mono hide_sub (r.dp h)
    | own m n e f t =>
      cases t with
      | @lst ps _ q =>
        simp only [PV.toD] at h
        cases z : toDs ps with
        | none => rw [z] at h; cases h
        | some ds => rw [z] at h; cases h; exact (Dp.lst (.of f) (DpAll.mono hide_sub (q.dps z)))
      | dk => simp only [PV.toD] at h; cases h
      | dt => simp only [PV.toD] at h; cases h
    | st => simp only [PV.toD] at h; cases h
  | new n e f t =>
    cases t with
    | @lst ps _ q =>
      simp only [PV.toD] at h
      cases z : toDs ps with
      | none => rw [z] at h; cases h
      | some ds => rw [z] at h; cases h; exact (Dp.lst (.of f) (DpAll.mono hide_sub (q.dps z)))
    | dk => simp only [PV.toD] at h; cases h
    | dt => simp only [PV.toD] at h; cases h
/-- == of data -/
def oEq : PV → PV → PQ → XQ → Prop := fun x y Q _ => ∃ d e, x.toD = some d ∧ y.toD = some e ∧ SeqAt.shaped d = true ∧ SeqAt.shaped e = true ∧ Q (.bl (PyData.eqv d e))
def oNe : PV → PV → PQ → XQ → Prop := fun x y Q _ => ∃ d e, x.toD = some d ∧ y.toD = some e ∧ SeqAt.shaped d = true ∧ SeqAt.shaped e = true ∧ Q (.bl (!PyData.eqv d e))
def oCmp (f : Int → Int → Bool) : PV → PV → PQ → XQ → Prop := fun x y Q _ => match x, y with
  | .int i, .int j => Q (.bl (f i j))
  | _, _ => False
abbrev oLt := oCmp fun i j => decide (i < j)
abbrev oLe := oCmp fun i j => decide (i ≤ j)
abbrev oGt := oCmp fun i j => decide (j < i)
abbrev oGe := oCmp fun i j => decide (j ≤ i)
section
variable {X : Cx} {W : WX} {pos : Pos} {a b c : Expr} {wa wb wc : WEx} {r r' : R2} {o o' : PV → PV → PQ → XQ → Prop} {op op' : CmpOp}
theorem ov_eq : OpV X W (rEqD X.K) oEq := by
  intro G ρ σ Hb H Qp Rp Q x y v u g gr rx ry ⟨d, e, h1, h2, h3, h4, h⟩ kq kx
  exact ⟨d, e, rx.dp h1, ry.dp h2, h3, h4, kq.bl g h⟩
theorem ov_ne : OpV X W (rNeD X.K) oNe := by
  intro G ρ σ Hb H Qp Rp Q x y v u g gr rx ry ⟨d, e, h1, h2, h3, h4, h⟩ kq kx
  exact ⟨d, e, rx.dp h1, ry.dp h2, h3, h4, kq.bl g h⟩
theorem ov_cmp {f : Int → Int → Bool} : OpV X W (rI0 fun i j => .bl (f i j)) (oCmp f) := by
  intro G ρ σ Hb H Qp Rp Q x y v u g gr rx ry h kq kx
  unfold oCmp at h
  split at h
  · cases rx.int; cases ry.int
    exact ⟨_, _, rfl, rfl, kq.bl g h⟩
  · exact h.elim
theorem ve_cmp (ho : OpR X (compareOp op) r) (hv : OpV X W r o) (ha : VE X W a wa) (hb : VE X W b wb) (hm : behindInMarks op b = false) : VE X W (.Compare a [op] [b] pos) (wOp o wa wb) :=
  ⟨PE.imp (pe_cmpR ho ha.pe hb.pe hm) fun _ _ _ h => lft_op hv h⟩
/-- a test from a value -/
def wT (a : WEx) : WTs := fun ρ Q R => a ρ (fun x => match x with | .bl b => Q b | _ => False) R
theorem lft_T {w : WEx} {K : PySem.W.Frag} {σ : St} {H : Hp} {Q : Bool → Hp → Prop} (h : lftT K W (wT w) σ H Q) : lftE K W w σ H (fun x H' => ∃ k, x = .bl k ∧ Q k H') := by
  obtain ⟨G, ρ, Qp, Rp, g, hw, kq, kx⟩ := h
  refine ⟨G, ρ, _, Rp, g, hw, fun p v H1 s1 g1 r1 h1 => ?_, kx⟩
  dsimp only at h1
  split at h1
  · cases r1.bl
    exact ⟨_, rfl, kq _ _ s1 g1 h1⟩
  · exact h1.elim
theorem vt_cmp (ho : OpR X (compareOp op) r) (hv : OpV X W r o) (ha : VE X W a wa) (hb : VE X W b wb) (hm : behindInMarks op b = false) : VT X W (.Compare a [op] [b] pos) (wT (wOp o wa wb)) :=
  ⟨PT.imp (pt_cmpR ho ha.pe hb.pe hm) fun σ H Q h => by
    have h2 := lft_T h
    exact lft_op hv h2⟩
theorem vt_val {e : Expr} {w : WEx} (h : VE X W e w) (he : ∀ whole, isTrue e X.env whole = (do let v ← whole; standAt e.pos; holding [v] (truthy v)) := by intro _; rfl) : VT X W e (wT w) :=
  ⟨PT.imp (pt_val h.pe he) fun _ _ _ h => lft_T h⟩
/-- a op b op' c -/
def wChain (o o' : PV → PV → PQ → XQ → Prop) (a b c : WEx) : WEx := fun ρ Q R => a ρ (fun x => b ρ (fun y => o x y (fun z => match z with | .bl k => if k = true then c ρ (fun u => o' y u Q R) R else Q (.bl false) | _ => False) R) R) R
theorem lft_chain (hv : OpV X W r o) (hv' : OpV X W r' o') {σ : St} {H : Hp} {Q : VK} (h : lftE X.K W (wChain o o' wa wb wc) σ H Q) : tChain r r' (lftE X.K W wa) (lftE X.K W wb) (lftE X.K W wc) σ H Q := by
  obtain ⟨G, ρ, Qp, Rp, g, hw, kq, kx⟩ := h
  refine ⟨G, ρ, _, Rp, g, hw, fun p v H1 s1 g1 r1 hw1 => ?_, kx⟩
  refine ⟨G, ρ, _, Rp, g1, hw1, fun q u H2 s2 g2 r2 hw2 => ?_, kx.step s1⟩
  refine hv g2 ((s1.trans s2).gr g2) (r1.mono s2) (r2.base (s1.gr g1)) hw2 (fun z t H3 s3 g3 r3 hw3 => ?_) (kx.step (s1.trans s2))
  split at hw3
  · rename_i k
    cases r3.bl
    refine ⟨k, rfl, ?_⟩
    by_cases hk : k = true
    · rw [if_pos hk] at hw3
      rw [if_pos hk]
      refine ⟨G, ρ, _, Rp, g3, hw3, fun y' u' H4 s4 g4 r4 hw4 => ?_, kx.step ((s1.trans s2).trans s3)⟩
      exact hv' g4 ((((s1.trans s2).trans s3).trans s4).gr g4) ((r2.base (s1.gr g1)).mono (s3.trans s4)) (r4.base (((s1.trans s2).trans s3).gr g3)) hw4 (kq.step (((s1.trans s2).trans s3).trans s4)) (kx.step (((s1.trans s2).trans s3).trans s4))
    · rw [if_neg hk] at hw3
      rw [if_neg hk]
      exact (kq.step ((s1.trans s2).trans s3)).bl g3 hw3
  · exact hw3.elim
theorem ve_chain (ho : OpR X (compareOp op) r) (ho' : OpR X (compareOp op') r') (hv : OpV X W r o) (hv' : OpV X W r' o') (ha : VE X W a wa) (hb : VE X W b wb) (hc : VE X W c wc) (hm : lastMarks [op, op'] [b, c] = false := by rfl) : VE X W (.Compare a [op, op'] [b, c] pos) (wChain o o' wa wb wc) :=
  ⟨PE.imp (pe_chain ho ho' ha.pe hb.pe hc.pe hm) fun _ _ _ h => lft_chain hv hv' h⟩
theorem vt_chain (ho : OpR X (compareOp op) r) (ho' : OpR X (compareOp op') r') (hv : OpV X W r o) (hv' : OpV X W r' o') (ha : VE X W a wa) (hb : VE X W b wb) (hc : VE X W c wc) (hm : lastMarks [op, op'] [b, c] = false := by rfl) : VT X W (.Compare a [op, op'] [b, c] pos) (wT (wChain o o' wa wb wc)) :=
  ⟨PT.imp (pt_chain ho ho' ha.pe hb.pe hc.pe hm) fun _ _ _ h => by
    have h2 := lft_T h
    exact lft_chain hv hv' h2⟩
/-- x is None -/
def isNonP : PV → Bool
  | .non => true
  | _ => false
theorem ERep.isNon {K : PySem.W.Frag} {Sa M : Addr → Prop} {H0 Hb H : Hp} {p : PV} {v : V} (r : ERep K Sa M H0 Hb H p v) : decide (v = .non) = isNonP p := by
  cases r with
  | s r =>
    cases r with
    | plain r => cases r <;> first | rfl | simp [isNonP]
    | own => simp [isNonP]
    | st => simp [isNonP]
  | new => simp [isNonP]
def wIsN (a : WEx) : WEx := fun ρ Q R => a ρ (fun x => Q (.bl (isNonP x))) R
def wNotN (a : WEx) : WEx := fun ρ Q R => a ρ (fun x => Q (.bl (!isNonP x))) R
theorem lft_isN {σ : St} {H : Hp} {Q : VK} (h : lftE X.K W (wIsN wa) σ H Q) : tIsN (lftE X.K W wa) σ H Q := by
  obtain ⟨G, ρ, Qp, Rp, g, hw, kq, kx⟩ := h
  refine ⟨G, ρ, _, Rp, g, hw, fun p v H1 s1 g1 r1 h1 => ?_, kx⟩
  show Q (.bl (decide (v = .non))) H1
  rw [r1.isNon]
  exact (kq.step s1).bl g1 h1
theorem lft_notN {σ : St} {H : Hp} {Q : VK} (h : lftE X.K W (wNotN wa) σ H Q) : tNotN (lftE X.K W wa) σ H Q := by
  obtain ⟨G, ρ, Qp, Rp, g, hw, kq, kx⟩ := h
  refine ⟨G, ρ, _, Rp, g, hw, fun p v H1 s1 g1 r1 h1 => ?_, kx⟩
  show Q (.bl (!decide (v = .non))) H1
  rw [r1.isNon]
  exact (kq.step s1).bl g1 h1
theorem ve_isN {j p'} (ha : VE X W a wa) : VE X W (.Compare a [.Is] [.Constant .none j p'] pos) (wIsN wa) := ⟨PE.imp (pe_cmp (pc_isN ha.pe)) fun _ _ _ h => lft_isN h⟩
theorem ve_notN {j p'} (ha : VE X W a wa) : VE X W (.Compare a [.IsNot] [.Constant .none j p'] pos) (wNotN wa) := ⟨PE.imp (pe_cmp (pc_notN ha.pe)) fun _ _ _ h => lft_notN h⟩
theorem vt_isN {j p'} (ha : VE X W a wa) : VT X W (.Compare a [.Is] [.Constant .none j p'] pos) (wT (wIsN wa)) := ⟨PT.imp (pt_cmp (pc_isN ha.pe)) fun _ _ _ h => by
  have h2 := lft_T h
  exact lft_isN h2⟩
theorem vt_notN {j p'} (ha : VE X W a wa) : VT X W (.Compare a [.IsNot] [.Constant .none j p'] pos) (wT (wNotN wa)) := ⟨PT.imp (pt_cmp (pc_notN ha.pe)) fun _ _ _ h => by
  have h2 := lft_T h
  exact lft_notN h2⟩
end

/-! ### and, or, not, if else -/
structure VW (X : Cx) (W : WX) (e : Expr) (w : WTs) : Prop where
  pw : PW X e (lftT X.K W w)
def wAnd (a b : WTs) : WTs := fun ρ Q R => a ρ (fun c => if c = true then b ρ Q R else Q false) R
def wOr (a b : WTs) : WTs := fun ρ Q R => a ρ (fun c => if c = true then Q true else b ρ Q R) R
def wNot (a : WTs) : WTs := fun ρ Q R => a ρ (fun c => Q (!c)) R
def wAndV (a b : WEx) : WEx := fun ρ Q R => a ρ (fun x => match x with | .bl c => if c = true then b ρ Q R else Q (.bl false) | _ => False) R
def wOrV (a b : WEx) : WEx := fun ρ Q R => a ρ (fun x => match x with | .bl c => if c = true then Q (.bl true) else b ρ Q R | _ => False) R
def wNotV (a : WEx) : WEx := fun ρ Q R => a ρ (fun x => match x with | .bl c => Q (.bl (!c)) | _ => False) R
def wIfE (c : WTs) (a b : WEx) : WEx := fun ρ Q R => c ρ (fun k => if k = true then a ρ Q R else b ρ Q R) R
theorem PW.imp {X : Cx} {e : Expr} {t t' : TT} (h : PW X e t) (i : ∀ σ H Q, t' σ H Q → t σ H Q) : PW X e t' := ⟨fun whole pins s σ H Q I q => h.run whole pins s σ H Q I (i σ H Q q)⟩
section
variable {X : Cx} {W : WX} {pos : Pos} {a b c : Expr} {rest : List Expr} {ta tb : WTs} {wa wb : WEx}
theorem vt_bool {e : Expr} (h : VW X W e ta) : VT X W e ta := ⟨h.pw.pt⟩
theorem vw_and1 (ha : VT X W a ta) : VW X W (.BoolOp .And [a] pos) ta := ⟨pw_and1 ha.pt⟩
theorem vw_or1 (ha : VT X W a ta) : VW X W (.BoolOp .Or [a] pos) ta := ⟨pw_or1 ha.pt⟩
theorem vw_and (ha : VT X W a ta) (hb : VW X W (.BoolOp .And (b :: rest) pos) tb) : VW X W (.BoolOp .And (a :: b :: rest) pos) (wAnd ta tb) :=
  ⟨PW.imp (pw_and ha.pt hb.pw) fun σ H Q ⟨G, ρ, Qp, Rp, g, hw, kq, kx⟩ => ⟨G, ρ, _, Rp, g, hw, fun k H1 s1 g1 h1 => by
    cases k with
    | true => exact ⟨G, ρ, _, Rp, g1, h1, fun k2 H2 s2 g2 h2 => kq _ _ (s1.trans s2) g2 h2, kx.step s1⟩
    | false => exact kq _ _ s1 g1 h1, kx⟩⟩
theorem vw_or (ha : VT X W a ta) (hb : VW X W (.BoolOp .Or (b :: rest) pos) tb) : VW X W (.BoolOp .Or (a :: b :: rest) pos) (wOr ta tb) :=
  ⟨PW.imp (pw_or ha.pt hb.pw) fun σ H Q ⟨G, ρ, Qp, Rp, g, hw, kq, kx⟩ => ⟨G, ρ, _, Rp, g, hw, fun k H1 s1 g1 h1 => by
    cases k with
    | false => exact ⟨G, ρ, _, Rp, g1, h1, fun k2 H2 s2 g2 h2 => kq _ _ (s1.trans s2) g2 h2, kx.step s1⟩
    | true => exact kq _ _ s1 g1 h1, kx⟩⟩
theorem vt_not (ha : VT X W a ta) : VT X W (.UnaryOp .Not a pos) (wNot ta) :=
  ⟨PT.imp (pt_not ha.pt) fun σ H Q ⟨G, ρ, Qp, Rp, g, hw, kq, kx⟩ => ⟨G, ρ, _, Rp, g, hw, fun k H1 s1 g1 h1 => kq _ _ s1 g1 h1, kx⟩⟩
theorem ve_one {op} (h : VE X W a wa) : VE X W (.BoolOp op [a] pos) wa := ⟨pe_one h.pe⟩
theorem ve_and (ha : VE X W a wa) (hb : VE X W (.BoolOp .And (b :: rest) pos) wb) : VE X W (.BoolOp .And (a :: b :: rest) pos) (wAndV wa wb) :=
  ⟨PE.imp (pe_and ha.pe hb.pe) fun σ H Q ⟨G, ρ, Qp, Rp, g, hw, kq, kx⟩ => ⟨G, ρ, _, Rp, g, hw, fun p v H1 s1 g1 r1 h1 => by
    dsimp only at h1
    split at h1
    · rename_i k
      cases r1.bl
      refine ⟨k, rfl, ?_⟩
      cases k with
      | true => exact ⟨G, ρ, _, Rp, g1, h1, fun k2 v2 H2 s2 g2 r2 h2 => kq _ _ _ (s1.trans s2) g2 (r2.base (s1.gr g1)) h2, kx.step s1⟩
      | false => exact (kq.step s1).bl g1 h1
    · exact h1.elim, kx⟩⟩
theorem ve_or (ha : VE X W a wa) (hb : VE X W (.BoolOp .Or (b :: rest) pos) wb) : VE X W (.BoolOp .Or (a :: b :: rest) pos) (wOrV wa wb) :=
  ⟨PE.imp (pe_or ha.pe hb.pe) fun σ H Q ⟨G, ρ, Qp, Rp, g, hw, kq, kx⟩ => ⟨G, ρ, _, Rp, g, hw, fun p v H1 s1 g1 r1 h1 => by
    dsimp only at h1
    split at h1
    · rename_i k
      cases r1.bl
      refine ⟨k, rfl, ?_⟩
      cases k with
      | false => exact ⟨G, ρ, _, Rp, g1, h1, fun k2 v2 H2 s2 g2 r2 h2 => kq _ _ _ (s1.trans s2) g2 (r2.base (s1.gr g1)) h2, kx.step s1⟩
      | true => exact (kq.step s1).bl g1 h1
    · exact h1.elim, kx⟩⟩
theorem ve_not (ha : VE X W a wa) : VE X W (.UnaryOp .Not a pos) (wNotV wa) :=
  ⟨PE.imp (pe_not ha.pe) fun σ H Q ⟨G, ρ, Qp, Rp, g, hw, kq, kx⟩ => ⟨G, ρ, _, Rp, g, hw, fun p v H1 s1 g1 r1 h1 => by
    dsimp only at h1
    split at h1
    · rename_i k
      cases r1.bl
      exact ⟨k, rfl, (kq.step s1).bl g1 h1⟩
    · exact h1.elim, kx⟩⟩
theorem ve_ifE (hc : VT X W c ta) (ha : VE X W a wa) (hb : VE X W b wb) : VE X W (.IfExp c a b pos) (wIfE ta wa wb) :=
  ⟨PE.imp (pe_ifExp hc.pt ha.pe hb.pe) fun σ H Q ⟨G, ρ, Qp, Rp, g, hw, kq, kx⟩ => ⟨G, ρ, _, Rp, g, hw, fun k H1 s1 g1 h1 => by
    cases k with
    | true => exact ⟨G, ρ, _, Rp, g1, h1, fun k2 v2 H2 s2 g2 r2 h2 => kq _ _ _ (s1.trans s2) g2 (r2.base (s1.gr g1)) h2, kx.step s1⟩
    | false => exact ⟨G, ρ, _, Rp, g1, h1, fun k2 v2 H2 s2 g2 r2 h2 => kq _ _ _ (s1.trans s2) g2 (r2.base (s1.gr g1)) h2, kx.step s1⟩, kx⟩⟩

/-! ### arguments, displays -/
def wNil : WAs := fun _ Q _ => Q []
def wCons (a : WEx) (r : WAs) : WAs := fun ρ Q R => a ρ (fun x => r ρ (fun xs => Q (x :: xs)) R) R
theorem va_nil : VA X W [] wNil := ⟨PA.imp pa_nil fun σ H Q ⟨G, ρ, Qp, Rp, g, hw, kq, kx⟩ => kq _ _ _ .refl g .nil hw⟩
theorem va_cons {wr : WAs} {es : List Expr} (ha : VE X W a wa) (hr : VA X W es wr) (hs : starEach (a :: es) X.env = (false, eval a X.env) :: starEach es X.env := by rfl) : VA X W (a :: es) (wCons wa wr) :=
  ⟨PA.imp (pa_cons ha.pe hr.pa hs) fun σ H Q ⟨G, ρ, Qp, Rp, g, hw, kq, kx⟩ => ⟨G, ρ, _, Rp, g, hw, fun p v H1 s1 g1 r1 h1 =>
    ⟨G, ρ, _, Rp, g1, h1, fun ps vs H2 s2 g2 r2 h2 => kq _ _ _ (s1.trans s2) g2 (.cons (r1.mono s2) (r2.base (s1.gr g1))) h2, kx.step s1⟩, kx⟩⟩
/-- what may be put into a tuple, a list, a slot -/
def PV.thaw : PV → PV
  | .new p => p
  | p => p
def PV.plain : PV → Bool
  | .own _ => false
  | .st => false
  | .new _ => false
  | _ => true
def PV.gives (p : PV) : Bool := p.thaw.plain
end
section
variable {K : PySem.W.Frag} {G : Gd} {ρ : PEnv} {σ : St} {Hb H : Hp}
theorem ERep.rep {p : PV} {v : V} (r : ERep K (SA G ρ σ) (MA G ρ σ) G.H0 Hb H p v) (h : p.gives = true) : Rep K (hide (MA G ρ σ) H) p.thaw v := by
  cases r with
  | s r =>
    cases r with
    | @plain p v r => cases r <;> (constructor <;> assumption)
    | own => cases h
    | st => cases h
  | new n e f t => exact (t.mono (hide_anti fun _ z => .inl z)).rep (hide_some.mpr ⟨n, f⟩)
theorem EReps.reps : ∀ {ps : List PV} {vs : List V}, EReps K (SA G ρ σ) (MA G ρ σ) G.H0 Hb H ps vs → ps.all PV.gives = true → Reps K (hide (MA G ρ σ) H) (ps.map PV.thaw) vs
  | _, _, .nil, _ => .nil
  | _, _, .cons r t, h => by
    rw [List.all_cons, Bool.and_eq_true] at h
    exact .cons (r.rep h.1) (EReps.reps t h.2)
end
def wTup (r : WAs) : WEx := fun ρ Q R => r ρ (fun ps => ps.length ≤ sizeLine ∧ ps.all PV.gives = true ∧ Q (.tup (ps.map PV.thaw))) R
def wLst (r : WAs) : WEx := fun ρ Q R => r ρ (fun ps => ps.length ≤ sizeLine ∧ ps.all PV.gives = true ∧ Q (.new (.lst (ps.map PV.thaw)))) R
section
variable {X : Cx} {W : WX} {pos : Pos} {es : List Expr} {wr : WAs}
theorem ve_tup {x1} (h : VA X W es wr) : VE X W (.Tuple es x1 pos) (wTup wr) :=
  ⟨PE.imp (pe_tup h.pa) fun σ H Q ⟨G, ρ, Qp, Rp, g, hw, kq, kx⟩ => ⟨G, ρ, _, Rp, g, hw, fun ps vs H1 s1 g1 r1 ⟨h1, h2, h3⟩ =>
    ⟨by rw [← r1.length]; exact h1, fun p hp => (kq.step s1).tup g1 (r1.reps h2) h3 hp⟩, kx⟩⟩
theorem ve_lst (h : VA X W es wr) : VE X W (.List es pos) (wLst wr) :=
  ⟨PE.imp (pe_lst h.pa) fun σ H Q ⟨G, ρ, Qp, Rp, g, hw, kq, kx⟩ => ⟨G, ρ, _, Rp, g, hw, fun ps vs H1 s1 g1 r1 ⟨h1, h2, h3⟩ =>
    ⟨by rw [← r1.length]; exact h1, fun p hp => (kq.step s1).list g1 (s1.gr g1) (r1.reps h2) h3 hp⟩, kx⟩⟩
end
end L3

/-! Values without the heap: built-in functions, subscripts. -/
namespace L3
open PySem PySem.Spec L2

/-! ### a call by values -/
def CaV (X : Cx) (W : WX) (r : List V → Hp → VK → Prop) (o : List PV → PQ → XQ → Prop) : Prop := ∀ {G ρ σ Hb H Qp Rp Q ps vs}, Good X.K G ρ σ H → Gr Hb H → EReps X.K (SA G ρ σ) (MA G ρ σ) G.H0 Hb H ps vs →
  o ps Qp Rp → KQ X.K G ρ σ Hb H Qp Q → KX X.K W G ρ σ H Rp → r vs H Q
def wCall (o : List PV → PQ → XQ → Prop) (a : WAs) : WEx := fun ρ Q R => a ρ (fun ps => o ps Q R) R
section
variable {X : Cx} {W : WX} {pos p : Pos} {e : Expr} {es : List Expr} {wa : WAs} {r : List V → Hp → VK → Prop} {o : List PV → PQ → XQ → Prop} {x : Str} {id T : String}
theorem lft_call (hv : CaV X W r o) {σ : St} {H : Hp} {Q : VK} (h : lftE X.K W (wCall o wa) σ H Q) : tCB r (lftA X.K W wa) σ H Q := by
  obtain ⟨G, ρ, Qp, Rp, g, hw, kq, kx⟩ := h
  exact ⟨G, ρ, _, Rp, g, hw, fun ps vs H1 s1 g1 r1 h1 => hv g1 (s1.gr g1) r1 h1 (kq.step s1) (kx.step s1), kx⟩
theorem ve_callB (hc : CallR X (.builtin id) r) (hcv : CaV X W r o) (hg : Gl X x) (hm : X.mg x = none) (hv : bootBuiltins x = some (.builtin id)) (ha : VA X W (e :: es) wa) (hn : x ≠ "__name__" := by decide) (hdb : (x == ("__debug__" : Str)) = false := by decide)
    (he : starEach (e :: es) X.env = (false, eval e X.env) :: starEach es X.env := by rfl) (hpl : (backTo pos (starEach es X.env)).any (·.1) = false := by rfl) : VE X W (.Call (.Name x p) (e :: es) [] pos) (wCall o wa) :=
  ⟨PE.imp (pe_callB hc hg hm hv ha.pa hn hdb he hpl) fun _ _ _ h => lft_call hcv h⟩
theorem ve_callTy (hc : CallR X (.type T) r) (hcv : CaV X W r o) (hg : Gl X x) (hm : X.mg x = none) (hv : bootBuiltins x = some (.type T)) (ha : VA X W (e :: es) wa) (hn : x ≠ "__name__" := by decide) (hdb : (x == ("__debug__" : Str)) = false := by decide)
    (he : starEach (e :: es) X.env = (false, eval e X.env) :: starEach es X.env := by rfl) (hpl : (backTo pos (starEach es X.env)).any (·.1) = false := by rfl) : VE X W (.Call (.Name x p) (e :: es) [] pos) (wCall o wa) :=
  ⟨PE.imp (pe_callTy hc hg hm hv ha.pa hn hdb he hpl) fun _ _ _ h => lft_call hcv h⟩
end
section
variable {K : PySem.W.Frag} {Sa M : Addr → Prop} {H0 Hb H : Hp}
theorem EReps.one {p : PV} {vs : List V} (r : EReps K Sa M H0 Hb H [p] vs) : ∃ v, vs = [v] ∧ ERep K Sa M H0 Hb H p v := by
  cases r with
  | cons r t => cases t; exact ⟨_, rfl, r⟩
theorem EReps.two {p q : PV} {vs : List V} (r : EReps K Sa M H0 Hb H [p, q] vs) : ∃ v u, vs = [v, u] ∧ ERep K Sa M H0 Hb H p v ∧ ERep K Sa M H0 Hb H q u := by
  cases r with
  | cons r t =>
    obtain ⟨u, rfl, r2⟩ := t.one
    exact ⟨_, _, rfl, r, r2⟩
end

/-! ### len, abs, int, min, max, sum, all, any -/
def cLen : List PV → PQ → XQ → Prop := fun ps Q _ => match ps with
  | [.str x] => x.length ≤ sizeLine ∧ Q (.int x.length)
  | [.own (.dk ks _)] => Q (.int ks.length)
  | [.dk ks _] => Q (.int ks.length)
  | [p] => ∃ xs, p.seq = some xs ∧ Q (.int xs.length)
  | _ => False
def rLenV (K : PySem.W.Frag) : List V → Hp → VK → Prop := fun xs H Q => (∃ p ys, xs = [.ref p] ∧ (SqL K H p ys ∨ SqT K H p ys) ∧ Q (.int ys.length) H) ∨ ((∃ z, xs = [.str z] ∧ z.length ≤ sizeLine ∧ Q (.int z.length) H) ∨ (∃ a kvs, xs = [V.ref a] ∧ H a = some (.dK kvs) ∧ Q (.int kvs.length) H))
def cAbs : List PV → PQ → XQ → Prop := fun ps Q _ => match ps with
  | [.int i] => Q (.int i.natAbs)
  | _ => False
def cInt : List PV → PQ → XQ → Prop := fun ps Q _ => match ps with
  | [.int i] => Q (.int i)
  | [.bl b] => Q (.int (if b then 1 else 0))
  | _ => False
def cMin2 : List PV → PQ → XQ → Prop := fun ps Q _ => match ps with
  | [.int i, .int j] => Q (.int (if j < i then j else i))
  | _ => False
def cMax2 : List PV → PQ → XQ → Prop := fun ps Q _ => match ps with
  | [.int i, .int j] => Q (.int (if j > i then j else i))
  | _ => False
def cMax : List PV → PQ → XQ → Prop := fun ps Q _ => ∃ (p : PV) (ns : List Int), ps = [p] ∧ p.items = some (ns.map PV.int) ∧ 0 < ns.length ∧ ∀ m, m ∈ ns → (∀ y, y ∈ ns → y ≤ m) → Q (.int m)
def cMin : List PV → PQ → XQ → Prop := fun ps Q _ => ∃ (p : PV) (ns : List Int), ps = [p] ∧ p.items = some (ns.map PV.int) ∧ 0 < ns.length ∧ ∀ m, m ∈ ns → (∀ y, y ∈ ns → m ≤ y) → Q (.int m)
def cSum : List PV → PQ → XQ → Prop := fun ps Q _ => ∃ (p : PV) (ns : List Int), ps = [p] ∧ p.items = some (ns.map PV.int) ∧ Q (.int ns.sum)
def cAll : List PV → PQ → XQ → Prop := fun ps Q _ => ∃ (p : PV) (bs : List Bool), ps = [p] ∧ p.items = some (bs.map PV.bl) ∧ Q (.bl (bs.all id))
def cAny : List PV → PQ → XQ → Prop := fun ps Q _ => ∃ (p : PV) (bs : List Bool), ps = [p] ∧ p.items = some (bs.map PV.bl) ∧ Q (.bl (bs.any id))
def cTuple : List PV → PQ → XQ → Prop := fun ps Q _ => ∃ (p : PV) (xs : List PV), ps = [p] ∧ p.seq = some xs ∧ Q (.tup xs)
def cList : List PV → PQ → XQ → Prop := fun ps Q _ => ∃ (p : PV) (xs : List PV), ps = [p] ∧ p.seq = some xs ∧ Q (.new (.lst xs))
section
variable {X : Cx} {W : WX}
theorem cr_lenV : CallR X (.builtin "len") (rLenV X.K) := call_len_seq.or (call_len_str.or call_lenD)
theorem cv_len : CaV X W (rLenV X.K) cLen := by
  intro G ρ σ Hb H Qp Rp Q ps vs g gr r h kq kx
  unfold cLen at h
  split at h
  · replace r := r.one; obtain ⟨v, rfl, r⟩ := r
    cases r.str
    exact .inr (.inl ⟨_, rfl, h.1, kq.int g h.2⟩)
  · replace r := r.one; obtain ⟨v, rfl, r⟩ := r
    cases r with
    | s r => cases r with
      | plain r => cases r
      | own m n e f t => cases t with
        | dk l q => exact .inr (.inr ⟨_, _, rfl, f, by rw [List.length_zip, ← l, Nat.min_self]; exact kq.int g h⟩)
  · replace r := r.one; obtain ⟨v, rfl, r⟩ := r
    cases r with
    | s r => cases r with
      | plain r => cases r with
        | dk e l q =>
          rename_i a ks xs ps
          exact .inr (.inr ⟨_, _, rfl, hide_sub _ _ e, by rw [List.length_zip, ← l, Nat.min_self]; exact kq.int g h⟩)
  · replace r := r.one; obtain ⟨v, rfl, r⟩ := r
    obtain ⟨xs, e, h⟩ := h
    obtain ⟨a, ys, rfl, t, q⟩ := r.seq e
    exact .inl ⟨a, ys, rfl, t, by rw [← q.length]; exact kq.int g h⟩
  · exact h.elim
theorem cv_abs : CaV X W (fun xs H Q => ∃ i, xs = [.int i] ∧ Q (.int (if i < 0 then -i else i)) H) cAbs := by
  intro G ρ σ Hb H Qp Rp Q ps vs g gr r h kq kx
  unfold cAbs at h
  split at h
  · replace r := r.one; obtain ⟨v, rfl, r⟩ := r
    cases r.int
    refine ⟨_, rfl, ?_⟩
    rename_i i
    have e : (if i < 0 then -i else i) = (i.natAbs : Int) := by
      split <;> omega
    rw [e]
    exact kq.int g h
  · exact h.elim
theorem cv_int : CaV X W (fun xs H Q => (∃ i, xs = [.int i] ∧ Q (.int i) H) ∨ ∃ k, xs = [.bl k] ∧ Q (.int (if k then 1 else 0)) H) cInt := by
  intro G ρ σ Hb H Qp Rp Q ps vs g gr r h kq kx
  unfold cInt at h
  split at h
  · replace r := r.one; obtain ⟨v, rfl, r⟩ := r
    cases r.int
    exact .inl ⟨_, rfl, kq.int g h⟩
  · replace r := r.one; obtain ⟨v, rfl, r⟩ := r
    cases r.bl
    exact .inr ⟨_, rfl, kq.int g h⟩
  · exact h.elim
theorem cv_min2 : CaV X W (fun xs H Q => ∃ i j, xs = [.int i, .int j] ∧ Q (.int (if j < i then j else i)) H) cMin2 := by
  intro G ρ σ Hb H Qp Rp Q ps vs g gr r h kq kx
  unfold cMin2 at h
  split at h
  · replace r := r.two; obtain ⟨v, u, rfl, r, r2⟩ := r
    cases r.int; cases r2.int
    exact ⟨_, _, rfl, kq.int g h⟩
  · exact h.elim
theorem cv_max2 : CaV X W (fun xs H Q => ∃ i j, xs = [.int i, .int j] ∧ Q (.int (if j > i then j else i)) H) cMax2 := by
  intro G ρ σ Hb H Qp Rp Q ps vs g gr r h kq kx
  unfold cMax2 at h
  split at h
  · replace r := r.two; obtain ⟨v, u, rfl, r, r2⟩ := r
    cases r.int; cases r2.int
    exact ⟨_, _, rfl, kq.int g h⟩
  · exact h.elim
theorem cv_max : CaV X W (rMax X.K) cMax := by
  intro G ρ σ Hb H Qp Rp Q ps vs g gr r ⟨p, ns, e, h1, h2, h⟩ kq kx
  subst e
  replace r := r.one; obtain ⟨v, rfl, r⟩ := r
  obtain ⟨a, xs, rfl, t, q⟩ := r.items h1
  cases q.ints
  exact ⟨a, ns, rfl, .of t, h2, fun m h3 h4 => kq.int g (h m h3 h4)⟩
theorem cv_min : CaV X W (rMin X.K) cMin := by
  intro G ρ σ Hb H Qp Rp Q ps vs g gr r ⟨p, ns, e, h1, h2, h⟩ kq kx
  subst e
  replace r := r.one; obtain ⟨v, rfl, r⟩ := r
  obtain ⟨a, xs, rfl, t, q⟩ := r.items h1
  cases q.ints
  exact ⟨a, ns, rfl, .of t, h2, fun m h3 h4 => kq.int g (h m h3 h4)⟩
theorem cv_sum : CaV X W (rSum X.K) cSum := by
  intro G ρ σ Hb H Qp Rp Q ps vs g gr r ⟨p, ns, e, h1, h⟩ kq kx
  subst e
  replace r := r.one; obtain ⟨v, rfl, r⟩ := r
  obtain ⟨a, xs, rfl, t, q⟩ := r.items h1
  cases q.ints
  exact ⟨a, ns, rfl, .of t, kq.int g h⟩
theorem cv_all : CaV X W (rAll X.K) cAll := by
  intro G ρ σ Hb H Qp Rp Q ps vs g gr r ⟨p, ns, e, h1, h⟩ kq kx
  subst e
  replace r := r.one; obtain ⟨v, rfl, r⟩ := r
  obtain ⟨a, xs, rfl, t, q⟩ := r.items h1
  cases q.bls
  exact ⟨a, ns, rfl, .of t, kq.bl g h⟩
theorem cv_any : CaV X W (rAny X.K) cAny := by
  intro G ρ σ Hb H Qp Rp Q ps vs g gr r ⟨p, ns, e, h1, h⟩ kq kx
  subst e
  replace r := r.one; obtain ⟨v, rfl, r⟩ := r
  obtain ⟨a, xs, rfl, t, q⟩ := r.items h1
  cases q.bls
  exact ⟨a, ns, rfl, .of t, kq.bl g h⟩
theorem cv_tuple : CaV X W (fun xs H Q => ∃ p ys, xs = [.ref p] ∧ ((SqL X.K H p ys ∧ ∀ l, H l = none → Q (.ref l) (upd H l (.tup ys))) ∨ (SqT X.K H p ys ∧ Q (.ref p) H))) cTuple := by
  intro G ρ σ Hb H Qp Rp Q ps vs g gr r ⟨p, xs, e, h1, h⟩ kq kx
  subst e
  replace r := r.one; obtain ⟨v, rfl, r⟩ := r
  cases p with
  | tup qs =>
    cases h1
    obtain ⟨a, ys, rfl, t, t', q⟩ := r.tup
    exact ⟨a, ys, rfl, .inr ⟨t, kq.at g (.tup t' q) h⟩⟩
  | scr qs =>
    cases h1
    obtain ⟨a, ys, rfl, t, q⟩ := r.scr
    exact ⟨a, ys, rfl, .inl ⟨t, fun l hl => kq.tup g q h hl⟩⟩
  | _ =>
    obtain ⟨a, ys, rfl, t, q⟩ := r.items h1
    exact ⟨a, ys, rfl, .inl ⟨.of t, fun l hl => kq.tup g q h hl⟩⟩
theorem cv_list : CaV X W (fun xs H Q => ∃ p ys, xs = [.ref p] ∧ (SqL X.K H p ys ∨ SqT X.K H p ys) ∧ ∀ l, H l = none → Q (.ref l) (upd H l (.lst ys))) cList := by
  intro G ρ σ Hb H Qp Rp Q ps vs g gr r ⟨p, xs, e, h1, h⟩ kq kx
  subst e
  replace r := r.one; obtain ⟨v, rfl, r⟩ := r
  obtain ⟨a, ys, rfl, t, q⟩ := r.seq h1
  exact ⟨a, ys, rfl, t, fun l hl => kq.list g gr q h hl⟩
end

/-! ### isinstance -/
/-- what a value is: a built-in type by name, or an own class -/
def PV.kind : PV → Option (Sum String Addr)
  | .non => some (.inl "NoneType")
  | .bl _ => some (.inl "bool")
  | .int _ => some (.inl "int")
  | .str _ => some (.inl "str")
  | .tup _ => some (.inl "tuple")
  | .lst _ => some (.inl "list")
  | .new (.lst _) => some (.inl "list")
  | .own (.lst _) => some (.inl "list")
  | .obj C _ _ => some (.inr C)
  | _ => none
def kindV : Sum String Addr → Value
  | .inl n => .type n
  | .inr C => .ref C
/-- a class whose instances are told by their type -/
structure ObjC (K : PySem.W.Frag) (C : Addr) : Prop where
  ty : ∀ (H : Hp) (a dx : Addr) (fs : List (Str × V)), H a = some (.ins C dx fs) → TyX K H (.ref a) (.ref C)
theorem ERep.tyx {K : PySem.W.Frag} {Sa M : Addr → Prop} {H0 Hb H : Hp} {p : PV} {v : V} {k : Sum String Addr} (r : ERep K Sa M H0 Hb H p v) (h : p.kind = some k) (hC : ∀ C, k = .inr C → ObjC K C) : TyX K H v (kindV k) := by
  cases r with
  | s r =>
    cases r with
    | plain r =>
      cases r with
      | non => cases h; exact .base .non
      | bl => cases h; exact .base (.bl _)
      | int => cases h; exact .base (.int _)
      | str => cases h; exact .base (.str _)
      | tup e q =>
        cases h
        rcases e with (e | ⟨o, e⟩) | ⟨o, _, _, e, c, _⟩
        · exact .base (.tup (hide_sub _ _ e))
        · exact .fTuple (hide_sub _ _ e)
        · exact .kTuple e c
      | lst e q => cases h; exact .base (.lst (hide_sub _ _ e))
      | obj e l q => cases h; exact (hC _ rfl).ty _ _ _ _ (hide_sub _ _ e)
      | _ => cases h
    | own m n e f t => cases t with
      | lst q => cases h; exact .base (.lst f)
      | _ => cases h
    | st => cases h
  | new n e f t => cases t with
    | lst q => cases h; exact .base (.lst f)
    | _ => cases h
/-- isinstance(x, T): the answer by the kind -/
def wIsi (ans : Sum String Addr → Option Bool) (a : WEx) : WEx := fun ρ Q R => a ρ (fun p => ∃ k b, p.kind = some k ∧ ans k = some b ∧ Q (.bl b)) R
def ansTy (own : List Addr) (T : String) : Sum String Addr → Option Bool
  | .inl n => if n = T then some true else some (n == "bool" && T == "int")
  | .inr C => if C ∈ own then some false else none
def ansCls (own : List Addr) (C : Addr) : Sum String Addr → Option Bool
  | .inl _ => some false
  | .inr D => if D = C then some true else if D ∈ own then some false else none
/-- the built-in types a value may have -/
def kinds : List String := ["NoneType", "bool", "int", "str", "tuple", "list"]
theorem kind_in {p : PV} {n : String} (h : p.kind = some (.inl n)) : n ∈ kinds := by
  unfold PV.kind at h
  split at h <;> first | (cases h; decide) | cases h
section
variable {X : Cx} {W : WX} {pos p : Pos} {e c : Expr} {wa : WEx}
theorem ve_isi {ans : Sum String Addr → Option Bool} {vc : V} {u : Value} (hg : Gl X "isinstance") (hm : X.mg "isinstance" = none) (ha : VE X W e wa) (hc : PE X c (tC vc)) (hcl : ClsV vc u)
    (hC : ∀ C b, ans (.inr C) = some b → ObjC X.K C ∧ PySem.W.kitOne X.K (.ref C) u = some b) (hk : ∀ n b, n ∈ kinds → ans (.inl n) = some b → PySem.W.kitOne X.K (.type n) u = some b)
    (hs : starEach [e, c] X.env = (false, eval e X.env) :: starEach [c] X.env := by rfl) (hs2 : starEach [c] X.env = (false, eval c X.env) :: starEach [] X.env := by rfl) (hpl : (backTo pos (starEach [c] X.env)).any (·.1) = false := by rfl) : VE X W (.Call (.Name "isinstance" p) [e, c] [] pos) (wIsi ans wa) := by
  refine ⟨PE.imp (pe_callB (id := "isinstance") (r := rIsi X.K) call_isi hg hm (by decide +kernel) (pa_cons ha.pe (pa_cons hc pa_nil hs2) hs) (by decide) (by decide) hs hpl) fun σ H Q h => ?_⟩
  obtain ⟨G, ρ, Qp, Rp, g, hw, kq, kx⟩ := h
  refine ⟨G, ρ, _, Rp, g, hw, fun q v H1 s1 g1 r1 h1 => ?_, kx⟩
  obtain ⟨k, b, e1, e2, h2⟩ := h1
  show rIsi X.K [v, vc] H1 Q
  refine ⟨v, vc, kindV k, u, b, rfl, hcl, r1.tyx e1 (fun C z => ?_), ?_, (kq.step s1).bl g1 h2⟩
  · subst z
    exact (hC C b e2).1
  · cases k with
    | inl n => exact hk n b (kind_in e1) e2
    | inr C => exact (hC C b e2).2
/-- isinstance(x, T), T a built-in type -/
theorem ve_isiT (own : List Addr) {T : Str} {Ts : String} {pt : Pos} (hg : Gl X "isinstance") (hm : X.mg "isinstance" = none) (ha : VE X W e wa) (hgT : Gl X T) (hmT : X.mg T = none) (hvT : bootBuiltins T = some (.type Ts))
    (hC : ∀ C ∈ own, ObjC X.K C ∧ PySem.W.kitOne X.K (.ref C) (.type Ts) = some false) (hk : kinds.all (fun n => decide (PySem.W.kitOne X.K (.type n) (.type Ts) = if n = Ts then some true else some (n == "bool" && Ts == "int"))) = true)
    (hn : T ≠ "__name__" := by decide) (hdb : (T == ("__debug__" : Str)) = false := by decide)
    (hs : starEach [e, .Name T pt] X.env = (false, eval e X.env) :: starEach [.Name T pt] X.env := by rfl) (hs2 : starEach [.Name T pt] X.env = (false, eval (.Name T pt) X.env) :: starEach [] X.env := by rfl) (hpl : (backTo pos (starEach [.Name T pt] X.env)).any (·.1) = false := by rfl) : VE X W (.Call (.Name "isinstance" p) [e, .Name T pt] [] pos) (wIsi (ansTy own Ts) wa) := by
  refine ve_isi (vc := .ty Ts) (u := .type Ts) hg hm ha (pe_bltn hgT hmT hvT rfl hn hdb) (.ty Ts) (fun C b h => ?_) (fun n b hn h => ?_) hs hs2 hpl
  · unfold ansTy at h
    dsimp only at h
    split at h
    · rename_i hm
      cases h
      exact hC C hm
    · cases h
  · have q := of_decide_eq_true (List.all_eq_true.mp hk n hn)
    rw [q]
    exact h
/-- isinstance(x, C), C an own class -/
theorem ve_isiC (own : List Addr) {T : Str} {C : Addr} {pt : Pos} (hg : Gl X "isinstance") (hm : X.mg "isinstance" = none) (ha : VE X W e wa) (hgT : Gl X T) (hmT : X.mg T = some (.ref C)) (hO : ObjC X.K C) (hself : PySem.W.kitOne X.K (.ref C) (.ref C) = some true)
    (hC : ∀ D ∈ own, ObjC X.K D ∧ PySem.W.kitOne X.K (.ref D) (.ref C) = some false) (hk : kinds.all (fun n => decide (PySem.W.kitOne X.K (.type n) (.ref C) = some false)) = true)
    (hdb : (T == ("__debug__" : Str)) = false := by decide)
    (hs : starEach [e, .Name T pt] X.env = (false, eval e X.env) :: starEach [.Name T pt] X.env := by rfl) (hs2 : starEach [.Name T pt] X.env = (false, eval (.Name T pt) X.env) :: starEach [] X.env := by rfl) (hpl : (backTo pos (starEach [.Name T pt] X.env)).any (·.1) = false := by rfl) : VE X W (.Call (.Name "isinstance" p) [e, .Name T pt] [] pos) (wIsi (ansCls own C) wa) := by
  refine ve_isi (vc := .ref C) (u := .ref C) hg hm ha (pe_glob hgT hmT rfl hdb) (.own C) (fun D b h => ?_) (fun n b hn h => ?_) hs hs2 hpl
  · unfold ansCls at h
    dsimp only at h
    split at h
    · rename_i hm
      cases h
      subst hm
      exact ⟨hO, hself⟩
    · split at h
      · rename_i hm
        cases h
        exact hC D hm
      · cases h
  · have q := of_decide_eq_true (List.all_eq_true.mp hk n hn)
    cases h
    exact q
end

/-! ### subscripts -/
def oIx : PV → PV → PQ → XQ → Prop := fun x y Q _ => match x, y with
  | .str z, .int i => z.length ≤ sizeLine ∧ ∃ c, atI z.cps.toList i = some c ∧ Q (.str ⟨#[c]⟩)
  | x, .int i => ∃ ps p, x.seq = some ps ∧ atI ps i = some p ∧ Q p
  | _, _ => False
theorem ixN_lt {n : Nat} {i : Int} {j : Nat} (h : ixN n i = some j) : j < n := (ixN_seq h).2.1
theorem Reps.atI {K : PySem.W.Frag} {H : Hp} {ps : List PV} {vs : List V} {i : Int} {p : PV} (r : Reps K H ps vs) (h : atI ps i = some p) : ∃ v, L2.atI vs i = some v ∧ Rep K H p v := by
  unfold L2.atI at h ⊢
  rw [← r.length]
  cases e : ixN ps.length i with
  | none => rw [e] at h; cases h
  | some j =>
    rw [e] at h
    exact r.get h
section
variable {X : Cx} {W : WX} {pos : Pos} {a b : Expr} {wa wb : WEx}
theorem ov_ix : OpV X W (rIx X.K) oIx := by
  intro G ρ σ Hb H Qp Rp Q x y v u g gr rx ry h kq kx
  unfold oIx at h
  split at h
  · obtain ⟨h1, c, h2, h⟩ := h
    cases rx.str; cases ry.int
    exact .inr (.inr ⟨_, _, c, rfl, rfl, h1, h2, kq.str g h⟩)
  · obtain ⟨ps, p, e1, e2, h⟩ := h
    cases ry.int
    obtain ⟨a, ys, rfl, t, q⟩ := rx.seq e1
    obtain ⟨w, e3, r⟩ := q.atI e2
    rcases t with t | t
    · exact .inl ⟨a, ys, _, w, rfl, rfl, t, e3, kq.at g r h⟩
    · exact .inr (.inl ⟨a, ys, _, w, rfl, rfl, t, e3, kq.at g r h⟩)
  · exact h.elim
theorem ve_ix (ha : VE X W a wa) (hb : VE X W b wb) (hs : PlainIx b) : VE X W (.Subscript a b pos) (wOp oIx wa wb) := ⟨PE.imp (pe_ix ix_seq ha.pe hb.pe hs) fun _ _ _ h => lft_op ov_ix h⟩
end
def cutP (xs : List PV) (lo hi : Option Int) : List PV := (xs.drop (HT.sIx xs.length 0 lo)).take (HT.sIx xs.length xs.length hi - HT.sIx xs.length 0 lo)
theorem Reps.cut {K : PySem.W.Frag} {H : Hp} {ps : List PV} {vs : List V} (r : Reps K H ps vs) (lo hi : Option Int) : Reps K H (cutP ps lo hi) (cutV vs lo hi) := by
  unfold cutP cutV
  rw [← r.length]
  exact (r.drop _).take _
abbrev WPt := PEnv → (Option Int → Prop) → XQ → Prop
def wPn : WPt := fun _ Q _ => Q none
def wPs (a : WEx) : WPt := fun ρ Q R => a ρ (fun x => match x with | .int i => Q (some i) | _ => False) R
structure VP (X : Cx) (W : WX) (e : Option Expr) (w : WPt) : Prop where
  po : PO X e fun σ H Q => ∃ G ρ Qp Rp, Good X.K G ρ σ H ∧ w ρ Qp Rp ∧ (∀ b H', Step G ρ σ H H' → Good X.K G ρ σ H' → Qp b → Q b H') ∧ KX X.K W G ρ σ H Rp
theorem PO.imp {X : Cx} {e : Option Expr} {t t' : TO} (h : PO X e t) (i : ∀ σ H Q, t' σ H Q → t σ H Q) : PO X e t' := ⟨fun pins s σ H Q I q => h.run pins s σ H Q I (i σ H Q q)⟩
def oSl : PV → Option Int → Option Int → PQ → Prop := fun x lo hi Q => match x with
  | .str z => z.length ≤ sizeLine ∧ Q (.str (cutS z lo hi))
  | .tup ps => Q (.tup (cutP ps lo hi))
  | .scr ps => Q (.new (.lst (cutP ps lo hi)))
  | x => ∃ ps, x.items = some ps ∧ Q (.new (.lst (cutP ps lo hi)))
def wSl (a : WEx) (l h : WPt) : WEx := fun ρ Q R => a ρ (fun x => l ρ (fun lo => h ρ (fun hi => oSl x lo hi Q) R) R) R
def rSlV (K : PySem.W.Frag) : V → Option Int → Option Int → Hp → VK → Prop := fun x lo hi H Q => rSlA K x lo hi H Q ∨ (rSlL K x lo hi H Q ∨ rSlS x lo hi H Q)
theorem cutP_whole {xs : List PV} {lo hi : Option Int} (h : HT.sIx xs.length 0 lo = 0 ∧ HT.sIx xs.length xs.length hi = xs.length) : cutP xs lo hi = xs := by
  unfold cutP
  rw [h.1, h.2, List.drop_zero, Nat.sub_zero, List.take_length]
section
variable {X : Cx} {W : WX} {pos p2 : Pos} {a : Expr} {lo hi : Option Expr} {wa wb : WEx} {wl wh : WPt}
theorem vp_none : VP X W none wPn := ⟨PO.imp po_none fun σ H Q ⟨G, ρ, Qp, Rp, g, hw, kq, kx⟩ => kq _ _ .refl g hw⟩
theorem vp_some {e : Expr} (h : VE X W e wa) : VP X W (some e) (wPs wa) := ⟨PO.imp (po_some h.pe) fun σ H Q ⟨G, ρ, Qp, Rp, g, hw, kq, kx⟩ => ⟨G, ρ, _, Rp, g, hw, fun p v H1 s1 g1 r1 h1 => by
  dsimp only at h1
  split at h1
  · cases r1.int
    exact ⟨_, rfl, kq _ _ s1 g1 h1⟩
  · exact h1.elim, kx⟩⟩
theorem ve_slice (ha : VE X W a wa) (hl : VP X W lo wl) (hh : VP X W hi wh) : VE X W (.Subscript a (.Slice lo hi none p2) pos) (wSl wa wl wh) := by
  refine ⟨PE.imp (pe_slice (r := rSlV X.K) (sl_tupA.or (sl_list.or sl_str)) ha.pe hl.po hh.po) fun σ H Q ⟨G, ρ, Qp, Rp, g, hw, kq, kx⟩ => ?_⟩
  refine ⟨G, ρ, _, Rp, g, hw, fun x v H1 s1 g1 r1 h1 => ?_, kx⟩
  refine ⟨G, ρ, _, Rp, g1, h1, fun l H2 s2 g2 h2 => ?_, kx.step s1⟩
  refine ⟨G, ρ, _, Rp, g2, h2, fun u H3 s3 g3 h3 => ?_, kx.step (s1.trans s2)⟩
  have s12 := s1.trans s2
  have s13 := s12.trans s3
  have r3 := r1.mono (s2.trans s3)
  unfold oSl at h3
  split at h3
  · cases r3.str
    exact .inr (.inr ⟨_, rfl, h3.1, (kq.step s13).str g3 h3.2⟩)
  · obtain ⟨a, xs, rfl, t, t', q⟩ := r3.tup
    refine .inl ⟨a, xs, rfl, t, fun e => ?_, fun e p hp => (kq.step s13).tup g3 (q.cut l u) h3 hp⟩
    rw [← q.length] at e
    rw [cutP_whole e] at h3
    exact (kq.step s13).at g3 (.tup t' q) h3
  · obtain ⟨a, xs, rfl, t, q⟩ := r3.scr
    exact .inr (.inl ⟨a, xs, rfl, t, fun p hp => (kq.step s13).list g3 (s13.gr g3) (q.cut l u) h3 hp⟩)
  · obtain ⟨ps, e, h⟩ := h3
    obtain ⟨a, xs, rfl, t, q⟩ := r3.items e
    exact .inr (.inl ⟨a, xs, rfl, .of t, fun p hp => (kq.step s13).list g3 (s13.gr g3) (q.cut l u) h hp⟩)
end
end L3

/-! Values without the heap: defs, statements. -/
namespace L3
open PySem PySem.Spec L2

/-! ### what a def promises -/
inductive Args (K : PySem.W.Frag) (S : Addr → Prop) (H : Hp) : List PV → List V → Prop
  | nil : Args K S H [] []
  | cons {p : PV} {v : V} {ps : List PV} {vs : List V} : Rep K H p v → Args K S H ps vs → Args K S H (p :: ps) (v :: vs)
  | st {a : Addr} {ps : List PV} {vs : List V} : S a → Args K S H ps vs → Args K S H (.st :: ps) (.ref a :: vs)
def isSt : PV → Bool
  | .st => true
  | _ => false
def noSt : List PV → Bool
  | [] => true
  | p :: r => !isSt p && noSt r
def stOnce : List PV → Bool
  | [] => true
  | p :: r => if isSt p then noSt r else stOnce r
theorem noSt_get : ∀ {ps : List PV} {i : Nat}, noSt ps = true → ps[i]? = some .st → False
  | [], _, _, h => by simp at h
  | p :: r, 0, h, e => by
    simp at e
    subst e
    simp [noSt, isSt] at h
  | p :: r, i + 1, h, e => by
    simp [noSt] at h
    exact noSt_get (i := i) h.2 (by simpa using e)
theorem stOnce_get : ∀ {ps : List PV} {i j : Nat}, stOnce ps = true → ps[i]? = some .st → ps[j]? = some .st → i = j
  | [], _, _, _, h, _ => by simp at h
  | p :: r, 0, 0, _, _, _ => rfl
  | p :: r, 0, j + 1, h, e1, e2 => by
    simp at e1
    subst e1
    exact (noSt_get (ps := r) (i := j) (by simpa [stOnce, isSt] using h) (by simpa using e2)).elim
  | p :: r, i + 1, 0, h, e1, e2 => by
    simp at e2
    subst e2
    exact (noSt_get (ps := r) (i := i) (by simpa [stOnce, isSt] using h) (by simpa using e1)).elim
  | p :: r, i + 1, j + 1, h, e1, e2 => by
    have h2 : stOnce r = true := by
      unfold stOnce at h
      split at h
      · exact (noSt_get (ps := r) (i := i) h (by simpa using e1)).elim
      · exact h
    rw [stOnce_get (ps := r) (i := i) (j := j) h2 (by simpa using e1) (by simpa using e2)]
inductive RetRep (K : PySem.W.Frag) (M : Addr → Prop) (H0 H : Hp) : PV → V → Prop
  | plain {p : PV} {v : V} : Rep K (hide M H) p v → RetRep K M H0 H p v
  | new {p : PV} {a : Addr} {o : HO} : ¬ M a → H0 a = none → H a = some o → Top K (hide (fun b => M b ∨ b = a) H) p o → RetRep K M H0 H (.new p) (.ref a)
def NS (N S : Addr → Prop) : Addr → Prop := fun b => N b ∨ S b
structure RetOk (K : PySem.W.Frag) (G : Gd) (H : Hp) (p : PV) (v : V) : Prop where
  fr : ∀ b o, ¬ G.S b → G.H0 b = some o → H b = some o
  st : ∀ b, G.S b → StOk H b
  rep : RetRep K (NS G.N G.S) G.H0 H p v
structure ExOk (K : PySem.W.Frag) (G : Gd) (H : Hp) (x : EX) (cls : Value) (d : Option Addr) : Prop where
  fr : ∀ b o, ¬ G.S b → G.H0 b = some o → H b = some o
  st : ∀ b, G.S b → StOk H b
  rep : XRep K (NS G.N G.S) H x cls d
def spL (K : PySem.W.Frag) (n : Nat) (fs : FS) : Sp := fun vs H Q E => vs.length = n ∧ ∃ (N S : Addr → Prop) (ps : List PV) (Qp : PQ) (Rp : XQ), (∀ b, N b → ¬ S b ∧ ∃ o, H b = some o) ∧ (∀ b, S b → StOk H b) ∧
  Args K S (hide (NS N S) H) ps vs ∧ (∀ i j : Nat, ps[i]? = some .st → ps[j]? = some .st → i = j) ∧ fs ps Qp Rp ∧ (∀ p v H', RetOk K ⟨N, S, H⟩ H' p v → Qp p → Q v H') ∧ (∀ x cls d H', ExOk K ⟨N, S, H⟩ H' x cls d → Rp x → E cls d H')
/-- what an argument is for the def called -/
def argP : PV → Option PV
  | .new p => some p
  | .own _ => none
  | p => some p
def argPs : List PV → Option (List PV)
  | [] => some []
  | p :: r => match argP p, argPs r with
    | some q, some qs => some (q :: qs)
    | _, _ => none
theorem argPs_cons {p : PV} {r qs : List PV} (h : argPs (p :: r) = some qs) : ∃ q qs', argP p = some q ∧ argPs r = some qs' ∧ qs = q :: qs' := by
  simp only [argPs] at h
  split at h
  · rename_i q qs' e1 e2
    cases h
    exact ⟨q, qs', e1, e2, rfl⟩
  · cases h
section
variable {K : PySem.W.Frag} {G : Gd} {ρ : PEnv} {σ : St} {Hb H H' : Hp}
/-- the drawn states among the arguments -/
def stA (ps : List PV) (vs : List V) (a : Addr) : Prop := ∃ i : Nat, ps[i]? = some .st ∧ vs[i]? = some (.ref a)
theorem ERep.arg {p q : PV} {v : V} (r : ERep K (SA G ρ σ) (MA G ρ σ) G.H0 Hb H p v) (h : argP p = some q) : (q = .st ∧ p = .st ∧ ∃ a, v = .ref a) ∨ Rep K (hide (MA G ρ σ) H) q v := by
  cases r with
  | s r =>
    cases r with
    | @plain p v r => cases r <;> (cases h; refine .inr ?_; constructor <;> assumption)
    | own => cases h
    | st => cases h; exact .inl ⟨rfl, rfl, _, rfl⟩
  | new n e f t => cases h; exact .inr ((t.mono (hide_anti fun _ z => .inl z)).rep (hide_some.mpr ⟨n, f⟩))
theorem EReps.stA_sa : ∀ {ps qs : List PV} {vs : List V}, EReps K (SA G ρ σ) (MA G ρ σ) G.H0 Hb H ps vs → argPs ps = some qs → ∀ {a : Addr}, stA qs vs a → SA G ρ σ a
  | _, _, _, .nil, h, a, ⟨i, h1, _⟩ => by
    simp only [argPs] at h
    cases h
    simp at h1
  | _, _, _, .cons r t, h, a, ⟨i, h1, h2⟩ => by
    obtain ⟨q, qs', e1, e2, rfl⟩ := argPs_cons h
    cases i with
    | zero =>
      simp at h1 h2
      subst h1
      subst h2
      cases r with
      | s r =>
        cases r with
        | plain r => cases r <;> cases e1
        | own => cases e1
        | st h => exact h
      | new n e f t => cases e1; cases t
    | succ i => exact EReps.stA_sa t e2 ⟨i, by simpa using h1, by simpa using h2⟩
theorem EReps.args {S : Addr → Prop} {H2 : Hp} (s : Same (hide (MA G ρ σ) H) H2) : ∀ {ps qs : List PV} {vs : List V}, EReps K (SA G ρ σ) (MA G ρ σ) G.H0 Hb H ps vs → argPs ps = some qs → (∀ a, stA qs vs a → S a) → Args K S H2 qs vs
  | _, _, _, .nil, h, _ => by simp only [argPs] at h; cases h; exact .nil
  | _, _, _, .cons r t, h, hS => by
    obtain ⟨q, qs', e1, e2, rfl⟩ := argPs_cons h
    have ih := EReps.args s t e2 fun a ⟨i, z1, z2⟩ => hS a ⟨i + 1, by simpa using z1, by simpa using z2⟩
    rcases r.arg e1 with ⟨rfl, rfl, a, rfl⟩ | q
    · exact .st (hS a ⟨0, rfl, rfl⟩) ih
    · exact .cons (q.mono s) ih
theorem argPs_len : ∀ {ps qs : List PV}, argPs ps = some qs → qs.length = ps.length
  | [], _, h => by simp only [argPs] at h; cases h; rfl
  | p :: r, _, h => by
    obtain ⟨q, qs', e1, e2, rfl⟩ := argPs_cons h
    rw [List.length_cons, List.length_cons, argPs_len e2]
/-- a call of a def -/
def oFn (n : Nat) (fs : FS) : List PV → PQ → XQ → Prop := fun ps Q R => ps.length = n ∧ ∃ qs, argPs ps = some qs ∧ stOnce qs = true ∧ fs qs Q R
theorem lft_fn {W : WX} {n : Nat} {fs : FS} {Qp : PQ} {Rp : XQ} {Q : VK} {ps : List PV} {vs : List V} (g : Good K G ρ σ H) (gr : Gr Hb H) (r : EReps K (SA G ρ σ) (MA G ρ σ) G.H0 Hb H ps vs) (h : oFn n fs ps Qp Rp) (kq : KQ K G ρ σ Hb H Qp Q) (kx : KX K W G ρ σ H Rp) :
    spL K n fs vs H Q fun cls d H' => W cls d σ H' := by
  obtain ⟨hn, qs, e, ho, h⟩ := h
  have hsa : ∀ {a : Addr}, stA qs vs a → SA G ρ σ a := fun {a} z => r.stA_sa e z
  have hma : ∀ b, NS (fun b => MA G ρ σ b ∧ ¬ stA qs vs b) (stA qs vs) b → MA G ρ σ b := fun b z => z.elim (·.1) fun y => (hsa y).ma
  have ham : ∀ b, MA G ρ σ b → NS (fun b => MA G ρ σ b ∧ ¬ stA qs vs b) (stA qs vs) b := fun b z => by
    by_cases y : stA qs vs b
    · exact .inr y
    · exact .inl ⟨z, y⟩
  have hst : ∀ {H'}, (∀ b o, ¬ stA qs vs b → H b = some o → H' b = some o) → Step G ρ σ H H' := fun {H'} f b o z y => f b o (fun w => z (hsa w)) y
  have hg : ∀ {H'}, (∀ b o, ¬ stA qs vs b → H b = some o → H' b = some o) → (∀ b, stA qs vs b → StOk H' b) → Good K G ρ σ H' := fun {H'} f s => g.step (hst f) fun a z => by
    by_cases y : stA qs vs a
    · exact s a y
    · obtain ⟨i, j, e1, e2⟩ := g.sa a z
      exact ⟨i, j, f _ _ y e1, e2⟩
  refine ⟨by rw [← r.length]; exact hn, fun b => MA G ρ σ b ∧ ¬ stA qs vs b, stA qs vs, qs, Qp, Rp, fun b z => ⟨z.2, g.ma_some z.1⟩, fun b z => g.sa b (hsa z), r.args (hide_anti hma) e fun a z => z, fun i j e1 e2 => stOnce_get ho e1 e2, h, fun p v H' ⟨f, s, rr⟩ hq => ?_, fun x cls d H' ⟨f, s, rr⟩ hq => ?_⟩
  · refine kq p v H' (hst f) (hg f s) ?_ hq
    cases rr with
    | plain rr => exact .s (.plain (rr.mono (hide_anti ham)))
    | new _ e1 e2 t => exact .new (g.new e1) (gr _ e1) e2 (t.mono (hide_anti fun b z => z.elim (fun y => .inl (ham b y)) .inr))
  · refine kx x cls d H' (hst f) (hg f s) ⟨rr.1, fun f p e => ?_⟩ hq
    obtain ⟨dd, fs, v, e1, e2, e3, rp⟩ := rr.2 f p e
    exact ⟨dd, fs, v, e1, e2, e3, rp.mono (hide_anti ham)⟩
end
section
variable {X : Cx} {W : WX} {pos p : Pos} {e o : Expr} {es : List Expr} {wa : WAs} {wo : WEx} {x m : Str} {k i n : Nat} {f C : Addr} {fd : FuncData} {ps : List Str} {fs : FS}
theorem ve_fn (F : FnOk X.prog X.w X.K X.mg X.base (L2.CX X.prog X.w) k f fd ps (spL X.K n fs)) (hr : Room k X.A) (tk : Takes X W) (hg : Gl X x) (hm : X.mg x = some (.ref f)) (hk : PySem.W.keepIn X.K (.ref f) = true) (hb : Binds X.K fd ps []) (ha : VA X W (e :: es) wa)
    (hdb : (x == ("__debug__" : Str)) = false := by decide) (he : starEach (e :: es) X.env = (false, eval e X.env) :: starEach es X.env := by rfl) (hpl : (backTo pos (starEach es X.env)).any (·.1) = false := by rfl) : VE X W (.Call (.Name x p) (e :: es) [] pos) (wCall (oFn n fs) wa) :=
  ⟨PE.imp (pe_callS F hr hg hm hk hb (fun σ => passAt tk σ) ha.pa hdb he hpl) fun σ H Q ⟨G, ρ, Qp, Rp, g, hw, kq, kx⟩ => ⟨G, ρ, _, Rp, g, hw, fun ps vs H1 s1 g1 r1 h1 => lft_fn g1 (s1.gr g1) r1 h1 (kq.step s1) (kx.step s1), kx⟩⟩
/-- a def that a slot may hold -/
structure HeldF (P : Program) (w : World) (K : PySem.W.Frag) (mg : Str → Option Value) (base : Heap) (k : Nat) (f : Addr) (n : Nat) (fs : FS) : Prop where
  ex : ∃ (fd : FuncData) (ps : List Str), FnOk P w K mg base (L2.CX P w) k f fd ps (spL K n fs) ∧ PySem.W.keepIn K (.ref f) = true ∧ Binds K fd ps []
def wCallV (i : Nat) (S : Addr → Option (Nat × FS)) (a : WAs) : WEx := fun ρ Q R => ∃ f n fs, ρ[i]? = some (some (.adr f)) ∧ S f = some (n, fs) ∧ wCall (oFn n fs) a ρ Q R
theorem ve_fnV {S : Addr → Option (Nat × FS)} (A : ∀ f n fs, S f = some (n, fs) → HeldF X.prog X.w X.K X.mg X.base k f n fs) (hr : Room k X.A) (tk : Takes X W) (hN : X.N[i]? = some x) (hv : Vis X.env.scope x) (ha : VA X W (e :: es) wa)
    (hdb : (x == ("__debug__" : Str)) = false := by decide) (hcd : (x == ("__classdict__" : Str)) = false := by decide)
    (he : starEach (e :: es) X.env = (false, eval e X.env) :: starEach es X.env := by rfl) (hpl : (backTo pos (starEach es X.env)).any (·.1) = false := by rfl) : VE X W (.Call (.Name x p) (e :: es) [] pos) (wCallV i S wa) := by
  refine ⟨⟨fun pins s σ H Q I h => ?_⟩⟩
  obtain ⟨G, ρ, Qp, Rp, g, ⟨f, n, fs, e1, e2, hw⟩, kq, kx⟩ := h
  obtain ⟨fd, ps, F, hk, hb⟩ := (A f n fs e2).ex
  obtain ⟨v, e3, r⟩ := g.slot i _ e1
  cases r with
  | plain r =>
    cases r
    refine wpAny_Call_Name_kw (thn ((pe_var (pos := p) hN hv hdb hcd).run pins s σ H (fun v H1 => v = .ref f ∧ H1 = H) I ⟨.ref f, e3, rfl, rfl⟩) fun u s1 ⟨v, H1, I1, r1, q1⟩ => ?_)
    obtain ⟨rfl, rfl⟩ := q1
    cases r1
    refine PySem.W.callWith_K (h₀ := X.base) I.ok.mod.kin hk (thn (ha.pa.run pos pins s1 σ _ (fun vs H1 => spL X.K n fs vs H1 Q fun cls d H' => W cls d σ H') I1 ⟨G, ρ, _, Rp, g, hw, fun ps vs H1 s1 g1 r1 h1 => lft_fn g1 (s1.gr g1) r1 h1 (kq.step s1) (kx.step s1), kx⟩) fun us s2 ⟨vs, H2, I2, r, q⟩ => ⟨I2.kIn, ?_⟩) he hpl
    exact run_fnS (E := fun σ cls d H' => W cls d σ H') F hr hb (passAt tk σ) I2 r q
end

/-! ### statements -/
structure DE (K : PySem.W.Frag) (W : WX) (G : Gd) (Dp : PEnds) (D : Ends) : Prop where
  nx : ∀ ρ σ H, Good K G ρ σ H → Dp.nx ρ → D.nx σ H
  bk : ∀ ρ σ H, Good K G ρ σ H → Dp.bk ρ → D.bk σ H
  ct : ∀ ρ σ H, Good K G ρ σ H → Dp.ct ρ → D.ct σ H
  rt : ∀ p v H, RetOk K G H p v → Dp.rt p → D.rt v H
  ex : ∀ x cls d ρ σ H, Good K G ρ σ H → XRep K (MA G ρ σ) H x cls d → Dp.ex x ρ → W cls d σ H
def lftS (K : PySem.W.Frag) (W : WX) (w : WSt) : TS := fun D σ H => ∃ G ρ Dp, Good K G ρ σ H ∧ w Dp ρ ∧ DE K W G Dp D
structure VS (X : Cx) (W : WX) (st : Stmt) (w : WSt) : Prop where
  ps : PS X st (lftS X.K W w)
structure VSs (X : Cx) (W : WX) (st : List Stmt) (w : WSt) : Prop where
  pss : PSs X st (lftS X.K W w)
def wNext : WSt := fun D ρ => D.nx ρ
def wSeq (a b : WSt) : WSt := fun D ρ => a ⟨fun ρ' => b D ρ', D.rt, D.bk, D.ct, D.ex⟩ ρ
def wExpr (a : WEx) : WSt := fun D ρ => a ρ (fun _ => D.nx ρ) fun x => D.ex x ρ
def wIf (c : WTs) (a b : WSt) : WSt := fun D ρ => c ρ (fun k => if k = true then a D ρ else b D ρ) fun x => D.ex x ρ
/-- slot i holds what e gives -/
def wSet (i : Nat) (a : WEx) : WSt := fun D ρ => a ρ (fun p => p.gives = true ∧ D.nx (ρ.set i (some p.thaw))) fun x => D.ex x ρ
/-- .. a new list of its own -/
def wOwn (i : Nat) (a : WEx) : WSt := fun D ρ => a ρ (fun p => ∃ q, p = .new q ∧ D.nx (ρ.set i (some (.own q)))) fun x => D.ex x ρ
/-- .. the drawn state -/
def wStS (i : Nat) (a : WEx) : WSt := fun D ρ => a ρ (fun p => ∃ x y : Int, p = .new (.lst [.int x, .int y]) ∧ 0 ≤ x ∧ 0 ≤ y ∧ y < 2147483647 ∧ D.nx (ρ.set i (some .st))) fun x => D.ex x ρ
/-- what a def hands back -/
def retP : PV → Option PV
  | .own q => some (.new q)
  | .st => none
  | p => some p
def wRet (a : WEx) : WSt := fun D ρ => a ρ (fun p => ∃ q, retP p = some q ∧ D.rt q) fun x => D.ex x ρ
def wRetN : WSt := fun D _ => D.rt .non
def wBreak : WSt := fun D ρ => D.bk ρ
def wCont : WSt := fun D ρ => D.ct ρ
section
variable {K : PySem.W.Frag} {W : WX} {G : Gd} {ρ : PEnv} {σ : St} {Hb H H' : Hp} {Dp : PEnds} {D : Ends}
theorem DE.kx (d : DE K W G Dp D) : KX K W G ρ σ H fun x => Dp.ex x ρ := fun x cls dd H' _ g r h => d.ex x cls dd ρ σ H' g r h
theorem get_set_eq {α : Type} {l : List α} {i : Nat} {x y : α} (h : (l.set i x)[i]? = some y) : x = y := by
  by_cases hi : i < l.length
  · rw [List.getElem?_set_self hi] at h
    exact Option.some.inj h
  · rw [List.getElem?_eq_none (by rw [List.length_set]; omega)] at h
    cases h
theorem get_set_ne {α : Type} {l : List α} {i j : Nat} {x : α} (h : i ≠ j) : (l.set i x)[j]? = l[j]? := List.getElem?_set_ne h
theorem SRep.weak {Sa M Sa' M' : Addr → Prop} {H0 : Hp} (hS : ∀ a, Sa' a → Sa a) (hM : ∀ a, M' a → M a) {p : PV} {v : V} (hst : p = .st → ∀ a, v = .ref a → Sa' a) (hown : ∀ q, p = .own q → ∀ a, v = .ref a → M' a) : SRep K Sa M H0 H p v → SRep K Sa' M' H0 H p v
  | .plain r => .plain (r.mono (hide_anti hM))
  | .own m n h e t => .own (hown _ rfl _ rfl) (fun z => n (hS _ z)) h e (t.mono (hide_anti hM))
  | .st h => .st (hst rfl _ rfl)
theorem Good.sl_len (g : Good K G ρ σ H) {i : Nat} {p : PV} (h : ρ[i]? = some (some p)) : i < σ.length := by
  obtain ⟨h1, _⟩ := List.getElem?_eq_some_iff.mp h
  rw [← g.len]
  exact h1
/-- a plain value is stored -/
theorem Good.put (g : Good K G ρ σ H) {p : PV} {v : V} (r : Rep K (hide (MA G ρ σ) H) p v) (i : Nat) : Good K G (ρ.set i (some p)) (σ.set i (some v)) H := by
  have hp : isMut p = false := by cases r <;> rfl
  have back : ∀ {j : Nat} {q : PV}, (ρ.set i (some p))[j]? = some (some q) → isMut q = true → j ≠ i ∧ ρ[j]? = some (some q) := fun {j q} e m => by
    by_cases hj : j = i
    · subst hj
      have := get_set_eq e
      cases this
      rw [hp] at m; cases m
    · rw [get_set_ne (Ne.symm hj)] at e
      exact ⟨hj, e⟩
  have hSA : ∀ a, SA G (ρ.set i (some p)) (σ.set i (some v)) a → SA G ρ σ a := fun a z => by
    rcases z with z | ⟨j, e1, e2⟩
    · exact .inl z
    · obtain ⟨hj, e⟩ := back e1 rfl
      rw [get_set_ne (Ne.symm hj)] at e2
      exact .inr ⟨j, e, e2⟩
  have hMA : ∀ a, MA G (ρ.set i (some p)) (σ.set i (some v)) a → MA G ρ σ a := fun a z => by
    rcases z with z | z | ⟨j, q, e1, m, e2⟩
    · exact .inl z
    · exact .inr (.inl z)
    · obtain ⟨hj, e⟩ := back e1 m
      rw [get_set_ne (Ne.symm hj)] at e2
      exact .inr (.inr ⟨j, q, e, m, e2⟩)
  refine ⟨by rw [List.length_set, List.length_set]; exact g.len, g.fr, g.nn, fun a z => g.sa a (hSA a z), fun a z => g.sl a (hSA a z), fun j q e => ?_, fun j k q q' a e1 e2 m1 m2 f1 f2 => ?_⟩
  · by_cases hj : j = i
    · subst hj
      have h2 := get_set_eq e
      cases h2
      have hl : j < σ.length := by
        obtain ⟨h1, _⟩ := List.getElem?_eq_some_iff.mp e
        rw [List.length_set] at h1
        rw [← g.len]; exact h1
      exact ⟨v, List.getElem?_set_self hl, .plain (r.mono (hide_anti hMA))⟩
    · rw [get_set_ne (Ne.symm hj)] at e
      obtain ⟨u, e2, r2⟩ := g.slot j q e
      refine ⟨u, by rw [get_set_ne (Ne.symm hj)]; exact e2, r2.weak hSA hMA (fun z a y => ?_) fun q' z a y => ?_⟩
      · subst z; subst y
        exact .inr ⟨j, by rw [get_set_ne (Ne.symm hj)]; exact e, by rw [get_set_ne (Ne.symm hj)]; exact e2⟩
      · subst z; subst y
        exact .inr (.inr ⟨j, _, by rw [get_set_ne (Ne.symm hj)]; exact e, rfl, by rw [get_set_ne (Ne.symm hj)]; exact e2⟩)
  · obtain ⟨h1, e1⟩ := back e1 m1
    obtain ⟨h2, e2⟩ := back e2 m2
    rw [get_set_ne (Ne.symm h1)] at f1
    rw [get_set_ne (Ne.symm h2)] at f2
    exact g.inj j k q q' a e1 e2 m1 m2 f1 f2
theorem Good.h0_none (g : Good K G ρ σ H) {a : Addr} (h : H a = none) : G.H0 a = none := by
  cases e : G.H0 a with
  | none => rfl
  | some o =>
    by_cases z : G.S a
    · obtain ⟨_, _, q, _⟩ := g.sa a (.inl z)
      rw [h] at q; cases q
    · rw [g.fr a o z e] at h; cases h
/-- a new object is stored, to be changed: p is own q, or the drawn state -/
theorem Good.putNew (g : Good K G ρ σ H) (s : Step G ρ σ H H') (g' : Good K G ρ σ H') {p : PV} {a : Addr} (n : H a = none) (na : ¬ MA G ρ σ a) (i : Nat) (hi : i < ρ.length)
    (hp : (∃ q o, p = .own q ∧ H' a = some o ∧ Top K (hide (fun b => MA G ρ σ b ∨ b = a) H') q o) ∨ (p = .st ∧ StOk H' a)) : Good K G (ρ.set i (some p)) (σ.set i (some (.ref a))) H' := by
  have hil : i < σ.length := by rw [← g.len]; exact hi
  have hm : isMut p = true := by
    rcases hp with ⟨q, o, rfl, _⟩ | ⟨rfl, _⟩ <;> rfl
  have h0 := g.h0_none n
  have nS : ¬ G.S a := fun z => na (.inr (.inl z))
  have hSA : ∀ b, SA G (ρ.set i (some p)) (σ.set i (some (.ref a))) b → SA G ρ σ b ∨ (p = .st ∧ b = a) := fun b z => by
    rcases z with z | ⟨j, e1, e2⟩
    · exact .inl (.inl z)
    · by_cases hj : j = i
      · subst hj
        have h1 := get_set_eq e1
        have h2 := get_set_eq e2
        cases h1; cases h2
        exact .inr ⟨rfl, rfl⟩
      · rw [get_set_ne (Ne.symm hj)] at e1 e2
        exact .inl (.inr ⟨j, e1, e2⟩)
  have hMA : ∀ b, MA G (ρ.set i (some p)) (σ.set i (some (.ref a))) b → MA G ρ σ b ∨ b = a := fun b z => by
    rcases z with z | z | ⟨j, q, e1, m, e2⟩
    · exact .inl (.inl z)
    · exact .inl (.inr (.inl z))
    · by_cases hj : j = i
      · subst hj
        have h2 := get_set_eq e2
        cases h2
        exact .inr rfl
      · rw [get_set_ne (Ne.symm hj)] at e1 e2
        exact .inl (.inr (.inr ⟨j, q, e1, m, e2⟩))
  -- what stood in the slots does not touch a
  have old : Same (hide (MA G ρ σ) H) (hide (MA G (ρ.set i (some p)) (σ.set i (some (.ref a)))) H') := fun b o z => by
    obtain ⟨z1, z2⟩ := hide_some.mp z
    refine hide_some.mpr ⟨fun y => ?_, s b o (fun y => z1 y.ma) z2⟩
    rcases hMA b y with y | y
    · exact z1 y
    · rw [y, n] at z2; cases z2
  have new : Same (hide (fun b => MA G ρ σ b ∨ b = a) H') (hide (MA G (ρ.set i (some p)) (σ.set i (some (.ref a)))) H') := hide_anti hMA
  have at_ : MA G (ρ.set i (some p)) (σ.set i (some (.ref a))) a := .inr (.inr ⟨i, p, List.getElem?_set_self hi, hm, List.getElem?_set_self hil⟩)
  refine ⟨by rw [List.length_set, List.length_set]; exact g.len, g'.fr, g.nn, fun b z => ?_, fun b z => ?_, fun j q e => ?_, fun j k q q' b e1 e2 m1 m2 f1 f2 => ?_⟩
  · rcases hSA b z with z | ⟨z1, z2⟩
    · exact g'.sa b z
    · subst z2
      rcases hp with ⟨q, o, y, _⟩ | ⟨_, y⟩
      · rw [z1] at y; cases y
      · exact y
  · rcases hSA b z with z | ⟨z1, z2⟩
    · exact g.sl b z
    · subst z2; exact .inr h0
  · by_cases hj : j = i
    · subst hj
      have h1 := get_set_eq e
      cases h1
      refine ⟨.ref a, List.getElem?_set_self hil, ?_⟩
      rcases hp with ⟨q', o, rfl, e3, t⟩ | ⟨rfl, y⟩
      · refine .own at_ (fun z => ?_) h0 e3 (t.mono new)
        rcases hSA a z with z | ⟨z1, _⟩
        · exact na z.ma
        · cases z1
      · exact .st (.inr ⟨j, List.getElem?_set_self hi, List.getElem?_set_self hil⟩)
    · rw [get_set_ne (Ne.symm hj)] at e
      obtain ⟨u, e2, r2⟩ := g.slot j q e
      refine ⟨u, by rw [get_set_ne (Ne.symm hj)]; exact e2, ?_⟩
      cases r2 with
      | plain r => exact .plain (r.mono old)
      | own m z1 z2 z3 t =>
        refine .own (.inr (.inr ⟨j, _, by rw [get_set_ne (Ne.symm hj)]; exact e, rfl, by rw [get_set_ne (Ne.symm hj)]; exact e2⟩)) (fun z => ?_) z2 (s _ _ z1 z3) (t.mono old)
        rcases hSA _ z with z | ⟨_, z⟩
        · exact z1 z
        · rw [z, n] at z3; cases z3
      | st z => exact .st (.inr ⟨j, by rw [get_set_ne (Ne.symm hj)]; exact e, by rw [get_set_ne (Ne.symm hj)]; exact e2⟩)
  · have dis : ∀ {j : Nat} {q : PV} {b : Addr}, j ≠ i → (ρ.set i (some p))[j]? = some (some q) → isMut q = true → (σ.set i (some (.ref a)))[j]? = some (some (.ref b)) → b ≠ a := fun {j q b} hj e m f z => by
      rw [get_set_ne (Ne.symm hj)] at e f
      exact na (by rw [← z]; exact .inr (.inr ⟨j, q, e, m, f⟩))
    by_cases hj : j = i
    · by_cases hk : k = i
      · rw [hj, hk]
      · subst hj
        have h2 := get_set_eq f1
        cases h2
        exact absurd rfl (dis hk e2 m2 f2)
    · by_cases hk : k = i
      · subst hk
        have h2 := get_set_eq f2
        cases h2
        exact absurd rfl (dis hj e1 m1 f1)
      · rw [get_set_ne (Ne.symm hj)] at e1 f1
        rw [get_set_ne (Ne.symm hk)] at e2 f2
        exact g.inj j k q q' b e1 e2 m1 m2 f1 f2
theorem hide_upd_in {M : Addr → Prop} {a : Addr} {o : HO} (m : M a) : hide M (upd H a o) = hide M H := by
  funext b
  unfold hide
  by_cases h : M b
  · rw [if_pos h, if_pos h]
  · rw [if_neg h, if_neg h, upd_ne (fun e => h (by rw [e]; exact m))]
/-- the object of slot i is changed -/
theorem Good.change (g : Good K G ρ σ H) {i : Nat} {q q' : PV} {a : Addr} {o : HO} (hi : ρ[i]? = some (some (.own q))) (hs : σ[i]? = some (some (.ref a))) (t : Top K (hide (MA G ρ σ) H) q' o) : Good K G (ρ.set i (some (.own q'))) σ (upd H a o) := by
  have hl : i < ρ.length := (List.getElem?_eq_some_iff.mp hi).1
  have ma : MA G ρ σ a := .inr (.inr ⟨i, _, hi, rfl, hs⟩)
  have na : ¬ SA G ρ σ a ∧ G.H0 a = none := by
    obtain ⟨v, e, r⟩ := g.slot i _ hi
    rw [hs] at e; cases e
    cases r with
    | plain r => cases r
    | own m n h e t => exact ⟨n, h⟩
  have get : ∀ {j : Nat} {p : PV}, (ρ.set i (some (.own q')))[j]? = some (some p) → (j = i ∧ p = .own q') ∨ (j ≠ i ∧ ρ[j]? = some (some p)) := fun {j p} e => by
    by_cases hj : j = i
    · subst hj
      have := get_set_eq e
      cases this
      exact .inl ⟨rfl, rfl⟩
    · rw [get_set_ne (Ne.symm hj)] at e
      exact .inr ⟨hj, e⟩
  have hSA : ∀ b, SA G (ρ.set i (some (.own q'))) σ b ↔ SA G ρ σ b := fun b => ⟨fun z => by
    rcases z with z | ⟨j, e1, e2⟩
    · exact .inl z
    · rcases get e1 with ⟨_, y⟩ | ⟨_, y⟩
      · cases y
      · exact .inr ⟨j, y, e2⟩, fun z => by
    rcases z with z | ⟨j, e1, e2⟩
    · exact .inl z
    · have hj : i ≠ j := fun y => by rw [← y, hi] at e1; cases e1
      exact .inr ⟨j, by rw [get_set_ne hj]; exact e1, e2⟩⟩
  have hMA : ∀ b, MA G (ρ.set i (some (.own q'))) σ b ↔ MA G ρ σ b := fun b => ⟨fun z => by
    rcases z with z | z | ⟨j, p, e1, m, e2⟩
    · exact .inl z
    · exact .inr (.inl z)
    · rcases get e1 with ⟨y, _⟩ | ⟨_, y⟩
      · subst y; exact .inr (.inr ⟨j, _, hi, rfl, e2⟩)
      · exact .inr (.inr ⟨j, p, y, m, e2⟩), fun z => by
    rcases z with z | z | ⟨j, p, e1, m, e2⟩
    · exact .inl z
    · exact .inr (.inl z)
    · by_cases hj : i = j
      · subst hj; exact .inr (.inr ⟨i, .own q', List.getElem?_set_self hl, rfl, e2⟩)
      · exact .inr (.inr ⟨j, p, by rw [get_set_ne hj]; exact e1, m, e2⟩)⟩
  have hh : Same (hide (MA G ρ σ) H) (hide (MA G (ρ.set i (some (.own q'))) σ) (upd H a o)) := fun b u z => by
    rw [← hide_upd_in (o := o) ma] at z
    exact hide_anti (fun b y => (hMA b).mp y) b u z
  have keep : ∀ {b : Addr} {u : HO}, b ≠ a → H b = some u → upd H a o b = some u := fun {b u} e z => by rw [upd_ne e]; exact z
  have sne : ∀ {b : Addr}, SA G ρ σ b → b ≠ a := fun {b} z e => na.1 (by rw [← e]; exact z)
  refine ⟨by rw [List.length_set]; exact g.len, fun b u n e => keep (fun z => by rw [z, na.2] at e; cases e) (g.fr b u n e), g.nn, fun b z => ?_, fun b z => g.sl b ((hSA b).mp z), fun j p e => ?_, fun j k p p' b e1 e2 m1 m2 f1 f2 => ?_⟩
  · obtain ⟨x, y, e1, e2⟩ := g.sa b ((hSA b).mp z)
    exact ⟨x, y, keep (sne ((hSA b).mp z)) e1, e2⟩
  · rcases get e with ⟨rfl, rfl⟩ | ⟨hj, e⟩
    · exact ⟨_, hs, .own ((hMA a).mpr ma) (fun z => na.1 ((hSA a).mp z)) na.2 upd_same (t.mono hh)⟩
    · obtain ⟨u, e2, r2⟩ := g.slot j p e
      refine ⟨u, e2, ?_⟩
      cases r2 with
      | plain r => exact .plain (r.mono hh)
      | own m z1 z2 z3 t2 =>
        refine .own ((hMA _).mpr m) (fun z => z1 ((hSA _).mp z)) z2 (keep (fun z => ?_) z3) (t2.mono hh)
        rw [z] at e2
        exact hj (g.inj j i _ _ a e hi rfl rfl e2 hs)
      | st z => exact .st ((hSA _).mpr z)
  · have up : ∀ {j : Nat} {p : PV}, (ρ.set i (some (.own q')))[j]? = some (some p) → isMut p = true → ∃ p', ρ[j]? = some (some p') ∧ isMut p' = true := fun {j p} e m => by
      rcases get e with ⟨rfl, _⟩ | ⟨_, e⟩
      · exact ⟨_, hi, rfl⟩
      · exact ⟨p, e, m⟩
    obtain ⟨p1, e1, m1⟩ := up e1 m1
    obtain ⟨p2, e2, m2⟩ := up e2 m2
    exact g.inj j k p1 p2 b e1 e2 m1 m2 f1 f2
end
end L3

/-! Values without the heap: statements. -/
namespace L3
open PySem PySem.Spec L2

section
variable {X : Cx} {W : WX} {pos : Pos} {e : Expr} {st : Stmt} {rest sts sts2 : List Stmt} {wa wb : WEx} {w w1 w2 : WSt} {wt : WTs} {K : PySem.W.Frag} {G : Gd} {ρ : PEnv} {σ : St} {Hb H H' : Hp} {Dp : PEnds} {D : Ends}
theorem vss_nil : VSs X W [] wNext := ⟨PSs.imp pss_nil fun D σ H ⟨G, ρ, Dp, g, hw, de⟩ => de.nx ρ σ H g hw⟩
theorem vss_cons (h1 : VS X W st w1) (h2 : VSs X W rest w2) : VSs X W (st :: rest) (wSeq w1 w2) :=
  ⟨PSs.imp (pss_cons h1.ps h2.pss) fun D σ H ⟨G, ρ, Dp, g, hw, de⟩ => ⟨G, ρ, ⟨fun ρ' => w2 Dp ρ', Dp.rt, Dp.bk, Dp.ct, Dp.ex⟩, g, hw, ⟨fun ρ' σ' H' g' h' => ⟨G, ρ', Dp, g', h', de⟩, de.bk, de.ct, de.rt, de.ex⟩⟩⟩
theorem vss_one (h1 : VS X W st w1) : VSs X W [st] w1 := ⟨PSs.imp (pss_one h1.ps) fun _ _ _ h => h⟩
theorem vs_pass : VS X W (.Pass pos) wNext := ⟨PS.imp ps_pass fun D σ H ⟨G, ρ, Dp, g, hw, de⟩ => de.nx ρ σ H g hw⟩
theorem vs_break : VS X W (.Break pos) wBreak := ⟨PS.imp ps_break fun D σ H ⟨G, ρ, Dp, g, hw, de⟩ => de.bk ρ σ H g hw⟩
theorem vs_continue : VS X W (.Continue pos) wCont := ⟨PS.imp ps_continue fun D σ H ⟨G, ρ, Dp, g, hw, de⟩ => de.ct ρ σ H g hw⟩
theorem vs_expr (he : VE X W e wa) (hs : swapsWith e none pos.line X.env = pure false := by rfl) : VS X W (.Expr e pos) (wExpr wa) :=
  ⟨PS.imp (ps_expr he.pe hs) fun D σ H ⟨G, ρ, Dp, g, hw, de⟩ => ⟨G, ρ, _, _, g, hw, fun p v H' s g' r h => de.nx ρ σ H' g' h, de.kx⟩⟩
theorem vs_if {c : Expr} (hc : VT X W c wt) (ha : VSs X W sts w1) (hb : VSs X W sts2 w2) : VS X W (.If c sts sts2 pos) (wIf wt w1 w2) :=
  ⟨PS.imp (ps_if hc.pt ha.pss hb.pss) fun D σ H ⟨G, ρ, Dp, g, hw, de⟩ => ⟨G, ρ, _, _, g, hw, fun b H' s g' h => by
    cases b with
    | true => exact ⟨G, ρ, Dp, g', h, de⟩
    | false => exact ⟨G, ρ, Dp, g', h, de⟩, de.kx⟩⟩
theorem ERep.ret {p q : PV} {v : V} (g : Good K G ρ σ H) (r : ERep K (SA G ρ σ) (MA G ρ σ) G.H0 Hb H p v) (hb : ∀ a, Hb a = none → G.H0 a = none) (h : retP p = some q) : RetOk K G H q v := by
  have hN : ∀ b, NS G.N G.S b → MA G ρ σ b := fun b z => z.elim .inl fun y => .inr (.inl y)
  refine ⟨g.fr, fun b z => g.sa b (.inl z), ?_⟩
  cases r with
  | s r =>
    cases r with
    | @plain p v r => cases r <;> (cases h; refine .plain (Rep.mono (hide_anti hN) ?_); constructor <;> assumption)
    | own m n e f t =>
      cases h
      refine .new (fun z => z.elim (fun y => by
        obtain ⟨_, o', q⟩ := g.nn _ y
        rw [e] at q; cases q) fun y => n (.inl y)) e f (t.mono (hide_anti fun b z => z.elim (hN b) fun y => ?_))
      rw [y]; exact m
    | st => cases h
  | new n e f t =>
    cases h
    exact .new (fun z => n (hN _ z)) (hb _ e) f (t.mono (hide_anti fun b z => z.elim (fun y => .inl (hN b y)) .inr))
theorem vs_ret (he : VE X W e wa) : VS X W (.Return (some e) pos) (wRet wa) :=
  ⟨PS.imp (ps_ret he.pe) fun D σ H ⟨G, ρ, Dp, g, hw, de⟩ => ⟨G, ρ, _, _, g, hw, fun p v H' s g' r ⟨q, h1, h2⟩ => de.rt q v H' (r.ret g' (fun a z => g.h0_none z) h1) h2, de.kx⟩⟩
theorem vs_retN : VS X W (.Return none pos) wRetN :=
  ⟨PS.imp ps_retN fun D σ H ⟨G, ρ, Dp, g, hw, de⟩ => de.rt .non .non H ⟨g.fr, fun b z => g.sa b (.inl z), .plain .non⟩ hw⟩
variable {i : Nat} {x : Str} {pos' : Pos}
theorem vs_set (he : VE X W e wa) (hN : X.N.Nodup) (hi : X.N[i]? = some x) (hx : Loc X.env.scope x) (hs : swapsWith e (some (.Name x pos')) pos.line X.env = pure false := by rfl) (hf : X.fn x = true ∨ X.env.scope.names.lookup x = some .local := by first | exact .inl rfl | exact .inr rfl | assumption) : VS X W (.Assign [.Name x pos'] e pos) (wSet i wa) :=
  ⟨PS.imp (ps_set hN hi hx he.pe hs hf) fun D σ H ⟨G, ρ, Dp, g, hw, de⟩ => ⟨G, ρ, _, _, g, hw, fun p v H' s g' r ⟨h1, h2⟩ => de.nx _ _ _ (g'.put (r.rep h1) i) h2, de.kx⟩⟩
theorem vs_own (he : VE X W e wa) (hN : X.N.Nodup) (hi : X.N[i]? = some x) (hx : Loc X.env.scope x) (hs : swapsWith e (some (.Name x pos')) pos.line X.env = pure false := by rfl) (hf : X.fn x = true ∨ X.env.scope.names.lookup x = some .local := by first | exact .inl rfl | exact .inr rfl | assumption) : VS X W (.Assign [.Name x pos'] e pos) (fun D ρ => i < ρ.length ∧ wOwn i wa D ρ) :=
  ⟨PS.imp (ps_set hN hi hx he.pe hs hf) fun D σ H ⟨G, ρ, Dp, g, ⟨hil, hw⟩, de⟩ => ⟨G, ρ, _, _, g, hw, fun p v H' s g' r ⟨q, h1, h2⟩ => by
    subst h1
    cases r with
    | s r => cases r with
      | plain r => cases r
    | new n e f t => exact de.nx _ _ _ (g.putNew s g' e n i hil (.inl ⟨q, _, rfl, f, t⟩)) h2, de.kx⟩⟩
theorem vs_stS (he : VE X W e wa) (hN : X.N.Nodup) (hi : X.N[i]? = some x) (hx : Loc X.env.scope x) (hs : swapsWith e (some (.Name x pos')) pos.line X.env = pure false := by rfl) (hf : X.fn x = true ∨ X.env.scope.names.lookup x = some .local := by first | exact .inl rfl | exact .inr rfl | assumption) : VS X W (.Assign [.Name x pos'] e pos) (fun D ρ => i < ρ.length ∧ wStS i wa D ρ) :=
  ⟨PS.imp (ps_set hN hi hx he.pe hs hf) fun D σ H ⟨G, ρ, Dp, g, ⟨hil, hw⟩, de⟩ => ⟨G, ρ, _, _, g, hw, fun p v H' s g' r ⟨j, k, h1, h0, h3, h4, h2⟩ => by
    subst h1
    cases r with
    | s r => cases r with
      | plain r => cases r
    | new n e f t =>
      cases t with
      | lst q =>
        cases q with
        | cons q1 q2 =>
          cases q2 with
          | cons q2 q3 =>
            cases q1; cases q2; cases q3
            exact de.nx _ _ _ (g.putNew s g' e n i hil (.inr ⟨rfl, _, _, f, h0, h3, h4⟩)) h2, de.kx⟩⟩

/-! ### targets -/
end
abbrev WTg := PV → PEnv → (PEnv → Prop) → Prop
abbrev WTgs := List PV → PEnv → (PEnv → Prop) → Prop
/-! a target: a name's slot, a tuple of targets -/
mutual
inductive TD where
  | name (i : Nat)
  | tup (n : Nat) (l : TDs)
inductive TDs where
  | nil
  | cons (a : TD) (l : TDs)
end
mutual
def tgT (K : PySem.W.Frag) : TD → TG
  | .name i => gName i
  | .tup n l => gTup K n (tgTs K l)
def tgTs (K : PySem.W.Frag) : TDs → TGs
  | .nil => gNil
  | .cons a l => gCons (tgT K a) (tgTs K l)
end
mutual
def tgW : TD → WTg
  | .name i => fun p ρ Q => Q (ρ.set i (some p))
  | .tup n l => fun p ρ Q => ∃ ps, p = .tup ps ∧ ps.length = n ∧ tgWs l ps ρ Q
def tgWs : TDs → WTgs
  | .nil => fun ps ρ Q => ps = [] ∧ Q ρ
  | .cons a l => fun ps ρ Q => ∃ p qs, ps = p :: qs ∧ tgW a p ρ fun ρ' => tgWs l qs ρ' Q
end
mutual
def tgS : TD → List Nat
  | .name i => [i]
  | .tup _ l => tgSs l
def tgSs : TDs → List Nat
  | .nil => []
  | .cons a l => tgS a ++ tgSs l
end
structure VG (X : Cx) (tg : Expr) (td : TD) : Prop where
  pg : PG X tg (tgT X.K td)
structure VGs (X : Cx) (tg : List Expr) (td : TDs) : Prop where
  pgs : PGs X tg (tgTs X.K td)
section
variable {K : PySem.W.Frag} {W : WX} {G : Gd} {ρ : PEnv} {σ : St} {Hb H H' : Hp} {Dp : PEnds} {D : Ends}
theorem MA.put {p : PV} {v : V} (hp : isMut p = false) {i : Nat} {a : Addr} (z : MA G (ρ.set i (some p)) (σ.set i (some v)) a) : MA G ρ σ a := by
  rcases z with z | z | ⟨j, q, e1, m, e2⟩
  · exact .inl z
  · exact .inr (.inl z)
  · by_cases hj : j = i
    · subst hj
      have := get_set_eq e1
      cases this
      rw [hp] at m; cases m
    · rw [get_set_ne (Ne.symm hj)] at e1 e2
      exact .inr (.inr ⟨j, q, e1, m, e2⟩)
theorem SA.put1 {p : PV} {v : V} (hp : isMut p = false) {i : Nat} {a : Addr} (z : SA G (ρ.set i (some p)) (σ.set i (some v)) a) : SA G ρ σ a := by
  rcases z with z | ⟨j, e1, e2⟩
  · exact .inl z
  · by_cases hj : j = i
    · subst hj
      have := get_set_eq e1
      cases this
      cases hp
    · rw [get_set_ne (Ne.symm hj)] at e1 e2
      exact .inr ⟨j, e1, e2⟩
theorem Rep.notMut {p : PV} {v : V} (r : Rep K H p v) : isMut p = false := by cases r <;> rfl
theorem wipe_set {σ : St} {i : Nat} {v : Option V} : ∀ {vs : List Nat}, i ∈ vs → wipe (σ.set i v) vs = wipe σ vs
  | [], h => by cases h
  | j :: vs, h => by
    show (wipe (σ.set i v) vs).set j none = (wipe σ vs).set j none
    by_cases hj : i ∈ vs
    · rw [wipe_set hj]
    · have e : i = j := by
        rcases List.mem_cons.mp h with h | h
        · exact h
        · exact absurd h hj
      subst e
      apply List.ext_getElem?
      intro k
      by_cases hk : k = i
      · subst hk
        by_cases hl : k < σ.length
        · rw [List.getElem?_set_self (by rw [wipe_length, List.length_set]; exact hl), List.getElem?_set_self (by rw [wipe_length]; exact hl)]
        · rw [List.getElem?_eq_none (by rw [List.length_set, wipe_length, List.length_set]; omega), List.getElem?_eq_none (by rw [List.length_set, wipe_length]; omega)]
      · rw [List.getElem?_set_ne (Ne.symm hk), List.getElem?_set_ne (Ne.symm hk)]
        -- the slot k is not i
        have gen : ∀ {vs : List Nat} {τ : St}, (wipe (τ.set i v) vs)[k]? = (wipe τ vs)[k]? := by
          intro vs
          induction vs with
          | nil => intro τ; exact List.getElem?_set_ne (Ne.symm hk)
          | cons j vs ih =>
            intro τ
            show ((wipe (τ.set i v) vs).set j none)[k]? = ((wipe τ vs).set j none)[k]?
            by_cases hjk : j = k
            · subst hjk
              by_cases hl : j < τ.length
              · rw [List.getElem?_set_self (by rw [wipe_length, List.length_set]; exact hl), List.getElem?_set_self (by rw [wipe_length]; exact hl)]
              · rw [List.getElem?_eq_none (by rw [List.length_set, wipe_length, List.length_set]; omega), List.getElem?_eq_none (by rw [List.length_set, wipe_length]; omega)]
            · rw [List.getElem?_set_ne hjk, List.getElem?_set_ne hjk]
              exact ih
        exact gen
/-- what a store to targets leaves -/
structure Left (G : Gd) (M0 : Addr → Prop) (ws : List Nat) (ρ : PEnv) (σ : St) (ρ' : PEnv) (σ' : St) : Prop where
  ma : ∀ b, MA G ρ' σ' b → M0 b
  sa : ∀ b, SA G ρ' σ' b → SA G ρ σ b
  wipe : ∀ vs : List Nat, (∀ i ∈ ws, i ∈ vs) → L2.wipe σ' vs = L2.wipe σ vs
  mu : ∀ (j : Nat) (p : PV), ρ'[j]? = some (some p) → isMut p = true → ρ[j]? = some (some p)
  ma2 : (∀ i ∈ ws, ∀ p, ρ[i]? = some (some p) → isMut p = false) → ∀ b, MA G ρ σ b → MA G ρ' σ' b
mutual
theorem tg_ok : ∀ (td : TD) {ρ : PEnv} {σ : St} {p : PV} {v : V} {Qp : PEnv → Prop} {M0 : Addr → Prop} {Q : St → Hp → Prop}, Good K G ρ σ H → (∀ b, MA G ρ σ b → M0 b) → Rep K (hide M0 H) p v → tgW td p ρ Qp →
    (∀ ρ' σ', Good K G ρ' σ' H → Left G M0 (tgS td) ρ σ ρ' σ' → Qp ρ' → Q σ' H) → tgT K td v σ H Q
  | .name i, ρ, σ, p, v, Qp, M0, Q, g, hM, r, hw, k => by
    simp only [tgW] at hw
    simp only [tgT]
    exact k _ _ (g.put (r.mono (hide_anti hM)) i) ⟨fun b z => hM b (MA.put r.notMut z), fun b z => SA.put1 r.notMut z, fun vs h => wipe_set (h i (by simp [tgS])), fun j p' e m => by
      by_cases hj : j = i
      · subst hj
        have := get_set_eq e
        cases this
        rw [r.notMut] at m; cases m
      · rw [get_set_ne (Ne.symm hj)] at e
        exact e, fun h b z => by
      rcases z with z | z | ⟨j, q, e1, m, e2⟩
      · exact .inl z
      · exact .inr (.inl z)
      · have hj : i ≠ j := fun y => by
          rw [h i (by simp [tgS]) q (by rw [y]; exact e1)] at m
          cases m
        exact .inr (.inr ⟨j, q, by rw [get_set_ne hj]; exact e1, m, by rw [get_set_ne hj]; exact e2⟩)⟩ hw
  | .tup n l, ρ, σ, p, v, Qp, M0, Q, g, hM, r, hw, k => by
    simp only [tgW] at hw
    obtain ⟨ps, e, hl, hw⟩ := hw
    subst e
    simp only [tgT]
    cases r with
    | tup t rr => exact ⟨_, _, rfl, sqT_mono hide_sub t, by rw [← rr.length]; exact hl, tgs_ok l g hM rr hw fun ρ' σ' g' le h => k ρ' σ' g' ⟨le.ma, le.sa, fun vs h => le.wipe vs (by simpa [tgS] using h), le.mu, fun h => le.ma2 (by simpa [tgS] using h)⟩ h⟩
theorem tgs_ok : ∀ (td : TDs) {ρ : PEnv} {σ : St} {ps : List PV} {vs : List V} {Qp : PEnv → Prop} {M0 : Addr → Prop} {Q : St → Hp → Prop}, Good K G ρ σ H → (∀ b, MA G ρ σ b → M0 b) → Reps K (hide M0 H) ps vs → tgWs td ps ρ Qp →
    (∀ ρ' σ', Good K G ρ' σ' H → Left G M0 (tgSs td) ρ σ ρ' σ' → Qp ρ' → Q σ' H) → tgTs K td vs σ H Q
  | .nil, ρ, σ, ps, vs, Qp, M0, Q, g, hM, r, hw, k => by
    simp only [tgWs] at hw
    obtain ⟨e, hw⟩ := hw
    subst e
    cases r
    simp only [tgTs]
    exact ⟨rfl, k _ _ g ⟨hM, fun _ z => z, fun _ _ => rfl, fun _ _ e _ => e, fun _ _ z => z⟩ hw⟩
  | .cons a l, ρ, σ, ps, vs, Qp, M0, Q, g, hM, r, hw, k => by
    simp only [tgWs] at hw
    obtain ⟨p, qs, e, hw⟩ := hw
    subst e
    simp only [tgTs]
    cases r with
    | cons r rr => exact ⟨_, _, rfl, tg_ok a g hM r hw fun ρ' σ' g' le h => tgs_ok l g' le.ma rr h fun ρ2 σ2 g2 le2 h2 => k ρ2 σ2 g2 ⟨le2.ma, fun b z => le.sa b (le2.sa b z), fun vs hv => by
        simp only [tgSs, List.mem_append] at hv
        rw [le2.wipe vs fun i hi => hv i (.inr hi), le.wipe vs fun i hi => hv i (.inl hi)], fun j p e m => le.mu j p (le2.mu j p e m) m, fun h b z => by
        simp only [tgSs, List.mem_append] at h
        refine le2.ma2 (fun i hi p e => ?_) b (le.ma2 (fun i hi => h i (.inl hi)) b z)
        cases m : isMut p with
        | false => rfl
        | true => rw [h i (.inr hi) p (le.mu i p e m)] at m; cases m⟩ h2⟩
end
end
section
variable {X : Cx} {W : WX} {pos : Pos} {e : Expr} {es : List Expr} {i : Nat} {x : Str} {td : TD} {tds : TDs} {wa : WEx}
theorem vg_name (i : Nat) (hN : X.N.Nodup) (hi : X.N[i]? = some x := by rfl) (hx : Loc X.env.scope x := by first | exact .inl rfl | exact .inr rfl) (hf : X.fn x = true ∨ X.env.scope.names.lookup x = some .local := by first | exact .inl rfl | exact .inr rfl | assumption) : VG X (.Name x pos) (.name i) :=
  ⟨by simp only [tgT]; exact pg_name hN hi hx hf⟩
theorem vgs_nil : VGs X [] .nil := ⟨by simp only [tgTs]; exact pgs_nil⟩
theorem vgs_cons (h1 : VG X e td) (h2 : VGs X es tds) (hs : (assignEach (e :: es) X.env).map (·.2) = assign e X.env :: (assignEach es X.env).map (·.2) := by rfl) : VGs X (e :: es) (.cons td tds) :=
  ⟨by simp only [tgTs]; exact pgs_cons h1.pg h2.pgs hs⟩
theorem vg_tup {k n : Nat} (hc : X.calm = true) (h : VGs X es tds) (hn : (assignEach es X.env).length = n := by rfl) (hst : (assignEach es X.env).findIdx? (·.1) = none := by rfl) : VG X (.Tuple es k pos) (.tup n tds) :=
  ⟨by simp only [tgT]; exact pg_tup hc h.pgs hn hst⟩
def wAsg (a : WEx) (td : TD) : WSt := fun D ρ => a ρ (fun p => p.gives = true ∧ tgW td p.thaw ρ D.nx) fun x => D.ex x ρ
theorem vs_asg {tg : Expr} (he : VE X W e wa) (hg : VG X tg td) (hs : swapsWithSole [tg] e pos.line X.env = pure false := by rfl) (hw : swappedStores [tg] e X.env = pure none := by rfl) (h1 : (assignEach [tg] X.env).map (·.2) = [assign tg X.env] := by rfl) : VS X W (.Assign [tg] e pos) (wAsg wa td) :=
  ⟨PS.imp (ps_asg he.pe hg.pg hs hw h1) fun D σ H ⟨G, ρ, Dp, g, hw, de⟩ => ⟨G, ρ, _, _, g, hw, fun q v H' s g' r ⟨h1, h2⟩ => tg_ok td g' (fun _ z => z) (r.rep h1) h2 fun ρ' σ' g2 _ h3 => de.nx _ _ _ g2 h3, de.kx⟩⟩
end

/-! ### a, b = e, f -/
/-- values that hang on no heap -/
def PV.clean : PV → Bool
  | .non => true
  | .bl _ => true
  | .int _ => true
  | .str _ => true
  | .new (.lst []) => true
  | .new (.dk [] []) => true
  | .new (.dt [] []) => true
  | _ => false
def stored (m : Bool) (p : PV) : Option PV := match m, p with
  | true, .new q => some (.own q)
  | true, _ => none
  | false, p => if p.gives then some p.thaw else none
def noStAt (ρ : PEnv) (i : Nat) : Prop := ρ[i]? ≠ some (some .st)
section
variable {K : PySem.W.Frag} {W : WX} {G : Gd} {ρ : PEnv} {σ : St} {Hb H H' H1 H2 : Hp}
theorem Good.store (g : Good K G ρ σ H) (s : Step G ρ σ H H') (g' : Good K G ρ σ H') {m : Bool} {p q : PV} {v : V} (r : ERep K (SA G ρ σ) (MA G ρ σ) G.H0 H H' p v) (h : stored m p = some q) (i : Nat) (hi : i < ρ.length) :
    Good K G (ρ.set i (some q)) (σ.set i (some v)) H' := by
  unfold stored at h
  split at h
  · cases h
    cases r with
    | s r => cases r with
      | plain r => cases r
    | new n e f t => exact g.putNew s g' e n i hi (.inl ⟨_, _, rfl, f, t⟩)
  · cases h
  · split at h
    · rename_i hg
      cases h
      exact g'.put (r.rep hg) i
    · cases h
theorem stored_mut {m : Bool} {p q : PV} {v : V} (r : ERep K (SA G ρ σ) (MA G ρ σ) G.H0 H H' p v) (h : stored m p = some q) : q ≠ .st ∧ (m = false → isMut q = false) := by
  unfold stored at h
  split at h
  · cases h
    constructor
    · intro z; cases z
    · intro z; cases z
  · cases h
  · split at h
    · rename_i hg
      cases h
      have := (r.rep hg).notMut
      constructor
      · intro z
        rw [z] at this
        cases this
      · intro _
        exact this
    · cases h
theorem SA.put {q : PV} {v : V} {i : Nat} (hq : q ≠ .st) (hn : noStAt ρ i) {a : Addr} : SA G (ρ.set i (some q)) (σ.set i (some v)) a ↔ SA G ρ σ a := by
  constructor
  · intro z
    rcases z with z | ⟨j, e1, e2⟩
    · exact .inl z
    · by_cases hj : j = i
      · subst hj
        have := get_set_eq e1
        cases this
        exact absurd rfl hq
      · rw [get_set_ne (Ne.symm hj)] at e1 e2
        exact .inr ⟨j, e1, e2⟩
  · intro z
    rcases z with z | ⟨j, e1, e2⟩
    · exact .inl z
    · by_cases hj : j = i
      · subst hj
        exact absurd e1 hn
      · exact .inr ⟨j, by rw [get_set_ne (Ne.symm hj)]; exact e1, by rw [get_set_ne (Ne.symm hj)]; exact e2⟩
theorem Step.put {q : PV} {v : V} {i : Nat} (hq : q ≠ .st) (hn : noStAt ρ i) (s : Step G ρ σ H H') : Step G (ρ.set i (some q)) (σ.set i (some v)) H H' := fun b o n e => s b o (fun z => n ((SA.put hq hn).mpr z)) e
theorem Good.later (g1 : Good K G ρ σ H) {q : PV} {v : V} {i : Nat} (hq : q ≠ .st) (hn : noStAt ρ i) (g : Good K G (ρ.set i (some q)) (σ.set i (some v)) H) (s : Step G ρ σ H H') (g' : Good K G ρ σ H') : Good K G (ρ.set i (some q)) (σ.set i (some v)) H' :=
  g.step (s.put hq hn) fun a z => g'.sa a ((SA.put hq hn).mp z)
/-- the value of the next part, seen from behind the store -/
theorem ERep.put {m : Bool} {q p2 : PV} {v v2 : V} {i : Nat} (hq : q ≠ .st) (hn : noStAt ρ i) (hm : m = false → isMut q = false) (hc : m = true → p2.clean = true) (g1 : Good K G (ρ.set i (some q)) (σ.set i (some v)) H1)
    (h2 : (stored false p2).isSome = true ∨ (stored true p2).isSome = true) (r : ERep K (SA G ρ σ) (MA G ρ σ) G.H0 H1 H2 p2 v2) : ERep K (SA G (ρ.set i (some q)) (σ.set i (some v))) (MA G (ρ.set i (some q)) (σ.set i (some v))) G.H0 H1 H2 p2 v2 := by
  cases m with
  | false =>
    have hM : ∀ b, MA G (ρ.set i (some q)) (σ.set i (some v)) b → MA G ρ σ b := fun b z => MA.put (hm rfl) z
    cases r with
    | s r =>
      cases r with
      | plain r => exact .s (.plain (r.mono (hide_anti hM)))
      | own => simp [stored, PV.gives, PV.thaw, PV.plain] at h2
      | st => simp [stored, PV.gives, PV.thaw, PV.plain] at h2
    | new n e f t => exact .new (fun z => n (hM _ z)) e f (t.mono (hide_anti fun b z => z.elim (fun y => .inl (hM b y)) .inr))
  | true =>
    have h := hc rfl
    cases r with
    | s r =>
      cases r with
      | plain r =>
        cases r with
        | non => exact .s (.plain .non)
        | bl => exact .s (.plain (.bl _))
        | int => exact .s (.plain (.int _))
        | str => exact .s (.plain (.str _))
        | _ => cases h
      | own => cases h
      | st => cases h
    | new n e f t =>
      refine .new (g1.new e) e f ?_
      cases t with
      | lst q => cases q with
        | nil => exact .lst .nil
        | cons => cases h
      | @dk ks ps xs l q =>
        cases ks with
        | nil => cases q with
          | nil => exact .dk rfl .nil
          | cons => cases h
        | cons => cases h
      | @dt ks ps xs l q =>
        cases ks with
        | nil => cases q with
          | nil => exact .dt rfl .nil
          | cons => cases h
        | cons => cases h
end
def wPar (i j : Nat) (m1 m2 : Bool) (a b : WEx) : WSt := fun D ρ => a ρ (fun p => b ρ (fun q => ∃ p' q', stored m1 p = some p' ∧ stored m2 q = some q' ∧ (m1 = true → q.clean = true) ∧ noStAt ρ i ∧ i < ρ.length ∧ j < ρ.length ∧ D.nx ((ρ.set i (some p')).set j (some q'))) fun x => D.ex x ρ) fun x => D.ex x ρ
theorem stored_some {m : Bool} {p q : PV} (h : stored m p = some q) : (stored false p).isSome = true ∨ (stored true p).isSome = true := by
  cases m with
  | true => exact .inr (by rw [h]; rfl)
  | false => exact .inl (by rw [h]; rfl)
section
variable {X : Cx} {W : WX} {pos : Pos} {a b c : Expr} {i j l : Nat} {x y z : Str} {wa wb wc : WEx} {px py pz pt : Pos} {kt k2 : Nat} {pt2 : Pos}
theorem vs_par (m1 m2 : Bool) (hc : X.calm = true) (hN : X.N.Nodup) (hi : X.N[i]? = some x) (hj : X.N[j]? = some y) (hij : i ≠ j) (hx : X.env.scope.names.lookup x = some .local) (hy : X.env.scope.names.lookup y = some .local) (ha : VE X W a wa) (hb : VE X W b wb)
    (hw : swappedStores [.Tuple [.Name x px, .Name y py] kt pt] (.Tuple [a, b] k2 pt2) X.env = pure (some [x, y])) (hs1 : starEach [a, b] X.env = (false, eval a X.env) :: starEach [b] X.env := by rfl) (hs2 : starEach [b] X.env = (false, eval b X.env) :: starEach [] X.env := by rfl)
    (hs : swapsWithSole [.Tuple [.Name x px, .Name y py] kt pt] (.Tuple [a, b] k2 pt2) pos.line X.env = pure false := by rfl) :
    VS X W (.Assign [.Tuple [.Name x px, .Name y py] kt pt] (.Tuple [a, b] k2 pt2) pos) (wPar i j m1 m2 wa wb) :=
  ⟨PS.imp (ps_par hc hN hi hj hij hx hy (pa_cons ha.pe (pa_cons hb.pe pa_nil hs2) hs1) hw hs) fun D σ H ⟨G, ρ, Dp, g, hw, de⟩ => ⟨G, ρ, _, _, g, hw, fun p v H1 s1 g1 r1 h1 => ⟨G, ρ, _, _, g1, h1, fun q u H2 s2 g2 r2 ⟨p', q', e1, e2, h3, h4, h5, h6, h7⟩ => by
    refine ⟨v, u, rfl, de.nx _ _ _ ?_ h7⟩
    have z1 := g.store s1 g1 r1 e1 i h5
    obtain ⟨n1, n2⟩ := stored_mut r1 e1
    have z2 := g1.later n1 h4 z1 s2 g2
    exact z1.store (s2.put n1 h4) z2 (r2.put n1 h4 n2 h3 z1 (stored_some e2)) e2 j (by rw [List.length_set]; exact h6), de.kx⟩, de.kx⟩⟩
def wPar3 (i j l : Nat) (m1 m2 m3 : Bool) (a b c : WEx) : WSt := fun D ρ => a ρ (fun p => b ρ (fun q => c ρ (fun r => ∃ p' q' r', stored m1 p = some p' ∧ stored m2 q = some q' ∧ stored m3 r = some r' ∧ (m1 = true → q.clean = true ∧ r.clean = true) ∧ (m2 = true → r.clean = true) ∧
  noStAt ρ i ∧ noStAt ρ j ∧ i < ρ.length ∧ j < ρ.length ∧ l < ρ.length ∧ D.nx (((ρ.set i (some p')).set j (some q')).set l (some r'))) fun x => D.ex x ρ) fun x => D.ex x ρ) fun x => D.ex x ρ
theorem vs_par3 (m1 m2 m3 : Bool) (hc : X.calm = true) (hN : X.N.Nodup) (hi : X.N[i]? = some x) (hj : X.N[j]? = some y) (hl : X.N[l]? = some z) (hij : i ≠ j) (hil : i ≠ l) (hjl : j ≠ l) (hx : X.env.scope.names.lookup x = some .local) (hy : X.env.scope.names.lookup y = some .local) (hz : X.env.scope.names.lookup z = some .local)
    (ha : VE X W a wa) (hb : VE X W b wb) (hcc : VE X W c wc)
    (hw : swappedStores [.Tuple [.Name x px, .Name y py, .Name z pz] kt pt] (.Tuple [a, b, c] k2 pt2) X.env = pure (some [x, y, z])) (hs1 : starEach [a, b, c] X.env = (false, eval a X.env) :: starEach [b, c] X.env := by rfl) (hs2 : starEach [b, c] X.env = (false, eval b X.env) :: starEach [c] X.env := by rfl)
    (hs3 : starEach [c] X.env = (false, eval c X.env) :: starEach [] X.env := by rfl) (hs : swapsWithSole [.Tuple [.Name x px, .Name y py, .Name z pz] kt pt] (.Tuple [a, b, c] k2 pt2) pos.line X.env = pure false := by rfl) :
    VS X W (.Assign [.Tuple [.Name x px, .Name y py, .Name z pz] kt pt] (.Tuple [a, b, c] k2 pt2) pos) (wPar3 i j l m1 m2 m3 wa wb wc) :=
  ⟨PS.imp (ps_par3 hc hN hi hj hl hij hil hjl hx hy hz (pa_cons ha.pe (pa_cons hb.pe (pa_cons hcc.pe pa_nil hs3) hs2) hs1) hw hs) fun D σ H ⟨G, ρ, Dp, g, hw, de⟩ => ⟨G, ρ, _, _, g, hw, fun p v H1 s1 g1 r1 h1 => ⟨G, ρ, _, _, g1, h1, fun q u H2 s2 g2 r2 h2 => ⟨G, ρ, _, _, g2, h2, fun r t H3 s3 g3 r3 ⟨p', q', r', e1, e2, e3, c1, c2, n1, n2, l1, l2, l3, h3⟩ => by
    refine ⟨v, u, t, rfl, de.nx _ _ _ ?_ h3⟩
    have z1 := g.store s1 g1 r1 e1 i l1
    obtain ⟨k1, m1'⟩ := stored_mut r1 e1
    have z2 := g1.later k1 n1 z1 s2 g2
    have n2' : noStAt (ρ.set i (some p')) j := fun w => by
      unfold noStAt at n2
      rw [get_set_ne hij] at w
      exact n2 w
    have q2 := r2.put k1 n1 m1' (fun w => (c1 w).1) z1 (stored_some e2)
    have z3 := z1.store (s2.put k1 n1) z2 q2 e2 j (by rw [List.length_set]; exact l2)
    obtain ⟨k2, m2'⟩ := stored_mut q2 e2
    have s3' := s3.put (v := v) k1 n1
    have g3' := g2.later k1 n1 z2 s3 g3
    have z4 := z2.later k2 n2' z3 s3' g3'
    have q3 := (r3.put k1 n1 m1' (fun w => (c1 w).2) z2 (stored_some e3)).put k2 n2' m2' c2 z3 (stored_some e3)
    exact z3.store (s3'.put k2 n2') z4 q3 e3 l (by rw [List.length_set, List.length_set]; exact l3), de.kx⟩, de.kx⟩, de.kx⟩⟩
end

/-! ### a list that is changed -/
section
variable {X : Cx} {W : WX} {pos p1 p2 p3 : Pos} {a b c : Expr} {i j l : Nat} {x y z : Str} {wa wb wc : WEx}
/-- what stands in a slot of its own -/
theorem Good.own_at {K : PySem.W.Frag} {G : Gd} {ρ : PEnv} {σ : St} {H : Hp} (g : Good K G ρ σ H) {i : Nat} {q : PV} (h : ρ[i]? = some (some (.own q))) : ∃ a o, σ[i]? = some (some (.ref a)) ∧ H a = some o ∧ Top K (hide (MA G ρ σ) H) q o := by
  obtain ⟨v, e, r⟩ := g.slot i _ h
  cases r with
  | plain r => cases r
  | own m n e2 f t => exact ⟨_, _, e, f, t⟩
theorem pv_own {K : PySem.W.Frag} {G : Gd} {ρ : PEnv} {σ : St} {H : Hp} (g : Good K G ρ σ H) {i : Nat} {q : PV} (h : ρ[i]? = some (some (.own q))) {Q : VK} (k : ∀ a o, σ[i]? = some (some (.ref a)) → H a = some o → Top K (hide (MA G ρ σ) H) q o → Q (.ref a) H) : tVar i σ H Q := by
  obtain ⟨a, o, e1, e2, t⟩ := g.own_at h
  exact ⟨_, e1, k a o e1 e2 t⟩
/-- x.append(e) -/
def wApp (i : Nat) (a : WEx) : WSt := fun D ρ => ∃ q, ρ[i]? = some (some (.own (.lst q))) ∧ a ρ (fun p => p.gives = true ∧ q.length < sizeLine ∧ D.nx (ρ.set i (some (.own (.lst (q ++ [p.thaw])))))) fun x => D.ex x ρ
theorem vs_app (hi : X.N[i]? = some x) (hv : Vis X.env.scope x) (ha : VE X W a wa)
    (hd : (x == ("__debug__" : Str)) = false := by decide) (hcd : (x == ("__classdict__" : Str)) = false := by decide)
    (hbase : attributeBase (.Name x p1) "append" X.env (eval (.Name x p1) X.env) = eval (.Name x p1) X.env := by rfl)
    (hfew : ((backTo p3 (starEach [a] X.env)).all (fun x => !x.1) && (backToKw p3 (keywordEach [] X.env)).all (fun x => x.1.isSome) && decide (([a] : List Expr).length + ([] : List Keyword).length + (if ([] : List Keyword).isEmpty then 0 else 1) < 30)) = true := by rfl)
    (hline : (p2.endLine == p3.line) = true := by rfl) (hs1 : starEach [a] X.env = (false, eval a X.env) :: starEach [] X.env := by rfl) (hpl : (backTo p3 (starEach [] X.env)).any (·.1) = false := by rfl)
    (hs : swapsWith (.Call (.Attribute (.Name x p1) "append" p2) [a] [] p3) none pos.line X.env = pure false := by rfl) : VS X W (.Expr (.Call (.Attribute (.Name x p1) "append" p2) [a] [] p3) pos) (wApp i wa) :=
  ⟨PS.imp (ps_expr (pe_bm PySem.F.plainAttrs_list PySem.F.slot_list_append PySem.F.type_list_append mt_append (pe_var hi hv hd hcd) (pa_cons ha.pe pa_nil hs1) hbase hfew hline hs1 hpl) hs) fun D σ H ⟨G, ρ, Dp, g, ⟨q, h1, hw⟩, de⟩ => by
    obtain ⟨ad, o, e1, e2, t⟩ := g.own_at h1
    cases t with
    | @lst ps xs tt =>
      refine ⟨.ref ad, e1, .inl ⟨rfl, xs, .of e2⟩, G, ρ, _, _, g, hw, fun p v H' s g' r ⟨hg, hz, hq⟩ => ?_, de.kx⟩
      obtain ⟨ad', o', e1', e2', t'⟩ := g'.own_at h1
      rw [e1] at e1'
      cases e1'
      cases t' with
      | @lst ps xs' tt' => exact ⟨ad, xs', v, rfl, rfl, e2', by rw [← tt'.length]; exact hz, de.nx _ _ _ (g'.change h1 e1 (.lst (tt'.snoc (r.rep hg)))) hq⟩⟩
/-- x[i] = e, x a list of its own -/
def wPutL (i : Nat) (ix a : WEx) : WSt := fun D ρ => a ρ (fun p => ix ρ (fun k => ∃ q n j, ρ[i]? = some (some (.own (.lst q))) ∧ k = .int n ∧ ixN q.length n = some j ∧ p.gives = true ∧ D.nx (ρ.set i (some (.own (.lst (q.set j p.thaw)))))) fun x => D.ex x ρ) fun x => D.ex x ρ
end
end L3

/-! Values without the heap: loops, comprehensions, the rule for a def. -/
namespace L3
open PySem PySem.Spec L2

/-! ### while -/
def wWhile (c : WTs) (b : WSt) : WSt := fun D ρ => ∃ I : Nat → PEnv → Prop, (∃ m, I m ρ) ∧ ∀ m ρ, I m ρ → c ρ (fun k => if k = true then b ⟨fun ρ' => ∃ m', m' < m ∧ I m' ρ', D.rt, D.nx, fun ρ' => ∃ m', m' < m ∧ I m' ρ', D.ex⟩ ρ else D.nx ρ) fun x => D.ex x ρ
section
variable {X : Cx} {W : WX} {pos : Pos} {c : Expr} {body : List Stmt} {wc : WTs} {wb : WSt}
theorem vs_while (hp : PassesOwn (model X.prog X.w) X.A X.env X.xe) (hc : VT X W c wc) (hb : VSs X W body wb) : VS X W (.While c body [] pos) (wWhile wc wb) :=
  ⟨PS.imp (ps_while hp hc.pt hb.pss) fun D σ H ⟨G, ρ, Dp, g, ⟨I, ⟨m0, i0⟩, hw⟩, de⟩ => by
    refine ⟨fun m σ H => ∃ ρ, Good X.K G ρ σ H ∧ I m ρ, ⟨m0, ρ, g, i0⟩, fun m σ1 H1 ⟨ρ1, g1, i1⟩ => ⟨G, ρ1, _, _, g1, hw m ρ1 i1, fun b H2 s2 g2 h2 => ?_, de.kx⟩⟩
    cases b with
    | false => exact de.nx _ _ _ g2 h2
    | true =>
      refine ⟨fun σ' H' => ∃ ρ', Good X.K G ρ' σ' H' ∧ ∃ m', m' < m ∧ I m' ρ', fun σ' H' ⟨ρ', g', m', l, i'⟩ => ⟨m', l, ρ', g', i'⟩, G, ρ1, _, g2, h2, ⟨fun ρ' σ' H' g' h' => ⟨ρ', g', h'⟩, de.nx, fun ρ' σ' H' g' h' => ⟨ρ', g', h'⟩, de.rt, de.ex⟩⟩⟩
end

/-! ### the ground of a loop -/
def LM (G : Gd) (ρ : PEnv) (σ : St) (b : Addr) : Prop := G.S b ∨ ∃ (i : Nat) (p : PV), ρ[i]? = some (some p) ∧ isMut p = true ∧ σ[i]? = some (some (.ref b))
noncomputable def Gd.re (G : Gd) (ρ : PEnv) (σ : St) (H : Hp) : Gd := ⟨G.N, G.S, hide (LM G ρ σ) H⟩
section
variable {K : PySem.W.Frag} {W : WX} {G : Gd} {ρ ρ0 : PEnv} {σ σ0 : St} {Hb H H1 H' : Hp} {Dp : PEnds} {D : Ends}
theorem Good.own_h0 (g : Good K G ρ σ H) {i : Nat} {p : PV} {b : Addr} (h : ρ[i]? = some (some p)) (m : isMut p = true) (e : σ[i]? = some (some (.ref b))) : G.S b ∨ G.H0 b = none := by
  obtain ⟨v, e2, r⟩ := g.slot i p h
  rw [e] at e2; cases e2
  cases r with
  | plain r => rw [r.notMut] at m; cases m
  | own _ _ z _ _ => exact .inr z
  | st z => exact g.sl _ z
theorem Good.not_lm (g : Good K G ρ σ H) {b : Addr} {o : HO} (n : ¬ G.S b) (e : G.H0 b = some o) : ¬ LM G ρ σ b := fun z => by
  rcases z with z | ⟨i, p, h1, h2, h3⟩
  · exact n z
  · rcases g.own_h0 h1 h2 h3 with y | y
    · exact n y
    · rw [e] at y; cases y
theorem SA.lm {a : Addr} (z : SA G ρ σ a) : LM G ρ σ a := by
  rcases z with z | ⟨i, h1, h2⟩
  · exact .inl z
  · exact .inr ⟨i, _, h1, rfl, h2⟩
theorem Good.re (g : Good K G ρ σ H) : Good K (G.re ρ σ H) ρ σ H where
  len := g.len
  fr := fun b o _ h => hide_sub b o h
  nn := fun b h => by
    obtain ⟨n, o, e⟩ := g.nn b h
    exact ⟨n, o, hide_some.mpr ⟨g.not_lm n e, g.fr b o n e⟩⟩
  sa := g.sa
  sl := fun a z => by
    refine .inr ?_
    cases e : (G.re ρ σ H).H0 a with
    | none => rfl
    | some o => exact absurd z.lm (hide_some.mp e).1
  slot := fun i p h => by
    obtain ⟨v, e, r⟩ := g.slot i p h
    refine ⟨v, e, ?_⟩
    cases r with
    | plain r => exact .plain r
    | @own q a o m n h0 f t =>
      refine .own m n ?_ f t
      cases e2 : (G.re ρ σ H).H0 a with
      | none => rfl
      | some u => exact absurd (.inr ⟨i, _, h, rfl, e⟩) (hide_some.mp e2).1
    | st z => exact .st z
  inj := g.inj
theorem Good.h0_re (g : Good K G ρ σ H) {b : Addr} {o : HO} (n : ¬ G.S b) (e : G.H0 b = some o) : (G.re ρ σ H).H0 b = some o := hide_some.mpr ⟨g.not_lm n e, g.fr b o n e⟩
theorem Good.none_re (g : Good K G ρ σ H) {b : Addr} (n : ¬ G.S b) (e : (G.re ρ σ H).H0 b = none) : G.H0 b = none := by
  cases h : G.H0 b with
  | none => rfl
  | some o => rw [g.h0_re n h] at e; cases e
theorem Good.back (g0 : Good K G ρ0 σ0 H1) (g : Good K (G.re ρ0 σ0 H1) ρ σ H) : Good K G ρ σ H where
  len := g.len
  fr := fun b o n h => g.fr b o n (g0.h0_re n h)
  nn := g0.nn
  sa := g.sa
  sl := fun a z => by
    by_cases y : G.S a
    · exact .inl y
    · rcases g.sl a z with w | w
      · exact absurd w y
      · exact .inr (g0.none_re y w)
  slot := fun i p h => by
    obtain ⟨v, e, r⟩ := g.slot i p h
    refine ⟨v, e, ?_⟩
    cases r with
    | plain r => exact .plain r
    | own m n h0 f t => exact .own m n (g0.none_re (fun z => n (.inl z)) h0) f t
    | st z => exact .st z
  inj := g.inj
theorem DE.re (g0 : Good K G ρ0 σ0 H1) (d : DE K W G Dp D) : DE K W (G.re ρ0 σ0 H1) Dp D where
  nx := fun ρ σ H g h => d.nx ρ σ H (g0.back g) h
  bk := fun ρ σ H g h => d.bk ρ σ H (g0.back g) h
  ct := fun ρ σ H g h => d.ct ρ σ H (g0.back g) h
  rt := fun p v H ⟨f, s, r⟩ h => d.rt p v H ⟨fun b o n e => f b o n (g0.h0_re n e), s, by
    cases r with
    | plain r => exact .plain r
    | new n e1 e2 t => exact .new n (g0.none_re (fun z => n (.inr z)) e1) e2 t⟩ h
  ex := fun x cls dd ρ σ H g r h => d.ex x cls dd ρ σ H (g0.back g) r h
end

/-! ### what is walked -/
structure IterOk (K : PySem.W.Frag) (Hx Hr : Hp) (J : It) (xs : List PV) : Prop where
  go : ∀ i H, Same Hx H → i < xs.length → J.go i H
  stop : ∀ i H, Same Hx H → xs.length ≤ i → J.stop i H
  yld : ∀ i H v H', Same Hx H → J.yld i H v H' → Same H H' ∧ ∀ p, xs[i]? = some p → ∀ H'', Same Hr H'' → (∀ b o, H b = none → H' b = some o → H'' b = some o) → Rep K H'' p v
theorem IterOk.mono {K : PySem.W.Frag} {Hx Hy Hr : Hp} {J : It} {xs : List PV} (s : Same Hx Hy) (i : IterOk K Hx Hr J xs) : IterOk K Hy Hr J xs :=
  ⟨fun n H h => i.go n H (s.trans h), fun n H h => i.stop n H (s.trans h), fun n H v H' h y => by
    obtain ⟨a, b⟩ := i.yld n H v H' (s.trans h) y
    exact ⟨a, b⟩⟩
abbrev WIt := PEnv → (List PV → Prop) → XQ → Prop
def itB (own : Bool) (G : Gd) (ρ : PEnv) (σ : St) : Addr → Prop := if own then SA G ρ σ else MA G ρ σ
def ItOk (X : Cx) (W : WX) (own : Bool) (t : TI) (w : WIt) : Prop := ∀ {G ρ σ H Qp Rp} {R : It → Hp → Prop}, Good X.K G ρ σ H → w ρ Qp Rp →
  (∀ xs J H1, Step G ρ σ H H1 → Good X.K G ρ σ H1 → IterOk X.K (hide (itB own G ρ σ) H1) (hide (MA G ρ σ) H1) J xs → Qp xs → R J H1) → KX X.K W G ρ σ H Rp → t σ H R
structure VI (X : Cx) (W : WX) (own : Bool) (tg iter : Expr) (w : WIt) : Prop where
  ex : ∃ t, PI X tg iter t ∧ ItOk X W own t w
/-- a list, a tuple -/
def PV.walks (own : Bool) : PV → Option (List PV)
  | .tup ps => some ps
  | .scr ps => some ps
  | .lst ps => some ps
  | .new (.lst ps) => some ps
  | .own (.lst ps) => if own then some ps else none
  | _ => none
def wiSeq (own : Bool) (a : WEx) : WIt := fun ρ Q R => a ρ (fun p => ∃ xs, p.walks own = some xs ∧ Q xs) R
theorem PI.or {X : Cx} {tg iter : Expr} {t u : TI} (h : PI X tg iter t) (h' : PI X tg iter u) : PI X tg iter (fun σ H R => t σ H R ∨ u σ H R) := ⟨fun pins s σ H R I q => q.elim (h.run pins s σ H R I) (h'.run pins s σ H R I)⟩
theorem PI.imp {X : Cx} {tg iter : Expr} {t t' : TI} (h : PI X tg iter t) (i : ∀ σ H R, t' σ H R → t σ H R) : PI X tg iter t' := ⟨fun pins s σ H R I q => h.run pins s σ H R I (i σ H R q)⟩
section
variable {K : PySem.W.Frag} {Hx Hr : Hp} {a : Addr} {ps : List PV} {xs : List V}
theorem iter_list (h : SqL K Hx a xs) (hr : Reps K Hr ps xs) : IterOk K Hx Hr (Itl K a) ps := by
  refine ⟨fun i H s l => ?_, fun i H s l => ⟨xs, s.seq h, by rw [← hr.length]; exact l⟩, fun i H v H' s y => ?_⟩
  · obtain ⟨v, e, _⟩ := hr.get (List.getElem?_eq_getElem l)
    exact ⟨xs, v, s.seq h, e⟩
  · obtain ⟨e, y⟩ := y
    subst e
    refine ⟨.refl _, fun p e H'' s2 _ => ?_⟩
    obtain ⟨u, e2, r⟩ := hr.get e
    rw [y xs (s.seq h)] at e2
    cases e2
    exact r.mono s2
theorem iter_tup (h : SqT K Hx a xs) (hr : Reps K Hr ps xs) : IterOk K Hx Hr (Itt K a) ps := by
  refine ⟨fun i H s l => ?_, fun i H s l => ⟨xs, sqT_mono s h, by rw [← hr.length]; exact l⟩, fun i H v H' s y => ?_⟩
  · obtain ⟨v, e, _⟩ := hr.get (List.getElem?_eq_getElem l)
    exact ⟨xs, v, sqT_mono s h, e⟩
  · obtain ⟨e, y⟩ := y
    subst e
    refine ⟨.refl _, fun p e H'' s2 _ => ?_⟩
    obtain ⟨u, e2, r⟩ := hr.get e
    rw [y xs (sqT_mono s h)] at e2
    cases e2
    exact r.mono s2
def rgP (lo : Int) (n : Nat) : List PV := (List.range n).map fun (k : Nat) => .int (lo + (k : Int))
theorem rgP_len (lo : Int) (n : Nat) : (rgP lo n).length = n := by simp [rgP]
theorem rgP_get {lo : Int} {n i : Nat} {p : PV} (h : (rgP lo n)[i]? = some p) : p = .int (lo + i) ∧ i < n := by
  have hl : i < n := by
    have := (List.getElem?_eq_some_iff.mp h).1
    rw [rgP_len] at this
    exact this
  unfold rgP at h
  rw [List.getElem?_map, List.getElem?_range hl] at h
  cases h
  exact ⟨rfl, hl⟩
theorem iter_rng (lo : Int) (n : Nat) : IterOk K Hx Hr (Itr lo n) (rgP lo n) := by
  refine ⟨fun i H s l => by rw [rgP_len] at l; exact l, fun i H s l => by rw [rgP_len] at l; exact l, fun i H v H' s y => ?_⟩
  obtain ⟨e, y⟩ := y
  subst e
  refine ⟨.refl _, fun p e H'' s2 _ => ?_⟩
  obtain ⟨rfl, _⟩ := rgP_get e
  rw [y]
  exact .int _
end
section
variable {X : Cx} {W : WX} {pos p : Pos} {e a b tg : Expr} {wa wb : WEx} {own : Bool}
theorem itB_ma {G : Gd} {ρ : PEnv} {σ : St} {b : Addr} (h : itB own G ρ σ b) : MA G ρ σ b := by
  unfold itB at h
  cases own with
  | true => exact SA.ma h
  | false => exact h
/-- the iterator of a list, of a tuple -/
theorem iter_of_list {X : Cx} {tg : Expr} {pins : List (Addr × Obj)} {σ : St} {H : Hp} {s : Shared} {R : It → Hp → Prop} {a : Addr} {xs : List V} (I : Inv X pins σ H s) (h : SqL X.K H a xs) (q : R (Itl X.K a) H) : wpAny (model X.prog X.w) X.A (pyIter (.ref a)) (PIE X pins σ tg R) X.xe s := by
  obtain ⟨its, _, pl, _⟩ := I.list h
  refine wpAny_pyIter_list pl.isList ⟨s.heap.objs.size, [s.heap.objs.size], _, _, H, rfl, I.kept (t' := s.toks) fun b o e => Heap.get?_push_of_some _ e, turn_list a _, ⟨_, Heap.get?_push_size _ rfl, rfl, rfl⟩, ?_, q⟩
  intro b hb
  cases List.mem_singleton.mp hb
  exact I.fpOk (Nat.le_refl _) (I.hok.fresh (Nat.le_refl _))
theorem iter_of_tup {X : Cx} {tg : Expr} {pins : List (Addr × Obj)} {σ : St} {H : Hp} {s : Shared} {R : It → Hp → Prop} {a : Addr} {xs : List V} (I : Inv X pins σ H s) (h : SqT X.K H a xs) (q : R (Itt X.K a) H) : wpAny (model X.prog X.w) X.A (pyIter (.ref a)) (PIE X pins σ tg R) X.xe s := by
  obtain ⟨its, _, pl, _⟩ := I.tuple h
  refine wpAny_pyIter_tuple (show s.heap.IsTuple a its.toArray from pl) ⟨s.heap.objs.size, [s.heap.objs.size], _, _, H, rfl, I.kept (t' := s.toks) fun b o e => Heap.get?_push_of_some _ e, turn_tuple a _, ⟨_, Heap.get?_push_size _ rfl, rfl, rfl⟩, ?_, q⟩
  intro b hb
  cases List.mem_singleton.mp hb
  exact I.fpOk (Nat.le_refl _) (I.hok.fresh (Nat.le_refl _))
def iSeq (K : PySem.W.Frag) (t : TE) : TI := fun σ H R => t σ H fun x H1 => ∃ a, x = .ref a ∧ ((∃ xs, SqL K H1 a xs ∧ R (Itl K a) H1) ∨ ∃ xs, SqT K H1 a xs ∧ R (Itt K a) H1)
theorem pi_seq {X : Cx} {tg l : Expr} {t : TE} (h : PE X l t) : PI X tg l (iSeq X.K t) := by
  refine ⟨fun pins s σ H R I q => thn (h.run pins s σ H _ I q) fun v s1 ⟨x, H1, I1, r1, a, e, q1⟩ => ?_⟩
  subst e
  cases r1
  rcases q1 with ⟨xs, z, q1⟩ | ⟨xs, z, q1⟩
  · exact iter_of_list I1 z q1
  · exact iter_of_tup I1 z q1
theorem vi_seq (own : Bool) (h : VE X W e wa) : VI X W own tg e (wiSeq own wa) := by
  refine ⟨_, pi_seq h.pe, fun {G ρ σ H Qp Rp R} g hw k kx => ⟨G, ρ, _, Rp, g, hw, fun p v H1 s g1 r h1 => ?_, kx⟩⟩
  obtain ⟨xs, e, hq⟩ := h1
  have hB : Same (hide (MA G ρ σ) H1) (hide (itB own G ρ σ) H1) := hide_anti fun _ z => itB_ma z
  cases r with
  | s r =>
    cases r with
    | plain r =>
      cases r with
      | tup t q => cases e; exact ⟨_, rfl, .inr ⟨_, sqT_mono hide_sub t, k xs _ H1 s g1 (iter_tup (sqT_mono hB t) q) hq⟩⟩
      | lst t q => cases e; exact ⟨_, rfl, .inl ⟨_, .of (hide_sub _ _ t), k xs _ H1 s g1 (iter_list (.of (hB _ _ t)) q) hq⟩⟩
      | scr t q => cases e; exact ⟨_, rfl, .inl ⟨_, hide_sub.seq t, k xs _ H1 s g1 (iter_list (hB.seq t) q) hq⟩⟩
      | _ => cases e
    | own m n h0 f t =>
      cases t with
      | lst q =>
        cases own with
        | false => cases e
        | true => cases e; exact ⟨_, rfl, .inl ⟨_, .of f, k xs _ H1 s g1 (iter_list (.of (hide_some.mpr ⟨n, f⟩)) q) hq⟩⟩
      | _ => cases e
    | st => cases e
  | new n h0 f t =>
    cases t with
    | lst q => cases e; exact ⟨_, rfl, .inl ⟨_, .of f, k xs _ H1 s g1 (iter_list (.of (hide_some.mpr ⟨fun z => n (itB_ma z), f⟩)) (q.mono (hide_anti fun _ z => .inl z))) hq⟩⟩
    | _ => cases e
def rgOk (j : Int) : Prop := -(2 ^ 62) ≤ j ∧ j < 2 ^ 62
def wiRg1 (a : WEx) : WIt := fun ρ Q R => a ρ (fun x => match x with | .int j => rgOk j ∧ Q (rgP 0 j.toNat) | _ => False) R
def wiRg2 (a b : WEx) : WIt := fun ρ Q R => a ρ (fun x => b ρ (fun y => match x, y with | .int i, .int j => rgOk i ∧ rgOk j ∧ Q (rgP i (j - i).toNat) | _, _ => False) R) R
theorem vi_rg1 (own : Bool) (hg : Gl X "range") (hm : X.mg "range" = none) (ha : VE X W a wa) (hs1 : starEach [a] X.env = (false, eval a X.env) :: starEach [] X.env := by rfl) (hs : starEach [a] X.env = [(false, eval a X.env)] := by rfl) : VI X W own tg (.Call (.Name "range" p) [a] [] pos) (wiRg1 wa) := by
  refine ⟨_, pi_range1 hg hm (pa_cons ha.pe pa_nil hs1) hs, fun {G ρ σ H Qp Rp R} g hw k kx => ⟨G, ρ, _, Rp, g, hw, fun p v H1 s g1 r h1 => ?_, kx⟩⟩
  dsimp only at h1
  split at h1
  · cases r.int
    exact ⟨_, rfl, h1.1.1, h1.1.2, k _ _ H1 s g1 (iter_rng 0 _) h1.2⟩
  · exact h1.elim
theorem vi_rg2 (own : Bool) (hg : Gl X "range") (hm : X.mg "range" = none) (ha : VE X W a wa) (hb : VE X W b wb) (hs1 : starEach [a, b] X.env = (false, eval a X.env) :: starEach [b] X.env := by rfl) (hs2 : starEach [b] X.env = (false, eval b X.env) :: starEach [] X.env := by rfl)
    (hs : starEach [a, b] X.env = [(false, eval a X.env), (false, eval b X.env)] := by rfl) (hs3 : starEach [b] X.env = [(false, eval b X.env)] := by rfl) : VI X W own tg (.Call (.Name "range" p) [a, b] [] pos) (wiRg2 wa wb) := by
  refine ⟨_, pi_range2 hg hm (pa_cons ha.pe (pa_cons hb.pe pa_nil hs2) hs1) hs hs3, fun {G ρ σ H Qp Rp R} g hw k kx => ⟨G, ρ, _, Rp, g, hw, fun p v H1 s g1 r h1 => ⟨G, ρ, _, Rp, g1, h1, fun q u H2 s2 g2 r2 h2 => ?_, kx.step s⟩, kx⟩⟩
  dsimp only at h2
  split at h2
  · cases r.int
    cases r2.int
    exact ⟨_, _, rfl, ⟨h2.1.1, h2.1.2, h2.2.1.1, h2.2.1.2⟩, k _ _ H2 (s.trans s2) g2 (iter_rng _ _) h2.2.2⟩
  · exact h2.elim
end

/-! ### for -/
def wFor (wi : WIt) (td : TD) (b : WSt) : WSt := fun D ρ => wi ρ (fun xs => ∃ I : Nat → PEnv → Prop, I 0 ρ ∧ (∀ i ρ p, I i ρ → xs[i]? = some p → tgW td p ρ fun ρ' => b ⟨I (i + 1), D.rt, D.nx, I (i + 1), D.ex⟩ ρ') ∧ ∀ ρ, I xs.length ρ → D.nx ρ) fun x => D.ex x ρ
section
variable {X : Cx} {W : WX} {pos : Pos} {tg iter : Expr} {body : List Stmt} {wi : WIt} {td : TD} {wb : WSt}
theorem hide_re {K : PySem.W.Frag} {G : Gd} {ρ0 ρ : PEnv} {σ0 σ : St} {H1 H : Hp} (g0 : Good K G ρ0 σ0 H1) (g : Good K (G.re ρ0 σ0 H1) ρ σ H) : Same (hide (MA G ρ0 σ0) H1) (hide (MA (G.re ρ0 σ0 H1) ρ σ) H) := fun b o z => by
  obtain ⟨z1, z2⟩ := hide_some.mp z
  have nS : ¬ G.S b := fun y => z1 (.inr (.inl y))
  have h0 : (G.re ρ0 σ0 H1).H0 b = some o := hide_some.mpr ⟨fun y => z1 (y.elim (fun w => .inr (.inl w)) fun w => .inr (.inr w)), z2⟩
  refine hide_some.mpr ⟨fun y => ?_, g.fr b o nS h0⟩
  rcases y with y | y | ⟨i, p, e1, m, e2⟩
  · exact z1 (.inl y)
  · exact nS y
  · rcases g.own_h0 e1 m e2 with w | w
    · exact nS w
    · rw [h0] at w; cases w
theorem vs_for (hp : PassesOwn (model X.prog X.w) X.A X.env X.xe) (hc : X.calm = true) (hi : VI X W false tg iter wi) (hg : VG X tg td) (hb : VSs X W body wb) (hs : ∀ x, foldedSetIterable iter X.env x = pure x := by intro _; rfl) : VS X W (.For tg iter body [] pos) (wFor wi td wb) := by
  obtain ⟨t, pi, io⟩ := hi.ex
  refine ⟨PS.imp (ps_for hp hc pi hg.pg hb.pss hs) fun D σ H ⟨G, ρ, Dp, g, hw, de⟩ => io g hw (fun xs J H1 s g1 it ⟨I, i0, turn, fin⟩ => ?_) de.kx⟩
  have g1' := g1.re
  have hx : ∀ {ρ2 σ2 H2}, Good X.K (G.re ρ σ H1) ρ2 σ2 H2 → Same (hide (MA G ρ σ) H1) H2 := fun {ρ2 σ2 H2} g2 b o z => (hide_some.mp (hide_re g1 g2 b o z)).2
  refine ⟨fun i m σ2 H2 => m = xs.length - i ∧ i ≤ xs.length ∧ ∃ ρ2, Good X.K (G.re ρ σ H1) ρ2 σ2 H2 ∧ I i ρ2, ⟨_, rfl, Nat.zero_le _, ρ, g1', i0⟩, ?_⟩
  rintro i m σ2 H2 ⟨rfl, hi, ρ2, g2, i2⟩
  by_cases hl : i < xs.length
  · refine .inr ⟨it.go i H2 (hx g2) hl, fun σ' H' => ∃ ρ', Good X.K (G.re ρ σ H1) ρ' σ' H' ∧ I (i + 1) ρ', fun σ' H' ⟨ρ', g', i'⟩ => ⟨_, by omega, rfl, hl, ρ', g', i'⟩, fun v H' y => ?_⟩
    obtain ⟨sm, rep⟩ := it.yld i H2 v H' (hx g2) y
    have g3 := g2.same sm
    have e := List.getElem?_eq_getElem hl
    refine tg_ok td g3 (fun _ z => z) (rep _ e _ (hide_re g1 g3) fun b o n y => hide_some.mpr ⟨g2.new n, y⟩) (turn i ρ2 _ i2 e) fun ρ' σ' g' _ h' => ?_
    exact ⟨G.re ρ σ H1, ρ', _, g', h', ⟨fun ρ3 σ3 H3 g3 h3 => ⟨ρ3, g3, h3⟩, (de.re g1).nx, fun ρ3 σ3 H3 g3 h3 => ⟨ρ3, g3, h3⟩, (de.re g1).rt, (de.re g1).ex⟩⟩
  · have e : i = xs.length := by omega
    subst e
    exact .inl ⟨it.stop _ H2 (hx g2) (Nat.le_refl _), de.nx _ _ _ (g1.back g2) (fin _ i2)⟩
end
end L3

/-! Values without the heap: comprehensions. -/
namespace L3
open PySem PySem.Spec L2

def wipeP (ρ : PEnv) : List Nat → PEnv
  | [] => ρ
  | v :: vs => (wipeP ρ vs).set v none
section
variable {K : PySem.W.Frag} {G : Gd} {ρ : PEnv} {σ : St} {H H' : Hp}
theorem SRep.weak' {Sa M Sa' M' : Addr → Prop} {H0 : Hp} (hS : ∀ a, Sa' a → Sa a) (hM : ∀ a, M' a → M a) {p : PV} {v : V} (hst : p = .st → ∀ a, v = .ref a → Sa' a) (hown : ∀ q, p = .own q → ∀ a, v = .ref a → M' a) (r : SRep K Sa M H0 H p v) : SRep K Sa' M' H0 H p v := r.weak hS hM hst hown
theorem none_back {ρ : PEnv} {j i : Nat} {q : PV} (e : (ρ.set i none)[j]? = some (some q)) : j ≠ i ∧ ρ[j]? = some (some q) := by
  by_cases hj : j = i
  · subst hj
    have := get_set_eq e
    cases this
  · rw [get_set_ne (Ne.symm hj)] at e
    exact ⟨hj, e⟩
theorem SA.none {i : Nat} {a : Addr} (z : SA G (ρ.set i none) (σ.set i none) a) : SA G ρ σ a := by
  rcases z with z | ⟨j, e1, e2⟩
  · exact .inl z
  · obtain ⟨hj, e⟩ := none_back e1
    rw [get_set_ne (Ne.symm hj)] at e2
    exact .inr ⟨j, e, e2⟩
theorem MA.none {i : Nat} {a : Addr} (z : MA G (ρ.set i none) (σ.set i none) a) : MA G ρ σ a := by
  rcases z with z | z | ⟨j, q, e1, m, e2⟩
  · exact .inl z
  · exact .inr (.inl z)
  · obtain ⟨hj, e⟩ := none_back e1
    rw [get_set_ne (Ne.symm hj)] at e2
    exact .inr (.inr ⟨j, q, e, m, e2⟩)
theorem Good.forget (g : Good K G ρ σ H) (i : Nat) : Good K G (ρ.set i none) (σ.set i none) H := by
  refine ⟨by rw [List.length_set, List.length_set]; exact g.len, g.fr, g.nn, fun a z => g.sa a z.none, fun a z => g.sl a z.none, fun j q e => ?_, fun j k q q' a e1 e2 m1 m2 f1 f2 => ?_⟩
  · obtain ⟨hj, e'⟩ := none_back e
    obtain ⟨u, e2, r⟩ := g.slot j q e'
    have e3 : (σ.set i none)[j]? = some (some u) := by rw [get_set_ne (Ne.symm hj)]; exact e2
    exact ⟨u, e3, r.weak (fun a z => z.none) (fun a z => z.none) (fun z a y => .inr ⟨j, by rw [← z]; exact e, by rw [← y]; exact e3⟩) fun q' z a y => .inr (.inr ⟨j, q, e, by rw [z]; rfl, by rw [← y]; exact e3⟩)⟩
  · obtain ⟨h1, e1'⟩ := none_back e1
    obtain ⟨h2, e2'⟩ := none_back e2
    rw [get_set_ne (Ne.symm h1)] at f1
    rw [get_set_ne (Ne.symm h2)] at f2
    exact g.inj j k q q' a e1' e2' m1 m2 f1 f2
theorem Good.wipe (g : Good K G ρ σ H) : ∀ vs : List Nat, Good K G (wipeP ρ vs) (L2.wipe σ vs) H ∧ (∀ a, SA G (wipeP ρ vs) (L2.wipe σ vs) a → SA G ρ σ a) ∧ ∀ a, MA G (wipeP ρ vs) (L2.wipe σ vs) a → MA G ρ σ a
  | [] => ⟨g, fun _ z => z, fun _ z => z⟩
  | v :: vs => by
    obtain ⟨g1, s1, m1⟩ := g.wipe vs
    exact ⟨g1.forget v, fun a z => s1 a z.none, fun a z => m1 a z.none⟩
/-- a new object D is hidden from what is reckoned beside it -/
noncomputable def Gd.beside (G : Gd) (D : Addr) (ρ : PEnv) (σ : St) (H : Hp) : Gd := ⟨fun b => G.N b ∨ b = D, G.S, hide (LM G ρ σ) H⟩
theorem MA.beside {D : Addr} {ρ' : PEnv} {σ' : St} {H1 : Hp} {b : Addr} : MA (G.beside D ρ σ H1) ρ' σ' b ↔ (MA G ρ' σ' b ∨ b = D) := by
  constructor
  · rintro ((z | z) | z | z)
    · exact .inl (.inl z)
    · exact .inr z
    · exact .inl (.inr (.inl z))
    · exact .inl (.inr (.inr z))
  · rintro ((z | z | z) | z)
    · exact .inl (.inl z)
    · exact .inr (.inl z)
    · exact .inr (.inr z)
    · exact .inl (.inr z)
/-- D was laid behind H -/
theorem Good.beside (g : Good K G ρ σ H) {D : Addr} {o : HO} (n : H D = none) : Good K (G.beside D ρ σ (upd H D o)) ρ σ (upd H D o) := by
  have gu := g.laid (o := o) n
  have nD := g.new n
  have old : Same (hide (MA G ρ σ) H) (hide (MA (G.beside D ρ σ (upd H D o)) ρ σ) (upd H D o)) := fun b u z => by
    obtain ⟨z1, z2⟩ := hide_some.mp z
    have hb := ne_of_none z2 n
    exact hide_some.mpr ⟨fun y => (MA.beside.mp y).elim z1 hb, by rw [upd_ne hb]; exact z2⟩
  refine ⟨g.len, fun b u _ h => hide_sub b u h, fun b h => ?_, gu.sa, fun a z => .inr ?_, fun i p h => ?_, g.inj⟩
  · rcases h with h | h
    · obtain ⟨x, u, e⟩ := g.nn b h
      exact ⟨x, u, hide_some.mpr ⟨g.not_lm x e, gu.fr b u x e⟩⟩
    · subst h
      refine ⟨fun z => nD (.inr (.inl z)), o, hide_some.mpr ⟨fun z => nD ?_, upd_same⟩⟩
      exact z.elim (fun y => .inr (.inl y)) fun y => .inr (.inr y)
  · cases e : (G.beside D ρ σ (upd H D o)).H0 a with
    | none => rfl
    | some u => exact absurd (SA.lm z) (hide_some.mp e).1
  · obtain ⟨v, e, r⟩ := g.slot i p h
    refine ⟨v, e, ?_⟩
    cases r with
    | plain r => exact .plain (r.mono old)
    | @own q a u m n2 h0 f t =>
      refine .own (MA.beside.mpr (.inl m)) n2 ?_ (by rw [upd_ne (ne_of_none f n)]; exact f) (t.mono old)
      cases e2 : (G.beside D ρ σ (upd H D o)).H0 a with
      | none => rfl
      | some w => exact absurd (.inr ⟨i, _, h, rfl, e⟩) (hide_some.mp e2).1
    | st z => exact .st z
/-- D has been changed, all else as it is -/
theorem Good.besideAgain {D : Addr} {Hx : Hp} (g : Good K (G.beside D ρ σ Hx) ρ σ H) {o : HO} : Good K (G.beside D ρ σ (upd H D o)) ρ σ (upd H D o) := by
  have mD : MA (G.beside D ρ σ Hx) ρ σ D := .inl (.inr rfl)
  obtain ⟨nS, w0, hw0⟩ := g.nn D (.inr rfl)
  have nLM : ¬ LM G ρ σ D := g.not_lm nS hw0
  have eM : ∀ b, MA (G.beside D ρ σ (upd H D o)) ρ σ b ↔ MA (G.beside D ρ σ Hx) ρ σ b := fun b => by rw [MA.beside, MA.beside]
  have same : Same (hide (MA (G.beside D ρ σ Hx) ρ σ) H) (hide (MA (G.beside D ρ σ (upd H D o)) ρ σ) (upd H D o)) := fun b u z => by
    rw [← hide_upd_in (o := o) mD] at z
    exact hide_anti (fun b y => (eM b).mp y) b u z
  have sne : ∀ {a : Addr}, SA G ρ σ a → a ≠ D := fun {a} z e => nLM (by rw [← e]; exact z.lm)
  refine ⟨g.len, fun b u _ h => hide_sub b u h, fun b h => ?_, fun a z => ?_, fun a z => .inr ?_, fun i p h => ?_, g.inj⟩
  · obtain ⟨x, u, e⟩ := g.nn b h
    have l := g.not_lm x e
    by_cases hb : b = D
    · subst hb
      exact ⟨x, o, hide_some.mpr ⟨l, upd_same⟩⟩
    · exact ⟨x, u, hide_some.mpr ⟨l, by rw [upd_ne hb]; exact g.fr b u x e⟩⟩
  · obtain ⟨x, y, e, r⟩ := g.sa a z
    exact ⟨x, y, by rw [upd_ne (sne z)]; exact e, r⟩
  · cases e : (G.beside D ρ σ (upd H D o)).H0 a with
    | none => rfl
    | some u => exact absurd (SA.lm z) (hide_some.mp e).1
  · obtain ⟨v, e, r⟩ := g.slot i p h
    refine ⟨v, e, ?_⟩
    cases r with
    | plain r => exact .plain (r.mono same)
    | @own q a u m n2 h0 f t =>
      have hne : a ≠ D := fun z => nLM (by rw [← z]; exact .inr ⟨i, _, h, rfl, e⟩)
      refine .own ((eM a).mpr m) n2 ?_ (by rw [upd_ne hne]; exact f) (t.mono same)
      cases e2 : (G.beside D ρ σ (upd H D o)).H0 a with
      | none => rfl
      | some w => exact absurd (.inr ⟨i, _, h, rfl, e⟩) (hide_some.mp e2).1
    | st z => exact .st z
/-- all else is looked at anew -/
theorem Good.besideNow {D : Addr} {Hx : Hp} (g : Good K (G.beside D ρ σ Hx) ρ σ H) : Good K (G.beside D ρ σ H) ρ σ H := by
  have eM : ∀ b, MA (G.beside D ρ σ H) ρ σ b ↔ MA (G.beside D ρ σ Hx) ρ σ b := fun b => by rw [MA.beside, MA.beside]
  refine ⟨g.len, fun b u _ h => hide_sub b u h, fun b h => ?_, g.sa, fun a z => .inr ?_, fun i p h => ?_, g.inj⟩
  · obtain ⟨x, u, e⟩ := g.nn b h
    exact ⟨x, u, hide_some.mpr ⟨g.not_lm x e, g.fr b u x e⟩⟩
  · cases e : (G.beside D ρ σ H).H0 a with
    | none => rfl
    | some u => exact absurd (SA.lm z) (hide_some.mp e).1
  · obtain ⟨v, e, r⟩ := g.slot i p h
    refine ⟨v, e, ?_⟩
    cases r with
    | plain r => exact .plain r
    | @own q a u m n2 h0 f t =>
      refine .own m n2 ?_ f t
      cases e2 : (G.beside D ρ σ H).H0 a with
      | none => rfl
      | some w => exact absurd (.inr ⟨i, _, h, rfl, e⟩) (hide_some.mp e2).1
    | st z => exact .st z
end

/-! ### [e for x in xs if t] -/
structure VIfs (X : Cx) (W : WX) (ifs : List Expr) (w : WTs) : Prop where
  pts : PTs X ifs (lftT X.K W w)
def wYes : WTs := fun _ Q _ => Q true
abbrev W0 : WX := fun _ _ _ _ => False
def noMut (ρ : PEnv) (vs : List Nat) : Bool := vs.all fun i => match ρ[i]? with
  | some (some p) => !isMut p
  | _ => true
theorem noMut_at {ρ : PEnv} {vs : List Nat} (h : noMut ρ vs = true) {i : Nat} (hi : i ∈ vs) {p : PV} (e : ρ[i]? = some (some p)) : isMut p = false := by
  have := List.all_eq_true.mp h i hi
  rw [e] at this
  simpa using this
theorem Good.n_not_sa {K : PySem.W.Frag} {G : Gd} {ρ : PEnv} {σ : St} {H : Hp} (g : Good K G ρ σ H) {b : Addr} (h : G.N b) : ¬ SA G ρ σ b := fun z => by
  obtain ⟨n, o, e⟩ := g.nn b h
  rcases g.sl b z with y | y
  · exact n y
  · rw [e] at y; cases y
theorem wipe_get_some {σ : St} {i : Nat} {x : V} {vs : List Nat} (h : σ[i]? = some (some x)) (hi : i ∉ vs) : (wipe σ vs)[i]? = some (some x) := by
  induction vs with
  | nil => exact h
  | cons v vs ih =>
    have h1 : v ≠ i := fun e => hi (by rw [e]; exact List.mem_cons_self)
    show ((wipe σ vs).set v none)[i]? = _
    rw [get_set_ne h1]
    exact ih fun z => hi (List.mem_cons_of_mem _ z)
theorem wipeP_get_some {ρ : PEnv} {i : Nat} {x : PV} {vs : List Nat} (h : ρ[i]? = some (some x)) (hi : i ∉ vs) : (wipeP ρ vs)[i]? = some (some x) := by
  induction vs with
  | nil => exact h
  | cons v vs ih =>
    have h1 : v ≠ i := fun e => hi (by rw [e]; exact List.mem_cons_self)
    show ((wipeP ρ vs).set v none)[i]? = _
    rw [get_set_ne h1]
    exact ih fun z => hi (List.mem_cons_of_mem _ z)
theorem wipeP_not {ρ : PEnv} {i : Nat} {x : PV} {vs : List Nat} (h : (wipeP ρ vs)[i]? = some (some x)) : i ∉ vs := by
  induction vs with
  | nil => exact List.not_mem_nil
  | cons v vs ih =>
    have h' : ((wipeP ρ vs).set v none)[i]? = some (some x) := h
    obtain ⟨h1, h2⟩ := none_back h'
    intro z
    rcases List.mem_cons.mp z with z | z
    · exact h1 z
    · exact ih h2 z
theorem MA.wiped {G : Gd} {ρ : PEnv} {σ : St} {vs : List Nat} (h : noMut ρ vs = true) {b : Addr} (z : MA G ρ σ b) : MA G (wipeP ρ vs) (wipe σ vs) b := by
  rcases z with z | z | ⟨j, q, e1, m, e2⟩
  · exact .inl z
  · exact .inr (.inl z)
  · have hj : j ∉ vs := fun y => by
      rw [noMut_at h y e1] at m; cases m
    exact .inr (.inr ⟨j, q, wipeP_get_some e1 hj, m, wipe_get_some e2 hj⟩)
theorem wipe_wipe (σ : St) (vs : List Nat) : wipe (wipe σ vs) vs = wipe σ vs := by
  have gen : ∀ {us : List Nat} {τ : St}, (∀ i ∈ us, ∀ x, τ[i]? = some x → x = none) → wipe τ us = τ := by
    intro us
    induction us with
    | nil => intro τ _; rfl
    | cons u us ih =>
      intro τ h
      show (wipe τ us).set u none = τ
      rw [ih fun i hi => h i (List.mem_cons_of_mem _ hi)]
      apply List.ext_getElem?
      intro k
      by_cases hk : u = k
      · subst hk
        by_cases hl : u < τ.length
        · rw [List.getElem?_set_self hl, List.getElem?_eq_getElem hl, h u List.mem_cons_self _ (List.getElem?_eq_getElem hl)]
        · rw [List.getElem?_eq_none (by rw [List.length_set]; omega), List.getElem?_eq_none (by omega)]
      · rw [get_set_ne hk]
  refine gen fun i hi x e => ?_
  cases x with
  | none => rfl
  | some y => exact absurd hi (wipe_some e).2
def wComp (wi : WIt) (td : TD) (t : WTs) (e : WEx) (vs : List Nat) : WEx := fun ρ Q R => wi ρ (fun xs => noMut ρ vs = true ∧ ∃ I : Nat → List PV → Prop, I 0 [] ∧
  (∀ i acc p, I i acc → xs[i]? = some p → tgW td p (wipeP ρ vs) fun ρ2 => t ρ2 (fun b => if b = true then e ρ2 (fun q => q.gives = true ∧ acc.length < sizeLine ∧ I (i + 1) (acc ++ [q.thaw])) (fun _ => False) else I (i + 1) acc) fun _ => False) ∧
  ∀ acc, I xs.length acc → Q (.new (.lst acc))) R
section
variable {X : Cx} {W : WX} {pos : Pos} {elt tg iter c : Expr} {ifs : List Expr} {wi : WIt} {td : TD} {wt : WTs} {we : WEx} {scope : Scope} {own : List (Str × Nat)} {b : Bool}
theorem vifs_nil : VIfs X W [] wYes := ⟨⟨fun pins s σ H Q I h => by
  obtain ⟨G, ρ, Qp, Rp, g, hw, kq, kx⟩ := h
  exact pts_nil.run pins s σ H Q I (kq _ _ .refl g hw)⟩⟩
theorem vifs_one (h : VT X W c wt) : VIfs X W [c] wt := ⟨pts_one h.pt⟩
theorem ve_comp (hc : X.calm = true) (hN : X.N.Nodup) (hi : VI X W b tg iter wi) (ok : BlkOk X.N X.env.scope scope own) (hS : (tgS td).all (fun i => (own.map (·.2)).contains i) = true)
    (hg : ∀ (s : Shared) (H : Hp) (C : Addr) (cl : List (Str × Addr)) (fp : List Addr), VG (X.blk s H scope (compEnvC scope cl C X.env) fp) tg td) (ht : ∀ (s : Shared) (H : Hp) (C : Addr) (cl : List (Str × Addr)) (fp : List Addr), VIfs (X.blk s H scope (compEnvC scope cl C X.env) fp) W0 ifs wt)
    (he : ∀ (s : Shared) (H : Hp) (C : Addr) (cl : List (Str × Addr)) (fp : List Addr), VE (X.blk s H scope (compEnvC scope cl C X.env) fp) W0 elt we) (hs : ∀ x, foldedSetIterable iter X.env x = pure x := by intro _; rfl) :
    VE X W (.ListComp elt [⟨tg, iter, ifs, 0⟩] scope pos) (wComp wi td wt we (own.map (·.2))) := by
  obtain ⟨t, pi, io⟩ := hi.ex
  refine ⟨PE.imp (pe_lc (g := tgT X.K td) (tt := lftT X.K W0 wt) (te := lftE X.K W0 we) hc hN pi ok (fun s H C cl fp => (hg s H C cl fp).pg) (fun s H C cl fp => (ht s H C cl fp).pts) (fun s H C cl fp => (he s H C cl fp).pe) hs) fun σ H Q ⟨G, ρ, Qp, Rp, g, hw, kq, kx⟩ => io g hw (fun xs J H1 s1 g1 it ⟨hm, I, i0, turn, fin⟩ D nD => ?_) kx⟩
  have vsub : ∀ i ∈ tgS td, i ∈ own.map (·.2) := fun i hi => by
    have := List.all_eq_true.mp hS i hi
    simpa using this
  generalize hvs : own.map (·.2) = vs at turn vsub hm ⊢
  obtain ⟨gw, sw, mw⟩ := g1.wipe vs
  have nM := g1.new nD
  have sub : Same (hide (itB b G ρ σ) H1) (hide (SA G ρ σ) H1) := hide_anti fun a z => by
    unfold itB
    cases b with
    | true => exact z
    | false => exact SA.ma z
  have it := it.mono sub
  -- the word between two turns
  refine ⟨fun i m H2 => m = xs.length - i ∧ i ≤ xs.length ∧ ∃ acc ys, H2 D = some (.lst ys) ∧ Reps X.K (hide (MA (G.beside D (wipeP ρ vs) (wipe σ vs) H2) (wipeP ρ vs) (wipe σ vs)) H2) acc ys ∧ I i acc ∧ Good X.K (G.beside D (wipeP ρ vs) (wipe σ vs) H2) (wipeP ρ vs) (wipe σ vs) H2 ∧ Step G ρ σ H1 H2 ∧ Good X.K G ρ σ H2,
    ⟨_, rfl, Nat.zero_le _, [], [], upd_same, .nil, i0, gw.beside nD, .of_same (same_upd nD), g1.laid nD⟩, ?_⟩
  rintro i m H2 ⟨rfl, hi, acc, ys, hD, ry, ii, gb, s2, g2⟩
  have hx2 : Same (hide (SA G ρ σ) H1) H2 := fun a o z => by
    obtain ⟨z1, z2⟩ := hide_some.mp z
    exact s2 a o z1 z2
  by_cases hl : i < xs.length
  · refine .inr ⟨it.go i H2 hx2 hl, fun H' => ∃ acc ys, H' D = some (.lst ys) ∧ Reps X.K (hide (MA (G.beside D (wipeP ρ vs) (wipe σ vs) H') (wipeP ρ vs) (wipe σ vs)) H') acc ys ∧ I (i + 1) acc ∧ Good X.K (G.beside D (wipeP ρ vs) (wipe σ vs) H') (wipeP ρ vs) (wipe σ vs) H' ∧ Step G ρ σ H1 H' ∧ Good X.K G ρ σ H',
      fun H' h => ⟨_, by omega, rfl, hl, h⟩, fun v H' y => ?_⟩
    obtain ⟨sm, rep⟩ := it.yld i H2 v H' hx2 y
    have e := List.getElem?_eq_getElem hl
    have g3 := gb.same sm
    have mEq : ∀ {Hx Hy : Hp} {a : Addr}, MA (G.beside D (wipeP ρ vs) (wipe σ vs) Hx) (wipeP ρ vs) (wipe σ vs) a → MA (G.beside D (wipeP ρ vs) (wipe σ vs) Hy) (wipeP ρ vs) (wipe σ vs) a := fun {Hx Hy a} z => MA.beside.mpr (MA.beside.mp z)
    -- the item
    have rp : Rep X.K (hide (MA (G.beside D (wipeP ρ vs) (wipe σ vs) H2) (wipeP ρ vs) (wipe σ vs)) H') xs[i] v := by
      refine rep _ e _ (fun a o z => ?_) fun a o n y => hide_some.mpr ⟨gb.new n, y⟩
      obtain ⟨z1, z2⟩ := hide_some.mp z
      refine hide_some.mpr ⟨fun w => ?_, sm a o (s2 a o (fun w => z1 w.ma) z2)⟩
      rcases MA.beside.mp w with w | w
      · exact z1 (mw a w)
      · rw [w, nD] at z2; cases z2
    refine tg_ok td g3 (fun _ z => z) rp (turn i acc _ ii e) fun ρ' σ' g' le h' => ⟨by rw [le.wipe vs vsub, wipe_wipe], ?_⟩
    -- what every later heap keeps
    have later : ∀ {H4 : Hp}, Step (G.beside D (wipeP ρ vs) (wipe σ vs) H2) ρ' σ' H' H4 → Good X.K (G.beside D (wipeP ρ vs) (wipe σ vs) H2) ρ' σ' H4 → H4 D = some (.lst ys) ∧ Good X.K (G.beside D (wipeP ρ vs) (wipe σ vs) H2) (wipeP ρ vs) (wipe σ vs) H4 ∧ Step (G.beside D (wipeP ρ vs) (wipe σ vs) H2) (wipeP ρ vs) (wipe σ vs) H2 H4 ∧ (∀ a o, ¬ SA G ρ σ a → H2 a = some o → H4 a = some o) ∧ ∀ a, SA G ρ σ a → StOk H4 a := fun {H4} s4 g4 => by
      have sw4 : Step (G.beside D (wipeP ρ vs) (wipe σ vs) H2) (wipeP ρ vs) (wipe σ vs) H2 H4 := fun a o n z => s4 a o (fun w => n (le.sa a w)) (sm a o z)
      have so4 : ∀ a o, ¬ SA G ρ σ a → H2 a = some o → H4 a = some o := fun a o n z => sw4 a o (fun w => n (sw a w)) z
      have st4 : ∀ a, StOk H2 a → (SA (G.beside D (wipeP ρ vs) (wipe σ vs) H2) ρ' σ' a → StOk H4 a) → StOk H4 a := fun a z k => by
        by_cases w : SA (G.beside D (wipeP ρ vs) (wipe σ vs) H2) ρ' σ' a
        · exact k w
        · obtain ⟨x, y, e1, e2⟩ := z
          exact ⟨x, y, s4 a _ w (sm a _ e1), e2⟩
      exact ⟨s4 D _ (g'.n_not_sa (.inr rfl)) (sm D _ hD), gb.step sw4 fun a z => st4 a (gb.sa a z) (g4.sa a), sw4, so4, fun a z => st4 a (g2.sa a z) (g4.sa a)⟩
    have outer : ∀ {H4 H5 : Hp}, (∀ a o, ¬ SA G ρ σ a → H2 a = some o → H4 a = some o) → (∀ a, SA G ρ σ a → StOk H4 a) → (∀ a, a ≠ D → H5 a = H4 a) → Step G ρ σ H1 H5 ∧ Good X.K G ρ σ H5 := fun {H4 H5} so st ne => by
      have s5 : Step G ρ σ H1 H5 := fun a o n z => by
        rw [ne a (ne_of_none z nD)]
        exact so a o n (s2 a o n z)
      refine ⟨s5, g1.step s5 fun a z => ?_⟩
      have hne : a ≠ D := fun w => by
        obtain ⟨x, y, e1, _⟩ := g1.sa a z
        rw [w, nD] at e1; cases e1
      obtain ⟨x, y, e1, e2⟩ := st a z
      exact ⟨x, y, by rw [ne a hne]; exact e1, e2⟩
    refine ⟨_, ρ', _, _, g', h', fun k H3 s3 g3' h3 => ?_, fun _ _ _ _ _ _ _ z => z.elim⟩
    cases k with
    | false =>
      obtain ⟨d3, gb3, sw3, so3, st3⟩ := later s3 g3'
      obtain ⟨o1, o2⟩ := outer so3 st3 fun _ _ => rfl
      exact ⟨acc, ys, d3, (ry.mono sw3.hide).mono (hide_anti fun a z => mEq z), h3, gb3.besideNow, o1, o2⟩
    | true =>
      refine ⟨_, ρ', _, _, g3', h3, fun q u H4 s4 g4 r4 ⟨hq, hz, hi4⟩ => ?_, fun _ _ _ _ _ _ _ z => z.elim⟩
      obtain ⟨d4, gb4, sw4, so4, st4⟩ := later (s3.trans s4) g4
      have u5 : ∀ a, a ≠ D → upd H4 D (.lst (ys ++ [u])) a = H4 a := fun a z => upd_ne z
      obtain ⟨o1, o2⟩ := outer so4 st4 u5
      refine ⟨ys, d4, by rw [← ry.length]; exact hz, acc ++ [q.thaw], ys ++ [u], upd_same, ?_, hi4, gb4.besideAgain, o1, o2⟩
      have mD : MA (G.beside D (wipeP ρ vs) (wipe σ vs) (upd H4 D (.lst (ys ++ [u])))) (wipeP ρ vs) (wipe σ vs) D := .inl (.inr rfl)
      rw [hide_upd_in mD]
      refine ((ry.mono sw4.hide).mono (hide_anti fun a z => mEq z)).snoc ((r4.rep hq).mono (hide_anti fun a z => ?_))
      refine le.ma2 (fun i hi p e => ?_) a (mEq z)
      exact absurd (vsub i hi) (wipeP_not e)
  · have ei : i = xs.length := by omega
    subst ei
    refine .inl ⟨it.stop _ H2 hx2 (Nat.le_refl _), kq _ _ H2 (s1.trans s2) g2 (.new nM (s1.gr g1 _ nD) hD (.lst (ry.mono (hide_anti fun a z => MA.beside.mpr (z.elim (fun w => .inl (w.wiped hm)) .inr))))) (fin acc ii)⟩
end
end L3

/-! Values without the heap: the rule for a def; errors raised and caught. -/
namespace L3
open PySem PySem.Spec PyProof.Rows L2

/-! ### several except clauses, with a name or without -/
/-- the error at a has come down in the frame of X: sI is the state without it -/
structure Air (X : Cx) (pins : List (Addr × Obj)) (σ : L2.St) (H : Hp) (cls : Value) (d : Option Addr) (a : Addr) (B : Heap) (sI s : Shared) : Prop where
  inv : Inv X pins σ H sI
  nb : ∀ b o, sI.heap.get? b = some o → b ∉ frs X.stack → B.get? b = some o
  fly : HandSPX.FlyingZ B (X.env :: X.outer) a (Zc cls d) s.heap
  up : sI.heap.UpToSlots s.heap
  na : H a = none
  os : s.os = sI.os
  ag : AllBare s.gens
theorem Air.now {X : Cx} {pins : List (Addr × Obj)} {σ : L2.St} {H : Hp} {cls : Value} {d : Option Addr} {a : Addr} {B : Heap} {sI s : Shared} (r : Air X pins σ H cls d a B sI s) : Inv X pins σ H s := r.inv.landed r.nb r.fly.1 r.up r.os r.ag
/-- it is none of the frames -/
theorem Air.apart {X : Cx} {pins : List (Addr × Obj)} {σ : L2.St} {H : Hp} {cls : Value} {d : Option Addr} {a : Addr} {B : Heap} {sI s : Shared} (r : Air X pins σ H cls d a B sI s) (hf : X.env.frame = some X.env.locals) : a ≠ X.env.locals ∧ a ∉ X.fs := by
  obtain ⟨oe, vs, he, _, hd⟩ := r.fly.there
  have key : a ∉ frs (X.env :: X.outer) := fun hm => by
    obtain ⟨_, o, e, n⟩ := (r.fly.2.2.1).mem hm
    rw [he] at e
    cases e
    exact n _ hd
  refine ⟨fun z => key (List.mem_filterMap.mpr ⟨X.env, List.mem_cons_self, by rw [hf, z]⟩), fun hm => ?_⟩
  obtain ⟨e, h1, h2⟩ := List.mem_filterMap.mp hm
  exact key (List.mem_filterMap.mpr ⟨e, List.mem_cons_of_mem _ h1, h2⟩)
abbrev TSx := Addr → Value → Option Addr → TS
inductive HdL (X : Cx) : List ExceptHandler → (WX → Ends → WX) → Prop
  | nil : HdL X [] (fun Wout _ => Wout)
  | only {x : Str} {c : Value} {ts : TSx} {b₀ : Stmt} {suite : List Stmt} {np pos' : Pos} {hds : List ExceptHandler} {w : WX → Ends → WX} (hc : Names X x c)
      (hsu : ∀ (a : Addr) (oe : Obj) (cls : Value) (d : Option Addr) (pn : List (Addr × Obj)), Zc cls d oe → (∃ vs, oe.data = .fields vs) → PSs (X.suite a ((a, oe) :: pn)) (b₀ :: suite) (ts a cls d)) (r : HdL X hds w) :
      HdL X (.ExceptHandler (some (.Name x np)) none (b₀ :: suite) pos' :: hds) (fun Wout D cls d σ H => ∃ b, PySem.W.exmOne X.K cls c = some b ∧ (b = true → ∀ a, H a = none → ts a cls d D σ H) ∧ (b = false → w Wout D cls d σ H))
  | as_ {x n : Str} {i : Nat} {c : Value} {ts : TSx} {b₀ : Stmt} {suite : List Stmt} {np pos' : Pos} {hds : List ExceptHandler} {w : WX → Ends → WX} (hc : Names X x c) (hN : X.N.Nodup) (hi : X.N[i]? = some n) (hln : X.env.kindOf n = some .local)
      (hsu : ∀ (a : Addr) (oe : Obj) (cls : Value) (d : Option Addr) (pn : List (Addr × Obj)), Zc cls d oe → (∃ vs, oe.data = .fields vs) → PSs (X.suite a ((a, oe) :: pn)) (b₀ :: suite) (ts a cls d)) (r : HdL X hds w) :
      HdL X (.ExceptHandler (some (.Name x np)) (some n) (b₀ :: suite) pos' :: hds) (fun Wout D cls d σ H => ∃ b, PySem.W.exmOne X.K cls c = some b ∧
        (b = true → ∀ a, H a = none → ts a cls d { nx := fun σ' H' => D.nx (σ'.set i none) H', rt := D.rt, bk := fun σ' H' => D.bk (σ'.set i none) H', ct := fun σ' H' => D.ct (σ'.set i none) H' } (σ.set i (some (.ref a))) H) ∧ (b = false → w Wout D cls d σ H))
section
variable {X : Cx} {pins : List (Addr × Obj)} {σ : L2.St} {H : Hp} {cls : Value} {d : Option Addr} {a : Addr} {B : Heap} {sI s : Shared} {Wout : WX} {D : Ends}
/-- the class that a clause names is looked at -/
theorem Air.test (r : Air X pins σ H cls d a B sI s) (hf : X.env.frame = some X.env.locals) {x : Str} {c : Value} {np : Pos} (hc : Names X x c) {Q E : Value → Shared → Prop} (q : Q c s) : wpAny (model X.prog X.w) (X.A.mark (some (.ref a))) (eval (.Name x np) X.env) Q E s := by
  obtain ⟨oe, vs, he, _, hd⟩ := r.fly.there
  obtain ⟨n1, n2⟩ := r.apart hf
  have S := r.now.suite he hd r.na n1 n2
  rcases hc with ⟨hg, hdbg, hm | ⟨hm, hv, hnn⟩⟩
  · exact ld_glob (X := X.suite a ((a, oe) :: (X.pn ++ pins))) S hg hm q hdbg
  · exact ld_blt (X := X.suite a ((a, oe) :: (X.pn ++ pins))) S hg hm hv q hnn hdbg
theorem Air.looks (r : Air X pins σ H cls d a B sI s) : PySem.W.Looks (model X.prog X.w) s.heap (typeOf (.ref a)) cls := by
  obtain ⟨oe, vs, he, hz, _⟩ := r.fly.there
  exact fun A Q E s' k q => wpAny_typeOf_ref (k _ _ he) (by rw [hz.1]; exact q)
theorem Air.pass (r : Air X pins σ H cls d a B sI s) (hs : X.stack = X.env :: X.outer) (hf : X.env.frame = some X.env.locals) (tk : Takes X Wout) (w : Wout cls d σ H) : wpAny (model X.prog X.w) X.A (handleBy (.ref a) X.env []) (SP X pins D) X.xe s := by
  refine wpAny_handleBy_nil ?_
  have fly := r.fly
  obtain ⟨_, _, _, oe, vs, T, oT, ts', he, _, hd, h1, _⟩ := id fly
  unfold PySem.passOn
  refine wpAny_bind (wpAny_field he hd h1 ?_)
  rw [if_neg (show ¬ ((Value.ref T == Value.none) = true) by simp)]
  have fin : wpAny (model X.prog X.w) X.A (setFlight (.ref a) X.env.frame) (fun _ s4 => wpAny (model X.prog X.w) X.A (throw (.ref a) : Sem Flow) (SP X pins D) X.xe s4) X.xe s := by
    rw [hf]
    refine HandSPX.setFlight_upZ fly fun h4 hh up => wpAny_throw (tk _ _ ⟨a, B, sI, pins, σ, H, cls, d, rfl, r.inv, r.nb, r.up.trans up, .inr (.inr ?_), r.na, r.os, r.ag, w⟩)
    rw [hs]
    exact hh
  first
    | exact wpAny_bind (wpAny_pure (wpAny_bind fin))
    | exact wpAny_bind fin
theorem HdL.go (hs : X.stack = X.env :: X.outer) (hf : X.env.frame = some X.env.locals) (tk : Takes X Wout) {hds : List ExceptHandler} {w : WX → Ends → WX} (hk : HdL X hds w) : ∀ {s : Shared}, Air X pins σ H cls d a B sI s → w Wout D cls d σ H →
    wpAny (model X.prog X.w) X.A (handleBy (.ref a) X.env hds) (SP X pins D) X.xe s := by
  induction hk with
  | nil => exact fun r w => r.pass hs hf tk w
  | @only x c ts b₀ suite np pos' hds w hc hsu _ ih =>
    intro s r ⟨b, hb, hyes, hno⟩
    refine wpAny_handleBy_cons (codeAny_handlers_test (r.test hf hc ((PySem.W.exm_one (M := model X.prog X.w) r.now.kIn r.looks hb).here ?_))) (by intro q; cases q)
    cases b with
    | false => exact ih r (hno rfl)
    | true =>
      refine codeAny_handlers_suite (HandSPX.lands_againZ r.fly fun h2 fl2 up2 => ?_)
      have r2 : Air X pins σ H cls d a B sI { s with heap := h2 } := ⟨r.inv, r.nb, fl2, r.up.trans up2, r.na, r.os, r.ag⟩
      obtain ⟨oe, vs, he, hz, hd⟩ := fl2.there
      obtain ⟨n1, n2⟩ := r2.apart hf
      refine wpAny_mono ((hsu a oe cls d (X.pn ++ pins) hz ⟨_, hd⟩).run [] _ σ H D (r2.now.suite he hd r.na n1 n2) (hyes rfl a r.na)) (fun f s3 hsp => ?_) (fun _ _ z => False.elim z)
      cases f with
      | ret u =>
        obtain ⟨v, σ3, H3, S3, r3, q3⟩ := hsp
        exact ⟨v, σ3, H3, S3.unsuite r.inv.ok, r3, q3⟩
      | _ =>
        obtain ⟨σ3, H3, S3, q3⟩ := hsp
        exact ⟨σ3, H3, S3.unsuite r.inv.ok, q3⟩
  | @as_ x n i c ts b₀ suite np pos' hds w hc hN hi hln hsu _ ih =>
    intro s r ⟨b, hb, hyes, hno⟩
    refine wpAny_handleBy_cons (codeAny_handlers_test (r.test hf hc ((PySem.W.exm_one (M := model X.prog X.w) r.now.kIn r.looks hb).here ?_))) (by intro q; cases q)
    cases b with
    | false => exact ih r (hno rfl)
    | true =>
      refine codeAny_handlers_suite_as (HandSPX.lands_againZ r.fly fun h2 fl2 up2 => ?_)
      have r2 : Air X pins σ H cls d a B sI { s with heap := h2 } := ⟨r.inv, r.nb, fl2, r.up.trans up2, r.na, r.os, r.ag⟩
      obtain ⟨oe, vs, he, hz, hd⟩ := fl2.there
      obtain ⟨n1, n2⟩ := r2.apart hf
      refine store_ok (X := X.suite a ((a, oe) :: (X.pn ++ pins))) (v := .ref a) (r2.now.suite he hd r.na n1 n2) hN hi (.inl hln) rfl (fun s5 S5 => ?_) (.inr hln)
      refine wpAny_mono ((hsu a oe cls d (X.pn ++ pins) hz ⟨_, hd⟩).run [] s5 _ H _ S5 (hyes rfl a r.na)) (fun f s6 hsp => ?_) (fun _ _ z => False.elim z)
      cases f with
      | ret u =>
        obtain ⟨v, σ6, H6, S6, r6, q6⟩ := hsp
        exact gone_ok (S6.unsuite r.inv.ok) hN hi hln fun s7 J7 => ⟨v, _, _, J7, r6, q6⟩
      | next =>
        obtain ⟨σ6, H6, S6, q6⟩ := hsp
        exact gone_ok (S6.unsuite r.inv.ok) hN hi hln fun s7 J7 => ⟨_, _, J7, q6⟩
      | brk =>
        obtain ⟨σ6, H6, S6, q6⟩ := hsp
        exact gone_ok (S6.unsuite r.inv.ok) hN hi hln fun s7 J7 => ⟨_, _, J7, q6⟩
      | cont =>
        obtain ⟨σ6, H6, S6, q6⟩ := hsp
        exact gone_ok (S6.unsuite r.inv.ok) hN hi hln fun s7 J7 => ⟨_, _, J7, q6⟩
theorem ps_tryL {body : List Stmt} {h₀ : ExceptHandler} {hds : List ExceptHandler} {pos : Pos} {tb : WX → TS} {w : WX → Ends → WX} (hs : X.stack = X.env :: X.outer) (hf : X.env.frame = some X.env.locals) (tk : Takes X Wout)
    (hb : ∀ (W : WX) (pn : List (Addr × Obj)) (xe : Value → Shared → Prop), Takes (X.tr pn xe) W → PassesOwn (model X.prog X.w) X.A X.env xe → PSs (X.tr pn xe) body (tb W)) (hh : HdL X (h₀ :: hds) w) :
    PS X (.Try body (h₀ :: hds) [] [] pos) (fun D σ H => tb (w Wout D) D σ H) := by
  refine ⟨fun pins s σ H D I h => wpAny_Try_except ?_⟩
  refine wpAny_mono ((hb (w Wout D) (X.pn ++ pins) _ (fun u s' xx => ?_) PassesOwn.looking).run [] s σ H D (I.toTry _) h) (fun f s1 hsp => ?_) (fun e s1 he => he)
  · obtain ⟨a, B, sI, pins', σ', H', cls, d, e, J, nb, up, sky, na, os, ag, q⟩ := xx
    subst e
    have sky' : Sky B (X.env :: X.outer) a (Zc cls d) X.env.locals s'.heap := by rw [← hs]; exact sky
    refine Sky.land Zc.steady (by rw [I.ok.frames, hs]) hf sky' fun h3 fl3 up3 => ?_
    exact hh.go hs hf tk (B := B) (sI := sI) ⟨J.ofTry I.ok, nb, fl3, up.trans up3, na, os, ag⟩ q
  · cases f with
    | next =>
      obtain ⟨σ', H', J, q⟩ := hsp
      exact wpAny_execs_nil ⟨σ', H', J.ofTry I.ok, q⟩
    | ret u =>
      obtain ⟨v, σ', H', J, r, q⟩ := hsp
      exact ⟨v, σ', H', J.ofTry I.ok, r, q⟩
    | _ =>
      obtain ⟨σ', H', J, q⟩ := hsp
      exact ⟨σ', H', J.ofTry I.ok, q⟩
end
end L3

/-! Values without the heap: raise, try, the rule for a def. -/
namespace L3
open PySem PySem.Spec L2

/-! ### raise -/
def wRaise (x : EX) : WSt := fun D ρ => D.ex x ρ
section
variable {X : Cx} {W : WX} {pos p p2 pos' : Pos} {x m : Str} {C : Addr} {j : Nat}
theorem vs_raise {B newId initId : String} {bmB : List Value} (hc : X.calm = true) (tk : Takes X W) (F : PySem.ExcBaseFacts B newId initId bmB) (q : PySem.W.excIn X.K C bmB newId = true) (gC : X.mg x = some (.ref C)) (kC : PySem.W.keepIn X.K (.ref C) = true) (r : Raises X (.ref C)) (hg : Gl X x)
    (hdb : (x == ("__debug__" : Str)) = false := by decide) : VS X W (.Raise (some (.Call (.Name x p) [.Constant (.str m) j p2] [] pos)) none pos') (wRaise ⟨C, none⟩) :=
  ⟨PS.imp (ps_raise hc tk (pmk_own F q gC kC r hg hdb)) fun D σ H ⟨G, ρ, Dp, g, hw, de⟩ => de.ex ⟨C, none⟩ (.ref C) none ρ σ H g ⟨rfl, fun _ _ z => nomatch z⟩ hw⟩
/-- Base.__init__(self, ..), Base an own class over ValueError -/
theorem pe_bInit {pl : Sem Bool} {F : Str} {CF : Addr} {e : Expr} {es : List Expr} {ta : TA} {p1 : Pos} (hg : Gl X F) (hm : X.mg F = some (.ref CF)) (h1 : PySem.W.specialIn X.K (.ref CF) "__getattribute__" = some (some (.builtin "type.__getattribute__"))) (h2 : PySem.W.readsIn X.K CF (.type "type") = true)
    (h3 : PySem.W.findCls X.K (.ref CF) (.type "type") "__init__" = some (.val (.builtin "ValueError.__init__"))) (ha : PA X (e :: es) ta)
    (hc : eval (.Call (.Attribute (.Name F p1) "__init__" p2) (e :: es) [] pos) X.env = (do
      let ov ← eval (.Name F p1) X.env
      standAt p2.atName
      let (f, first) ← holding [ov] (getMethod ov "__init__" pl)
      callWith pos f first (backTo pos (starEach (e :: es) X.env)) (backToKw pos (keywordEach [] X.env))) := by rfl)
    (hdb : (F == ("__debug__" : Str)) = false := by decide)
    (he : starEach (e :: es) X.env = (false, eval e X.env) :: starEach es X.env := by rfl) (hpl : (backTo pos (starEach es X.env)).any (·.1) = false := by rfl) :
    PE X (.Call (.Attribute (.Name F p1) "__init__" p2) (e :: es) [] pos) (tVeI X.K ta) := by
  refine ⟨fun pins s σ H Q I h => ?_⟩
  refine PySem.W.methodCall_KW (ld_glob I hg hm ?_ hdb) hc
  refine PySem.W.method_cls I.kIn h1 (PySem.W.cls_value I.kIn h2 h3 (by decide +kernel) ?_)
  show wpAny _ _ (callWith pos (Value.builtin "ValueError.__init__") [] (backTo pos (starEach (e :: es) X.env)) []) _ _ _
  refine PyProof.Rows.callWith_method1 (thn (ha.run pos pins _ σ H _ (I.tok _) h) fun us s1 ⟨vs, H1, I1, r1, a, C, ws, ev, hl, T, ea, q⟩ => ?_) he hpl
  subst ev
  cases r1 with
  | @cons _ u0 _ ur ra rw' =>
    obtain rfl : u0 = Value.ref a := ra
    refine oinit_ok T I1 ea ?_ fun s' J => ⟨.non, H1, J, rfl, q⟩
    rw [← Paired.length rw', sizeLine_eq]
    omega
/-- __init__ of an error with one field -/
def spErr (K : PySem.W.Frag) (C : Addr) (f : Str) : Sp := fun vs H Q _ => ∃ (a : Addr) (x : V), vs = [.ref a, x] ∧ H a = some (exo a C none) ∧ OexC K C ∧ PySem.W.findIn K (.ref C) f = some none ∧
  ∀ d, H d = none → d ≠ a → Q .non (upd (upd H d (exd d [(f, x)])) a (exo a C (some d)))
def wRaiseF (C : Addr) (f : Str) (a : WEx) : WSt := fun D ρ => a ρ (fun p => p.gives = true ∧ D.ex ⟨C, some (f, p.thaw)⟩ ρ) fun x => D.ex x ρ
theorem vs_raiseF {CX : CXT} {f : Str} {fI : Addr} {k : Nat} {fd : FuncData} {ps : List Str} {e : Expr} {wa : WEx} (hc : X.calm = true) (tk : Takes X W) (T : OexC X.K C) (iC : PySem.W.findIn X.K (.ref C) "__init__" = some (some (.ref fI))) (tI : PySem.W.typeIn X.K (.ref fI) = some (.type "function"))
    (nf : PySem.W.findIn X.K (.ref C) f = some none) (F1 : FnOk X.prog X.w X.K X.mg X.base CX k fI fd ps (spErr X.K C f)) (hr : Room (k + 1) X.A) (hb : Binds X.K fd ps []) (hx : Passes CX X (fun _ _ _ => False)) (hg : Gl X x) (hm : X.mg x = some (.ref C)) (ha : VE X W e wa)
    (hdb : (x == ("__debug__" : Str)) = false := by decide) (he : starEach [e] X.env = (false, eval e X.env) :: starEach [] X.env := by rfl) (hpl : (backTo pos (starEach [] X.env)).any (·.1) = false := by rfl) : VS X W (.Raise (some (.Call (.Name x p) [e] [] pos)) none pos') (wRaiseF C f wa) := by
  refine ⟨PS.imp (ps_raise hc tk (pmk_oex (dvs := []) T iC tI F1 hr hb .nil hx hg hm (pa_cons ha.pe pa_nil he) hdb he hpl)) fun D σ H ⟨G, ρ, Dp, g, hw, de⟩ => ⟨G, ρ, _, _, g, hw, fun q v H1 s1 g1 r1 ⟨h1, h2⟩ => ?_, de.kx⟩⟩
  refine ⟨by show 1 ≤ 1000; decide, fun a na => ⟨a, v, rfl, upd_same, T, nf, fun d nd hda => ?_⟩⟩
  have nd1 : H1 d = none := by rw [upd_ne hda] at nd; exact nd
  have e2 : (upd (upd (upd H1 a (exo a C none)) d (exd d [(f, v)])) a (exo a C (some d))) d = some (exd d [(f, v)]) := by rw [upd_ne hda, upd_same]
  refine ⟨rfl, d, [(f, v)], upd_same, e2, nd1, ?_⟩
  have eH : upd (del (upd (upd (upd H1 a (exo a C none)) d (exd d [(f, v)])) a (exo a C (some d))) a) d (.xd [(f, v)]) = upd H1 d (.xd [(f, v)]) := by
    funext b
    by_cases hb : b = d
    · subst hb; rw [upd_same, upd_same]
    · rw [upd_ne hb, upd_ne hb]
      by_cases hba : b = a
      · subst hba; rw [del_same, na]
      · rw [del_ne hba, upd_ne hba, upd_ne hb, upd_ne hba]
  rw [eH]
  refine de.ex ⟨C, some (f, q.thaw)⟩ (.ref C) (some d) ρ σ _ (g1.laid nd1) ⟨rfl, fun f' p' z => ?_⟩ h2
  cases z
  exact ⟨d, [(f, v)], v, rfl, upd_same, by simp [List.lookup], (r1.rep h1).mono (Step.hide (.of_same (same_upd nd1)))⟩
end

/-! ### try -/
structure VHd (X : Cx) (W : WX) (hds : List ExceptHandler) (h : PEnds → EX → PEnv → Prop) : Prop where
  ex : ∃ wish, HdL X hds wish ∧ ∀ {G Dp D}, DE X.K W G Dp D → ∀ x cls d ρ σ H, Good X.K G ρ σ H → XRep X.K (MA G ρ σ) H x cls d → h Dp x ρ → wish W D cls d σ H
def wTry (b : WSt) (h : PEnds → EX → PEnv → Prop) : WSt := fun D ρ => b ⟨D.nx, D.rt, D.bk, D.ct, fun x ρ' => h D x ρ'⟩ ρ
def whOnly (ans : Addr → Option Bool) (ws : WSt) (wh : PEnds → EX → PEnv → Prop) : PEnds → EX → PEnv → Prop := fun D y ρ => ∃ b, ans y.C = some b ∧ (b = true → ws ⟨D.nx, D.rt, D.bk, D.ct, fun _ _ => False⟩ ρ) ∧ (b = false → wh D y ρ)
def whRet (i : Nat) (ans : Addr → Option Bool) (c : Addr) (f s : Str) (wh : PEnds → EX → PEnv → Prop) : PEnds → EX → PEnv → Prop := fun D y ρ => ∃ b, ans y.C = some b ∧ (b = true → i < ρ.length ∧ y.C = c ∧ ∃ p, y.fs = some (f, p) ∧ D.rt (.tup [.str s, p])) ∧ (b = false → wh D y ρ)
section
variable {X : Cx} {W : WX} {pos np pos' : Pos} {x n : Str} {c : Addr} {i : Nat} {b₀ : Stmt} {suite body : List Stmt} {h₀ : ExceptHandler} {hds : List ExceptHandler} {wh : PEnds → EX → PEnv → Prop} {wb ws : WSt}
theorem vh_nil : VHd X W [] (fun D x ρ => D.ex x ρ) := ⟨_, .nil, fun de x cls d ρ σ H g r h => de.ex x cls d ρ σ H g r h⟩
/-- except C: suite -/
theorem vh_only (ans : Addr → Option Bool) (hc : Names X x (.ref c)) (ha : ∀ a b, ans a = some b → PySem.W.exmOne X.K (.ref a) (.ref c) = some b) (hsu : ∀ (a : Addr) (pn : List (Addr × Obj)), VSs (X.suite a pn) W0 (b₀ :: suite) ws) (r : VHd X W hds wh) :
    VHd X W (.ExceptHandler (some (.Name x np)) none (b₀ :: suite) pos' :: hds) (whOnly ans ws wh) := by
  obtain ⟨wish, r1, r2⟩ := r.ex
  refine ⟨_, .only (ts := fun _ _ _ => lftS X.K W0 ws) hc (fun a oe cls d pn _ _ => (hsu a _).pss) r1, fun {G Dp D} de y cls d ρ σ H g rx ⟨b, e, h1, h2⟩ => ?_⟩
  obtain ⟨rfl, rf⟩ := rx
  exact ⟨b, ha _ _ e, fun hb a na => ⟨G, ρ, _, g, h1 hb, ⟨de.nx, de.bk, de.ct, de.rt, fun _ _ _ _ _ _ _ _ z => z⟩⟩, fun hb => r2 de y _ d ρ σ H g ⟨rfl, rf⟩ (h2 hb)⟩
/-- except C as n: return (s, n.f) -/
theorem vh_ret {f s : Str} {j k : Nat} {p1 p2 p3 p4 p5 : Pos} (ans : Addr → Option Bool) (hc : Names X x (.ref c)) (ha : ∀ a b, ans a = some b → PySem.W.exmOne X.K (.ref a) (.ref c) = some b) (hN : X.N.Nodup) (hi : X.N[i]? = some n) (hln : X.env.kindOf n = some .local) (T : XfC X.K c) (hno : PySem.W.findIn X.K (.ref c) f = some none)
    (hv : Vis X.env.scope n) (r : VHd X W hds wh) (hd : (n == ("__debug__" : Str)) = false := by decide) (hcd : (n == ("__classdict__" : Str)) = false := by decide) (hab : attributeBase (.Name n p3) f X.env (eval (.Name n p3) X.env) = eval (.Name n p3) X.env := by rfl)
    (hs1 : starEach [.Constant (.str s) j p2, .Attribute (.Name n p3) f p4] X.env = (false, eval (.Constant (.str s) j p2) X.env) :: starEach [.Attribute (.Name n p3) f p4] X.env := by rfl)
    (hs2 : starEach [.Attribute (.Name n p3) f p4] X.env = (false, eval (.Attribute (.Name n p3) f p4) X.env) :: starEach [] X.env := by rfl) :
    VHd X W (.ExceptHandler (some (.Name x np)) (some n) [.Return (some (.Tuple [.Constant (.str s) j p2, .Attribute (.Name n p3) f p4] k p1)) p5] pos' :: hds) (whRet i ans c f s wh) := by
  obtain ⟨wish, r1, r2⟩ := r.ex
  refine ⟨_, .as_ hc hN hi hln (fun a oe cls d pn hz hf => pss_one (ps_ret (pe_tup (pa_cons pe_str (pa_cons (pe_xf T hno hz hf (pe_var (X := X.suite a ((a, oe) :: pn)) hi hv hd hcd) hab) pa_nil hs2) hs1)))) r1, fun {G Dp D} de y cls d ρ σ H g rx ⟨b, e, h1, h2⟩ => ?_⟩
  obtain ⟨rfl, rf⟩ := rx
  refine ⟨b, ha _ _ e, fun hb a na => ?_, fun hb => r2 de y _ d ρ σ H g ⟨rfl, rf⟩ (h2 hb)⟩
  obtain ⟨hil, ec, p, ef, hr⟩ := h1 hb
  obtain ⟨dd, fs, v, e1, e2, e3, rp⟩ := rf f p ef
  refine ⟨.ref a, List.getElem?_set_self (by rw [← g.len]; exact hil), rfl, by rw [ec], dd, fs, v, e1, e2, e3, by show 2 ≤ sizeLine; decide, fun q nq => ?_⟩
  refine de.rt (.tup [.str s, p]) _ _ ⟨(g.laid nq).fr, fun z y => (g.laid nq).sa z (.inl y), .plain (.tup (.inl (.inl (hide_upd fun z => ?_))) (.cons (.str s) (.cons (rp.mono ?_) .nil)))⟩ hr
  · exact g.new nq (z.elim .inl fun y => .inr (.inl y))
  · exact (Step.hide (.of_same (same_upd nq))).trans (hide_anti fun z y => y.elim .inl fun w => .inr (.inl w))
theorem vs_try (hs : X.stack = X.env :: X.outer) (hf : X.env.frame = some X.env.locals) (tk : Takes X W)
    (hb : ∀ (W' : WX) (pn : List (Addr × Obj)) (xe : Value → Shared → Prop), Takes (X.tr pn xe) W' → PassesOwn (model X.prog X.w) X.A X.env xe → VSs (X.tr pn xe) W' body wb) (hh : VHd X W (h₀ :: hds) wh) : VS X W (.Try body (h₀ :: hds) [] [] pos) (wTry wb wh) := by
  obtain ⟨wish, r1, r2⟩ := hh.ex
  exact ⟨PS.imp (ps_tryL (tb := fun W' => lftS X.K W' wb) hs hf tk (fun W' pn xe tk' hp => (hb W' pn xe tk' hp).pss) r1) fun D σ H ⟨G, ρ, Dp, g, hw, de⟩ => ⟨G, ρ, _, g, hw, ⟨de.nx, de.bk, de.ct, de.rt, fun x cls d ρ' σ' H' g' r h => r2 de x cls d ρ' σ' H' g' r h⟩⟩⟩
end

/-! ### the rule for a def -/
section
variable {K : PySem.W.Frag} {N S : Addr → Prop} {H : Hp}
theorem Args.length : ∀ {ps : List PV} {vs : List V}, Args K S H ps vs → ps.length = vs.length
  | _, _, .nil => rfl
  | _, _, .cons _ r => by rw [List.length_cons, List.length_cons, Args.length r]
  | _, _, .st _ r => by rw [List.length_cons, List.length_cons, Args.length r]
theorem Args.get : ∀ {ps : List PV} {vs : List V} {i : Nat} {p : PV}, Args K S H ps vs → ps[i]? = some p → ∃ v, vs[i]? = some v ∧ ((p = .st ∧ ∃ a, v = .ref a ∧ S a) ∨ Rep K H p v)
  | _, _, _, _, .nil, h => by simp at h
  | _, _, 0, _, .cons r _, h => by simp at h; subst h; exact ⟨_, rfl, .inr r⟩
  | _, _, 0, _, .st s _, h => by simp at h; subst h; exact ⟨_, rfl, .inl ⟨rfl, _, rfl, s⟩⟩
  | _, _, i + 1, p, .cons _ t, h => by
    obtain ⟨v, h1, h2⟩ := Args.get (i := i) (p := p) t (by simpa using h)
    exact ⟨v, by simpa using h1, h2⟩
  | _, _, i + 1, p, .st _ t, h => by
    obtain ⟨v, h1, h2⟩ := Args.get (i := i) (p := p) t (by simpa using h)
    exact ⟨v, by simpa using h1, h2⟩
def startP (n : Nat) (ps : List PV) : PEnv := ps.map some ++ List.replicate (n - ps.length) none
theorem startP_get {n i : Nat} {ps : List PV} {p : PV} (h : (startP n ps)[i]? = some (some p)) : ps[i]? = some p := by
  unfold startP at h
  by_cases hi : i < ps.length
  · rw [List.getElem?_append_left (by rw [List.length_map]; exact hi), List.getElem?_map] at h
    cases e : ps[i]? with
    | none => rw [e] at h; cases h
    | some q => rw [e] at h; cases h; rfl
  · rw [List.getElem?_append_right (by rw [List.length_map]; omega), List.getElem?_replicate] at h
    split at h
    · cases h
    · cases h
theorem start_get {Ns : List Str} {i : Nat} {vs : List V} {v : V} (h : vs[i]? = some v) : (L2.start Ns vs)[i]? = some (some v) := by
  unfold L2.start
  have hi : i < vs.length := (List.getElem?_eq_some_iff.mp h).1
  rw [List.getElem?_append_left (by rw [List.length_map]; exact hi), List.getElem?_map, h]
  rfl
theorem Good.start {Ns : List Str} {ps : List PV} {vs : List V} (hN : ∀ b, N b → ¬ S b ∧ ∃ o, H b = some o) (hS : ∀ b, S b → StOk H b) (ha : Args K S (hide (NS N S) H) ps vs) (h1 : ∀ i j : Nat, ps[i]? = some .st → ps[j]? = some .st → i = j) :
    Good K ⟨N, S, H⟩ (startP Ns.length ps) (L2.start Ns vs) H := by
  have hl := ha.length
  have at_ : ∀ {i : Nat} {p : PV}, (startP Ns.length ps)[i]? = some (some p) → ∃ v, (L2.start Ns vs)[i]? = some (some v) ∧ ((p = .st ∧ ∃ a, v = .ref a ∧ S a) ∨ Rep K (hide (NS N S) H) p v) := fun {i p} e => by
    obtain ⟨v, e2, r⟩ := ha.get (startP_get e)
    exact ⟨v, start_get e2, r⟩
  have stS : ∀ {i : Nat} {a : Addr}, (startP Ns.length ps)[i]? = some (some .st) → (L2.start Ns vs)[i]? = some (some (.ref a)) → S a := fun {i a} e1 e2 => by
    obtain ⟨v, e3, r⟩ := at_ e1
    rw [e2] at e3; cases e3
    rcases r with ⟨_, b, e4, s⟩ | r
    · cases e4; exact s
    · cases r
  have only : ∀ {i : Nat} {p : PV}, (startP Ns.length ps)[i]? = some (some p) → isMut p = true → p = .st := fun {i p} e m => by
    obtain ⟨v, e3, r⟩ := at_ e
    rcases r with ⟨z, _⟩ | r
    · exact z
    · rw [r.notMut] at m; cases m
  have hSA : ∀ a, SA ⟨N, S, H⟩ (startP Ns.length ps) (L2.start Ns vs) a → S a := fun a z => by
    rcases z with z | ⟨i, e1, e2⟩
    · exact z
    · exact stS e1 e2
  have hMA : ∀ a, MA ⟨N, S, H⟩ (startP Ns.length ps) (L2.start Ns vs) a → NS N S a := fun a z => by
    rcases z with z | z | ⟨i, p, e1, m, e2⟩
    · exact .inl z
    · exact .inr z
    · have := only e1 m
      subst this
      exact .inr (stS e1 e2)
  refine ⟨?_, fun _ _ _ e => e, hN, fun a z => hS a (hSA a z), fun a z => .inl (hSA a z), fun i p e => ?_, fun i j p q a e1 e2 m1 m2 _ _ => ?_⟩
  · unfold startP L2.start
    rw [List.length_append, List.length_append, List.length_map, List.length_map, List.length_replicate, List.length_replicate, hl]
  · obtain ⟨v, e2, r⟩ := at_ e
    refine ⟨v, e2, ?_⟩
    rcases r with ⟨rfl, a, rfl, s⟩ | r
    · exact .st (.inl s)
    · exact .plain (r.mono (hide_anti hMA))
  · have h2 := only e1 m1
    have h3 := only e2 m2
    subst h2; subst h3
    exact h1 i j (startP_get e1) (startP_get e2)
end
/-- what a def's reading is to give -/
def fnEnds (Q : PQ) (R : XQ) : PEnds := ⟨fun _ => Q .non, Q, fun _ => False, fun _ => False, fun x _ => R x⟩
theorem fn_rule {P : Program} {w : World} {K : PySem.W.Frag} {mg : Str → Option Value} {base : Heap} {x qual : Str} {st : Stmt} {f : Addr} {fd : FuncData} {Ns ps : List Str} {k n : Nat} {wf : WSt} {fs : FS} (F : Fun K x qual st f fd) (S : FnScope Ns ps (defScope st)) (hn : ps.length = n)
    (hb : ∀ (cdv : Value) (A : Around) (outer : List Env) (s : Shared) (H : Hp) (E : XK), Room k (A.deeper (PyProof.Rows.envOfC qual (defScope st) s.heap.objs.size f cdv)) → VSs (cxOf (L2.CX P w) P w K mg base Ns qual (defScope st) f cdv A outer s H E) (fun cls d _ H => E cls d H) (defBody st) wf)
    (hp : ∀ qs Q R, qs.length = n → fs qs Q R → wf (fnEnds Q R) (startP Ns.length qs)) : FnOk P w K mg base (L2.CX P w) (k + 1) f fd ps (spL K n fs) := by
  refine F.okX S (fun vs H Q E h => by rw [hn]; exact h.1) fun cdv A outer s H vs Q E hr h => ?_
  obtain ⟨hl, N, Sx, qs, Qp, Rp, hN, hS, ha, h1, hf, kq, kx⟩ := h
  refine ⟨_, (hb cdv A outer s H E hr).pss, ⟨N, Sx, H⟩, startP Ns.length qs, fnEnds Qp Rp, Good.start hN hS ha h1, hp qs Qp Rp (by rw [ha.length]; exact hl) hf, ⟨fun ρ σ H' g h => ?_, fun _ _ _ _ z => z.elim, fun _ _ _ _ z => z.elim, fun p v H' r h => kq p v H' r h, fun y cls d ρ σ H' g r h => ?_⟩⟩
  · exact kq .non .non H' ⟨g.fr, fun b z => g.sa b (.inl z), .plain .non⟩ h
  · refine kx y cls d H' ⟨g.fr, fun b z => g.sa b (.inl z), r.1, fun f p e => ?_⟩ h
    obtain ⟨dd, fs, v, e1, e2, e3, rp⟩ := r.2 f p e
    exact ⟨dd, fs, v, e1, e2, e3, rp.mono (hide_anti fun b z => z.elim .inl fun y => .inr (.inl y))⟩
end L3

/-! Values without the heap: products, ranges as lists, the drawn state, the law's end. -/
namespace L3
open PySem PySem.Spec L2

/-! ### * -/
def oMulI : PV → PV → PQ → XQ → Prop := fun x y Q _ => match x, y with
  | .int i, .int j => mulOk i j ∧ Q (.int (i * j))
  | x, .int k => ∃ ps, x.items = some ps ∧ -(2 ^ 63) ≤ k ∧ k < 2 ^ 63 ∧ ps.length * k.toNat ≤ sizeLine ∧ Q (.new (.lst (List.replicate k.toNat ps).flatten))
  | _, _ => False
theorem Reps.rep {K : PySem.W.Frag} {H : Hp} {ps : List PV} {vs : List V} (r : Reps K H ps vs) : ∀ n : Nat, Reps K H (List.replicate n ps).flatten (List.replicate n vs).flatten
  | 0 => .nil
  | n + 1 => by
    rw [List.replicate_succ, List.replicate_succ, List.flatten_cons, List.flatten_cons]
    exact r.append (Reps.rep r n)
section
variable {X : Cx} {W : WX} {pos p : Pos} {a b : Expr} {wa wb : WEx}
theorem ov_mulI : OpV X W (fun x y H Q => rI CMulX (fun i j => .int (i * j)) x y H Q ∨ rRep x y H Q) oMulI := by
  intro G ρ σ Hb H Qp Rp Q x y v u g gr rx ry h kq kx
  unfold oMulI at h
  split at h
  · obtain ⟨⟨m, n, h1, h2, h3⟩, h⟩ := h
    cases rx.int; cases ry.int
    exact .inl ⟨_, _, rfl, rfl, mulx_ok h1 h2 h3, kq.int g h⟩
  · obtain ⟨ps, e, h1, h2, h3, h⟩ := h
    cases ry.int
    obtain ⟨l, xs, rfl, t, q⟩ := rx.items e
    exact .inr ⟨l, _, xs, rfl, rfl, t, h1, h2, by rw [← q.length]; exact h3, fun p hp => kq.list g gr (q.rep _) h hp⟩
  · exact h.elim
theorem ve_mul (ha : VE X W a wa) (hb : VE X W b wb) : VE X W (.BinOp a .Mult b pos) (wOp oMulI wa wb) := ve_op (op_mulX.or op_rep) ov_mulI ha hb

/-! ### list(range(..)) -/
def rgLOk (a b : Int) : Prop := rgOk a ∧ rgOk b ∧ (b - a).toNat ≤ 2 ^ 24
def wLRg1 (a : WEx) : WEx := fun ρ Q R => a ρ (fun x => match x with | .int j => rgLOk 0 j ∧ Q (.new (.lst (rgP 0 j.toNat))) | _ => False) R
def wLRg2 (a b : WEx) : WEx := fun ρ Q R => a ρ (fun x => b ρ (fun y => match x, y with | .int i, .int j => rgLOk i j ∧ Q (.new (.lst (rgP i (j - i).toNat))) | _, _ => False) R) R
theorem reps_rg {K : PySem.W.Frag} {H : Hp} (i j : Int) : Reps K H (rgP i (j - i).toNat) (rgV i j) := by
  have e : rgP i (j - i).toNat = ((List.range (j - i).toNat).map fun (k : Nat) => (i + (k : Int))).map PV.int := by
    unfold rgP
    rw [List.map_map]
    rfl
  have e2 : rgV i j = ((List.range (j - i).toNat).map fun (k : Nat) => (i + (k : Int))).map V.int := by
    unfold rgV
    first
      | rfl
      | (rw [List.map_map] <;> rfl)
  rw [e, e2]
  exact Reps.of_ints _
theorem ve_lrg1 {p2 pos2 : Pos} (hc : X.calm = true) (hg0 : Gl X "list") (hm0 : X.mg "list" = none) (hg : Gl X "range") (hm : X.mg "range" = none) (ha : VE X W a wa) (na : starEach [a] X.env = (false, eval a X.env) :: starEach [] X.env := by rfl)
    (nb : starEach [.Call (.Name "range" p2) [a] [] pos2] X.env = (false, eval (.Call (.Name "range" p2) [a] [] pos2) X.env) :: starEach [] X.env := by rfl) : VE X W (.Call (.Name "list" p) [.Call (.Name "range" p2) [a] [] pos2] [] pos) (wLRg1 wa) :=
  ⟨PE.imp (pe_listRg hc hg0 hm0 (prg_1 hg hm ha.pe na) nb) fun σ H Q ⟨G, ρ, Qp, Rp, g, hw, kq, kx⟩ => ⟨G, ρ, _, Rp, g, hw, fun p v H1 s1 g1 r1 h1 => by
    dsimp only at h1
    split at h1
    · obtain ⟨⟨⟨a1, a2⟩, ⟨a3, a4⟩, a5⟩, h⟩ := h1
      cases r1.int
      refine ⟨_, rfl, ⟨a1, a2, a3, a4, a5⟩, fun q hq => (kq.step s1).list g1 (s1.gr g1) ?_ h hq⟩
      have := reps_rg (K := X.K) (H := hide (MA G ρ σ) H1) 0 (by assumption)
      rw [Int.sub_zero] at this
      exact this
    · exact h1.elim, kx⟩⟩
theorem ve_lrg2 {p2 pos2 : Pos} (hc : X.calm = true) (hg0 : Gl X "list") (hm0 : X.mg "list" = none) (hg : Gl X "range") (hm : X.mg "range" = none) (ha : VE X W a wa) (hb : VE X W b wb) (na : starEach [a, b] X.env = (false, eval a X.env) :: starEach [b] X.env := by rfl)
    (nb : starEach [b] X.env = (false, eval b X.env) :: starEach [] X.env := by rfl) (hp : (backTo pos2 (starEach [b] X.env)).any (·.1) = false := by rfl)
    (nc : starEach [.Call (.Name "range" p2) [a, b] [] pos2] X.env = (false, eval (.Call (.Name "range" p2) [a, b] [] pos2) X.env) :: starEach [] X.env := by rfl) : VE X W (.Call (.Name "list" p) [.Call (.Name "range" p2) [a, b] [] pos2] [] pos) (wLRg2 wa wb) :=
  ⟨PE.imp (pe_listRg hc hg0 hm0 (prg_2 hg hm ha.pe hb.pe na nb hp) nc) fun σ H Q ⟨G, ρ, Qp, Rp, g, hw, kq, kx⟩ => ⟨G, ρ, _, Rp, g, hw, fun p v H1 s1 g1 r1 h1 => ⟨G, ρ, _, Rp, g1, h1, fun q u H2 s2 g2 r2 h2 => by
    dsimp only at h2
    split at h2
    · obtain ⟨⟨⟨a1, a2⟩, ⟨a3, a4⟩, a5⟩, h⟩ := h2
      cases r1.int
      cases r2.int
      exact ⟨_, _, rfl, rfl, ⟨a1, a2, a3, a4, a5⟩, fun q hq => (kq.step (s1.trans s2)).list g2 ((s1.trans s2).gr g2) (reps_rg _ _) h hq⟩
    · exact h2.elim, kx.step s1⟩, kx⟩⟩
end

/-! ### the drawn state -/
def wSt0 (i : Nat) : WEx := fun ρ Q _ => ρ[i]? = some (some .st) ∧ ∀ x : Int, 0 ≤ x → Q (.int x)
def wSt1 (i : Nat) : WEx := fun ρ Q _ => ρ[i]? = some (some .st) ∧ ∀ x : Int, 0 ≤ x → x < 2147483647 → Q (.int x)
def wSt0S (i : Nat) (a : WEx) : WSt := fun D ρ => ρ[i]? = some (some .st) ∧ a ρ (fun p => ∃ x : Int, p = .int x ∧ 0 ≤ x ∧ D.nx ρ) fun x => D.ex x ρ
def wSt1S (i : Nat) (a : WEx) : WSt := fun D ρ => ρ[i]? = some (some .st) ∧ a ρ (fun p => ∃ x : Int, p = .int x ∧ 0 ≤ x ∧ x < 2147483647 ∧ D.nx ρ) fun x => D.ex x ρ
theorem Good.st_at {K : PySem.W.Frag} {G : Gd} {ρ : PEnv} {σ : St} {H : Hp} (g : Good K G ρ σ H) {i : Nat} (h : ρ[i]? = some (some .st)) : ∃ a, σ[i]? = some (some (.ref a)) ∧ SA G ρ σ a ∧ StOk H a := by
  obtain ⟨v, e, r⟩ := g.slot i _ h
  cases r with
  | plain r => cases r
  | st z => exact ⟨_, e, z, g.sa _ z⟩
theorem Good.stPut {K : PySem.W.Frag} {G : Gd} {ρ : PEnv} {σ : St} {H : Hp} (g : Good K G ρ σ H) {a : Addr} (h : SA G ρ σ a) {x y : Int} (h0 : 0 ≤ x) (h1 : 0 ≤ y) (h2 : y < 2147483647) : Good K G ρ σ (upd H a (.lst [.int x, .int y])) := by
  refine g.step (fun b o n e => by rw [upd_ne (fun z => n (by rw [z]; exact h))]; exact e) fun b z => ?_
  by_cases hb : b = a
  · subst hb
    exact ⟨x, y, upd_same, h0, h1, h2⟩
  · obtain ⟨x', y', e, r⟩ := g.sa b z
    exact ⟨x', y', by rw [upd_ne hb]; exact e, r⟩
section
variable {X : Cx} {W : WX} {pos p p1 p2 : Pos} {e : Expr} {i j : Nat} {x : Str} {wa : WEx}
theorem ve_st0 (hN : X.N[i]? = some x) (hv : Vis X.env.scope x) (hs : PlainIx (.Constant (.int 0) j p2)) (hd : (x == ("__debug__" : Str)) = false := by decide) (hcd : (x == ("__classdict__" : Str)) = false := by decide) : VE X W (.Subscript (.Name x p1) (.Constant (.int 0) j p2) pos) (wSt0 i) :=
  ⟨PE.imp (pe_ix ix_list (pe_var hN hv hd hcd) pe_int hs) fun σ H Q ⟨G, ρ, Qp, Rp, g, ⟨h1, h2⟩, kq, kx⟩ => by
    obtain ⟨a, e1, _, y, z, e2, h0, _⟩ := g.st_at h1
    exact ⟨_, e1, a, _, 0, .int y, rfl, rfl, .of e2, rfl, kq.int g (h2 y h0)⟩⟩
theorem ve_st1 (hN : X.N[i]? = some x) (hv : Vis X.env.scope x) (hs : PlainIx (.Constant (.int 1) j p2)) (hd : (x == ("__debug__" : Str)) = false := by decide) (hcd : (x == ("__classdict__" : Str)) = false := by decide) : VE X W (.Subscript (.Name x p1) (.Constant (.int 1) j p2) pos) (wSt1 i) :=
  ⟨PE.imp (pe_ix ix_list (pe_var hN hv hd hcd) pe_int hs) fun σ H Q ⟨G, ρ, Qp, Rp, g, ⟨h1, h2⟩, kq, kx⟩ => by
    obtain ⟨a, e1, _, y, z, e2, h0, h3, h4⟩ := g.st_at h1
    exact ⟨_, e1, a, _, 1, .int z, rfl, rfl, .of e2, rfl, kq.int g (h2 z h3 h4)⟩⟩
theorem vs_st0 (hN : X.N[i]? = some x) (hv : Vis X.env.scope x) (ha : VE X W e wa) (hd : (x == ("__debug__" : Str)) = false := by decide) (hcd : (x == ("__classdict__" : Str)) = false := by decide)
    (hst : ∀ v, assign (.Subscript (.Name x p1) (.Constant (.int 0) j p2) p) X.env v = (do
      let ov ← holding [v] (eval (.Name x p1) X.env)
      let iv ← holding [v, ov] (eval (.Constant (.int 0) j p2) X.env)
      standAt p
      holding [v, ov, iv] (setItem ov iv v)
      release [v, ov, iv] []) := by intro _; rfl)
    (hs : swapsWithSole [.Subscript (.Name x p1) (.Constant (.int 0) j p2) p] e pos.line X.env = pure false := by rfl) (hw : swappedStores [.Subscript (.Name x p1) (.Constant (.int 0) j p2) p] e X.env = pure none := by rfl)
    (h1 : (assignEach [.Subscript (.Name x p1) (.Constant (.int 0) j p2) p] X.env).map (·.2) = [assign (.Subscript (.Name x p1) (.Constant (.int 0) j p2) p) X.env] := by rfl) : VS X W (.Assign [.Subscript (.Name x p1) (.Constant (.int 0) j p2) p] e pos) (wSt0S i wa) :=
  ⟨PS.imp (ps_asg ha.pe (pg_sub (pe_var hN hv hd hcd) pe_int set_list hst) hs hw h1) fun D σ H ⟨G, ρ, Dp, g, ⟨h1, hw⟩, de⟩ => ⟨G, ρ, _, _, g, hw, fun q v H1 s1 g1 r1 ⟨y, ey, h0, hn⟩ => by
    subst ey
    cases r1.int
    obtain ⟨a, e1, hsa, y', z, e2, _, h3, h4⟩ := g1.st_at h1
    exact ⟨_, e1, a, _, 0, 0, rfl, rfl, e2, rfl, de.nx _ _ _ (g1.stPut hsa h0 h3 h4) hn⟩, de.kx⟩⟩
theorem vs_st1 (hN : X.N[i]? = some x) (hv : Vis X.env.scope x) (ha : VE X W e wa) (hd : (x == ("__debug__" : Str)) = false := by decide) (hcd : (x == ("__classdict__" : Str)) = false := by decide)
    (hst : ∀ v, assign (.Subscript (.Name x p1) (.Constant (.int 1) j p2) p) X.env v = (do
      let ov ← holding [v] (eval (.Name x p1) X.env)
      let iv ← holding [v, ov] (eval (.Constant (.int 1) j p2) X.env)
      standAt p
      holding [v, ov, iv] (setItem ov iv v)
      release [v, ov, iv] []) := by intro _; rfl)
    (hs : swapsWithSole [.Subscript (.Name x p1) (.Constant (.int 1) j p2) p] e pos.line X.env = pure false := by rfl) (hw : swappedStores [.Subscript (.Name x p1) (.Constant (.int 1) j p2) p] e X.env = pure none := by rfl)
    (h1 : (assignEach [.Subscript (.Name x p1) (.Constant (.int 1) j p2) p] X.env).map (·.2) = [assign (.Subscript (.Name x p1) (.Constant (.int 1) j p2) p) X.env] := by rfl) : VS X W (.Assign [.Subscript (.Name x p1) (.Constant (.int 1) j p2) p] e pos) (wSt1S i wa) :=
  ⟨PS.imp (ps_asg ha.pe (pg_sub (pe_var hN hv hd hcd) pe_int set_list hst) hs hw h1) fun D σ H ⟨G, ρ, Dp, g, ⟨h1, hw⟩, de⟩ => ⟨G, ρ, _, _, g, hw, fun q v H1 s1 g1 r1 ⟨y, ey, h0, hl, hn⟩ => by
    subst ey
    cases r1.int
    obtain ⟨a, e1, hsa, y', z, e2, h3, _⟩ := g1.st_at h1
    exact ⟨_, e1, a, _, 1, 1, rfl, rfl, e2, rfl, de.nx _ _ _ (g1.stPut hsa h3 h0 hl) hn⟩, de.kx⟩⟩
end

/-! ### constants of the module; defs as values -/
section
variable {X : Cx} {W : WX} {pos : Pos} {x : Str}
theorem ve_glob {p : PV} {v : V} (hg : Gl X x) (hm : ∃ u, X.mg x = some u ∧ RelV v u) (r : ∀ H, Rep X.K H p v) (hd : (x == ("__debug__" : Str)) = false := by decide) : VE X W (.Name x pos) (wC p) := by
  obtain ⟨u, h1, h2⟩ := hm
  exact ve_of_c (pe_glob hg h1 h2 hd) r
theorem ve_gint {i : Int} (hg : Gl X x) (hm : ∃ t, X.mg x = some (.int i t)) (hd : (x == ("__debug__" : Str)) = false := by decide) : VE X W (.Name x pos) (wC (.int i)) := by
  obtain ⟨t, h⟩ := hm
  exact ve_glob (v := .int i) hg ⟨_, h, ⟨t, rfl⟩⟩ (fun _ => .int i) hd
theorem ve_gdef {a : Addr} (hg : Gl X x) (hm : X.mg x = some (.ref a)) (hd : (x == ("__debug__" : Str)) = false := by decide) : VE X W (.Name x pos) (wC (.adr a)) := ve_glob (v := .ref a) hg ⟨_, hm, rfl⟩ (fun _ => .adr a) hd
end

/-! ### the law's end -/
/-- a script: n numbers at most, of 2^20 bits at most -/
def Scr (n : Nat) (ns : List Int) : Prop := ns.length ≤ n ∧ ∀ z ∈ ns, z.natAbs < 2 ^ 1048576
def fsLaw (n : Nat) : FS := fun ps Q _ => ∃ ns : List Int, ps = [.scr (ns.map PV.int)] ∧ Scr n ns ∧ Q (.bl true)
theorem law_sp {K : PySem.W.Frag} {n : Nat} {H : Hp} {a : Addr} {ns : List Int} (hl : Scr n ns) (h : SqL K H a (ns.map V.int)) : spL K 1 (fsLaw n) [.ref a] H (fun v _ => v = .bl true) fun _ _ _ => False := by
  have s : Same H (hide (NS (fun _ => False) (fun _ => False)) H) := fun b o e => hide_some.mpr ⟨fun z => z.elim id id, e⟩
  refine ⟨rfl, fun _ => False, fun _ => False, [.scr (ns.map PV.int)], fun p => p = .bl true, fun _ => False, fun _ z => z.elim, fun _ z => z.elim, .cons (.scr (s.seq h) (Reps.of_ints ns)) .nil, fun i j e1 e2 => ?_, ⟨ns, rfl, hl, rfl⟩, fun p v H' r e => ?_, fun _ _ _ _ _ z => z⟩
  · cases i with
    | zero => cases e1
    | succ i => cases e1
  · subst e
    cases r.rep with
    | plain r => cases r; rfl
theorem law_cx {P : Program} {w : World} {H : Hp} {s : Shared} {e : Value} {s' : Shared} (h : L2.CX P w [] H s (fun _ _ _ => False) e s') : False := by
  obtain ⟨_, _, _, _, _, _, _, _, _, _, _, _, z⟩ := h
  exact z
end L3

/-! Values without the heap: short words for what is printed. -/
namespace L3
open PySem PySem.Spec L2

/-- the kinds against the built-in types -/
theorem kit_kinds (K : PySem.W.Frag) (own : List Addr) (Ts : String) (h : kinds.all (fun n => kitB n Ts == (if n = Ts then some true else some (n == "bool" && Ts == "int"))) = true) : ∀ n b, n ∈ kinds → ansTy own Ts (.inl n) = some b → PySem.W.kitOne K (.type n) (.type Ts) = some b := fun n b hn hb => by
  have q := List.all_eq_true.mp h n hn
  refine kit_ty ?_
  rw [beq_iff_eq.mp q]
  exact hb
/-- an own class whose instances are met: what isinstance tells of them -/
structure OwnC (K : PySem.W.Frag) (C : Addr) : Prop where
  obj : ObjC K C
  int : PySem.W.kitOne K (.ref C) (.type "int") = some false
  bool : PySem.W.kitOne K (.ref C) (.type "bool") = some false
  tuple : PySem.W.kitOne K (.ref C) (.type "tuple") = some false
  list : PySem.W.kitOne K (.ref C) (.type "list") = some false
  str : PySem.W.kitOne K (.ref C) (.type "str") = some false
section
variable {X : Cx} {W : WX} {pos p : Pos} {e : Expr} {wa : WEx}
theorem ve_isT (own : List Addr) {T : Str} {Ts : String} {pt : Pos} (hm : X.mg "isinstance" = none) (hmT : X.mg T = none) (ha : VE X W e wa) (hvT : bootBuiltins T = some (.type Ts)) (hC : ∀ C ∈ own, ObjC X.K C ∧ PySem.W.kitOne X.K (.ref C) (.type Ts) = some false)
    (hk : kinds.all (fun n => kitB n Ts == (if n = Ts then some true else some (n == "bool" && Ts == "int"))) = true) (hg : Gl X "isinstance" := by rfl) (hgT : Gl X T := by rfl)
    (hn : T ≠ "__name__" := by decide) (hdb : (T == ("__debug__" : Str)) = false := by decide)
    (hs : starEach [e, .Name T pt] X.env = (false, eval e X.env) :: starEach [.Name T pt] X.env := by rfl) (hs2 : starEach [.Name T pt] X.env = (false, eval (.Name T pt) X.env) :: starEach [] X.env := by rfl) (hpl : (backTo pos (starEach [.Name T pt] X.env)).any (·.1) = false := by rfl) : VE X W (.Call (.Name "isinstance" p) [e, .Name T pt] [] pos) (wIsi (ansTy own Ts) wa) := by
  refine ve_isi (vc := .ty Ts) (u := .type Ts) hg hm ha (pe_bltn hgT hmT hvT rfl hn hdb) (.ty Ts) (fun C b h => ?_) (fun n b hn h => kit_kinds X.K own Ts hk n b hn h) hs hs2 hpl
  unfold ansTy at h
  dsimp only at h
  split at h
  · rename_i hm
    cases h
    exact hC C hm
  · cases h
end
end L3

/-! Values without the heap: what the top has written, as facts looked at by the head. -/
namespace L3
open PySem PySem.Spec L2
abbrev FaL := PySem.W.Frag → Bool
abbrev veBm : List Value := [.type "ValueError", .type "Exception", .type "BaseException", .type "object"]
theorem ba {a b : Bool} (h : (a && b) = true) : a = true ∧ b = true := Bool.and_eq_true_iff.mp h
def gB (x : Str) : FaL := fun K => He.eqO (PySem.W.nsIn K mainGlobals x) (some (some (.ref (He.ga K x))))
def frB (x : Str) : FaL := fun K => He.eqO (PySem.W.nsIn K mainGlobals x) (some none)
def intB (x : Str) (i : Int) : FaL := (He.Fa.int x i).ok
/-- an own error without __init__ -/
def excB (x : Str) : FaL := fun K => PySem.W.excIn K (He.ga K x) veBm "ValueError.__new__" && (PySem.W.keepIn K (.ref (He.ga K x)) && (decide (PySem.W.subIn K (.ref (He.ga K x)) (.type "BaseException") = some true) && decide (PySem.W.typeIn K (.ref (He.ga K x)) = some (.type "type"))))
def exmB (x y : Str) (b : Bool) : FaL := fun K => decide (PySem.W.exmOne K (.ref (He.ga K x)) (.ref (He.ga K y)) = some b)
def isiB (x : Str) (t : String) (b : Bool) : FaL := fun K => decide (PySem.W.kitOne K (.ref (He.ga K x)) (.type t) = some b)
/-- an own error with one field f -/
def oexB1 (x : Str) : FaL := fun K => match K.lookup (He.ga K x) with
  | some ⟨.type "type", _, .cls cd, sl⟩ => (match cd.mro, sl.toList with
    | .ref C' :: bm, [_, _, _, _, some (.builtin n), _] => C' == He.ga K x && n == "ValueError.__new__" && !cd.hasDel && cd.hasDict && PySem.HandSPX.refsVE bm
    | _, _ => false)
  | _ => false
def oexB (x f : Str) : FaL := fun K => oexB1 x K && (
  (He.eqO (PySem.W.findIn K (.ref (He.ga K x)) "__setattr__") (some (some (.builtin "object.__setattr__"))) && (decide (PySem.W.subIn K (.ref (He.ga K x)) (.type "BaseException") = some true) &&
  (decide (PySem.W.typeIn K (.ref (He.ga K x)) = some (.type "type")) && PySem.W.keepIn K (.ref (He.ga K x))))) &&
  (He.eqO (PySem.W.findIn K (.ref (He.ga K x)) "__init__") (some (some (.ref (He.ma K (He.ga K x) "__init__")))) && (decide (PySem.W.typeIn K (.ref (He.ma K (He.ga K x) "__init__")) = some (.type "function")) &&
  (He.eqO (PySem.W.findIn K (.ref (He.ga K x)) f) (some none) && xfB K (He.ga K x)))))
/-- an own error named for its __init__ -/
def fauB (x : Str) : FaL := fun K => decide (PySem.W.specialIn K (.ref (He.ga K x)) "__getattribute__" = some (some (.builtin "type.__getattribute__"))) && (PySem.W.readsIn K (He.ga K x) (.type "type") &&
  (match PySem.W.findCls K (.ref (He.ga K x)) (.type "type") "__init__" with
    | some (.val (.builtin n)) => n == "ValueError.__init__"
    | _ => false))
section
variable {K : PySem.W.Frag} {x y f : Str}
theorem excB_ok (c : excB x K = true) : PySem.W.excIn K (He.ga K x) veBm "ValueError.__new__" = true ∧ PySem.W.keepIn K (.ref (He.ga K x)) = true ∧ PySem.W.subIn K (.ref (He.ga K x)) (.type "BaseException") = some true ∧ PySem.W.typeIn K (.ref (He.ga K x)) = some (.type "type") := by
  obtain ⟨c1, c⟩ := ba c
  obtain ⟨c2, c⟩ := ba c
  obtain ⟨c3, c4⟩ := ba c
  exact ⟨c1, c2, of_decide_eq_true c3, of_decide_eq_true c4⟩
theorem oexB1_ok (q : oexB1 x K = true) : ∃ nm q N bs bm sn sub ab col dd k0 k1 k2 k3 k5, K.lookup (He.ga K x) = some (excClassObj nm q (He.ga K x) N bs bm true sn sub ab col dd k0 k1 k2 k3 k5 "ValueError.__new__") ∧ PySem.HandSPX.refsVE bm = true := by
  unfold oexB1 at q
  split at q
  · rename_i dd cd sl ho
    split at q
    · rename_i C' bm k0 k1 k2 k3 n k5 hm hs
      simp only [Bool.and_eq_true, beq_iff_eq, Bool.not_eq_true'] at q
      obtain ⟨⟨⟨⟨e1, rfl⟩, hdel⟩, hdc⟩, hok⟩ := q
      obtain ⟨nm, bs, mro, ns, qn, hd, sn, sub, ab, col, del⟩ := cd
      dsimp only at hm hdel hok hdc
      subst hm hdel hdc
      rw [e1] at ho
      have hsl : sl = #[k0, k1, k2, k3, some (.builtin "ValueError.__new__"), k5] := by
        obtain ⟨l⟩ := sl
        simp only at hs
        rw [hs]
      subst hsl
      exact ⟨nm, qn, ns, bs, bm, sn, sub, ab, col, dd, k0, k1, k2, k3, k5, ho, hok⟩
    · cases q
  · cases q
structure OexF (K : PySem.W.Frag) (C fI : Addr) (f : Str) : Prop where
  x : OexC K C
  i : PySem.W.findIn K (.ref C) "__init__" = some (some (.ref fI))
  t : PySem.W.typeIn K (.ref fI) = some (.type "function")
  n : PySem.W.findIn K (.ref C) f = some none
  y : XfC K C
theorem oexB_ok (c : oexB x f K = true) : OexF K (He.ga K x) (He.ma K (He.ga K x) "__init__") f := by
  obtain ⟨c1, c⟩ := ba c
  obtain ⟨c2, c⟩ := ba c
  obtain ⟨s1, c2⟩ := ba c2
  obtain ⟨s2, c2⟩ := ba c2
  obtain ⟨s3, s4⟩ := ba c2
  obtain ⟨i1, c⟩ := ba c
  obtain ⟨i2, c⟩ := ba c
  obtain ⟨i3, i4⟩ := ba c
  exact ⟨⟨oexB1_ok c1, He.eqO_ok s1, of_decide_eq_true s2, of_decide_eq_true s3, s4⟩, He.eqO_ok i1, of_decide_eq_true i2, He.eqO_ok i3, xfB_ok i4⟩
theorem fauB_ok (c : fauB x K = true) : PySem.W.specialIn K (.ref (He.ga K x)) "__getattribute__" = some (some (.builtin "type.__getattribute__")) ∧ PySem.W.readsIn K (He.ga K x) (.type "type") = true ∧ PySem.W.findCls K (.ref (He.ga K x)) (.type "type") "__init__" = some (.val (.builtin "ValueError.__init__")) := by
  obtain ⟨c1, c⟩ := ba c
  obtain ⟨c2, c3⟩ := ba c
  refine ⟨of_decide_eq_true c1, c2, ?_⟩
  split at c3
  · rename_i n e
    rw [e, beq_iff_eq.mp c3]
  · cases c3
theorem exmB_ok {b : Bool} (c : exmB x y b K = true) : PySem.W.exmOne K (.ref (He.ga K x)) (.ref (He.ga K y)) = some b := of_decide_eq_true c
theorem isiB_ok {t : String} {b : Bool} (c : isiB x t b K = true) : PySem.W.kitOne K (.ref (He.ga K x)) (.type t) = some b := of_decide_eq_true c
end

/-! ### the hook -/
def fdOf (K : PySem.W.Frag) (p : Str × Option Str) : FuncData := match K.lookup (He.fAd K p) with
  | some ⟨_, _, .func fd, _⟩ => fd
  | _ => PySem.W.fnOf Str.empty Str.empty ⟨[], [], none, [], [], none, []⟩ [] ⟨.function, [], false, false, []⟩ .none .none .none .none none .none .none
def dfL (p : Str × Option Str) (x q : Str) (st : Stmt) : He.DefD := ⟨p, x, q, defArgs st, defBody st, defScope st, [], []⟩
def obsL (fa : List FaL) (fn : List He.DefD) (K : PySem.W.Frag) : He.AlD := ((fa.all fun f => f K) && fn.all fun d => d.ok K, fn.map fun d => He.fnW K d.at_)
def SaysL (fa : List FaL) (fn : List He.DefD) (K : PySem.W.Frag) : Prop := obsL fa fn K = He.valD fn
def asL (g : Addr → Option Obj) : Nat → List Addr
  | 0 => [mainGlobals, cStatics]
  | n + 1 => He.growD g (asL g n)
def obsLG (n : Nat) (fa : List FaL) (fn : List He.DefD) (g : Addr → Option Obj) : He.AlD := obsL fa fn (He.frG g (asL g n))
def hookL (n : Nat) (fa : List FaL) (fn : List He.DefD) : PySem.W.Hook where
  α := He.AlD
  obs := fun s => obsLG n fa fn s.heap.get?
  val := fun _ => He.valD fn
  says := fun _ h => ∃ K : PySem.W.Frag, K.In h ∧ SaysL fa fn K
  of := fun _ _ e => ⟨_, He.frG_in, e⟩
  keeps := fun _ _ _ ⟨K, hK, c⟩ k => ⟨K, PySem.W.Frag.In.keeps hK k, c⟩
theorem obsLG_eq {n : Nat} {fa : List FaL} {fn : List He.DefD} {g : Addr → Option Obj} {s : Shared} (h : ∀ a, g a = s.heap.get? a) : obsLG n fa fn g = (hookL n fa fn).obs s := by
  have e : g = s.heap.get? := funext h
  rw [e] <;> rfl
section
variable {fa : List FaL} {fn : List He.DefD} {K : PySem.W.Frag}
theorem SaysL.fact (c : SaysL fa fn K) (i : Nat) {f : FaL} (h : fa[i]? = some f := by rfl) : f K = true := by
  have c1 := (ba (show ((fa.all fun f => f K) && fn.all fun d => d.ok K) = true from congrArg (fun z : He.AlD => z.1) c)).1
  exact List.all_eq_true.mp c1 f (List.mem_of_getElem? h)
theorem SaysL.def_ (c : SaysL fa fn K) (i : Nat) {p : Str × Option Str} {x q : Str} {st : Stmt} (h : fn[i]? = some (dfL p x q st) := by rfl) : Fun K x q st (He.fAd K p) (fdOf K p) := by
  have c2 := (ba (show ((fa.all fun f => f K) && fn.all fun d => d.ok K) = true from congrArg (fun z : He.AlD => z.1) c)).2
  have e : fn.map (fun d => He.fnW K d.at_) = fn.map He.DefD.val := congrArg (fun z : He.AlD => z.2) c
  have e2 : (fn.map fun d => He.fnW K d.at_)[i]? = (fn.map He.DefD.val)[i]? := by rw [e]
  rw [List.getElem?_map, List.getElem?_map, h] at e2
  obtain ⟨fd, F⟩ := He.DefD.funD (Option.some.inj e2) (List.all_eq_true.mp c2 _ (List.mem_of_getElem? h))
  obtain ⟨oc, od, dV, kV, doc, pm, an, cdv, ct, osl, e3, l, cd, dv, kw⟩ := F.ex
  have hd : dV = .none := by
    rcases dv with ⟨_, z⟩ | ⟨z, _⟩
    · exact z
    · exact absurd rfl z
  subst hd
  have e4 : fdOf K p = fd := by
    unfold fdOf
    have l2 : K.lookup (He.fAd K p) = some ⟨oc, od, .func fd, osl⟩ := l
    rw [l2]
  rw [e4]
  exact ⟨⟨oc, od, kV, doc, pm, an, cdv, ct, osl, e3, l, cd⟩, F.kp⟩
end
theorem fn_rule2 {P : Program} {w : World} {K : PySem.W.Frag} {mg : Str → Option Value} {base : Heap} {x qual : Str} {st : Stmt} {f : Addr} {fd : FuncData} {Ns ps : List Str} {k n : Nat} {wf : WSt} {fs : FS} (F : Fun K x qual st f fd) (S : FnScope Ns ps (defScope st)) (hn : ps.length = n)
    (hp : ∀ qs Q R, qs.length = n → fs qs Q R → wf (fnEnds Q R) (startP Ns.length qs))
    (hb : ∀ (cdv : Value) (A : Around) (outer : List Env) (s : Shared) (H : Hp) (E : XK), Room k (A.deeper (PyProof.Rows.envOfC qual (defScope st) s.heap.objs.size f cdv)) →
      Takes (cxOf (L2.CX P w) P w K mg base Ns qual (defScope st) f cdv A outer s H E) (fun cls d _ H => E cls d H) →
      PassesOwn (model P w) (cxOf (L2.CX P w) P w K mg base Ns qual (defScope st) f cdv A outer s H E).A (cxOf (L2.CX P w) P w K mg base Ns qual (defScope st) f cdv A outer s H E).env (cxOf (L2.CX P w) P w K mg base Ns qual (defScope st) f cdv A outer s H E).xe →
      Ns.Nodup → VSs (cxOf (L2.CX P w) P w K mg base Ns qual (defScope st) f cdv A outer s H E) (fun cls d _ H => E cls d H) (defBody st) wf) : FnOk P w K mg base (L2.CX P w) (k + 1) f fd ps (spL K n fs) :=
  fn_rule F S hn (fun cdv A outer s H E hr => hb cdv A outer s H E hr (takes_of rfl rfl rfl rfl) (passes_of rfl) S.nd) hp
theorem fnOk_none {P : Program} {w : World} {K : PySem.W.Frag} {mg : Str → Option Value} {base : Heap} {k n : Nat} {f : Addr} {fd : FuncData} {ps : List Str} (hn : ps.length = n) : FnOk P w K mg base (L2.CX P w) k f fd ps (spL K n fun _ _ _ => False) :=
  ⟨fun vs H Q E h => by rw [hn]; exact h.1, fun A outer s H args us vs Q E hr he hb hv h => by
    obtain ⟨_, N, S, qs, Qp, Rp, _, _, _, _, z, _⟩ := h
    exact z.elim⟩
theorem int_of {K : PySem.W.Frag} {mg : Str → Option Value} {x : Str} {i : Int} (g : ∀ x u, PySem.W.nsIn K mainGlobals x = some (some u) → mg x = some u) (c : intB x i K = true) : ∃ t, mg x = some (.int i t) := by
  have c2 : (match PySem.W.nsIn K mainGlobals x with
    | some (some (.int j _)) => decide (j = i)
    | _ => false) = true := c
  split at c2
  · rename_i j t e
    have ej : j = i := of_decide_eq_true c2
    rw [ej] at e
    exact ⟨t, g _ _ e⟩
  · cases c2
theorem law_binds {K : PySem.W.Frag} {x qual : Str} {st : Stmt} {f : Addr} {fd : FuncData} {p : Str} (F : Fun K x qual st f fd)
    (h : ∀ (kV doc pm : Value) (an : Option Addr) (cdv ct : Value) (u : Value), bindArgs (PySem.W.fnOf x qual (defArgs st) (defBody st) (defScope st) .none kV doc pm an cdv ct) ⟨[u], []⟩ = pure [(p, u)]) (s : Shared) (u : Value) : BindsTo s fd ⟨[u], []⟩ [(p, u)] := by
  obtain ⟨oc, od, kV, doc, pm, an, cdv, ct, osl, rfl, lk, hcd⟩ := F.ex
  exact .of_eq (h kV doc pm an cdv ct u)
theorem init_rule {P : Program} {w : World} {K : PySem.W.Frag} {mg : Str → Option Value} {base : Heap} {x qual f : Str} {st : Stmt} {a : Addr} {fd : FuncData} {Ns ps : List Str} {C : Addr} (F : Fun K x qual st a fd) (S : FnScope Ns ps (defScope st)) (hn : ps.length = 2)
    (hb : ∀ (cdv : Value) (A : Around) (outer : List Env) (s : Shared) (H : Hp) (E : XK), Room 0 (A.deeper (PyProof.Rows.envOfC qual (defScope st) s.heap.objs.size a cdv)) →
      PSs (cxOf (L2.CX P w) P w K mg base Ns qual (defScope st) a cdv A outer s H E) (defBody st) (tSeq (tDrop (tVeI K (tCons (tVar 0) (tCons (tVar 1) tNil)))) (tOst K f (tVar 0) (tVar 1)))) : FnOk P w K mg base (L2.CX P w) 1 a fd ps (spErr K C f) := by
  refine F.okX S (fun vs H Q E h => ?_) fun cdv A outer s H vs Q E hr h => ⟨_, hb cdv A outer s H E hr, ?_⟩
  · obtain ⟨a, x, rfl, _⟩ := h
    rw [hn]; rfl
  · obtain ⟨a, v, rfl, ea, T, nf, hq⟩ := h
    have g0 : (L2.start Ns [.ref a, v])[0]? = some (some (.ref a)) := start_get rfl
    have g1 : (L2.start Ns [.ref a, v])[1]? = some (some v) := start_get rfl
    refine ⟨.ref a, g0, v, g1, a, C, [v], rfl, by show 1 ≤ 1000; decide, T, ea, ?_⟩
    refine ⟨v, g1, .ref a, g0, a, C, rfl, T, nf, .inl ⟨ea, fun d nd hda => ?_⟩⟩
    exact hq d nd hda
theorem scr_of {n : Nat} {ns : List Int} (hl : ns.length ≤ n) (hb : ∀ z ∈ ns, Builtin.Int.intBits z ≤ 1048576) : Scr n ns := ⟨hl, fun z hz => by
  have h := hb z hz
  unfold Builtin.Int.intBits at h
  split at h
  · rename_i e
    rw [beq_iff_eq.mp e]
    exact Nat.pow_pos (by decide)
  · rename_i e
    have e1 : z.natAbs ≠ 0 := fun q => e (beq_iff_eq.mpr (Int.natAbs_eq_zero.mp q))
    exact Nat.lt_of_lt_of_le (Nat.log2_lt (n := z.natAbs) (k := z.natAbs.log2 + 1) e1 |>.mp (Nat.lt_succ_self _)) (Nat.pow_le_pow_right (by decide) h)⟩
end L3

/-! Values without the heap: what the small defs of all laws promise; numbers. -/
namespace L3
open PySem PySem.Spec L2
def okV (own : List Addr) : PV → Bool
  | .non | .bl _ | .int _ | .str _ | .tup _ | .lst _ => true
  | .obj C _ _ => decide (C ∈ own)
  | _ => false
def isI : PV → Bool
  | .int _ => true
  | _ => false
def cnt (p : PV) (lo hi : Int) : Bool := match p with
  | .int i => decide (lo ≤ i) && decide (i ≤ hi)
  | _ => false
def fsIsInt (own : List Addr) : FS := fun ps Q _ => match ps with
  | [p] => okV own p = true ∧ Q (.bl (isI p))
  | _ => False
def fsIsCount (own : List Addr) : FS := fun ps Q _ => match ps with
  | [p, .int lo, .int hi] => okV own p = true ∧ Q (.bl (cnt p lo hi))
  | _ => False
def fsCheckCount (own : List Addr) (x : EX) : FS := fun ps Q R => match ps with
  | [p, .int lo, .int hi] => okV own p = true ∧ (if cnt p lo hi = true then Q .non else R x)
  | _ => False
def fsState : FS := fun ps Q _ => ∃ ns, ps = [.scr (ns.map PV.int)] ∧ Scr 63 ns ∧ ∀ x y : Int, 0 ≤ x → 0 ≤ y → y < 2147483647 → Q (.new (.lst [.int x, .int y]))
def fsTake : FS := fun ps Q _ => match ps with
  | [.st, .int m] => (0 < m ∧ m < 1000000000000000000000000000000000000000000) ∧ ∀ v : Int, 0 ≤ v ∧ v < m → Q (.int v)
  | _ => False
theorem divOk_of {j : Int} (h : 0 < j) (h2 : j < 1000000000000000000000000000000000000000000) : divOk j := ⟨by omega, by
  have e : j.natAbs ≠ 0 := by omega
  have h3 : j.natAbs < 2 ^ 200 := by omega
  have := (Nat.log2_lt e).mpr h3
  omega⟩
theorem mulOk_of {i j : Int} {a b : Nat} (h1 : i.natAbs < 2 ^ a) (h2 : j.natAbs < 2 ^ b) (h : a + b ≤ 134217728) : mulOk i j := ⟨a, b, h1, h2, h⟩
theorem fmod_b {i m : Int} (h : 0 < m) : 0 ≤ i.fmod m ∧ i.fmod m < m := ⟨Int.fmod_nonneg_of_pos _ h, Int.fmod_lt_of_pos _ h⟩
theorem fmod_e {i m : Int} (h : 0 ≤ m) : i.fmod m = i % m := Int.fmod_eq_emod_of_nonneg _ h
theorem fdiv_e {i m : Int} (h : 0 ≤ m) : i.fdiv m = i / m := Int.fdiv_eq_ediv_of_nonneg _ h
/-! ### readings in short -/
def isTy (T : String) : PV → Bool
  | .non => T == "NoneType"
  | .bl _ => T == "bool" || T == "int"
  | .int _ => T == "int"
  | .str _ => T == "str"
  | .tup _ => T == "tuple"
  | .lst _ => T == "list"
  | .new (.lst _) => T == "list"
  | .own (.lst _) => T == "list"
  | _ => false
def oIsi (own : List Addr) (T : String) (p : PV) (Q : PQ) : Prop := ∃ k b, p.kind = some k ∧ ansTy own T k = some b ∧ Q (.bl b)
section
variable {own : List Addr} {T : String} {p : PV} {Q : PQ} {R : XQ} {ρ : PEnv} {a : WEx}
theorem wIsi_eq : wIsi (ansTy own T) a ρ Q R = a ρ (fun p => oIsi own T p Q) R := rfl
theorem ty_case {n : String} (h : (if n = T then some true else some (n == "bool" && T == "int")) = some (isTy T p) ↔ True) : (if n = T then some true else some (n == "bool" && T == "int")) = some (isTy T p) := h.mpr trivial
theorem beq_c {x y : String} : (x == y) = decide (y = x) := by
  by_cases h : y = x
  · subst h; simp
  · rw [decide_eq_false h]
    exact beq_eq_false_iff_ne.mpr (fun z => h z.symm)
theorem kind_ok (h : okV own p = true) (hT : T ∈ ["bool", "int", "str", "tuple", "list"]) : ∃ k, p.kind = some k ∧ ansTy own T k = some (isTy T p) := by
  have hT2 : T = "bool" ∨ T = "int" ∨ T = "str" ∨ T = "tuple" ∨ T = "list" := by simpa using hT
  cases p with
  | obj C ns xs => exact ⟨_, rfl, by
    show (if C ∈ own then some false else none) = some false
    rw [if_pos (of_decide_eq_true h)]⟩
  | non => exact ⟨_, rfl, by rcases hT2 with rfl | rfl | rfl | rfl | rfl <;> rfl⟩
  | bl _ => exact ⟨_, rfl, by rcases hT2 with rfl | rfl | rfl | rfl | rfl <;> rfl⟩
  | int _ => exact ⟨_, rfl, by rcases hT2 with rfl | rfl | rfl | rfl | rfl <;> rfl⟩
  | str _ => exact ⟨_, rfl, by rcases hT2 with rfl | rfl | rfl | rfl | rfl <;> rfl⟩
  | tup _ => exact ⟨_, rfl, by rcases hT2 with rfl | rfl | rfl | rfl | rfl <;> rfl⟩
  | lst _ => exact ⟨_, rfl, by rcases hT2 with rfl | rfl | rfl | rfl | rfl <;> rfl⟩
  | _ => cases h
theorem oIsi_ok (h : okV own p = true) (hT : (["bool", "int", "str", "tuple", "list"] : List String).contains T = true := by decide) (hq : Q (.bl (isTy T p))) : oIsi own T p Q := by
  obtain ⟨k, e1, e2⟩ := kind_ok h (List.contains_iff_mem.mp hT)
  exact ⟨k, _, e1, e2, hq⟩
theorem oIsi_iff (h : okV own p = true) (hT : (["bool", "int", "str", "tuple", "list"] : List String).contains T = true) : oIsi own T p Q ↔ Q (.bl (isTy T p)) := by
  obtain ⟨k, e1, e2⟩ := kind_ok h (List.contains_iff_mem.mp hT)
  refine ⟨fun ⟨k', b, h1, h2, h3⟩ => ?_, fun hq => ⟨k, _, e1, e2, hq⟩⟩
  rw [e1] at h1
  cases h1
  rw [e2] at h2
  cases h2
  exact h3
theorem oIsi_int (h : okV own p = true) : oIsi own "int" p Q ↔ Q (.bl (isTy "int" p)) := oIsi_iff h (by decide)
theorem oIsi_bool (h : okV own p = true) : oIsi own "bool" p Q ↔ Q (.bl (isTy "bool" p)) := oIsi_iff h (by decide)
theorem oIsi_str (h : okV own p = true) : oIsi own "str" p Q ↔ Q (.bl (isTy "str" p)) := oIsi_iff h (by decide)
theorem oIsi_tuple (h : okV own p = true) : oIsi own "tuple" p Q ↔ Q (.bl (isTy "tuple" p)) := oIsi_iff h (by decide)
theorem oIsi_list (h : okV own p = true) : oIsi own "list" p Q ↔ Q (.bl (isTy "list" p)) := oIsi_iff h (by decide)
theorem okV_non : okV own .non = true := rfl
theorem okV_bl {b : Bool} : okV own (.bl b) = true := rfl
theorem okV_int {i : Int} : okV own (.int i) = true := rfl
theorem okV_stR {x : Str} : okV own (.str x) = true := rfl
theorem okV_tup {xs : List PV} : okV own (.tup xs) = true := rfl
theorem okV_lst {xs : List PV} : okV own (.lst xs) = true := rfl
theorem okV_argP (h : okV own p = true) : argP p = some p := by cases p <;> first | rfl | cases h
theorem okV_gives (h : okV own p = true) : p.gives = true := by cases p <;> first | rfl | cases h
theorem okV_thaw (h : okV own p = true) : p.thaw = p := by cases p <;> first | rfl | cases h
theorem okV_st (h : okV own p = true) : isSt p = false := by cases p <;> first | rfl | cases h
theorem okV_ret (h : okV own p = true) : retP p = some p := by cases p <;> first | rfl | cases h
theorem isI_ty : (isTy "int" p && !isTy "bool" p) = isI p := by
  cases p <;> simp [isTy, isI] <;> (rename_i q; cases q <;> simp [isTy])
theorem oEq_int {i j : Int} : oEq (.int i) (.int j) Q R ↔ Q (.bl (decide (i = j))) := by
  constructor
  · rintro ⟨d, e, h1, h2, h3, h4, h⟩
    cases h1; cases h2
    have : PyData.eqv (.int i) (.int j) = decide (i = j) := by
      by_cases z : i = j
      · subst z; simp [PyData.eqv]
      · simp [PyData.eqv, z]
    rwa [this] at h
  · intro h
    refine ⟨_, _, rfl, rfl, rfl, rfl, ?_⟩
    have : PyData.eqv (.int i) (.int j) = decide (i = j) := by
      by_cases z : i = j
      · subst z; simp [PyData.eqv]
      · simp [PyData.eqv, z]
    rwa [this]
end
/-! ### step by step: each reading at its head -/
section
def wOwnC (i : Nat) (a : WEx) : WSt := fun D ρ => i < ρ.length ∧ wOwn i a D ρ
def wStSC (i : Nat) (a : WEx) : WSt := fun D ρ => i < ρ.length ∧ wStS i a D ρ
abbrev tgP := tgW
abbrev tgPs := tgWs
def ns2 (p : PV) (k : Unit → Prop) : Prop := ∃ x y : Int, p = .new (.lst [.int x, .int y]) ∧ 0 ≤ x ∧ 0 ≤ y ∧ y < 2147483647 ∧ k ()
variable {own : List Addr} {p q : PV} {Q : PQ} {R : XQ} {ρ : PEnv} {a b c : WEx} {ta tb : WTs} {s r : WSt} {D : PEnds} {o o' : PV → PV → PQ → XQ → Prop} {i j k : Int} {ps qs xs : List PV} {x y z : Str} {co : List PV → PQ → XQ → Prop} {as : WAs} {n : Nat} {fs : FS} {ob : Option PV}
def stP (p : PV) (k : PV → Prop) : Prop := p.gives = true ∧ k p.thaw
def rtP (p : PV) (k : PV → Prop) : Prop := ∃ q, retP p = some q ∧ k q
def nwP (p : PV) (k : PV → Prop) : Prop := ∃ q, p = .new q ∧ k q
def aP1 (p : PV) (k : PV → Prop) : Prop := ∃ q, argP p = some q ∧ k q
def kB (p : PV) (k : Bool → Prop) : Prop := match p with
  | .bl b => k b
  | _ => False
def kI (p : PV) (k : Int → Prop) : Prop := match p with
  | .int b => k b
  | _ => False
def sE (ρ : PEnv) (i : Nat) (v : Option PV) (k : PEnv → Prop) : Prop := k (ρ.set i v)
def tP (ps : List PV) (Q : PQ) : Prop := ps.length ≤ sizeLine ∧ ps.all PV.gives = true ∧ Q (.tup (ps.map PV.thaw))
def lP (ps : List PV) (Q : PQ) : Prop := ps.length ≤ sizeLine ∧ ps.all PV.gives = true ∧ Q (.new (.lst (ps.map PV.thaw)))
def ixP (xs : List PV) (i : Int) (Q : PQ) : Prop := ∃ p, atI xs i = some p ∧ Q p
theorem wVar_0  : wVar 0 (some p :: ρ) Q R = Q p := propext ⟨fun ⟨q, e, h⟩ => by cases e; exact h, fun h => ⟨p, rfl, h⟩⟩
theorem wVar_s  : wVar (n + 1) (ob :: ρ) Q R = wVar n ρ Q R := rfl
theorem wC_e  : wC p ρ Q R = Q p := rfl
theorem wOp_e  : wOp o a b ρ Q R = a ρ (fun x => b ρ (fun y => o x y Q R) R) R := rfl
theorem oAdd_ii  : oAdd (.int i) (.int j) Q R = Q (.int (i + j)) := rfl
theorem oAdd_ss  : oAdd (.str x) (.str y) Q R = (x.length + y.length ≤ sizeLine ∧ Q (.str (x ++ y))) := rfl
theorem oAdd_tt  : oAdd (.tup ps) (.tup qs) Q R = (ps.length + qs.length ≤ sizeLine ∧ Q (.tup (ps ++ qs))) := rfl
theorem oAdd_ll_  : oAdd (.lst ps) (.lst qs) Q R = (ps.length + qs.length ≤ sizeLine ∧ Q (.new (.lst (ps ++ qs)))) := propext ⟨fun ⟨_, _, e1, e2, h⟩ => by cases e1; cases e2; exact h, fun h => ⟨_, _, rfl, rfl, h⟩⟩
theorem oAdd_ln_  : oAdd (.lst ps) (.new (.lst qs)) Q R = (ps.length + qs.length ≤ sizeLine ∧ Q (.new (.lst (ps ++ qs)))) := propext ⟨fun ⟨_, _, e1, e2, h⟩ => by cases e1; cases e2; exact h, fun h => ⟨_, _, rfl, rfl, h⟩⟩
theorem oAdd_lo_  : oAdd (.lst ps) (.own (.lst qs)) Q R = (ps.length + qs.length ≤ sizeLine ∧ Q (.new (.lst (ps ++ qs)))) := propext ⟨fun ⟨_, _, e1, e2, h⟩ => by cases e1; cases e2; exact h, fun h => ⟨_, _, rfl, rfl, h⟩⟩
theorem oAdd_nl_  : oAdd (.new (.lst ps)) (.lst qs) Q R = (ps.length + qs.length ≤ sizeLine ∧ Q (.new (.lst (ps ++ qs)))) := propext ⟨fun ⟨_, _, e1, e2, h⟩ => by cases e1; cases e2; exact h, fun h => ⟨_, _, rfl, rfl, h⟩⟩
theorem oAdd_nn_  : oAdd (.new (.lst ps)) (.new (.lst qs)) Q R = (ps.length + qs.length ≤ sizeLine ∧ Q (.new (.lst (ps ++ qs)))) := propext ⟨fun ⟨_, _, e1, e2, h⟩ => by cases e1; cases e2; exact h, fun h => ⟨_, _, rfl, rfl, h⟩⟩
theorem oAdd_no_  : oAdd (.new (.lst ps)) (.own (.lst qs)) Q R = (ps.length + qs.length ≤ sizeLine ∧ Q (.new (.lst (ps ++ qs)))) := propext ⟨fun ⟨_, _, e1, e2, h⟩ => by cases e1; cases e2; exact h, fun h => ⟨_, _, rfl, rfl, h⟩⟩
theorem oAdd_ol_  : oAdd (.own (.lst ps)) (.lst qs) Q R = (ps.length + qs.length ≤ sizeLine ∧ Q (.new (.lst (ps ++ qs)))) := propext ⟨fun ⟨_, _, e1, e2, h⟩ => by cases e1; cases e2; exact h, fun h => ⟨_, _, rfl, rfl, h⟩⟩
theorem oAdd_on_  : oAdd (.own (.lst ps)) (.new (.lst qs)) Q R = (ps.length + qs.length ≤ sizeLine ∧ Q (.new (.lst (ps ++ qs)))) := propext ⟨fun ⟨_, _, e1, e2, h⟩ => by cases e1; cases e2; exact h, fun h => ⟨_, _, rfl, rfl, h⟩⟩
theorem oAdd_oo_  : oAdd (.own (.lst ps)) (.own (.lst qs)) Q R = (ps.length + qs.length ≤ sizeLine ∧ Q (.new (.lst (ps ++ qs)))) := propext ⟨fun ⟨_, _, e1, e2, h⟩ => by cases e1; cases e2; exact h, fun h => ⟨_, _, rfl, rfl, h⟩⟩
theorem oSub_ii  : oSub (.int i) (.int j) Q R = Q (.int (i - j)) := rfl
theorem oMul_ii  : oMulI (.int i) (.int j) Q R = (mulOk i j ∧ Q (.int (i * j))) := rfl
theorem oMul_li  : oMulI (.lst ps) (.int k) Q R = (-(2 ^ 63) ≤ k ∧ k < 2 ^ 63 ∧ ps.length * k.toNat ≤ sizeLine ∧ Q (.new (.lst (List.replicate k.toNat ps).flatten))) := propext ⟨fun ⟨_, e1, h⟩ => by cases e1; exact h, fun h => ⟨_, rfl, h⟩⟩
theorem oMul_ni  : oMulI (.new (.lst ps)) (.int k) Q R = (-(2 ^ 63) ≤ k ∧ k < 2 ^ 63 ∧ ps.length * k.toNat ≤ sizeLine ∧ Q (.new (.lst (List.replicate k.toNat ps).flatten))) := propext ⟨fun ⟨_, e1, h⟩ => by cases e1; exact h, fun h => ⟨_, rfl, h⟩⟩
theorem oMul_oi  : oMulI (.own (.lst ps)) (.int k) Q R = (-(2 ^ 63) ≤ k ∧ k < 2 ^ 63 ∧ ps.length * k.toNat ≤ sizeLine ∧ Q (.new (.lst (List.replicate k.toNat ps).flatten))) := propext ⟨fun ⟨_, e1, h⟩ => by cases e1; exact h, fun h => ⟨_, rfl, h⟩⟩
theorem oDiv_ii  : oDiv (.int i) (.int j) Q R = (divOk j ∧ Q (.int (i.fdiv j))) := rfl
theorem oMod_ii  : oMod (.int i) (.int j) Q R = (j ≠ 0 ∧ Q (.int (i.fmod j))) := rfl
theorem oLt_ii  : oLt (.int i) (.int j) Q R = Q (.bl (decide (i < j))) := rfl
theorem oLe_ii  : oLe (.int i) (.int j) Q R = Q (.bl (decide (i ≤ j))) := rfl
theorem oGt_ii  : oGt (.int i) (.int j) Q R = Q (.bl (decide (j < i))) := rfl
theorem oGe_ii  : oGe (.int i) (.int j) Q R = Q (.bl (decide (j ≤ i))) := rfl
theorem wNeg_e  : wNeg a ρ Q R = a ρ (fun x => kI x (fun i => Q (.int (-i)))) R := by
  have e : (fun x : PV => match x with
    | .int i => Q (.int (-i))
    | _ => False) = fun x => kI x (fun i => Q (.int (-i))) := by
    funext x
    cases x <;> rfl
  show a ρ (fun x : PV => match x with
    | .int i => Q (.int (-i))
    | _ => False) R = _
  rw [e]
theorem wT_e {K : Bool → Prop}  : wT a ρ K R = a ρ (fun x => kB x K) R := by
  unfold wT
  congr 1
theorem kB_b {bb : Bool} {K : Bool → Prop}  : kB (.bl bb) K = K bb := rfl
theorem kI_i {K : Int → Prop}  : kI (.int i) K = K i := rfl
theorem wAnd_e {K : Bool → Prop}  : wAnd ta tb ρ K R = ta ρ (fun c => if c = true then tb ρ K R else K false) R := rfl
theorem wOr_e {K : Bool → Prop}  : wOr ta tb ρ K R = ta ρ (fun c => if c = true then K true else tb ρ K R) R := rfl
theorem wNot_e {K : Bool → Prop}  : wNot ta ρ K R = ta ρ (fun c => K (!c)) R := rfl
theorem wAndV_e  : wAndV a b ρ Q R = a ρ (fun x => kB x (fun c => if c = true then b ρ Q R else Q (.bl false))) R := rfl
theorem wOrV_e  : wOrV a b ρ Q R = a ρ (fun x => kB x (fun c => if c = true then Q (.bl true) else b ρ Q R)) R := rfl
theorem wNotV_e  : wNotV a ρ Q R = a ρ (fun x => kB x (fun c => Q (.bl (!c)))) R := rfl
theorem wIfE_e  : wIfE ta a b ρ Q R = ta ρ (fun k => if k = true then a ρ Q R else b ρ Q R) R := rfl
theorem wChain_e  : wChain o o' a b c ρ Q R = a ρ (fun x => b ρ (fun y => o x y (fun z => kB z (fun k => if k = true then c ρ (fun u => o' y u Q R) R else Q (.bl false))) R) R) R := rfl
theorem wIsN_e  : wIsN a ρ Q R = a ρ (fun x => Q (.bl (isNonP x))) R := rfl
theorem wNotN_e  : wNotN a ρ Q R = a ρ (fun x => Q (.bl (!isNonP x))) R := rfl
theorem wCall_e  : wCall co as ρ Q R = as ρ (fun ps => co ps Q R) R := rfl
theorem wCons_e {K : List PV → Prop}  : wCons a as ρ K R = a ρ (fun x => as ρ (fun xs => K (x :: xs)) R) R := rfl
theorem wNil_e {K : List PV → Prop}  : wNil ρ K R = K [] := rfl
theorem wTup_e  : wTup as ρ Q R = as ρ (fun ps => tP ps Q) R := rfl
theorem wLst_e  : wLst as ρ Q R = as ρ (fun ps => lP ps Q) R := rfl
theorem tP_0  : tP [] Q = (Q (.tup [])) := propext ⟨fun ⟨_, h, hq⟩ => by simpa [stP, and_assoc] using (And.intro h hq), fun h => ⟨by show 0 ≤ sizeLine; rw [sizeLine_eq]; decide, by simpa [stP, and_assoc] using h⟩⟩
theorem tP_1 {p0 : PV} : tP [p0] Q = (stP p0 fun q0 => Q (.tup [q0])) := propext ⟨fun ⟨_, h, hq⟩ => by simpa [stP, and_assoc] using (And.intro h hq), fun h => ⟨by show 1 ≤ sizeLine; rw [sizeLine_eq]; decide, by simpa [stP, and_assoc] using h⟩⟩
theorem tP_2 {p0 p1 : PV} : tP [p0, p1] Q = (stP p0 fun q0 => stP p1 fun q1 => Q (.tup [q0, q1])) := propext ⟨fun ⟨_, h, hq⟩ => by simpa [stP, and_assoc] using (And.intro h hq), fun h => ⟨by show 2 ≤ sizeLine; rw [sizeLine_eq]; decide, by simpa [stP, and_assoc] using h⟩⟩
theorem tP_3 {p0 p1 p2 : PV} : tP [p0, p1, p2] Q = (stP p0 fun q0 => stP p1 fun q1 => stP p2 fun q2 => Q (.tup [q0, q1, q2])) := propext ⟨fun ⟨_, h, hq⟩ => by simpa [stP, and_assoc] using (And.intro h hq), fun h => ⟨by show 3 ≤ sizeLine; rw [sizeLine_eq]; decide, by simpa [stP, and_assoc] using h⟩⟩
theorem tP_4 {p0 p1 p2 p3 : PV} : tP [p0, p1, p2, p3] Q = (stP p0 fun q0 => stP p1 fun q1 => stP p2 fun q2 => stP p3 fun q3 => Q (.tup [q0, q1, q2, q3])) := propext ⟨fun ⟨_, h, hq⟩ => by simpa [stP, and_assoc] using (And.intro h hq), fun h => ⟨by show 4 ≤ sizeLine; rw [sizeLine_eq]; decide, by simpa [stP, and_assoc] using h⟩⟩
theorem tP_5 {p0 p1 p2 p3 p4 : PV} : tP [p0, p1, p2, p3, p4] Q = (stP p0 fun q0 => stP p1 fun q1 => stP p2 fun q2 => stP p3 fun q3 => stP p4 fun q4 => Q (.tup [q0, q1, q2, q3, q4])) := propext ⟨fun ⟨_, h, hq⟩ => by simpa [stP, and_assoc] using (And.intro h hq), fun h => ⟨by show 5 ≤ sizeLine; rw [sizeLine_eq]; decide, by simpa [stP, and_assoc] using h⟩⟩
theorem tP_6 {p0 p1 p2 p3 p4 p5 : PV} : tP [p0, p1, p2, p3, p4, p5] Q = (stP p0 fun q0 => stP p1 fun q1 => stP p2 fun q2 => stP p3 fun q3 => stP p4 fun q4 => stP p5 fun q5 => Q (.tup [q0, q1, q2, q3, q4, q5])) := propext ⟨fun ⟨_, h, hq⟩ => by simpa [stP, and_assoc] using (And.intro h hq), fun h => ⟨by show 6 ≤ sizeLine; rw [sizeLine_eq]; decide, by simpa [stP, and_assoc] using h⟩⟩
theorem tP_7 {p0 p1 p2 p3 p4 p5 p6 : PV} : tP [p0, p1, p2, p3, p4, p5, p6] Q = (stP p0 fun q0 => stP p1 fun q1 => stP p2 fun q2 => stP p3 fun q3 => stP p4 fun q4 => stP p5 fun q5 => stP p6 fun q6 => Q (.tup [q0, q1, q2, q3, q4, q5, q6])) := propext ⟨fun ⟨_, h, hq⟩ => by simpa [stP, and_assoc] using (And.intro h hq), fun h => ⟨by show 7 ≤ sizeLine; rw [sizeLine_eq]; decide, by simpa [stP, and_assoc] using h⟩⟩
theorem tP_8 {p0 p1 p2 p3 p4 p5 p6 p7 : PV} : tP [p0, p1, p2, p3, p4, p5, p6, p7] Q = (stP p0 fun q0 => stP p1 fun q1 => stP p2 fun q2 => stP p3 fun q3 => stP p4 fun q4 => stP p5 fun q5 => stP p6 fun q6 => stP p7 fun q7 => Q (.tup [q0, q1, q2, q3, q4, q5, q6, q7])) := propext ⟨fun ⟨_, h, hq⟩ => by simpa [stP, and_assoc] using (And.intro h hq), fun h => ⟨by show 8 ≤ sizeLine; rw [sizeLine_eq]; decide, by simpa [stP, and_assoc] using h⟩⟩
theorem tP_x : tP ps Q = tP ps Q := rfl
theorem lP_0  : lP [] Q = (Q (.new (.lst []))) := propext ⟨fun ⟨_, h, hq⟩ => by simpa [stP, and_assoc] using (And.intro h hq), fun h => ⟨by show 0 ≤ sizeLine; rw [sizeLine_eq]; decide, by simpa [stP, and_assoc] using h⟩⟩
theorem lP_1 {p0 : PV} : lP [p0] Q = (stP p0 fun q0 => Q (.new (.lst [q0]))) := propext ⟨fun ⟨_, h, hq⟩ => by simpa [stP, and_assoc] using (And.intro h hq), fun h => ⟨by show 1 ≤ sizeLine; rw [sizeLine_eq]; decide, by simpa [stP, and_assoc] using h⟩⟩
theorem lP_2 {p0 p1 : PV} : lP [p0, p1] Q = (stP p0 fun q0 => stP p1 fun q1 => Q (.new (.lst [q0, q1]))) := propext ⟨fun ⟨_, h, hq⟩ => by simpa [stP, and_assoc] using (And.intro h hq), fun h => ⟨by show 2 ≤ sizeLine; rw [sizeLine_eq]; decide, by simpa [stP, and_assoc] using h⟩⟩
theorem lP_3 {p0 p1 p2 : PV} : lP [p0, p1, p2] Q = (stP p0 fun q0 => stP p1 fun q1 => stP p2 fun q2 => Q (.new (.lst [q0, q1, q2]))) := propext ⟨fun ⟨_, h, hq⟩ => by simpa [stP, and_assoc] using (And.intro h hq), fun h => ⟨by show 3 ≤ sizeLine; rw [sizeLine_eq]; decide, by simpa [stP, and_assoc] using h⟩⟩
theorem lP_4 {p0 p1 p2 p3 : PV} : lP [p0, p1, p2, p3] Q = (stP p0 fun q0 => stP p1 fun q1 => stP p2 fun q2 => stP p3 fun q3 => Q (.new (.lst [q0, q1, q2, q3]))) := propext ⟨fun ⟨_, h, hq⟩ => by simpa [stP, and_assoc] using (And.intro h hq), fun h => ⟨by show 4 ≤ sizeLine; rw [sizeLine_eq]; decide, by simpa [stP, and_assoc] using h⟩⟩
theorem lP_5 {p0 p1 p2 p3 p4 : PV} : lP [p0, p1, p2, p3, p4] Q = (stP p0 fun q0 => stP p1 fun q1 => stP p2 fun q2 => stP p3 fun q3 => stP p4 fun q4 => Q (.new (.lst [q0, q1, q2, q3, q4]))) := propext ⟨fun ⟨_, h, hq⟩ => by simpa [stP, and_assoc] using (And.intro h hq), fun h => ⟨by show 5 ≤ sizeLine; rw [sizeLine_eq]; decide, by simpa [stP, and_assoc] using h⟩⟩
theorem lP_6 {p0 p1 p2 p3 p4 p5 : PV} : lP [p0, p1, p2, p3, p4, p5] Q = (stP p0 fun q0 => stP p1 fun q1 => stP p2 fun q2 => stP p3 fun q3 => stP p4 fun q4 => stP p5 fun q5 => Q (.new (.lst [q0, q1, q2, q3, q4, q5]))) := propext ⟨fun ⟨_, h, hq⟩ => by simpa [stP, and_assoc] using (And.intro h hq), fun h => ⟨by show 6 ≤ sizeLine; rw [sizeLine_eq]; decide, by simpa [stP, and_assoc] using h⟩⟩
theorem lP_7 {p0 p1 p2 p3 p4 p5 p6 : PV} : lP [p0, p1, p2, p3, p4, p5, p6] Q = (stP p0 fun q0 => stP p1 fun q1 => stP p2 fun q2 => stP p3 fun q3 => stP p4 fun q4 => stP p5 fun q5 => stP p6 fun q6 => Q (.new (.lst [q0, q1, q2, q3, q4, q5, q6]))) := propext ⟨fun ⟨_, h, hq⟩ => by simpa [stP, and_assoc] using (And.intro h hq), fun h => ⟨by show 7 ≤ sizeLine; rw [sizeLine_eq]; decide, by simpa [stP, and_assoc] using h⟩⟩
theorem lP_8 {p0 p1 p2 p3 p4 p5 p6 p7 : PV} : lP [p0, p1, p2, p3, p4, p5, p6, p7] Q = (stP p0 fun q0 => stP p1 fun q1 => stP p2 fun q2 => stP p3 fun q3 => stP p4 fun q4 => stP p5 fun q5 => stP p6 fun q6 => stP p7 fun q7 => Q (.new (.lst [q0, q1, q2, q3, q4, q5, q6, q7]))) := propext ⟨fun ⟨_, h, hq⟩ => by simpa [stP, and_assoc] using (And.intro h hq), fun h => ⟨by show 8 ≤ sizeLine; rw [sizeLine_eq]; decide, by simpa [stP, and_assoc] using h⟩⟩
theorem lP_x : lP ps Q = lP ps Q := rfl
theorem stP_non {K : PV → Prop} : stP .non K = K .non := propext ⟨fun h => h.2, fun h => ⟨rfl, h⟩⟩
theorem rtP_non {K : PV → Prop} : rtP .non K = K .non := propext ⟨fun ⟨q, e, h⟩ => by cases e; exact h, fun h => ⟨_, rfl, h⟩⟩
theorem aP1_non {K : PV → Prop} : aP1 .non K = K .non := propext ⟨fun ⟨q, e, h⟩ => by cases e; exact h, fun h => ⟨_, rfl, h⟩⟩
theorem stP_bl {bb : Bool} {K : PV → Prop} : stP (.bl bb) K = K (.bl bb) := propext ⟨fun h => h.2, fun h => ⟨rfl, h⟩⟩
theorem rtP_bl {bb : Bool} {K : PV → Prop} : rtP (.bl bb) K = K (.bl bb) := propext ⟨fun ⟨q, e, h⟩ => by cases e; exact h, fun h => ⟨_, rfl, h⟩⟩
theorem aP1_bl {bb : Bool} {K : PV → Prop} : aP1 (.bl bb) K = K (.bl bb) := propext ⟨fun ⟨q, e, h⟩ => by cases e; exact h, fun h => ⟨_, rfl, h⟩⟩
theorem isN_bl {bb : Bool}  : isNonP (.bl bb) = false := rfl
theorem stP_int {K : PV → Prop} : stP (.int i) K = K (.int i) := propext ⟨fun h => h.2, fun h => ⟨rfl, h⟩⟩
theorem rtP_int {K : PV → Prop} : rtP (.int i) K = K (.int i) := propext ⟨fun ⟨q, e, h⟩ => by cases e; exact h, fun h => ⟨_, rfl, h⟩⟩
theorem aP1_int {K : PV → Prop} : aP1 (.int i) K = K (.int i) := propext ⟨fun ⟨q, e, h⟩ => by cases e; exact h, fun h => ⟨_, rfl, h⟩⟩
theorem isN_int  : isNonP (.int i) = false := rfl
theorem stP_str {K : PV → Prop} : stP (.str x) K = K (.str x) := propext ⟨fun h => h.2, fun h => ⟨rfl, h⟩⟩
theorem rtP_str {K : PV → Prop} : rtP (.str x) K = K (.str x) := propext ⟨fun ⟨q, e, h⟩ => by cases e; exact h, fun h => ⟨_, rfl, h⟩⟩
theorem aP1_str {K : PV → Prop} : aP1 (.str x) K = K (.str x) := propext ⟨fun ⟨q, e, h⟩ => by cases e; exact h, fun h => ⟨_, rfl, h⟩⟩
theorem isN_str  : isNonP (.str x) = false := rfl
theorem stP_adr {f : Addr} {K : PV → Prop} : stP (.adr f) K = K (.adr f) := propext ⟨fun h => h.2, fun h => ⟨rfl, h⟩⟩
theorem rtP_adr {f : Addr} {K : PV → Prop} : rtP (.adr f) K = K (.adr f) := propext ⟨fun ⟨q, e, h⟩ => by cases e; exact h, fun h => ⟨_, rfl, h⟩⟩
theorem aP1_adr {f : Addr} {K : PV → Prop} : aP1 (.adr f) K = K (.adr f) := propext ⟨fun ⟨q, e, h⟩ => by cases e; exact h, fun h => ⟨_, rfl, h⟩⟩
theorem isN_adr {f : Addr}  : isNonP (.adr f) = false := rfl
theorem stP_tup {K : PV → Prop} : stP (.tup ps) K = K (.tup ps) := propext ⟨fun h => h.2, fun h => ⟨rfl, h⟩⟩
theorem rtP_tup {K : PV → Prop} : rtP (.tup ps) K = K (.tup ps) := propext ⟨fun ⟨q, e, h⟩ => by cases e; exact h, fun h => ⟨_, rfl, h⟩⟩
theorem aP1_tup {K : PV → Prop} : aP1 (.tup ps) K = K (.tup ps) := propext ⟨fun ⟨q, e, h⟩ => by cases e; exact h, fun h => ⟨_, rfl, h⟩⟩
theorem isN_tup  : isNonP (.tup ps) = false := rfl
theorem stP_lst {K : PV → Prop} : stP (.lst ps) K = K (.lst ps) := propext ⟨fun h => h.2, fun h => ⟨rfl, h⟩⟩
theorem rtP_lst {K : PV → Prop} : rtP (.lst ps) K = K (.lst ps) := propext ⟨fun ⟨q, e, h⟩ => by cases e; exact h, fun h => ⟨_, rfl, h⟩⟩
theorem aP1_lst {K : PV → Prop} : aP1 (.lst ps) K = K (.lst ps) := propext ⟨fun ⟨q, e, h⟩ => by cases e; exact h, fun h => ⟨_, rfl, h⟩⟩
theorem isN_lst  : isNonP (.lst ps) = false := rfl
theorem stP_scr {K : PV → Prop} : stP (.scr ps) K = K (.scr ps) := propext ⟨fun h => h.2, fun h => ⟨rfl, h⟩⟩
theorem rtP_scr {K : PV → Prop} : rtP (.scr ps) K = K (.scr ps) := propext ⟨fun ⟨q, e, h⟩ => by cases e; exact h, fun h => ⟨_, rfl, h⟩⟩
theorem aP1_scr {K : PV → Prop} : aP1 (.scr ps) K = K (.scr ps) := propext ⟨fun ⟨q, e, h⟩ => by cases e; exact h, fun h => ⟨_, rfl, h⟩⟩
theorem isN_scr  : isNonP (.scr ps) = false := rfl
theorem stP_obj {f : Addr} {ns : List Str} {K : PV → Prop} : stP (.obj f ns ps) K = K (.obj f ns ps) := propext ⟨fun h => h.2, fun h => ⟨rfl, h⟩⟩
theorem rtP_obj {f : Addr} {ns : List Str} {K : PV → Prop} : rtP (.obj f ns ps) K = K (.obj f ns ps) := propext ⟨fun ⟨q, e, h⟩ => by cases e; exact h, fun h => ⟨_, rfl, h⟩⟩
theorem aP1_obj {f : Addr} {ns : List Str} {K : PV → Prop} : aP1 (.obj f ns ps) K = K (.obj f ns ps) := propext ⟨fun ⟨q, e, h⟩ => by cases e; exact h, fun h => ⟨_, rfl, h⟩⟩
theorem isN_obj {f : Addr} {ns : List Str}  : isNonP (.obj f ns ps) = false := rfl
theorem stP_dk {ks : List Key} {K : PV → Prop} : stP (.dk ks ps) K = K (.dk ks ps) := propext ⟨fun h => h.2, fun h => ⟨rfl, h⟩⟩
theorem rtP_dk {ks : List Key} {K : PV → Prop} : rtP (.dk ks ps) K = K (.dk ks ps) := propext ⟨fun ⟨q, e, h⟩ => by cases e; exact h, fun h => ⟨_, rfl, h⟩⟩
theorem aP1_dk {ks : List Key} {K : PV → Prop} : aP1 (.dk ks ps) K = K (.dk ks ps) := propext ⟨fun ⟨q, e, h⟩ => by cases e; exact h, fun h => ⟨_, rfl, h⟩⟩
theorem isN_dk {ks : List Key}  : isNonP (.dk ks ps) = false := rfl
theorem isN_non  : isNonP .non = true := rfl
theorem stP_nlst {K : PV → Prop} : stP (.new (.lst ps)) K = K (.lst ps) := propext ⟨fun h => h.2, fun h => ⟨rfl, h⟩⟩
theorem rtP_nlst {K : PV → Prop} : rtP (.new (.lst ps)) K = K (.new (.lst ps)) := propext ⟨fun ⟨q, e, h⟩ => by cases e; exact h, fun h => ⟨_, rfl, h⟩⟩
theorem rtP_olst {K : PV → Prop} : rtP (.own (.lst ps)) K = K (.new (.lst ps)) := propext ⟨fun ⟨q, e, h⟩ => by cases e; exact h, fun h => ⟨_, rfl, h⟩⟩
theorem aP1_nlst {K : PV → Prop} : aP1 (.new (.lst ps)) K = K (.lst ps) := propext ⟨fun ⟨q, e, h⟩ => by cases e; exact h, fun h => ⟨_, rfl, h⟩⟩
theorem stP_ndk {ks : List Key} {K : PV → Prop} : stP (.new (.dk ks ps)) K = K (.dk ks ps) := propext ⟨fun h => h.2, fun h => ⟨rfl, h⟩⟩
theorem rtP_ndk {ks : List Key} {K : PV → Prop} : rtP (.new (.dk ks ps)) K = K (.new (.dk ks ps)) := propext ⟨fun ⟨q, e, h⟩ => by cases e; exact h, fun h => ⟨_, rfl, h⟩⟩
theorem rtP_odk {ks : List Key} {K : PV → Prop} : rtP (.own (.dk ks ps)) K = K (.new (.dk ks ps)) := propext ⟨fun ⟨q, e, h⟩ => by cases e; exact h, fun h => ⟨_, rfl, h⟩⟩
theorem aP1_ndk {ks : List Key} {K : PV → Prop} : aP1 (.new (.dk ks ps)) K = K (.dk ks ps) := propext ⟨fun ⟨q, e, h⟩ => by cases e; exact h, fun h => ⟨_, rfl, h⟩⟩
theorem aP1_st {K : PV → Prop} : aP1 .st K = K .st := propext ⟨fun ⟨q, e, h⟩ => by cases e; exact h, fun h => ⟨_, rfl, h⟩⟩
theorem nwP_n {K : PV → Prop} : nwP (.new p) K = K p := propext ⟨fun ⟨q, e, h⟩ => by cases e; exact h, fun h => ⟨_, rfl, h⟩⟩
theorem stP_v {K : PV → Prop} (h : p.plain = true) : stP p K = K p := by
  have e : p.thaw = p := by cases p <;> first | rfl | cases h
  unfold stP PV.gives
  rw [e, h]
  exact propext ⟨fun h => h.2, fun h => ⟨rfl, h⟩⟩
theorem rtP_v {K : PV → Prop} (h : p.plain = true) : rtP p K = K p := by
  have e : retP p = some p := by cases p <;> first | rfl | cases h
  unfold rtP; rw [e]; exact propext ⟨fun ⟨q, e, h⟩ => by cases e; exact h, fun h => ⟨_, rfl, h⟩⟩
theorem aP1_v {K : PV → Prop} (h : p.plain = true) : aP1 p K = K p := by
  have e : argP p = some p := by cases p <;> first | rfl | cases h
  unfold aP1; rw [e]; exact propext ⟨fun ⟨q, e, h⟩ => by cases e; exact h, fun h => ⟨_, rfl, h⟩⟩
theorem okV_plain (h : okV own p = true) : p.plain = true := by cases p <;> first | rfl | cases h
theorem oFn_1 {p0 : PV} : oFn 1 fs [p0] Q R = (aP1 p0 fun q0 => stOnce [q0] = true ∧ fs [q0] Q R) := by
  unfold oFn aP1
  refine propext ⟨fun ⟨_, qs, e, h1, h2⟩ => ?_, fun h => ?_⟩
  · obtain ⟨q0, r0, e0, f0, rfl⟩ := argPs_cons e
    cases f0
    exact ⟨q0, e0, h1, h2⟩
  · obtain ⟨q0, e0, h1, h2⟩ := h
    exact ⟨rfl, [q0], by simp only [argPs, e0], h1, h2⟩
theorem oFn_2 {p0 p1 : PV} : oFn 2 fs [p0, p1] Q R = (aP1 p0 fun q0 => aP1 p1 fun q1 => stOnce [q0, q1] = true ∧ fs [q0, q1] Q R) := by
  unfold oFn aP1
  refine propext ⟨fun ⟨_, qs, e, h1, h2⟩ => ?_, fun h => ?_⟩
  · obtain ⟨q0, r0, e0, f0, rfl⟩ := argPs_cons e
    obtain ⟨q1, r1, e1, f1, rfl⟩ := argPs_cons f0
    cases f1
    exact ⟨q0, e0, ⟨q1, e1, h1, h2⟩⟩
  · obtain ⟨q0, e0, ⟨q1, e1, h1, h2⟩⟩ := h
    exact ⟨rfl, [q0, q1], by simp only [argPs, e0, e1], h1, h2⟩
theorem oFn_3 {p0 p1 p2 : PV} : oFn 3 fs [p0, p1, p2] Q R = (aP1 p0 fun q0 => aP1 p1 fun q1 => aP1 p2 fun q2 => stOnce [q0, q1, q2] = true ∧ fs [q0, q1, q2] Q R) := by
  unfold oFn aP1
  refine propext ⟨fun ⟨_, qs, e, h1, h2⟩ => ?_, fun h => ?_⟩
  · obtain ⟨q0, r0, e0, f0, rfl⟩ := argPs_cons e
    obtain ⟨q1, r1, e1, f1, rfl⟩ := argPs_cons f0
    obtain ⟨q2, r2, e2, f2, rfl⟩ := argPs_cons f1
    cases f2
    exact ⟨q0, e0, ⟨q1, e1, ⟨q2, e2, h1, h2⟩⟩⟩
  · obtain ⟨q0, e0, ⟨q1, e1, ⟨q2, e2, h1, h2⟩⟩⟩ := h
    exact ⟨rfl, [q0, q1, q2], by simp only [argPs, e0, e1, e2], h1, h2⟩
theorem oFn_4 {p0 p1 p2 p3 : PV} : oFn 4 fs [p0, p1, p2, p3] Q R = (aP1 p0 fun q0 => aP1 p1 fun q1 => aP1 p2 fun q2 => aP1 p3 fun q3 => stOnce [q0, q1, q2, q3] = true ∧ fs [q0, q1, q2, q3] Q R) := by
  unfold oFn aP1
  refine propext ⟨fun ⟨_, qs, e, h1, h2⟩ => ?_, fun h => ?_⟩
  · obtain ⟨q0, r0, e0, f0, rfl⟩ := argPs_cons e
    obtain ⟨q1, r1, e1, f1, rfl⟩ := argPs_cons f0
    obtain ⟨q2, r2, e2, f2, rfl⟩ := argPs_cons f1
    obtain ⟨q3, r3, e3, f3, rfl⟩ := argPs_cons f2
    cases f3
    exact ⟨q0, e0, ⟨q1, e1, ⟨q2, e2, ⟨q3, e3, h1, h2⟩⟩⟩⟩
  · obtain ⟨q0, e0, ⟨q1, e1, ⟨q2, e2, ⟨q3, e3, h1, h2⟩⟩⟩⟩ := h
    exact ⟨rfl, [q0, q1, q2, q3], by simp only [argPs, e0, e1, e2, e3], h1, h2⟩
theorem oFn_5 {p0 p1 p2 p3 p4 : PV} : oFn 5 fs [p0, p1, p2, p3, p4] Q R = (aP1 p0 fun q0 => aP1 p1 fun q1 => aP1 p2 fun q2 => aP1 p3 fun q3 => aP1 p4 fun q4 => stOnce [q0, q1, q2, q3, q4] = true ∧ fs [q0, q1, q2, q3, q4] Q R) := by
  unfold oFn aP1
  refine propext ⟨fun ⟨_, qs, e, h1, h2⟩ => ?_, fun h => ?_⟩
  · obtain ⟨q0, r0, e0, f0, rfl⟩ := argPs_cons e
    obtain ⟨q1, r1, e1, f1, rfl⟩ := argPs_cons f0
    obtain ⟨q2, r2, e2, f2, rfl⟩ := argPs_cons f1
    obtain ⟨q3, r3, e3, f3, rfl⟩ := argPs_cons f2
    obtain ⟨q4, r4, e4, f4, rfl⟩ := argPs_cons f3
    cases f4
    exact ⟨q0, e0, ⟨q1, e1, ⟨q2, e2, ⟨q3, e3, ⟨q4, e4, h1, h2⟩⟩⟩⟩⟩
  · obtain ⟨q0, e0, ⟨q1, e1, ⟨q2, e2, ⟨q3, e3, ⟨q4, e4, h1, h2⟩⟩⟩⟩⟩ := h
    exact ⟨rfl, [q0, q1, q2, q3, q4], by simp only [argPs, e0, e1, e2, e3, e4], h1, h2⟩
theorem oFn_6 {p0 p1 p2 p3 p4 p5 : PV} : oFn 6 fs [p0, p1, p2, p3, p4, p5] Q R = (aP1 p0 fun q0 => aP1 p1 fun q1 => aP1 p2 fun q2 => aP1 p3 fun q3 => aP1 p4 fun q4 => aP1 p5 fun q5 => stOnce [q0, q1, q2, q3, q4, q5] = true ∧ fs [q0, q1, q2, q3, q4, q5] Q R) := by
  unfold oFn aP1
  refine propext ⟨fun ⟨_, qs, e, h1, h2⟩ => ?_, fun h => ?_⟩
  · obtain ⟨q0, r0, e0, f0, rfl⟩ := argPs_cons e
    obtain ⟨q1, r1, e1, f1, rfl⟩ := argPs_cons f0
    obtain ⟨q2, r2, e2, f2, rfl⟩ := argPs_cons f1
    obtain ⟨q3, r3, e3, f3, rfl⟩ := argPs_cons f2
    obtain ⟨q4, r4, e4, f4, rfl⟩ := argPs_cons f3
    obtain ⟨q5, r5, e5, f5, rfl⟩ := argPs_cons f4
    cases f5
    exact ⟨q0, e0, ⟨q1, e1, ⟨q2, e2, ⟨q3, e3, ⟨q4, e4, ⟨q5, e5, h1, h2⟩⟩⟩⟩⟩⟩
  · obtain ⟨q0, e0, ⟨q1, e1, ⟨q2, e2, ⟨q3, e3, ⟨q4, e4, ⟨q5, e5, h1, h2⟩⟩⟩⟩⟩⟩ := h
    exact ⟨rfl, [q0, q1, q2, q3, q4, q5], by simp only [argPs, e0, e1, e2, e3, e4, e5], h1, h2⟩
theorem stOnce_v (h : p.plain = true) : stOnce (p :: ps) = stOnce ps := by
  have e : isSt p = false := by cases p <;> first | rfl | cases h
  show (if isSt p = true then noSt ps else stOnce ps) = stOnce ps
  rw [e] <;> rfl
theorem noSt_v (h : p.plain = true) : noSt (p :: ps) = noSt ps := by
  have e : isSt p = false := by cases p <;> first | rfl | cases h
  show (!isSt p && noSt ps) = noSt ps
  rw [e] <;> rfl
theorem sto_non  : stOnce (.non :: qs) = stOnce qs := rfl
theorem nst_non  : noSt (.non :: qs) = noSt qs := rfl
theorem sto_bl {bb : Bool}  : stOnce ((.bl bb) :: qs) = stOnce qs := rfl
theorem nst_bl {bb : Bool}  : noSt ((.bl bb) :: qs) = noSt qs := rfl
theorem sto_int  : stOnce ((.int i) :: qs) = stOnce qs := rfl
theorem nst_int  : noSt ((.int i) :: qs) = noSt qs := rfl
theorem sto_str  : stOnce ((.str x) :: qs) = stOnce qs := rfl
theorem nst_str  : noSt ((.str x) :: qs) = noSt qs := rfl
theorem sto_adr {f : Addr}  : stOnce ((.adr f) :: qs) = stOnce qs := rfl
theorem nst_adr {f : Addr}  : noSt ((.adr f) :: qs) = noSt qs := rfl
theorem sto_tup  : stOnce ((.tup ps) :: qs) = stOnce qs := rfl
theorem nst_tup  : noSt ((.tup ps) :: qs) = noSt qs := rfl
theorem sto_lst  : stOnce ((.lst ps) :: qs) = stOnce qs := rfl
theorem nst_lst  : noSt ((.lst ps) :: qs) = noSt qs := rfl
theorem sto_scr  : stOnce ((.scr ps) :: qs) = stOnce qs := rfl
theorem nst_scr  : noSt ((.scr ps) :: qs) = noSt qs := rfl
theorem sto_obj {f : Addr} {ns : List Str}  : stOnce ((.obj f ns ps) :: qs) = stOnce qs := rfl
theorem nst_obj {f : Addr} {ns : List Str}  : noSt ((.obj f ns ps) :: qs) = noSt qs := rfl
theorem sto_dk {ks : List Key}  : stOnce ((.dk ks ps) :: qs) = stOnce qs := rfl
theorem nst_dk {ks : List Key}  : noSt ((.dk ks ps) :: qs) = noSt qs := rfl
theorem sto_st  : stOnce (.st :: qs) = noSt qs := rfl
theorem sto_nil  : stOnce [] = true := rfl
theorem nst_nil  : noSt [] = true := rfl
theorem wIsi_e {T : String} : wIsi (ansTy own T) a ρ Q R = a ρ (fun p => oIsi own T p Q) R := rfl
theorem oIsi_int_non   : oIsi own "int" .non Q = Q (.bl false) := propext (oIsi_int rfl)
theorem oIsi_int_bl {bb : Bool}  : oIsi own "int" (.bl bb) Q = Q (.bl true) := propext (oIsi_int rfl)
theorem oIsi_int_int   : oIsi own "int" (.int i) Q = Q (.bl true) := propext (oIsi_int rfl)
theorem oIsi_int_str   : oIsi own "int" (.str x) Q = Q (.bl false) := propext (oIsi_int rfl)
theorem oIsi_int_tup   : oIsi own "int" (.tup ps) Q = Q (.bl false) := propext (oIsi_int rfl)
theorem oIsi_int_lst   : oIsi own "int" (.lst ps) Q = Q (.bl false) := propext (oIsi_int rfl)
theorem oIsi_bool_non   : oIsi own "bool" .non Q = Q (.bl false) := propext (oIsi_bool rfl)
theorem oIsi_bool_bl {bb : Bool}  : oIsi own "bool" (.bl bb) Q = Q (.bl true) := propext (oIsi_bool rfl)
theorem oIsi_bool_int   : oIsi own "bool" (.int i) Q = Q (.bl false) := propext (oIsi_bool rfl)
theorem oIsi_bool_str   : oIsi own "bool" (.str x) Q = Q (.bl false) := propext (oIsi_bool rfl)
theorem oIsi_bool_tup   : oIsi own "bool" (.tup ps) Q = Q (.bl false) := propext (oIsi_bool rfl)
theorem oIsi_bool_lst   : oIsi own "bool" (.lst ps) Q = Q (.bl false) := propext (oIsi_bool rfl)
theorem oIsi_str_non   : oIsi own "str" .non Q = Q (.bl false) := propext (oIsi_str rfl)
theorem oIsi_str_bl {bb : Bool}  : oIsi own "str" (.bl bb) Q = Q (.bl false) := propext (oIsi_str rfl)
theorem oIsi_str_int   : oIsi own "str" (.int i) Q = Q (.bl false) := propext (oIsi_str rfl)
theorem oIsi_str_str   : oIsi own "str" (.str x) Q = Q (.bl true) := propext (oIsi_str rfl)
theorem oIsi_str_tup   : oIsi own "str" (.tup ps) Q = Q (.bl false) := propext (oIsi_str rfl)
theorem oIsi_str_lst   : oIsi own "str" (.lst ps) Q = Q (.bl false) := propext (oIsi_str rfl)
theorem oIsi_tuple_non   : oIsi own "tuple" .non Q = Q (.bl false) := propext (oIsi_tuple rfl)
theorem oIsi_tuple_bl {bb : Bool}  : oIsi own "tuple" (.bl bb) Q = Q (.bl false) := propext (oIsi_tuple rfl)
theorem oIsi_tuple_int   : oIsi own "tuple" (.int i) Q = Q (.bl false) := propext (oIsi_tuple rfl)
theorem oIsi_tuple_str   : oIsi own "tuple" (.str x) Q = Q (.bl false) := propext (oIsi_tuple rfl)
theorem oIsi_tuple_tup   : oIsi own "tuple" (.tup ps) Q = Q (.bl true) := propext (oIsi_tuple rfl)
theorem oIsi_tuple_lst   : oIsi own "tuple" (.lst ps) Q = Q (.bl false) := propext (oIsi_tuple rfl)
theorem oIsi_list_non   : oIsi own "list" .non Q = Q (.bl false) := propext (oIsi_list rfl)
theorem oIsi_list_bl {bb : Bool}  : oIsi own "list" (.bl bb) Q = Q (.bl false) := propext (oIsi_list rfl)
theorem oIsi_list_int   : oIsi own "list" (.int i) Q = Q (.bl false) := propext (oIsi_list rfl)
theorem oIsi_list_str   : oIsi own "list" (.str x) Q = Q (.bl false) := propext (oIsi_list rfl)
theorem oIsi_list_tup   : oIsi own "list" (.tup ps) Q = Q (.bl false) := propext (oIsi_list rfl)
theorem oIsi_list_lst   : oIsi own "list" (.lst ps) Q = Q (.bl true) := propext (oIsi_list rfl)
theorem oIx_t  : oIx (.tup xs) (.int i) Q R = ixP xs i Q := propext ⟨fun ⟨_, p, e1, e2, h⟩ => by cases e1; exact ⟨p, e2, h⟩, fun ⟨p, e2, h⟩ => ⟨_, p, rfl, e2, h⟩⟩
theorem cLen_t  : cLen [(.tup xs)] Q R = Q (.int xs.length) := propext ⟨fun ⟨_, e1, h⟩ => by cases e1; exact h, fun h => ⟨_, rfl, h⟩⟩
theorem cTup_t  : cTuple [(.tup xs)] Q R = Q (.tup xs) := propext ⟨fun ⟨_, _, e1, e2, h⟩ => by cases e1; cases e2; exact h, fun h => ⟨_, _, rfl, rfl, h⟩⟩
theorem cLst_t  : cList [(.tup xs)] Q R = Q (.new (.lst xs)) := propext ⟨fun ⟨_, _, e1, e2, h⟩ => by cases e1; cases e2; exact h, fun h => ⟨_, _, rfl, rfl, h⟩⟩
theorem oIx_s  : oIx (.scr xs) (.int i) Q R = ixP xs i Q := propext ⟨fun ⟨_, p, e1, e2, h⟩ => by cases e1; exact ⟨p, e2, h⟩, fun ⟨p, e2, h⟩ => ⟨_, p, rfl, e2, h⟩⟩
theorem cLen_s  : cLen [(.scr xs)] Q R = Q (.int xs.length) := propext ⟨fun ⟨_, e1, h⟩ => by cases e1; exact h, fun h => ⟨_, rfl, h⟩⟩
theorem cTup_s  : cTuple [(.scr xs)] Q R = Q (.tup xs) := propext ⟨fun ⟨_, _, e1, e2, h⟩ => by cases e1; cases e2; exact h, fun h => ⟨_, _, rfl, rfl, h⟩⟩
theorem cLst_s  : cList [(.scr xs)] Q R = Q (.new (.lst xs)) := propext ⟨fun ⟨_, _, e1, e2, h⟩ => by cases e1; cases e2; exact h, fun h => ⟨_, _, rfl, rfl, h⟩⟩
theorem oIx_l  : oIx (.lst xs) (.int i) Q R = ixP xs i Q := propext ⟨fun ⟨_, p, e1, e2, h⟩ => by cases e1; exact ⟨p, e2, h⟩, fun ⟨p, e2, h⟩ => ⟨_, p, rfl, e2, h⟩⟩
theorem cLen_l  : cLen [(.lst xs)] Q R = Q (.int xs.length) := propext ⟨fun ⟨_, e1, h⟩ => by cases e1; exact h, fun h => ⟨_, rfl, h⟩⟩
theorem cTup_l  : cTuple [(.lst xs)] Q R = Q (.tup xs) := propext ⟨fun ⟨_, _, e1, e2, h⟩ => by cases e1; cases e2; exact h, fun h => ⟨_, _, rfl, rfl, h⟩⟩
theorem cLst_l  : cList [(.lst xs)] Q R = Q (.new (.lst xs)) := propext ⟨fun ⟨_, _, e1, e2, h⟩ => by cases e1; cases e2; exact h, fun h => ⟨_, _, rfl, rfl, h⟩⟩
theorem oIx_n  : oIx (.new (.lst xs)) (.int i) Q R = ixP xs i Q := propext ⟨fun ⟨_, p, e1, e2, h⟩ => by cases e1; exact ⟨p, e2, h⟩, fun ⟨p, e2, h⟩ => ⟨_, p, rfl, e2, h⟩⟩
theorem cLen_n  : cLen [(.new (.lst xs))] Q R = Q (.int xs.length) := propext ⟨fun ⟨_, e1, h⟩ => by cases e1; exact h, fun h => ⟨_, rfl, h⟩⟩
theorem cTup_n  : cTuple [(.new (.lst xs))] Q R = Q (.tup xs) := propext ⟨fun ⟨_, _, e1, e2, h⟩ => by cases e1; cases e2; exact h, fun h => ⟨_, _, rfl, rfl, h⟩⟩
theorem cLst_n  : cList [(.new (.lst xs))] Q R = Q (.new (.lst xs)) := propext ⟨fun ⟨_, _, e1, e2, h⟩ => by cases e1; cases e2; exact h, fun h => ⟨_, _, rfl, rfl, h⟩⟩
theorem oIx_o  : oIx (.own (.lst xs)) (.int i) Q R = ixP xs i Q := propext ⟨fun ⟨_, p, e1, e2, h⟩ => by cases e1; exact ⟨p, e2, h⟩, fun ⟨p, e2, h⟩ => ⟨_, p, rfl, e2, h⟩⟩
theorem cLen_o  : cLen [(.own (.lst xs))] Q R = Q (.int xs.length) := propext ⟨fun ⟨_, e1, h⟩ => by cases e1; exact h, fun h => ⟨_, rfl, h⟩⟩
theorem cTup_o  : cTuple [(.own (.lst xs))] Q R = Q (.tup xs) := propext ⟨fun ⟨_, _, e1, e2, h⟩ => by cases e1; cases e2; exact h, fun h => ⟨_, _, rfl, rfl, h⟩⟩
theorem cLst_o  : cList [(.own (.lst xs))] Q R = Q (.new (.lst xs)) := propext ⟨fun ⟨_, _, e1, e2, h⟩ => by cases e1; cases e2; exact h, fun h => ⟨_, _, rfl, rfl, h⟩⟩
theorem ixP_0 {p0 : PV} : ixP (p0 :: ps) 0 Q = Q p0 := propext ⟨fun ⟨p, e, h⟩ => by
    have e2 : atI (p0 :: ps) 0 = some p0 := atI_nat (j := 0) rfl
    rw [e2] at e; cases e; exact h, fun h => ⟨_, atI_nat (j := 0) rfl, h⟩⟩
theorem ixP_1 {p0 p1 : PV} : ixP (p0 :: p1 :: ps) 1 Q = Q p1 := propext ⟨fun ⟨p, e, h⟩ => by
    have e2 : atI (p0 :: p1 :: ps) 1 = some p1 := atI_nat (j := 1) rfl
    rw [e2] at e; cases e; exact h, fun h => ⟨_, atI_nat (j := 1) rfl, h⟩⟩
theorem ixP_2 {p0 p1 p2 : PV} : ixP (p0 :: p1 :: p2 :: ps) 2 Q = Q p2 := propext ⟨fun ⟨p, e, h⟩ => by
    have e2 : atI (p0 :: p1 :: p2 :: ps) 2 = some p2 := atI_nat (j := 2) rfl
    rw [e2] at e; cases e; exact h, fun h => ⟨_, atI_nat (j := 2) rfl, h⟩⟩
theorem ixP_3 {p0 p1 p2 p3 : PV} : ixP (p0 :: p1 :: p2 :: p3 :: ps) 3 Q = Q p3 := propext ⟨fun ⟨p, e, h⟩ => by
    have e2 : atI (p0 :: p1 :: p2 :: p3 :: ps) 3 = some p3 := atI_nat (j := 3) rfl
    rw [e2] at e; cases e; exact h, fun h => ⟨_, atI_nat (j := 3) rfl, h⟩⟩
theorem ixP_4 {p0 p1 p2 p3 p4 : PV} : ixP (p0 :: p1 :: p2 :: p3 :: p4 :: ps) 4 Q = Q p4 := propext ⟨fun ⟨p, e, h⟩ => by
    have e2 : atI (p0 :: p1 :: p2 :: p3 :: p4 :: ps) 4 = some p4 := atI_nat (j := 4) rfl
    rw [e2] at e; cases e; exact h, fun h => ⟨_, atI_nat (j := 4) rfl, h⟩⟩
theorem ixP_5 {p0 p1 p2 p3 p4 p5 : PV} : ixP (p0 :: p1 :: p2 :: p3 :: p4 :: p5 :: ps) 5 Q = Q p5 := propext ⟨fun ⟨p, e, h⟩ => by
    have e2 : atI (p0 :: p1 :: p2 :: p3 :: p4 :: p5 :: ps) 5 = some p5 := atI_nat (j := 5) rfl
    rw [e2] at e; cases e; exact h, fun h => ⟨_, atI_nat (j := 5) rfl, h⟩⟩
theorem wSl_e {wl wh : WPt} : wSl a wl wh ρ Q R = a ρ (fun x => wl ρ (fun lo => wh ρ (fun hi => oSl x lo hi Q) R) R) R := rfl
theorem wPn_e {K : Option Int → Prop} : wPn ρ K R = K none := rfl
theorem wPs_e {K : Option Int → Prop} : wPs a ρ K R = a ρ (fun x => kI x (fun i => K (some i))) R := by
  have e : (fun x : PV => match x with
    | .int i => K (some i)
    | _ => False) = fun x => kI x (fun i => K (some i)) := by
    funext x
    cases x <;> rfl
  show a ρ (fun x : PV => match x with
    | .int i => K (some i)
    | _ => False) R = _
  rw [e]
theorem oSl_t {lo hi : Option Int} : oSl (.tup xs) lo hi Q = Q (.tup (cutP xs lo hi)) := rfl
theorem oSl_s {lo hi : Option Int} : oSl (.scr xs) lo hi Q = Q (.new (.lst (cutP xs lo hi))) := rfl
theorem oSl_l {lo hi : Option Int} : oSl (.lst xs) lo hi Q = Q (.new (.lst (cutP xs lo hi))) := propext ⟨fun ⟨_, e1, h⟩ => by cases e1; exact h, fun h => ⟨_, rfl, h⟩⟩
theorem oSl_n {lo hi : Option Int} : oSl (.new (.lst xs)) lo hi Q = Q (.new (.lst (cutP xs lo hi))) := propext ⟨fun ⟨_, e1, h⟩ => by cases e1; exact h, fun h => ⟨_, rfl, h⟩⟩
theorem oSl_o {lo hi : Option Int} : oSl (.own (.lst xs)) lo hi Q = Q (.new (.lst (cutP xs lo hi))) := propext ⟨fun ⟨_, e1, h⟩ => by cases e1; exact h, fun h => ⟨_, rfl, h⟩⟩
theorem cAbs_i  : cAbs [.int i] Q R = Q (.int i.natAbs) := rfl
theorem cInt_i  : cInt [.int i] Q R = Q (.int i) := rfl
theorem cMin2_ii  : cMin2 [.int i, .int j] Q R = Q (.int (if j < i then j else i)) := rfl
theorem cMax2_ii  : cMax2 [.int i, .int j] Q R = Q (.int (if j > i then j else i)) := rfl
theorem wSeq_Set {t : WSt} {td : TD} {n m l : Nat} {e : EX} {b1 b2 b3 : Bool} {ad : Addr} : wSeq (wSet n a) r D ρ = (wSet n a) ⟨fun ρ' => r D ρ', D.rt, D.bk, D.ct, D.ex⟩ ρ := rfl
theorem wSeq_If {t : WSt} {td : TD} {n m l : Nat} {e : EX} {b1 b2 b3 : Bool} {ad : Addr} : wSeq (wIf ta s t) r D ρ = (wIf ta s t) ⟨fun ρ' => r D ρ', D.rt, D.bk, D.ct, D.ex⟩ ρ := rfl
theorem wSeq_Exp {t : WSt} {td : TD} {n m l : Nat} {e : EX} {b1 b2 b3 : Bool} {ad : Addr} : wSeq (wExpr a) r D ρ = (wExpr a) ⟨fun ρ' => r D ρ', D.rt, D.bk, D.ct, D.ex⟩ ρ := rfl
theorem wSeq_Asg {t : WSt} {td : TD} {n m l : Nat} {e : EX} {b1 b2 b3 : Bool} {ad : Addr} : wSeq (wAsg a td) r D ρ = (wAsg a td) ⟨fun ρ' => r D ρ', D.rt, D.bk, D.ct, D.ex⟩ ρ := rfl
theorem wSeq_Seq {t : WSt} {td : TD} {n m l : Nat} {e : EX} {b1 b2 b3 : Bool} {ad : Addr} : wSeq (wSeq s t) r D ρ = (wSeq s t) ⟨fun ρ' => r D ρ', D.rt, D.bk, D.ct, D.ex⟩ ρ := rfl
theorem wSeq_Own {t : WSt} {td : TD} {n m l : Nat} {e : EX} {b1 b2 b3 : Bool} {ad : Addr} : wSeq (wOwnC n a) r D ρ = (wOwnC n a) ⟨fun ρ' => r D ρ', D.rt, D.bk, D.ct, D.ex⟩ ρ := rfl
theorem wSeq_StS {t : WSt} {td : TD} {n m l : Nat} {e : EX} {b1 b2 b3 : Bool} {ad : Addr} : wSeq (wStSC n a) r D ρ = (wStSC n a) ⟨fun ρ' => r D ρ', D.rt, D.bk, D.ct, D.ex⟩ ρ := rfl
theorem wSeq_App {t : WSt} {td : TD} {n m l : Nat} {e : EX} {b1 b2 b3 : Bool} {ad : Addr} : wSeq (wApp n a) r D ρ = (wApp n a) ⟨fun ρ' => r D ρ', D.rt, D.bk, D.ct, D.ex⟩ ρ := rfl
theorem wSeq_Next {t : WSt} {td : TD} {n m l : Nat} {e : EX} {b1 b2 b3 : Bool} {ad : Addr} : wSeq wNext r D ρ = wNext ⟨fun ρ' => r D ρ', D.rt, D.bk, D.ct, D.ex⟩ ρ := rfl
theorem wSeq_Ret {t : WSt} {td : TD} {n m l : Nat} {e : EX} {b1 b2 b3 : Bool} {ad : Addr} : wSeq (wRet a) r D ρ = (wRet a) ⟨fun ρ' => r D ρ', D.rt, D.bk, D.ct, D.ex⟩ ρ := rfl
theorem wSeq_Rais {t : WSt} {td : TD} {n m l : Nat} {e : EX} {b1 b2 b3 : Bool} {ad : Addr} : wSeq (wRaise e) r D ρ = (wRaise e) ⟨fun ρ' => r D ρ', D.rt, D.bk, D.ct, D.ex⟩ ρ := rfl
theorem wSeq_Par {t : WSt} {td : TD} {n m l : Nat} {e : EX} {b1 b2 b3 : Bool} {ad : Addr} : wSeq (wPar n m b1 b2 a b) r D ρ = (wPar n m b1 b2 a b) ⟨fun ρ' => r D ρ', D.rt, D.bk, D.ct, D.ex⟩ ρ := rfl
theorem wSeq_Par3 {t : WSt} {td : TD} {n m l : Nat} {e : EX} {b1 b2 b3 : Bool} {ad : Addr} : wSeq (wPar3 n m l b1 b2 b3 a b c) r D ρ = (wPar3 n m l b1 b2 b3 a b c) ⟨fun ρ' => r D ρ', D.rt, D.bk, D.ct, D.ex⟩ ρ := rfl
theorem wSeq_St0 {t : WSt} {td : TD} {n m l : Nat} {e : EX} {b1 b2 b3 : Bool} {ad : Addr} : wSeq (wSt0S n a) r D ρ = (wSt0S n a) ⟨fun ρ' => r D ρ', D.rt, D.bk, D.ct, D.ex⟩ ρ := rfl
theorem wSeq_St1 {t : WSt} {td : TD} {n m l : Nat} {e : EX} {b1 b2 b3 : Bool} {ad : Addr} : wSeq (wSt1S n a) r D ρ = (wSt1S n a) ⟨fun ρ' => r D ρ', D.rt, D.bk, D.ct, D.ex⟩ ρ := rfl
theorem wSeq_Brk {t : WSt} {td : TD} {n m l : Nat} {e : EX} {b1 b2 b3 : Bool} {ad : Addr} : wSeq wBreak r D ρ = wBreak ⟨fun ρ' => r D ρ', D.rt, D.bk, D.ct, D.ex⟩ ρ := rfl
theorem wSeq_Cnt {t : WSt} {td : TD} {n m l : Nat} {e : EX} {b1 b2 b3 : Bool} {ad : Addr} : wSeq wCont r D ρ = wCont ⟨fun ρ' => r D ρ', D.rt, D.bk, D.ct, D.ex⟩ ρ := rfl
theorem wSeq_RetN {t : WSt} {td : TD} {n m l : Nat} {e : EX} {b1 b2 b3 : Bool} {ad : Addr} : wSeq wRetN r D ρ = wRetN ⟨fun ρ' => r D ρ', D.rt, D.bk, D.ct, D.ex⟩ ρ := rfl
theorem wSeq_RaiF {t : WSt} {td : TD} {n m l : Nat} {e : EX} {b1 b2 b3 : Bool} {ad : Addr} : wSeq (wRaiseF ad x a) r D ρ = (wRaiseF ad x a) ⟨fun ρ' => r D ρ', D.rt, D.bk, D.ct, D.ex⟩ ρ := rfl
theorem wSet_e  : wSet n a D ρ = a ρ (fun p => stP p fun q => sE ρ n (some q) D.nx) fun x => D.ex x ρ := rfl
theorem wOwn_e  : wOwnC n a D ρ = (n < ρ.length ∧ a ρ (fun p => nwP p fun q => sE ρ n (some (.own q)) D.nx) fun x => D.ex x ρ) := rfl
theorem sE_0 {v : Option PV} {K : PEnv → Prop} : sE (ob :: ρ) 0 v K = K (v :: ρ) := rfl
theorem sE_s {v : Option PV} {K : PEnv → Prop} : sE (ob :: ρ) (n + 1) v K = sE ρ n v (fun ρ' => K (ob :: ρ')) := rfl
theorem wIf_e  : wIf ta s r D ρ = ta ρ (fun k => if k = true then s D ρ else r D ρ) fun x => D.ex x ρ := rfl
theorem wRet_e  : wRet a D ρ = a ρ (fun p => rtP p D.rt) fun x => D.ex x ρ := rfl
theorem wRetN_e  : wRetN D ρ = D.rt .non := rfl
theorem wNext_e  : wNext D ρ = D.nx ρ := rfl
theorem wBreak_e  : wBreak D ρ = D.bk ρ := rfl
theorem wCont_e  : wCont D ρ = D.ct ρ := rfl
theorem wExpr_e  : wExpr a D ρ = a ρ (fun _ => D.nx ρ) fun x => D.ex x ρ := rfl
theorem wRaise_e {e : EX} : wRaise e D ρ = D.ex e ρ := rfl
theorem wRaiseF_e {ad : Addr} : wRaiseF ad x a D ρ = a ρ (fun p => stP p fun q => D.ex ⟨ad, some (x, q)⟩ ρ) fun x => D.ex x ρ := rfl
theorem wAsg_e {td : TD} : wAsg a td D ρ = a ρ (fun p => stP p fun q => tgP td q ρ D.nx) fun x => D.ex x ρ := rfl
theorem tgP_name {K : PEnv → Prop} : tgP (.name n) p ρ K = sE ρ n (some p) K := rfl
theorem tgP_tup {K : PEnv → Prop} {l : TDs} : tgP (.tup n l) (.tup xs) ρ K = (xs.length = n ∧ tgPs l xs ρ K) := propext ⟨fun ⟨_, e, h⟩ => by cases e; exact h, fun h => ⟨_, rfl, h⟩⟩
theorem tgPs_nil {K : PEnv → Prop} : tgPs .nil [] ρ K = K ρ := propext ⟨fun h => h.2, fun h => ⟨rfl, h⟩⟩
theorem tgPs_cons {K : PEnv → Prop} {td : TD} {l : TDs} : tgPs (.cons td l) (p :: ps) ρ K = tgP td p ρ fun ρ' => tgPs l ps ρ' K := propext ⟨fun ⟨_, _, e, h⟩ => by cases e; exact h, fun h => ⟨_, _, rfl, h⟩⟩
theorem wTry_e {h : PEnds → EX → PEnv → Prop} : wTry s h D ρ = s ⟨D.nx, D.rt, D.bk, D.ct, fun x ρ' => h D x ρ'⟩ ρ := rfl
theorem wPar_ff {n m : Nat} : wPar n m false false a b D ρ = a ρ (fun p => b ρ (fun q => stP p fun p' => stP q fun q' => (noStAt ρ n ∧ n < ρ.length ∧ m < ρ.length) ∧ sE ρ n (some p') fun ρ' => sE ρ' m (some q') D.nx) fun x => D.ex x ρ) fun x => D.ex x ρ := by
  unfold wPar
  congr 1
  funext p
  congr 1
  funext q
  refine propext ⟨fun ⟨p', q', e1, e2, _, h1, h2, h3, h⟩ => ?_, fun ⟨h1, h2, ⟨h3, h4, h5⟩, h⟩ => ⟨p.thaw, q.thaw, if_pos h1, if_pos h2, fun z => (nomatch z), h3, h4, h5, h⟩⟩
  unfold L3.stored at e1 e2
  dsimp only at e1 e2
  split at e1
  · split at e2
    · cases e1; cases e2
      exact ⟨by assumption, by assumption, ⟨h1, h2, h3⟩, h⟩
    · cases e2
  · cases e1
theorem noSt_0n  : noStAt (none :: ρ) 0 = True := eq_true fun z => by cases z
theorem noSt_0non  : noStAt (some .non :: ρ) 0 = True := eq_true fun z => by cases z
theorem noSt_0bl {bb : Bool} : noStAt (some (.bl bb) :: ρ) 0 = True := eq_true fun z => by cases z
theorem noSt_0int  : noStAt (some (.int i) :: ρ) 0 = True := eq_true fun z => by cases z
theorem noSt_0str  : noStAt (some (.str x) :: ρ) 0 = True := eq_true fun z => by cases z
theorem noSt_0tup  : noStAt (some (.tup ps) :: ρ) 0 = True := eq_true fun z => by cases z
theorem noSt_0lst  : noStAt (some (.lst ps) :: ρ) 0 = True := eq_true fun z => by cases z
theorem noSt_0ol  : noStAt (some (.own p) :: ρ) 0 = True := eq_true fun z => by cases z
theorem noSt_s  : noStAt (ob :: ρ) (n + 1) = noStAt ρ n := rfl
theorem sSt0  : wSt0 0 (some .st :: ρ) Q R = ∀ x : Int, 0 ≤ x → Q (.int x) := propext ⟨fun h => h.2, fun h => ⟨rfl, h⟩⟩
theorem sSt1  : wSt1 0 (some .st :: ρ) Q R = ∀ x : Int, 0 ≤ x ∧ x < 2147483647 → Q (.int x) := propext ⟨fun h x hx => h.2 x hx.1 hx.2, fun h => ⟨rfl, fun x h1 h2 => h x ⟨h1, h2⟩⟩⟩
theorem sSt0S  : wSt0S 0 a D (some .st :: ρ) = a (some .st :: ρ) (fun p => kI p fun x => 0 ≤ x ∧ D.nx (some .st :: ρ)) fun x => D.ex x (some .st :: ρ) := by
  have e : (fun p => ∃ x : Int, p = PV.int x ∧ 0 ≤ x ∧ D.nx (some .st :: ρ)) = fun p => kI p fun x => 0 ≤ x ∧ D.nx (some .st :: ρ) := by
    funext p
    cases p <;> simp [kI]
  rw [← e]
  exact propext ⟨fun h => h.2, fun h => ⟨rfl, h⟩⟩
theorem sSt1S  : wSt1S 0 a D (some .st :: ρ) = a (some .st :: ρ) (fun p => kI p fun x => 0 ≤ x ∧ x < 2147483647 ∧ D.nx (some .st :: ρ)) fun x => D.ex x (some .st :: ρ) := by
  have e : (fun p => ∃ x : Int, p = PV.int x ∧ 0 ≤ x ∧ x < 2147483647 ∧ D.nx (some .st :: ρ)) = fun p => kI p fun x => 0 ≤ x ∧ x < 2147483647 ∧ D.nx (some .st :: ρ) := by
    funext p
    cases p <;> simp [kI]
  rw [← e]
  exact propext ⟨fun h => h.2, fun h => ⟨rfl, h⟩⟩
theorem wOwnS_e  : wStSC n a D ρ = (n < ρ.length ∧ a ρ (fun p => ns2 p fun _ => sE ρ n (some .st) D.nx) fun x => D.ex x ρ) := rfl
theorem fnE_nx  : (fnEnds Q R).nx = fun _ => Q .non := rfl
theorem fnE_rt  : (fnEnds Q R).rt = Q := rfl
theorem fnE_ex  : (fnEnds Q R).ex = fun x _ => R x := rfl
end
end L3

/-! Values without the heap: loops. -/
namespace L3
open PySem PySem.Spec L2
section
variable {p q : PV} {Q : PQ} {R : XQ} {ρ : PEnv} {a b : WEx} {s r : WSt} {D : PEnds} {i j : Int} {ps qs xs : List PV} {K : List PV → Prop} {wi : WIt} {td : TD} {c t : WTs} {n : Nat} {ob : Option PV} {e : WEx} {vs : List Nat}
def loopP (xs : List PV) (td : TD) (b : WSt) (D : PEnds) (ρ : PEnv) : Prop := ∃ I : Nat → PEnv → Prop, I 0 ρ ∧ (∀ i ρ p, I i ρ → xs[i]? = some p → tgW td p ρ fun ρ' => b ⟨I (i + 1), D.rt, D.nx, I (i + 1), D.ex⟩ ρ') ∧ ∀ ρ, I xs.length ρ → D.nx ρ
def loopS (xs : List PV) (td : TD) (b r : WSt) (D : PEnds) (ρ : PEnv) : Prop := loopP xs td b ⟨fun ρ' => r D ρ', D.rt, D.bk, D.ct, D.ex⟩ ρ
def whileS (c : WTs) (b r : WSt) (D : PEnds) (ρ : PEnv) : Prop := wWhile c b ⟨fun ρ' => r D ρ', D.rt, D.bk, D.ct, D.ex⟩ ρ
theorem wFor_e : wFor wi td s D ρ = wi ρ (fun xs => loopP xs td s D ρ) fun x => D.ex x ρ := rfl
theorem wSeq_For : wSeq (wFor wi td s) r D ρ = wi ρ (fun xs => loopS xs td s r D ρ) fun x => D.ex x ρ := rfl
theorem wSeq_While : wSeq (wWhile c s) r D ρ = whileS c s r D ρ := rfl
def wkP (own : Bool) (p : PV) (K : List PV → Prop) : Prop := ∃ xs, p.walks own = some xs ∧ K xs
theorem wiSeq_e {own : Bool} : wiSeq own a ρ K R = a ρ (fun p => wkP own p K) R := rfl
theorem wk_t {own : Bool} : wkP own (.tup xs) K = K xs := propext ⟨fun ⟨_, e, h⟩ => by cases e; exact h, fun h => ⟨_, rfl, h⟩⟩
theorem wk_s {own : Bool} : wkP own (.scr xs) K = K xs := propext ⟨fun ⟨_, e, h⟩ => by cases e; exact h, fun h => ⟨_, rfl, h⟩⟩
theorem wk_l {own : Bool} : wkP own (.lst xs) K = K xs := propext ⟨fun ⟨_, e, h⟩ => by cases e; exact h, fun h => ⟨_, rfl, h⟩⟩
theorem wk_n {own : Bool} : wkP own (.new (.lst xs)) K = K xs := propext ⟨fun ⟨_, e, h⟩ => by cases e; exact h, fun h => ⟨_, rfl, h⟩⟩
theorem wk_o : wkP true (.own (.lst xs)) K = K xs := propext ⟨fun ⟨_, e, h⟩ => by cases e; exact h, fun h => ⟨_, rfl, h⟩⟩
theorem wiRg1_e : wiRg1 a ρ K R = a ρ (fun x => kI x fun j => rgOk j ∧ K (rgP 0 j.toNat)) R := by
  have e : (fun x : PV => match x with
    | .int j => rgOk j ∧ K (rgP 0 j.toNat)
    | _ => False) = fun x => kI x fun j => rgOk j ∧ K (rgP 0 j.toNat) := by
    funext x
    cases x <;> rfl
  show a ρ (fun x : PV => match x with
    | .int j => rgOk j ∧ K (rgP 0 j.toNat)
    | _ => False) R = _
  rw [e]
theorem wiRg2_e : wiRg2 a b ρ K R = a ρ (fun x => b ρ (fun y => kI x fun i => kI y fun j => (rgOk i ∧ rgOk j) ∧ K (rgP i (j - i).toNat)) R) R := by
  have e : ∀ x : PV, (fun y : PV => match x, y with
    | .int i, .int j => rgOk i ∧ rgOk j ∧ K (rgP i (j - i).toNat)
    | _, _ => False) = fun y => kI x fun i => kI y fun j => (rgOk i ∧ rgOk j) ∧ K (rgP i (j - i).toNat) := by
    intro x
    funext y
    cases x <;> first | rfl | (cases y <;> first | rfl | exact propext (and_assoc).symm)
  show a ρ (fun x : PV => b ρ (fun y : PV => match x, y with
    | .int i, .int j => rgOk i ∧ rgOk j ∧ K (rgP i (j - i).toNat)
    | _, _ => False) R) R = _
  exact congrArg (fun z => a ρ z R) (funext fun x => congrArg (fun z => b ρ z R) (e x))
theorem wLRg2_e : wLRg2 a b ρ Q R = a ρ (fun x => b ρ (fun y => kI x fun i => kI y fun j => rgLOk i j ∧ Q (.new (.lst (rgP i (j - i).toNat)))) R) R := by
  have e : ∀ x : PV, (fun y : PV => match x, y with
    | .int i, .int j => rgLOk i j ∧ Q (.new (.lst (rgP i (j - i).toNat)))
    | _, _ => False) = fun y => kI x fun i => kI y fun j => rgLOk i j ∧ Q (.new (.lst (rgP i (j - i).toNat))) := by
    intro x
    funext y
    cases x <;> first | rfl | (cases y <;> rfl)
  show a ρ (fun x : PV => b ρ (fun y : PV => match x, y with
    | .int i, .int j => rgLOk i j ∧ Q (.new (.lst (rgP i (j - i).toNat)))
    | _, _ => False) R) R = _
  exact congrArg (fun z => a ρ z R) (funext fun x => congrArg (fun z => b ρ z R) (e x))
theorem wLRg1_e : wLRg1 a ρ Q R = a ρ (fun x => kI x fun j => rgLOk 0 j ∧ Q (.new (.lst (rgP 0 j.toNat)))) R := by
  have e : (fun x : PV => match x with
    | .int j => rgLOk 0 j ∧ Q (.new (.lst (rgP 0 j.toNat)))
    | _ => False) = fun x => kI x fun j => rgLOk 0 j ∧ Q (.new (.lst (rgP 0 j.toNat))) := by
    funext x
    cases x <;> rfl
  show a ρ (fun x : PV => match x with
    | .int j => rgLOk 0 j ∧ Q (.new (.lst (rgP 0 j.toNat)))
    | _ => False) R = _
  rw [e]
/-! loops by a state -/
theorem loopP_st {σ : Type} (env : σ → PEnv) (J : Nat → σ → Prop) (s0 : σ) (h0 : ρ = env s0 ∧ J 0 s0)
    (hs : ∀ i s p, J i s → xs[i]? = some p → tgP td p (env s) fun ρ' => r ⟨fun ρ'' => ∃ s', ρ'' = env s' ∧ J (i + 1) s', D.rt, D.nx, fun ρ'' => ∃ s', ρ'' = env s' ∧ J (i + 1) s', D.ex⟩ ρ')
    (he : ∀ s, J xs.length s → D.nx (env s)) : loopP xs td r D ρ :=
  ⟨fun i ρ => ∃ s, ρ = env s ∧ J i s, ⟨s0, h0⟩, fun i ρ p ⟨s, e, h⟩ hp => by subst e; exact hs i s p h hp, fun ρ ⟨s, e, h⟩ => by subst e; exact he s h⟩
theorem loopS_st {σ : Type} (env : σ → PEnv) (J : Nat → σ → Prop) (s0 : σ) (h0 : ρ = env s0 ∧ J 0 s0)
    (hs : ∀ i st p, J i st → xs[i]? = some p → tgP td p (env st) fun ρ' => s ⟨fun ρ'' => ∃ s', ρ'' = env s' ∧ J (i + 1) s', D.rt, fun ρ' => r D ρ', fun ρ'' => ∃ s', ρ'' = env s' ∧ J (i + 1) s', D.ex⟩ ρ')
    (he : ∀ st, J xs.length st → r D (env st)) : loopS xs td s r D ρ := loopP_st (D := ⟨fun ρ' => r D ρ', D.rt, D.bk, D.ct, D.ex⟩) env J s0 h0 hs he
theorem while_st {σ : Type} (env : σ → PEnv) (J : σ → Prop) (m : σ → Nat) (s0 : σ) (h0 : ρ = env s0 ∧ J s0)
    (hs : ∀ st, J st → c (env st) (fun k => if k = true then s ⟨fun ρ'' => ∃ s', ρ'' = env s' ∧ J s' ∧ m s' < m st, D.rt, D.nx, fun ρ'' => ∃ s', ρ'' = env s' ∧ J s' ∧ m s' < m st, D.ex⟩ (env st) else D.nx (env st)) fun x => D.ex x (env st)) : wWhile c s D ρ := by
  refine ⟨fun n ρ => ∃ st, ρ = env st ∧ J st ∧ m st = n, ⟨m s0, s0, h0.1, h0.2, rfl⟩, fun n ρ ⟨st, e, h, en⟩ => ?_⟩
  subst e en
  have hb : (fun ρ'' => ∃ s', ρ'' = env s' ∧ J s' ∧ m s' < m st) = fun ρ' => ∃ m', m' < m st ∧ ∃ st', ρ' = env st' ∧ J st' ∧ m st' = m' := by
    funext ρ'
    exact propext ⟨fun ⟨s', h1, h2, h3⟩ => ⟨_, h3, s', h1, h2, rfl⟩, fun ⟨_, h3, s', h1, h2, h4⟩ => ⟨s', h1, h2, by rw [h4]; exact h3⟩⟩
  have := hs st h
  rw [hb] at this
  exact this
theorem whileS_st {σ : Type} (env : σ → PEnv) (J : σ → Prop) (m : σ → Nat) (s0 : σ) (h0 : ρ = env s0 ∧ J s0)
    (hs : ∀ st, J st → c (env st) (fun k => if k = true then s ⟨fun ρ'' => ∃ s', ρ'' = env s' ∧ J s' ∧ m s' < m st, D.rt, fun ρ' => r D ρ', fun ρ'' => ∃ s', ρ'' = env s' ∧ J s' ∧ m s' < m st, D.ex⟩ (env st) else r D (env st)) fun x => D.ex x (env st)) : whileS c s r D ρ :=
  while_st (D := ⟨fun ρ' => r D ρ', D.rt, D.bk, D.ct, D.ex⟩) env J m s0 h0 hs
/-! comprehensions -/
def compP (xs : List PV) (td : TD) (t : WTs) (e : WEx) (ρ : PEnv) (Q : PQ) : Prop := ∃ I : Nat → List PV → Prop, I 0 [] ∧
  (∀ i acc p, I i acc → xs[i]? = some p → tgW td p ρ fun ρ2 => t ρ2 (fun b => if b = true then e ρ2 (fun q => q.gives = true ∧ acc.length < sizeLine ∧ I (i + 1) (acc ++ [q.thaw])) (fun _ => False) else I (i + 1) acc) fun _ => False) ∧
  ∀ acc, I xs.length acc → Q (.new (.lst acc))
def wipeC (ρ : PEnv) (vs : List Nat) (K : PEnv → Prop) : Prop := K (wipeP ρ vs)
theorem wComp_e : wComp wi td t e vs ρ Q R = wi ρ (fun xs => noMut ρ vs = true ∧ wipeC ρ vs fun ρ' => compP xs td t e ρ' Q) R := rfl
def nm1 (ρ : PEnv) (i : Nat) : Bool := match ρ[i]? with
  | some (some p) => !isMut p
  | _ => true
theorem noMut_c : noMut ρ (n :: vs) = (nm1 ρ n && noMut ρ vs) := rfl
theorem noMut_n : noMut ρ [] = true := rfl
theorem nm1_0 : nm1 (none :: ρ) 0 = true := rfl
theorem nm1_int : nm1 (some (.int i) :: ρ) 0 = true := rfl
theorem nm1_tup : nm1 (some (.tup xs) :: ρ) 0 = true := rfl
theorem nm1_s : nm1 (ob :: ρ) (n + 1) = nm1 ρ n := rfl
theorem nm1_v (h : p.plain = true) : nm1 (some p :: ρ) 0 = true := by
  have e : isMut p = false := by cases p <;> first | rfl | cases h
  show (!isMut p) = true
  rw [e] <;> rfl
theorem comp_acc (ys : Nat → List PV) (h0 : ys 0 = []) (h : ∀ i p, xs[i]? = some p → tgP td p ρ fun ρ2 => t ρ2 (fun b => if b = true then e ρ2 (fun q => stP q fun q' => (ys i).length < sizeLine ∧ ys (i + 1) = ys i ++ [q']) (fun _ => False) else ys (i + 1) = ys i) fun _ => False)
    (hq : Q (.new (.lst (ys xs.length)))) : compP xs td t e ρ Q := by
  refine ⟨fun i acc => ys i = acc, h0, fun i acc p ha hp => ?_, fun acc ha => by subst ha; exact hq⟩
  subst ha
  exact h i p hp
theorem comp_yes (ys : List PV) (hl : ys.length = xs.length) (hz : xs.length ≤ sizeLine)
    (h : ∀ (i : Nat) (p y : PV), xs[i]? = some p → ys[i]? = some y → tgP td p ρ fun ρ2 => e ρ2 (fun q => stP q fun q' => q' = y) fun _ => False) (hq : Q (.new (.lst ys))) : compP xs td wYes e ρ Q := by
  refine comp_acc (fun i => ys.take i) rfl (fun i p hp => ?_) ?_
  · have hx : i < xs.length := (List.getElem?_eq_some_iff.mp hp).1
    have hy : ys[i]? = some ys[i] := List.getElem?_eq_getElem (by omega)
    have z := h i p _ hp hy
    have e1 : (fun q : PV => stP q fun q' => q' = ys[i]) = fun q => stP q fun q' => (ys.take i).length < sizeLine ∧ ys.take (i + 1) = ys.take i ++ [q'] := by
      funext q
      have e2 : ys.take (i + 1) = ys.take i ++ [ys[i]] := by rw [List.take_succ, hy]; rfl
      have e3 : (ys.take i).length < sizeLine := by rw [List.length_take]; omega
      unfold stP
      refine propext ⟨fun ⟨h1, h2⟩ => ⟨h1, e3, by rw [e2, h2]⟩, fun ⟨h1, _, h2⟩ => ⟨h1, ?_⟩⟩
      rw [e2] at h2
      have := List.append_cancel_left h2
      simpa using this.symm
    rw [e1] at z
    exact z
  · have : ys.take xs.length = ys := List.take_of_length_le (by omega)
    simp only [this]
    exact hq
theorem wYes_e {K : Bool → Prop} : wYes ρ K R = K true := rfl
theorem wipeC_n {K : PEnv → Prop} : wipeC ρ [] K = K ρ := rfl
theorem wipeC_1 {K : PEnv → Prop} : wipeC ρ [n] K = sE ρ n none K := rfl
theorem wipeC_2 {K : PEnv → Prop} {m : Nat} : wipeC ρ [n, m] K = sE ρ m none fun ρ' => sE ρ' n none K := rfl
theorem wipeC_3 {K : PEnv → Prop} {m l : Nat} : wipeC ρ [n, m, l] K = sE ρ l none fun ρ' => sE ρ' m none fun ρ' => sE ρ' n none K := rfl
theorem cAll_b {bs : List Bool} {Q : PQ} : cAll [.new (.lst (bs.map .bl))] Q R = Q (.bl (bs.all id)) := by
  refine propext ⟨fun ⟨_, cs, e1, e2, h⟩ => ?_, fun h => ⟨_, bs, rfl, rfl, h⟩⟩
  cases e1
  have e3 : bs.map PV.bl = cs.map PV.bl := Option.some.inj (show some (bs.map PV.bl) = some (cs.map PV.bl) from e2)
  have e4 : bs = cs := List.map_inj_right (fun _ _ z => by cases z; rfl) |>.mp e3
  rw [e4]; exact h
theorem cAny_b {bs : List Bool} {Q : PQ} : cAny [.new (.lst (bs.map .bl))] Q R = Q (.bl (bs.any id)) := by
  refine propext ⟨fun ⟨_, cs, e1, e2, h⟩ => ?_, fun h => ⟨_, bs, rfl, rfl, h⟩⟩
  cases e1
  have e3 : bs.map PV.bl = cs.map PV.bl := Option.some.inj (show some (bs.map PV.bl) = some (cs.map PV.bl) from e2)
  have e4 : bs = cs := List.map_inj_right (fun _ _ z => by cases z; rfl) |>.mp e3
  rw [e4]; exact h
theorem oEq_d {x y : PV} {d e : PyData} (h1 : x.toD = some d) (h2 : y.toD = some e) (h3 : SeqAt.shaped d = true) (h4 : SeqAt.shaped e = true) : oEq x y Q R = Q (.bl (PyData.eqv d e)) := by
  refine propext ⟨fun ⟨d', e', e1, e2, _, _, h⟩ => ?_, fun h => ⟨d, e, h1, h2, h3, h4, h⟩⟩
  rw [h1] at e1; rw [h2] at e2; cases e1; cases e2; exact h
theorem oNe_d {x y : PV} {d e : PyData} (h1 : x.toD = some d) (h2 : y.toD = some e) (h3 : SeqAt.shaped d = true) (h4 : SeqAt.shaped e = true) : oNe x y Q R = Q (.bl (!PyData.eqv d e)) := by
  refine propext ⟨fun ⟨d', e', e1, e2, _, _, h⟩ => ?_, fun h => ⟨d, e, h1, h2, h3, h4, h⟩⟩
  rw [h1] at e1; rw [h2] at e2; cases e1; cases e2; exact h
theorem eqv_int {i j : Int} : PyData.eqv (.int i) (.int j) = decide (i = j) := by
  by_cases z : i = j
  · subst z; simp [PyData.eqv]
  · simp [PyData.eqv, z]
theorem oNe_int : oNe (.int i) (.int j) Q R = Q (.bl (!decide (i = j))) := by rw [oNe_d rfl rfl rfl rfl, eqv_int]
theorem fdiv_nn {i m : Int} (h : 0 ≤ i) (h2 : 0 < m) : 0 ≤ i.fdiv m := Int.fdiv_nonneg h (by omega)
theorem ns2_n {x y : Int} {K : Unit → Prop} : ns2 (.new (.lst [.int x, .int y])) K = ((0 ≤ x ∧ 0 ≤ y ∧ y < 2147483647) ∧ K ()) := by
  refine propext ⟨fun ⟨x', y', e, h1, h2, h3, h⟩ => ?_, fun ⟨⟨h1, h2, h3⟩, h⟩ => ⟨x, y, rfl, h1, h2, h3, h⟩⟩
  cases e
  exact ⟨⟨h1, h2, h3⟩, h⟩
end
theorem divOk_7 : divOk 7 := ⟨by decide, by decide⟩
theorem seed_grow {a z : Int} {i : Nat} (h1 : 0 ≤ a) (h2 : a.natAbs < 2 ^ (1048577 + 22 * i)) (hz : z.natAbs < 2 ^ 1048576) : (a * 1000003 + (z.natAbs : Int)).natAbs < 2 ^ (1048577 + 22 * (i + 1)) := by
  have e : (a * 1000003 + (z.natAbs : Int)).natAbs = a.natAbs * 1000003 + z.natAbs := by omega
  rw [e]
  have p1 : 2 ^ (1048577 + 22 * (i + 1)) = 2 ^ (1048577 + 22 * i) * 4194304 := by
    rw [show 1048577 + 22 * (i + 1) = (1048577 + 22 * i) + 22 from by omega, Nat.pow_add]
  have p2 : 2 ^ 1048576 ≤ 2 ^ (1048577 + 22 * i) := Nat.pow_le_pow_right (by decide) (by omega)
  rw [p1]
  generalize 2 ^ (1048577 + 22 * i) = B at *
  generalize 2 ^ 1048576 = C at *
  omega
theorem wCallV_v {S : Addr → Option (Nat × FS)} {f : Addr} {n : Nat} {fs : FS} {as : WAs} {ρ : PEnv} {Q : PQ} {R : XQ} (h : S f = some (n, fs)) : wCallV 0 S as (some (.adr f) :: ρ) Q R = as (some (.adr f) :: ρ) (fun ps => oFn n fs ps Q R) R :=
  propext ⟨fun ⟨f', n', fs', e1, e2, h3⟩ => by
    cases e1
    rw [h] at e2
    cases e2
    exact h3, fun h3 => ⟨f, n, fs, rfl, h, h3⟩⟩
theorem oEq_mal {Q : PQ} {R : XQ} : oEq (.tup [.str "malformed", .non]) (.tup [.str "malformed", .non]) Q R = Q (.bl true) := by
  have h : SeqAt.shaped (PyData.tuple [PyData.str "malformed", PyData.none]) = true := by first | rfl | decide | decide +kernel | simp [SeqAt.shaped]
  rw [oEq_d rfl rfl h h]
  have e : PyData.eqv (PyData.tuple [PyData.str "malformed", PyData.none]) (PyData.tuple [PyData.str "malformed", PyData.none]) = true := by first | rfl | decide | decide +kernel | simp [PyData.eqv]
  rw [e]
theorem cutP_take {xs : List PV} {i : Int} (h : 0 ≤ i) : cutP xs none (some i) = xs.take i.toNat := by
  unfold cutP
  have e1 : HT.sIx xs.length 0 none = 0 := rfl
  have e2 : HT.sIx xs.length xs.length (some i) = min i.toNat xs.length := by
    show (if i < 0 then (i + (xs.length : Int)).toNat else min i.toNat xs.length) = _
    rw [if_neg (by omega)]
  rw [e1, e2, List.drop_zero, Nat.sub_zero]
  by_cases h : i.toNat ≤ xs.length
  · rw [Nat.min_eq_left h]
  · rw [Nat.min_eq_right (by omega), List.take_length, List.take_of_length_le (by omega)]
theorem cutP_drop {xs : List PV} {i : Int} (h : 0 ≤ i) : cutP xs (some i) none = xs.drop i.toNat := by
  unfold cutP
  have e1 : HT.sIx xs.length xs.length none = xs.length := rfl
  have e2 : HT.sIx xs.length 0 (some i) = min i.toNat xs.length := by
    show (if i < 0 then (i + (xs.length : Int)).toNat else min i.toNat xs.length) = _
    rw [if_neg (by omega)]
  rw [e1, e2]
  by_cases h : i.toNat ≤ xs.length
  · rw [Nat.min_eq_left h]
    exact List.take_of_length_le (by rw [List.length_drop]; exact Nat.le_refl _)
  · rw [Nat.min_eq_right (by omega), List.drop_length, List.drop_of_length_le (by omega), List.take_nil]
theorem rgP_at {lo : Int} {n i : Nat} (h : i < n) : (rgP lo n)[i]? = some (.int (lo + (i : Int))) := by
  unfold rgP
  rw [List.getElem?_map, List.getElem?_range h]
  rfl
theorem cnt_int {p : PV} {lo hi : Int} (h : cnt p lo hi = true) : ∃ i : Int, p = .int i ∧ lo ≤ i ∧ i ≤ hi := by
  cases p with
  | int i =>
    simp only [cnt, Bool.and_eq_true, decide_eq_true_eq] at h
    exact ⟨i, rfl, h.1, h.2⟩
  | _ => cases h
theorem cnt_of {i lo hi : Int} (h : lo ≤ i) (h2 : i ≤ hi) : cnt (.int i) lo hi = true := by simp [cnt, h, h2]
theorem rgOk_of {j : Int} (h : -4000000000000000000 ≤ j) (h2 : j ≤ 4000000000000000000) : rgOk j := by
  unfold rgOk
  constructor <;> omega
theorem ediv_of {a b c : Int} (hb : 0 < b) (h1 : b * c ≤ a) (h2 : a < b * c + b) : a / b = c := by
  have e : a = (a - b * c) + b * c := by omega
  rw [e, Int.add_mul_ediv_left _ _ (by omega), Int.ediv_eq_zero_of_lt (by omega) (by omega)]
  omega
theorem emod_of {a b c r : Int} (h : a = r + b * c) (h0 : 0 ≤ r) (h1 : r < b) : a % b = r := by
  rw [h, Int.add_mul_emod_self_left]
  exact Int.emod_eq_of_lt h0 h1
theorem ixP_at {xs : List PV} {i : Nat} {p : PV} {Q : PQ} (h : xs[i]? = some p) (hq : Q p) : ixP xs (i : Int) Q := ⟨p, atI_nat h, hq⟩
end L3

namespace K41
open PySem PySem.Spec L2 L3
/-! ### addresses -/
structure Ad where
  is_integer : Addr
  is_count : Addr
  check_count : Addr
  left_over : Addr
  left_by_turns : Addr
  z_law_state : Addr
  z_law_take : Addr
  z_law_is_whole : Addr
  z_law_same : Addr
  z_law_told : Addr
  z_law_all_malformed : Addr
  z_law_great : Addr
  z_law_left : Addr
  z_law_turns : Addr
  law : Addr
  cM : Addr
  cR : Addr
structure Ad.Ok (A : Ad) : Prop where
  fs : [A.left_over, A.left_by_turns].Nodup
  cs : [A.cM, A.cR].Nodup
def mal (A : Ad) : EX := ⟨A.cM, none⟩
def owns (A : Ad) : List Addr := []
def ansM (A : Ad) (c : Addr) : Option Bool := if c = A.cM then some true else if c = A.cR then some false else none
def ansR (A : Ad) (c : Addr) : Option Bool := if c = A.cM then some false else if c = A.cR then some true else none
def fs_is_integer (A : Ad) : FS := fsIsInt (owns A)
def fs_is_count (A : Ad) : FS := fsIsCount (owns A)
def fs_check_count (A : Ad) : FS := fsCheckCount (owns A) (mal A)
def fs_z_law_is_whole (A : Ad) : FS := fsIsInt (owns A)
def fs_z_law_state (A : Ad) : FS := fsState
def fs_z_law_take (A : Ad) : FS := fsTake
def fs_law (A : Ad) : FS := fsLaw 63
inductive Out where
  | told (p : PV)
  | mal
  | refused (r : PV)
def outV : Out → PV
  | .told p => .tup [.str "told", p]
  | .mal => .tup [.str "malformed", .non]
  | .refused r => .tup [.str "refused", r]
/-! the ring -/
def jos (q : Int) : Nat → Int
  | 0 => 0
  | n + 1 => (jos q n + q) % ((n : Int) + 1)
def J (n q : Int) : Int := jos q n.toNat + 1
def fs_left_over (A : Ad) : FS := fun ps Q R => match ps with
  | [p, q] => (okV (owns A) p = true ∧ okV (owns A) q = true) ∧ (if cnt p 1 1000000000000000000000000000000 = true then (if cnt q 2 40 = true then kI p fun n => kI q fun k => Q (.int (J n k)) else R (mal A)) else R (mal A))
  | _ => False
def fs_left_by_turns (A : Ad) : FS := fun ps Q R => match ps with
  | [p, q] => (okV (owns A) p = true ∧ okV (owns A) q = true) ∧ (if cnt p 1 2000 = true then (if cnt q 2 40 = true then kI p fun n => kI q fun k => Q (.int (J n k)) else R (mal A)) else R (mal A))
  | _ => False
def fs_z_law_great (A : Ad) : FS := fun ps Q R => match ps with
  | [.st] => ∀ v : Int, 0 ≤ v ∧ v < 10000000000000000000000000 → Q (.int v)
  | _ => False
def fs_z_law_left (A : Ad) : FS := fun ps Q R => match ps with
  | [.int n, .int q] => (1 ≤ n ∧ n ≤ 2000 ∧ 2 ≤ q ∧ q ≤ 40) ∧ Q (.int (J n q))
  | _ => False
def fs_z_law_turns (A : Ad) : FS := fun ps Q R => match ps with
  | [.int n, .int q] => (1 ≤ n ∧ n ≤ 2000 ∧ 2 ≤ q ∧ q ≤ 40) ∧ Q (.int (J n q))
  | _ => False
def fsN_z_law_same (A : Ad) : Nat → FS
  | 0 => fun _ _ _ => False
  | _ + 1 => fun ps Q _ => match ps with
    | [.int a, .int b] => Q (.bl (decide (a = b)))
    | _ => False
def fs_z_law_same (A : Ad) : FS := fsN_z_law_same A 3
def acts (A : Ad) : Addr → Option (Nat × FS) := fun f => if f = A.left_over then some (2, fs_left_over A) else if f = A.left_by_turns then some (2, fs_left_by_turns A) else none
/-! a def held by a name, told by what it gives -/
def outK (A : Ad) (Q : PQ) (R : XQ) : Out → Prop
  | .told p => Q p
  | .mal => R (mal A)
  | .refused r => R ⟨A.cR, some ("reason", r)⟩
def Tells (A : Ad) (f : Addr) (args : List PV) (o : Out) : Prop := ∃ n fs, acts A f = some (n, fs) ∧ args.length = n ∧ (1 ≤ n ∧ n ≤ 5) ∧ (∀ p ∈ args, p.plain = true) ∧ (∀ p, o = .told p → p.plain = true) ∧ ∀ Q R, outK A Q R o → fs args Q R
def fs_z_law_told (A : Ad) : FS := fun ps Q _ => match ps with
  | [.adr f, .tup args] => ∃ o, Tells A f args o ∧ Q (outV o)
  | _ => False
def fs_z_law_all_malformed (A : Ad) : FS := fun ps Q _ => match ps with
  | [.lst xs] => (xs.length ≤ 1000 ∧ ∀ x ∈ xs, ∃ f args, x = .tup [.adr f, .tup args] ∧ Tells A f args .mal) ∧ Q (.bl true)
  | _ => False
def w_is_integer (A : Ad) : WSt :=
  (wRet (wAndV (wIsi (ansTy (owns A) "int") (wVar 0)) (wNotV (wIsi (ansTy (owns A) "bool") (wVar 0)))))

def w_is_count (A : Ad) : WSt :=
  (wRet (wAndV (wCall (oFn 1 (fs_is_integer A)) (wCons (wVar 0) wNil)) (wChain oLe oLe (wVar 1) (wVar 0) (wVar 2))))

def w_check_count (A : Ad) : WSt :=
  (wIf (wNot (wT (wCall (oFn 3 (fs_is_count A)) (wCons (wVar 0) (wCons (wVar 1) (wCons (wVar 2) wNil)))))) (wRaise (mal A)) wNext)

def w_left_over (A : Ad) : WSt :=
  (wSeq (wExpr (wCall (oFn 3 (fs_check_count A)) (wCons (wVar 0) (wCons (wC (.int 1)) (wCons (wC (.int 1000000000000000000000000000000)) wNil)))))
  (wSeq (wExpr (wCall (oFn 3 (fs_check_count A)) (wCons (wVar 1) (wCons (wC (.int 2)) (wCons (wC (.int 40)) wNil)))))
  (wSeq (wSet 2 (wC (.int 1)))
  (wSeq (wWhile (wT (wOp oLe (wVar 2) (wOp oMulI (wOp oSub (wVar 1) (wC (.int 1))) (wVar 0)))) (wSet 2 (wNeg (wOp oDiv (wOp oMulI (wNeg (wVar 1)) (wVar 2)) (wOp oSub (wVar 1) (wC (.int 1)))))))
  (wRet (wOp oSub (wOp oAdd (wOp oMulI (wVar 1) (wVar 0)) (wC (.int 1))) (wVar 2)))))))

def w_left_by_turns (A : Ad) : WSt :=
  (wSeq (wExpr (wCall (oFn 3 (fs_check_count A)) (wCons (wVar 0) (wCons (wC (.int 1)) (wCons (wC (.int 2000)) wNil)))))
  (wSeq (wExpr (wCall (oFn 3 (fs_check_count A)) (wCons (wVar 1) (wCons (wC (.int 2)) (wCons (wC (.int 40)) wNil)))))
  (wSeq (wSet 2 (wC (.int 0)))
  (wSeq (wFor (wiRg2 (wC (.int 2)) (wOp oAdd (wVar 0) (wC (.int 1)))) (.name 3) (wSet 2 (wOp oMod (wOp oAdd (wVar 2) (wVar 1)) (wVar 3))))
  (wRet (wOp oAdd (wVar 2) (wC (.int 1))))))))

def w_z_law_state (A : Ad) : WSt :=
  (wSeq (wSet 1 (wC (.int 0)))
  (wSeq (wSet 2 (wC (.int 1)))
  (wSeq (wFor (wiSeq false (wSl (wVar 0) wPn (wPs (wC (.int 63))))) (.name 3) (wSeq (wSet 1 (wOp oAdd (wOp oMulI (wVar 1) (wC (.int 1000003))) (wCall cAbs (wCons (wVar 3) wNil))))
  (wSet 2 (wOp oMod (wCall cInt (wCons (wOp oAdd (wOp oMulI (wVar 2) (wC (.int 48271))) (wVar 3)) wNil)) (wC (.int 2147483647))))))
  (wRet (wLst (wCons (wVar 1) (wCons (wIfE (wT (wOp oNe (wVar 2) (wC (.int 1973665155)))) (wVar 2) (wC (.int 7))) wNil)))))))

def w_z_law_take (A : Ad) : WSt :=
  (wSeq (wIf (wT (wOp oGt (wSt0 0) (wC (.int 0)))) (wSeq (wSet 2 (wOp oMod (wCall cInt (wCons (wSt0 0) wNil)) (wVar 1)))
  (wSeq (wSt0S 0 (wOp oDiv (wSt0 0) (wVar 1)))
  (wRet (wVar 2)))) wNext)
  (wSeq (wSt1S 0 (wOp oMod (wCall cInt (wCons (wOp oAdd (wOp oMulI (wSt1 0) (wC (.int 48271))) (wC (.int 11))) wNil)) (wC (.int 2147483647))))
  (wRet (wOp oMod (wCall cInt (wCons (wOp oDiv (wSt1 0) (wC (.int 7))) wNil)) (wVar 1)))))

def w_z_law_is_whole (A : Ad) : WSt :=
  (wRet (wAndV (wIsi (ansTy (owns A) "int") (wVar 0)) (wNotV (wIsi (ansTy (owns A) "bool") (wVar 0)))))

def w_z_law_same (A : Ad) (rec : FS) : WSt :=
  (wSeq (wIf (wT (wIsi (ansTy (owns A) "bool") (wVar 1))) (wRet (wAndV (wIsi (ansTy (owns A) "bool") (wVar 0)) (wOp oEq (wVar 0) (wVar 1)))) wNext)
  (wSeq (wIf (wT (wIsi (ansTy (owns A) "tuple") (wVar 1))) (wRet (wAndV (wIsi (ansTy (owns A) "tuple") (wVar 0)) (wAndV (wOp oEq (wCall cLen (wCons (wVar 0) wNil)) (wCall cLen (wCons (wVar 1) wNil))) (wCall cAll (wCons (wComp (wiRg1 (wCall cLen (wCons (wVar 1) wNil))) (.name 2) wYes (wCall (oFn 2 rec) (wCons (wOp oIx (wVar 0) (wVar 2)) (wCons (wOp oIx (wVar 1) (wVar 2)) wNil))) [2]) wNil))))) wNext)
  (wSeq (wIf (wT (wIsi (ansTy (owns A) "list") (wVar 1))) (wRet (wAndV (wIsi (ansTy (owns A) "tuple") (wVar 0)) (wCall (oFn 2 rec) (wCons (wVar 0) (wCons (wCall cTuple (wCons (wVar 1) wNil)) wNil))))) wNext)
  (wSeq (wIf (wT (wIsi (ansTy (owns A) "str") (wVar 1))) (wRet (wAndV (wIsi (ansTy (owns A) "str") (wVar 0)) (wOp oEq (wVar 0) (wVar 1)))) wNext)
  (wSeq (wIf (wT (wIsN (wVar 1))) (wRet (wIsN (wVar 0))) wNext)
  (wRet (wAndV (wCall (oFn 1 (fs_z_law_is_whole A)) (wCons (wVar 0) wNil)) (wOp oEq (wVar 0) (wVar 1)))))))))

def w_z_law_told (A : Ad) : WSt :=
  (wTry (wSeq (wIf (wT (wOp oGt (wCall cLen (wCons (wVar 1) wNil)) (wC (.int 3)))) (wRet (wTup (wCons (wC (.str "told")) (wCons (wIfE (wT (wOp oEq (wCall cLen (wCons (wVar 1) wNil)) (wC (.int 4)))) (wCallV 0 (acts A) (wCons (wOp oIx (wVar 1) (wC (.int 0))) (wCons (wOp oIx (wVar 1) (wC (.int 1))) (wCons (wOp oIx (wVar 1) (wC (.int 2))) (wCons (wOp oIx (wVar 1) (wC (.int 3))) wNil))))) (wCallV 0 (acts A) (wCons (wOp oIx (wVar 1) (wC (.int 0))) (wCons (wOp oIx (wVar 1) (wC (.int 1))) (wCons (wOp oIx (wVar 1) (wC (.int 2))) (wCons (wOp oIx (wVar 1) (wC (.int 3))) (wCons (wOp oIx (wVar 1) (wC (.int 4))) wNil))))))) wNil)))) wNext)
  (wRet (wTup (wCons (wC (.str "told")) (wCons (wIfE (wT (wOp oEq (wCall cLen (wCons (wVar 1) wNil)) (wC (.int 1)))) (wCallV 0 (acts A) (wCons (wOp oIx (wVar 1) (wC (.int 0))) wNil)) (wIfE (wT (wOp oEq (wCall cLen (wCons (wVar 1) wNil)) (wC (.int 2)))) (wCallV 0 (acts A) (wCons (wOp oIx (wVar 1) (wC (.int 0))) (wCons (wOp oIx (wVar 1) (wC (.int 1))) wNil))) (wCallV 0 (acts A) (wCons (wOp oIx (wVar 1) (wC (.int 0))) (wCons (wOp oIx (wVar 1) (wC (.int 1))) (wCons (wOp oIx (wVar 1) (wC (.int 2))) wNil)))))) wNil))))) (whOnly (ansM A) (wRet (wTup (wCons (wC (.str "malformed")) (wCons (wC .non) wNil)))) (whRet 2 (ansR A) A.cR "reason" "refused" (fun D x ρ => D.ex x ρ))))

def w_z_law_all_malformed (A : Ad) : WSt :=
  (wRet (wCall cAll (wCons (wComp (wiSeq true (wVar 0)) (.tup 2 (.cons (.name 1) (.cons (.name 2) .nil))) wYes (wOp oEq (wCall (oFn 2 (fs_z_law_told A)) (wCons (wVar 1) (wCons (wVar 2) wNil))) (wTup (wCons (wC (.str "malformed")) (wCons (wC .non) wNil)))) [1, 2]) wNil)))

def w_z_law_great (A : Ad) : WSt :=
  (wSeq (wSet 1 (wCall (oFn 2 (fs_z_law_take A)) (wCons (wVar 0) (wCons (wC (.int 5)) wNil))))
  (wSeq (wSet 2 (wCall (oFn 2 (fs_z_law_take A)) (wCons (wVar 0) (wCons (wC (.int 60)) wNil))))
  (wSeq (wIf (wT (wOp oGt (wVar 1) (wC (.int 2)))) (wSet 2 (wOp oAdd (wOp oMulI (wVar 2) (wC (.int 1000))) (wCall (oFn 2 (fs_z_law_take A)) (wCons (wVar 0) (wCons (wC (.int 1000)) wNil))))) wNext)
  (wSeq (wIf (wT (wOp oEq (wVar 1) (wC (.int 4)))) (wSet 2 (wOp oAdd (wOp oMulI (wVar 2) (wC (.int 100000000000000000000))) (wOp oMulI (wCall (oFn 2 (fs_z_law_take A)) (wCons (wVar 0) (wCons (wC (.int 1000003)) wNil))) (wC (.int 1000000007))))) wNext)
  (wRet (wVar 2))))))

def w_z_law_left (A : Ad) : WSt :=
  (wSeq (wPar 2 3 false false (wLRg2 (wC (.int 1)) (wOp oAdd (wVar 0) (wC (.int 1)))) (wC (.int 0)))
  (wSeq (wWhile (wT (wOp oGt (wCall cLen (wCons (wVar 2) wNil)) (wC (.int 1)))) (wSeq (wSet 3 (wOp oMod (wCall cInt (wCons (wOp oSub (wOp oAdd (wVar 3) (wVar 1)) (wC (.int 1))) wNil)) (wCall cLen (wCons (wVar 2) wNil))))
  (wSet 2 (wOp oAdd (wSl (wVar 2) wPn (wPs (wVar 3))) (wSl (wVar 2) (wPs (wOp oAdd (wVar 3) (wC (.int 1)))) wPn)))))
  (wRet (wOp oIx (wVar 2) (wC (.int 0))))))

def w_z_law_turns (A : Ad) : WSt :=
  (wSeq (wSet 2 (wC (.int 0)))
  (wSeq (wFor (wiRg2 (wC (.int 2)) (wOp oAdd (wVar 0) (wC (.int 1)))) (.name 3) (wSet 2 (wOp oMod (wCall cInt (wCons (wOp oAdd (wVar 2) (wVar 1)) wNil)) (wVar 3))))
  (wRet (wOp oAdd (wVar 2) (wC (.int 1))))))

def w_law (A : Ad) : WSt :=
  (wSeq (wStSC 1 (wCall (oFn 1 (fs_z_law_state A)) (wCons (wVar 0) wNil)))
  (wSeq (wPar 2 3 false false (wOp oAdd (wC (.int 1)) (wCall (oFn 2 (fs_z_law_take A)) (wCons (wVar 1) (wCons (wC (.int 150)) wNil)))) (wOp oAdd (wC (.int 2)) (wCall (oFn 2 (fs_z_law_take A)) (wCons (wVar 1) (wCons (wC (.int 39)) wNil)))))
  (wSeq (wSet 4 (wCall (oFn 2 (fs_z_law_left A)) (wCons (wVar 2) (wCons (wVar 3) wNil))))
  (wSeq (wIf (wOr (wNot (wT (wCall (oFn 2 (fs_z_law_same A)) (wCons (wCall (oFn 2 (fs_left_over A)) (wCons (wVar 2) (wCons (wVar 3) wNil))) (wCons (wVar 4) wNil))))) (wNot (wT (wCall (oFn 2 (fs_z_law_same A)) (wCons (wCall (oFn 2 (fs_left_by_turns A)) (wCons (wVar 2) (wCons (wVar 3) wNil))) (wCons (wVar 4) wNil)))))) (wRet (wC (.bl false))) wNext)
  (wSeq (wSet 5 (wOp oAdd (wC (.int 1)) (wCall (oFn 2 (fs_z_law_take A)) (wCons (wVar 1) (wCons (wC (.int 2000)) wNil)))))
  (wSeq (wIf (wOr (wNot (wT (wCall (oFn 2 (fs_z_law_same A)) (wCons (wCall (oFn 2 (fs_left_over A)) (wCons (wVar 5) (wCons (wVar 3) wNil))) (wCons (wCall (oFn 2 (fs_left_by_turns A)) (wCons (wVar 5) (wCons (wVar 3) wNil))) wNil))))) (wNot (wT (wCall (oFn 2 (fs_z_law_same A)) (wCons (wCall (oFn 2 (fs_left_over A)) (wCons (wVar 5) (wCons (wVar 3) wNil))) (wCons (wCall (oFn 2 (fs_z_law_turns A)) (wCons (wVar 5) (wCons (wVar 3) wNil))) wNil)))))) (wRet (wC (.bl false))) wNext)
  (wSeq (wSet 6 (wOp oAdd (wC (.int 1)) (wCall (oFn 1 (fs_z_law_great A)) (wCons (wVar 1) wNil))))
  (wSeq (wSet 7 (wC (.int 1)))
  (wSeq (wWhile (wT (wOp oLe (wOp oMulI (wC (.int 2)) (wVar 7)) (wVar 6))) (wSet 7 (wOp oMulI (wC (.int 2)) (wVar 7))))
  (wSeq (wIf (wNot (wT (wCall (oFn 2 (fs_z_law_same A)) (wCons (wCall (oFn 2 (fs_left_over A)) (wCons (wVar 6) (wCons (wC (.int 2)) wNil))) (wCons (wOp oAdd (wOp oMulI (wC (.int 2)) (wOp oSub (wVar 6) (wVar 7))) (wC (.int 1))) wNil))))) (wRet (wC (.bl false))) wNext)
  (wSeq (wPar 8 9 false false (wCall (oFn 2 (fs_left_over A)) (wCons (wVar 6) (wCons (wVar 3) wNil))) (wCall (oFn 2 (fs_left_over A)) (wCons (wOp oAdd (wVar 6) (wC (.int 1))) (wCons (wVar 3) wNil))))
  (wSeq (wIf (wOr (wNot (wT (wCall (oFn 1 (fs_z_law_is_whole A)) (wCons (wVar 8) wNil)))) (wOr (wNot (wT (wChain oLe oLe (wC (.int 1)) (wVar 8) (wVar 6)))) (wNot (wT (wCall (oFn 2 (fs_z_law_same A)) (wCons (wVar 9) (wCons (wOp oAdd (wOp oMod (wCall cInt (wCons (wOp oAdd (wOp oSub (wVar 8) (wC (.int 1))) (wVar 3)) wNil)) (wOp oAdd (wVar 6) (wC (.int 1)))) (wC (.int 1))) wNil))))))) (wRet (wC (.bl false))) wNext)
  (wSeq (wSet 10 (wLst (wCons (wTup (wCons (wC (.adr A.left_by_turns)) (wCons (wTup (wCons (wC (.int 2001)) (wCons (wC (.int 2)) wNil))) wNil))) (wCons (wTup (wCons (wC (.adr A.left_over)) (wCons (wTup (wCons (wC (.int 1000000000000000000000000000001)) (wCons (wC (.int 2)) wNil))) wNil))) wNil))))
  (wSeq (wFor (wiSeq false (wLst (wCons (wC (.int 0)) (wCons (wNeg (wC (.int 1))) (wCons (wC .non) (wCons (wC (.bl true)) (wCons (wC (.str "1")) wNil))))))) (.name 11) (wSet 10 (wOp oAdd (wVar 10) (wLst (wCons (wTup (wCons (wC (.adr A.left_over)) (wCons (wTup (wCons (wVar 11) (wCons (wC (.int 2)) wNil))) wNil))) (wCons (wTup (wCons (wC (.adr A.left_by_turns)) (wCons (wTup (wCons (wVar 11) (wCons (wC (.int 2)) wNil))) wNil))) wNil))))))
  (wSeq (wFor (wiSeq false (wLst (wCons (wC (.int 1)) (wCons (wC (.int 41)) (wCons (wC .non) (wCons (wC (.bl true)) wNil)))))) (.name 11) (wSet 10 (wOp oAdd (wVar 10) (wLst (wCons (wTup (wCons (wC (.adr A.left_over)) (wCons (wTup (wCons (wC (.int 5)) (wCons (wVar 11) wNil))) wNil))) (wCons (wTup (wCons (wC (.adr A.left_by_turns)) (wCons (wTup (wCons (wC (.int 5)) (wCons (wVar 11) wNil))) wNil))) wNil))))))
  (wRet (wCall (oFn 1 (fs_z_law_all_malformed A)) (wCons (wVar 10) wNil))))))))))))))))))

theorem p_is_integer (A : Ad) (hA : A.Ok) : ∀ qs Q R, qs.length = 1 → fs_is_integer A qs Q R → w_is_integer A (fnEnds Q R) (startP 1 qs)
  | [p], Q, R, _, ⟨ho, h⟩ => by
    simp only [w_is_integer, ho, ↓wVar_0, ↓wVar_s, ↓wC_e, ↓wOp_e, ↓oAdd_ii, ↓oAdd_ss, ↓oAdd_tt, ↓oAdd_ll_, ↓oAdd_ln_, ↓oAdd_lo_, ↓oAdd_nl_, ↓oAdd_nn_, ↓oAdd_no_, ↓oAdd_ol_, ↓oAdd_on_, ↓oAdd_oo_, ↓oSub_ii, ↓oMul_ii, ↓oMul_li, ↓oMul_ni, ↓oMul_oi, ↓oDiv_ii, ↓oMod_ii, ↓oLt_ii, ↓oLe_ii, ↓oGt_ii, ↓oGe_ii, ↓wNeg_e, ↓wT_e, ↓kB_b, ↓kI_i, ↓wAnd_e, ↓wOr_e, ↓wNot_e, ↓wAndV_e, ↓wOrV_e, ↓wNotV_e, ↓wIfE_e, ↓wChain_e, ↓wIsN_e, ↓wNotN_e, ↓wCall_e, ↓wCons_e, ↓wNil_e, ↓wTup_e, ↓wLst_e, ↓tP_0, ↓tP_1, ↓tP_2, ↓tP_3, ↓tP_4, ↓tP_5, ↓tP_6, ↓tP_7, ↓tP_8, ↓lP_0, ↓lP_1, ↓lP_2, ↓lP_3, ↓lP_4, ↓lP_5, ↓lP_6, ↓lP_7, ↓lP_8, ↓stP_non, ↓rtP_non, ↓aP1_non, ↓stP_bl, ↓rtP_bl, ↓aP1_bl, ↓isN_bl, ↓stP_int, ↓rtP_int, ↓aP1_int, ↓isN_int, ↓stP_str, ↓rtP_str, ↓aP1_str, ↓isN_str, ↓stP_adr, ↓rtP_adr, ↓aP1_adr, ↓isN_adr, ↓stP_tup, ↓rtP_tup, ↓aP1_tup, ↓isN_tup, ↓stP_lst, ↓rtP_lst, ↓aP1_lst, ↓isN_lst, ↓stP_scr, ↓rtP_scr, ↓aP1_scr, ↓isN_scr, ↓stP_obj, ↓rtP_obj, ↓aP1_obj, ↓isN_obj, ↓stP_dk, ↓rtP_dk, ↓aP1_dk, ↓isN_dk, ↓isN_non, ↓stP_nlst, ↓rtP_nlst, ↓rtP_olst, ↓aP1_nlst, ↓stP_ndk, ↓rtP_ndk, ↓rtP_odk, ↓aP1_ndk, ↓aP1_st, ↓nwP_n, ↓oFn_1, ↓oFn_2, ↓oFn_3, ↓oFn_4, ↓oFn_5, ↓oFn_6, ↓sto_non, ↓nst_non, ↓sto_bl, ↓nst_bl, ↓sto_int, ↓nst_int, ↓sto_str, ↓nst_str, ↓sto_adr, ↓nst_adr, ↓sto_tup, ↓nst_tup, ↓sto_lst, ↓nst_lst, ↓sto_scr, ↓nst_scr, ↓sto_obj, ↓nst_obj, ↓sto_dk, ↓nst_dk, ↓sto_st, ↓sto_nil, ↓nst_nil, ↓wIsi_e, ↓oIsi_int_non, ↓oIsi_int_bl, ↓oIsi_int_int, ↓oIsi_int_str, ↓oIsi_int_tup, ↓oIsi_int_lst, ↓oIsi_bool_non, ↓oIsi_bool_bl, ↓oIsi_bool_int, ↓oIsi_bool_str, ↓oIsi_bool_tup, ↓oIsi_bool_lst, ↓oIsi_str_non, ↓oIsi_str_bl, ↓oIsi_str_int, ↓oIsi_str_str, ↓oIsi_str_tup, ↓oIsi_str_lst, ↓oIsi_tuple_non, ↓oIsi_tuple_bl, ↓oIsi_tuple_int, ↓oIsi_tuple_str, ↓oIsi_tuple_tup, ↓oIsi_tuple_lst, ↓oIsi_list_non, ↓oIsi_list_bl, ↓oIsi_list_int, ↓oIsi_list_str, ↓oIsi_list_tup, ↓oIsi_list_lst, ↓oIx_t, ↓cLen_t, ↓cTup_t, ↓cLst_t, ↓oIx_s, ↓cLen_s, ↓cTup_s, ↓cLst_s, ↓oIx_l, ↓cLen_l, ↓cTup_l, ↓cLst_l, ↓oIx_n, ↓cLen_n, ↓cTup_n, ↓cLst_n, ↓oIx_o, ↓cLen_o, ↓cTup_o, ↓cLst_o, ↓ixP_0, ↓ixP_1, ↓ixP_2, ↓ixP_3, ↓ixP_4, ↓ixP_5, ↓wSl_e, ↓wPn_e, ↓wPs_e, ↓oSl_t, ↓oSl_s, ↓oSl_l, ↓oSl_n, ↓oSl_o, ↓cAbs_i, ↓cInt_i, ↓cMin2_ii, ↓cMax2_ii, ↓wSeq_Set, ↓wSeq_If, ↓wSeq_Exp, ↓wSeq_Asg, ↓wSeq_Seq, ↓wSeq_Own, ↓wSeq_StS, ↓wSeq_App, ↓wSeq_Next, ↓wSeq_Ret, ↓wSeq_Rais, ↓wSeq_Par, ↓wSeq_Par3, ↓wSeq_St0, ↓wSeq_St1, ↓wSeq_Brk, ↓wSeq_Cnt, ↓wSeq_RetN, ↓wSeq_RaiF, ↓wSet_e, ↓wOwn_e, ↓sE_0, ↓sE_s, ↓wIf_e, ↓wRet_e, ↓wRetN_e, ↓wNext_e, ↓wBreak_e, ↓wCont_e, ↓wExpr_e, ↓wRaise_e, ↓wRaiseF_e, ↓wAsg_e, ↓tgP_name, ↓tgP_tup, ↓tgPs_nil, ↓tgPs_cons, ↓wTry_e, ↓wPar_ff, ↓noSt_0n, ↓noSt_0non, ↓noSt_0bl, ↓noSt_0int, ↓noSt_0str, ↓noSt_0tup, ↓noSt_0lst, ↓noSt_0ol, ↓noSt_s, ↓sSt0, ↓sSt1, ↓sSt0S, ↓sSt1S, ↓wOwnS_e, ↓fnE_nx, ↓fnE_rt, ↓fnE_ex, ↓wFor_e, ↓wSeq_For, ↓wSeq_While, ↓wiSeq_e, ↓wk_t, ↓wk_s, ↓wk_l, ↓wk_n, ↓wk_o, ↓wiRg1_e, ↓wiRg2_e, ↓wLRg2_e, ↓wLRg1_e, ↓wComp_e, ↓noMut_c, ↓noMut_n, ↓nm1_0, ↓nm1_int, ↓nm1_tup, ↓nm1_s, ↓nm1_v, ↓wYes_e, ↓wipeC_n, ↓wipeC_1, ↓wipeC_2, ↓wipeC_3, ↓cAll_b, ↓cAny_b, ↓oNe_int, ↓ns2_n, ↓oEq_mal, wIsi_e, okV_non, okV_bl, okV_int, okV_stR, okV_tup, okV_lst, ↓stP_v, ↓rtP_v, ↓aP1_v, ↓stOnce_v, ↓noSt_v, ↓oEq_int, ↓oIsi_int, ↓oIsi_bool, ↓oIsi_str, ↓oIsi_tuple, ↓oIsi_list, startP, ↓reduceIte, List.map_cons, List.map_nil, List.length_cons, List.length_nil, List.replicate, List.cons_append, List.nil_append, List.append_nil, true_and, and_true, implies_true, Bool.false_eq_true, Bool.not_true, Bool.not_false, Nat.reduceAdd, Nat.reduceSub, Nat.zero_add, Nat.reduceLT, Nat.reduceLeDiff, Int.reduceLT, Int.reduceLE, decide_eq_true_eq, Bool.true_and, Bool.and_true, Bool.false_and, Bool.and_false]
    cases p <;> first | (cases ho; done) | (simpa [isI, isTy] using h)
theorem p_z_law_is_whole (A : Ad) (hA : A.Ok) : ∀ qs Q R, qs.length = 1 → fs_z_law_is_whole A qs Q R → w_z_law_is_whole A (fnEnds Q R) (startP 1 qs)
  | [p], Q, R, _, ⟨ho, h⟩ => by
    simp only [w_z_law_is_whole, ho, ↓wVar_0, ↓wVar_s, ↓wC_e, ↓wOp_e, ↓oAdd_ii, ↓oAdd_ss, ↓oAdd_tt, ↓oAdd_ll_, ↓oAdd_ln_, ↓oAdd_lo_, ↓oAdd_nl_, ↓oAdd_nn_, ↓oAdd_no_, ↓oAdd_ol_, ↓oAdd_on_, ↓oAdd_oo_, ↓oSub_ii, ↓oMul_ii, ↓oMul_li, ↓oMul_ni, ↓oMul_oi, ↓oDiv_ii, ↓oMod_ii, ↓oLt_ii, ↓oLe_ii, ↓oGt_ii, ↓oGe_ii, ↓wNeg_e, ↓wT_e, ↓kB_b, ↓kI_i, ↓wAnd_e, ↓wOr_e, ↓wNot_e, ↓wAndV_e, ↓wOrV_e, ↓wNotV_e, ↓wIfE_e, ↓wChain_e, ↓wIsN_e, ↓wNotN_e, ↓wCall_e, ↓wCons_e, ↓wNil_e, ↓wTup_e, ↓wLst_e, ↓tP_0, ↓tP_1, ↓tP_2, ↓tP_3, ↓tP_4, ↓tP_5, ↓tP_6, ↓tP_7, ↓tP_8, ↓lP_0, ↓lP_1, ↓lP_2, ↓lP_3, ↓lP_4, ↓lP_5, ↓lP_6, ↓lP_7, ↓lP_8, ↓stP_non, ↓rtP_non, ↓aP1_non, ↓stP_bl, ↓rtP_bl, ↓aP1_bl, ↓isN_bl, ↓stP_int, ↓rtP_int, ↓aP1_int, ↓isN_int, ↓stP_str, ↓rtP_str, ↓aP1_str, ↓isN_str, ↓stP_adr, ↓rtP_adr, ↓aP1_adr, ↓isN_adr, ↓stP_tup, ↓rtP_tup, ↓aP1_tup, ↓isN_tup, ↓stP_lst, ↓rtP_lst, ↓aP1_lst, ↓isN_lst, ↓stP_scr, ↓rtP_scr, ↓aP1_scr, ↓isN_scr, ↓stP_obj, ↓rtP_obj, ↓aP1_obj, ↓isN_obj, ↓stP_dk, ↓rtP_dk, ↓aP1_dk, ↓isN_dk, ↓isN_non, ↓stP_nlst, ↓rtP_nlst, ↓rtP_olst, ↓aP1_nlst, ↓stP_ndk, ↓rtP_ndk, ↓rtP_odk, ↓aP1_ndk, ↓aP1_st, ↓nwP_n, ↓oFn_1, ↓oFn_2, ↓oFn_3, ↓oFn_4, ↓oFn_5, ↓oFn_6, ↓sto_non, ↓nst_non, ↓sto_bl, ↓nst_bl, ↓sto_int, ↓nst_int, ↓sto_str, ↓nst_str, ↓sto_adr, ↓nst_adr, ↓sto_tup, ↓nst_tup, ↓sto_lst, ↓nst_lst, ↓sto_scr, ↓nst_scr, ↓sto_obj, ↓nst_obj, ↓sto_dk, ↓nst_dk, ↓sto_st, ↓sto_nil, ↓nst_nil, ↓wIsi_e, ↓oIsi_int_non, ↓oIsi_int_bl, ↓oIsi_int_int, ↓oIsi_int_str, ↓oIsi_int_tup, ↓oIsi_int_lst, ↓oIsi_bool_non, ↓oIsi_bool_bl, ↓oIsi_bool_int, ↓oIsi_bool_str, ↓oIsi_bool_tup, ↓oIsi_bool_lst, ↓oIsi_str_non, ↓oIsi_str_bl, ↓oIsi_str_int, ↓oIsi_str_str, ↓oIsi_str_tup, ↓oIsi_str_lst, ↓oIsi_tuple_non, ↓oIsi_tuple_bl, ↓oIsi_tuple_int, ↓oIsi_tuple_str, ↓oIsi_tuple_tup, ↓oIsi_tuple_lst, ↓oIsi_list_non, ↓oIsi_list_bl, ↓oIsi_list_int, ↓oIsi_list_str, ↓oIsi_list_tup, ↓oIsi_list_lst, ↓oIx_t, ↓cLen_t, ↓cTup_t, ↓cLst_t, ↓oIx_s, ↓cLen_s, ↓cTup_s, ↓cLst_s, ↓oIx_l, ↓cLen_l, ↓cTup_l, ↓cLst_l, ↓oIx_n, ↓cLen_n, ↓cTup_n, ↓cLst_n, ↓oIx_o, ↓cLen_o, ↓cTup_o, ↓cLst_o, ↓ixP_0, ↓ixP_1, ↓ixP_2, ↓ixP_3, ↓ixP_4, ↓ixP_5, ↓wSl_e, ↓wPn_e, ↓wPs_e, ↓oSl_t, ↓oSl_s, ↓oSl_l, ↓oSl_n, ↓oSl_o, ↓cAbs_i, ↓cInt_i, ↓cMin2_ii, ↓cMax2_ii, ↓wSeq_Set, ↓wSeq_If, ↓wSeq_Exp, ↓wSeq_Asg, ↓wSeq_Seq, ↓wSeq_Own, ↓wSeq_StS, ↓wSeq_App, ↓wSeq_Next, ↓wSeq_Ret, ↓wSeq_Rais, ↓wSeq_Par, ↓wSeq_Par3, ↓wSeq_St0, ↓wSeq_St1, ↓wSeq_Brk, ↓wSeq_Cnt, ↓wSeq_RetN, ↓wSeq_RaiF, ↓wSet_e, ↓wOwn_e, ↓sE_0, ↓sE_s, ↓wIf_e, ↓wRet_e, ↓wRetN_e, ↓wNext_e, ↓wBreak_e, ↓wCont_e, ↓wExpr_e, ↓wRaise_e, ↓wRaiseF_e, ↓wAsg_e, ↓tgP_name, ↓tgP_tup, ↓tgPs_nil, ↓tgPs_cons, ↓wTry_e, ↓wPar_ff, ↓noSt_0n, ↓noSt_0non, ↓noSt_0bl, ↓noSt_0int, ↓noSt_0str, ↓noSt_0tup, ↓noSt_0lst, ↓noSt_0ol, ↓noSt_s, ↓sSt0, ↓sSt1, ↓sSt0S, ↓sSt1S, ↓wOwnS_e, ↓fnE_nx, ↓fnE_rt, ↓fnE_ex, ↓wFor_e, ↓wSeq_For, ↓wSeq_While, ↓wiSeq_e, ↓wk_t, ↓wk_s, ↓wk_l, ↓wk_n, ↓wk_o, ↓wiRg1_e, ↓wiRg2_e, ↓wLRg2_e, ↓wLRg1_e, ↓wComp_e, ↓noMut_c, ↓noMut_n, ↓nm1_0, ↓nm1_int, ↓nm1_tup, ↓nm1_s, ↓nm1_v, ↓wYes_e, ↓wipeC_n, ↓wipeC_1, ↓wipeC_2, ↓wipeC_3, ↓cAll_b, ↓cAny_b, ↓oNe_int, ↓ns2_n, ↓oEq_mal, wIsi_e, okV_non, okV_bl, okV_int, okV_stR, okV_tup, okV_lst, ↓stP_v, ↓rtP_v, ↓aP1_v, ↓stOnce_v, ↓noSt_v, ↓oEq_int, ↓oIsi_int, ↓oIsi_bool, ↓oIsi_str, ↓oIsi_tuple, ↓oIsi_list, startP, ↓reduceIte, List.map_cons, List.map_nil, List.length_cons, List.length_nil, List.replicate, List.cons_append, List.nil_append, List.append_nil, true_and, and_true, implies_true, Bool.false_eq_true, Bool.not_true, Bool.not_false, Nat.reduceAdd, Nat.reduceSub, Nat.zero_add, Nat.reduceLT, Nat.reduceLeDiff, Int.reduceLT, Int.reduceLE, decide_eq_true_eq, Bool.true_and, Bool.and_true, Bool.false_and, Bool.and_false]
    cases p <;> first | (cases ho; done) | (simpa [isI, isTy] using h)
theorem p_is_count (A : Ad) (hA : A.Ok) : ∀ qs Q R, qs.length = 3 → fs_is_count A qs Q R → w_is_count A (fnEnds Q R) (startP 3 qs)
  | [p, .int lo, .int hi], Q, R, _, ⟨ho, h⟩ => by
    have hp := okV_plain ho
    simp only [w_is_count, ho, hp, fs_is_integer, fsIsInt, ↓wVar_0, ↓wVar_s, ↓wC_e, ↓wOp_e, ↓oAdd_ii, ↓oAdd_ss, ↓oAdd_tt, ↓oAdd_ll_, ↓oAdd_ln_, ↓oAdd_lo_, ↓oAdd_nl_, ↓oAdd_nn_, ↓oAdd_no_, ↓oAdd_ol_, ↓oAdd_on_, ↓oAdd_oo_, ↓oSub_ii, ↓oMul_ii, ↓oMul_li, ↓oMul_ni, ↓oMul_oi, ↓oDiv_ii, ↓oMod_ii, ↓oLt_ii, ↓oLe_ii, ↓oGt_ii, ↓oGe_ii, ↓wNeg_e, ↓wT_e, ↓kB_b, ↓kI_i, ↓wAnd_e, ↓wOr_e, ↓wNot_e, ↓wAndV_e, ↓wOrV_e, ↓wNotV_e, ↓wIfE_e, ↓wChain_e, ↓wIsN_e, ↓wNotN_e, ↓wCall_e, ↓wCons_e, ↓wNil_e, ↓wTup_e, ↓wLst_e, ↓tP_0, ↓tP_1, ↓tP_2, ↓tP_3, ↓tP_4, ↓tP_5, ↓tP_6, ↓tP_7, ↓tP_8, ↓lP_0, ↓lP_1, ↓lP_2, ↓lP_3, ↓lP_4, ↓lP_5, ↓lP_6, ↓lP_7, ↓lP_8, ↓stP_non, ↓rtP_non, ↓aP1_non, ↓stP_bl, ↓rtP_bl, ↓aP1_bl, ↓isN_bl, ↓stP_int, ↓rtP_int, ↓aP1_int, ↓isN_int, ↓stP_str, ↓rtP_str, ↓aP1_str, ↓isN_str, ↓stP_adr, ↓rtP_adr, ↓aP1_adr, ↓isN_adr, ↓stP_tup, ↓rtP_tup, ↓aP1_tup, ↓isN_tup, ↓stP_lst, ↓rtP_lst, ↓aP1_lst, ↓isN_lst, ↓stP_scr, ↓rtP_scr, ↓aP1_scr, ↓isN_scr, ↓stP_obj, ↓rtP_obj, ↓aP1_obj, ↓isN_obj, ↓stP_dk, ↓rtP_dk, ↓aP1_dk, ↓isN_dk, ↓isN_non, ↓stP_nlst, ↓rtP_nlst, ↓rtP_olst, ↓aP1_nlst, ↓stP_ndk, ↓rtP_ndk, ↓rtP_odk, ↓aP1_ndk, ↓aP1_st, ↓nwP_n, ↓oFn_1, ↓oFn_2, ↓oFn_3, ↓oFn_4, ↓oFn_5, ↓oFn_6, ↓sto_non, ↓nst_non, ↓sto_bl, ↓nst_bl, ↓sto_int, ↓nst_int, ↓sto_str, ↓nst_str, ↓sto_adr, ↓nst_adr, ↓sto_tup, ↓nst_tup, ↓sto_lst, ↓nst_lst, ↓sto_scr, ↓nst_scr, ↓sto_obj, ↓nst_obj, ↓sto_dk, ↓nst_dk, ↓sto_st, ↓sto_nil, ↓nst_nil, ↓wIsi_e, ↓oIsi_int_non, ↓oIsi_int_bl, ↓oIsi_int_int, ↓oIsi_int_str, ↓oIsi_int_tup, ↓oIsi_int_lst, ↓oIsi_bool_non, ↓oIsi_bool_bl, ↓oIsi_bool_int, ↓oIsi_bool_str, ↓oIsi_bool_tup, ↓oIsi_bool_lst, ↓oIsi_str_non, ↓oIsi_str_bl, ↓oIsi_str_int, ↓oIsi_str_str, ↓oIsi_str_tup, ↓oIsi_str_lst, ↓oIsi_tuple_non, ↓oIsi_tuple_bl, ↓oIsi_tuple_int, ↓oIsi_tuple_str, ↓oIsi_tuple_tup, ↓oIsi_tuple_lst, ↓oIsi_list_non, ↓oIsi_list_bl, ↓oIsi_list_int, ↓oIsi_list_str, ↓oIsi_list_tup, ↓oIsi_list_lst, ↓oIx_t, ↓cLen_t, ↓cTup_t, ↓cLst_t, ↓oIx_s, ↓cLen_s, ↓cTup_s, ↓cLst_s, ↓oIx_l, ↓cLen_l, ↓cTup_l, ↓cLst_l, ↓oIx_n, ↓cLen_n, ↓cTup_n, ↓cLst_n, ↓oIx_o, ↓cLen_o, ↓cTup_o, ↓cLst_o, ↓ixP_0, ↓ixP_1, ↓ixP_2, ↓ixP_3, ↓ixP_4, ↓ixP_5, ↓wSl_e, ↓wPn_e, ↓wPs_e, ↓oSl_t, ↓oSl_s, ↓oSl_l, ↓oSl_n, ↓oSl_o, ↓cAbs_i, ↓cInt_i, ↓cMin2_ii, ↓cMax2_ii, ↓wSeq_Set, ↓wSeq_If, ↓wSeq_Exp, ↓wSeq_Asg, ↓wSeq_Seq, ↓wSeq_Own, ↓wSeq_StS, ↓wSeq_App, ↓wSeq_Next, ↓wSeq_Ret, ↓wSeq_Rais, ↓wSeq_Par, ↓wSeq_Par3, ↓wSeq_St0, ↓wSeq_St1, ↓wSeq_Brk, ↓wSeq_Cnt, ↓wSeq_RetN, ↓wSeq_RaiF, ↓wSet_e, ↓wOwn_e, ↓sE_0, ↓sE_s, ↓wIf_e, ↓wRet_e, ↓wRetN_e, ↓wNext_e, ↓wBreak_e, ↓wCont_e, ↓wExpr_e, ↓wRaise_e, ↓wRaiseF_e, ↓wAsg_e, ↓tgP_name, ↓tgP_tup, ↓tgPs_nil, ↓tgPs_cons, ↓wTry_e, ↓wPar_ff, ↓noSt_0n, ↓noSt_0non, ↓noSt_0bl, ↓noSt_0int, ↓noSt_0str, ↓noSt_0tup, ↓noSt_0lst, ↓noSt_0ol, ↓noSt_s, ↓sSt0, ↓sSt1, ↓sSt0S, ↓sSt1S, ↓wOwnS_e, ↓fnE_nx, ↓fnE_rt, ↓fnE_ex, ↓wFor_e, ↓wSeq_For, ↓wSeq_While, ↓wiSeq_e, ↓wk_t, ↓wk_s, ↓wk_l, ↓wk_n, ↓wk_o, ↓wiRg1_e, ↓wiRg2_e, ↓wLRg2_e, ↓wLRg1_e, ↓wComp_e, ↓noMut_c, ↓noMut_n, ↓nm1_0, ↓nm1_int, ↓nm1_tup, ↓nm1_s, ↓nm1_v, ↓wYes_e, ↓wipeC_n, ↓wipeC_1, ↓wipeC_2, ↓wipeC_3, ↓cAll_b, ↓cAny_b, ↓oNe_int, ↓ns2_n, ↓oEq_mal, wIsi_e, okV_non, okV_bl, okV_int, okV_stR, okV_tup, okV_lst, ↓stP_v, ↓rtP_v, ↓aP1_v, ↓stOnce_v, ↓noSt_v, ↓oEq_int, ↓oIsi_int, ↓oIsi_bool, ↓oIsi_str, ↓oIsi_tuple, ↓oIsi_list, startP, ↓reduceIte, List.map_cons, List.map_nil, List.length_cons, List.length_nil, List.replicate, List.cons_append, List.nil_append, List.append_nil, true_and, and_true, implies_true, Bool.false_eq_true, Bool.not_true, Bool.not_false, Nat.reduceAdd, Nat.reduceSub, Nat.zero_add, Nat.reduceLT, Nat.reduceLeDiff, Int.reduceLT, Int.reduceLE, decide_eq_true_eq, Bool.true_and, Bool.and_true, Bool.false_and, Bool.and_false]
    cases p with
    | int i =>
      simp only [cnt] at h
      simp only [isI, ↓wVar_0, ↓wVar_s, ↓wC_e, ↓wOp_e, ↓oAdd_ii, ↓oAdd_ss, ↓oAdd_tt, ↓oAdd_ll_, ↓oAdd_ln_, ↓oAdd_lo_, ↓oAdd_nl_, ↓oAdd_nn_, ↓oAdd_no_, ↓oAdd_ol_, ↓oAdd_on_, ↓oAdd_oo_, ↓oSub_ii, ↓oMul_ii, ↓oMul_li, ↓oMul_ni, ↓oMul_oi, ↓oDiv_ii, ↓oMod_ii, ↓oLt_ii, ↓oLe_ii, ↓oGt_ii, ↓oGe_ii, ↓wNeg_e, ↓wT_e, ↓kB_b, ↓kI_i, ↓wAnd_e, ↓wOr_e, ↓wNot_e, ↓wAndV_e, ↓wOrV_e, ↓wNotV_e, ↓wIfE_e, ↓wChain_e, ↓wIsN_e, ↓wNotN_e, ↓wCall_e, ↓wCons_e, ↓wNil_e, ↓wTup_e, ↓wLst_e, ↓tP_0, ↓tP_1, ↓tP_2, ↓tP_3, ↓tP_4, ↓tP_5, ↓tP_6, ↓tP_7, ↓tP_8, ↓lP_0, ↓lP_1, ↓lP_2, ↓lP_3, ↓lP_4, ↓lP_5, ↓lP_6, ↓lP_7, ↓lP_8, ↓stP_non, ↓rtP_non, ↓aP1_non, ↓stP_bl, ↓rtP_bl, ↓aP1_bl, ↓isN_bl, ↓stP_int, ↓rtP_int, ↓aP1_int, ↓isN_int, ↓stP_str, ↓rtP_str, ↓aP1_str, ↓isN_str, ↓stP_adr, ↓rtP_adr, ↓aP1_adr, ↓isN_adr, ↓stP_tup, ↓rtP_tup, ↓aP1_tup, ↓isN_tup, ↓stP_lst, ↓rtP_lst, ↓aP1_lst, ↓isN_lst, ↓stP_scr, ↓rtP_scr, ↓aP1_scr, ↓isN_scr, ↓stP_obj, ↓rtP_obj, ↓aP1_obj, ↓isN_obj, ↓stP_dk, ↓rtP_dk, ↓aP1_dk, ↓isN_dk, ↓isN_non, ↓stP_nlst, ↓rtP_nlst, ↓rtP_olst, ↓aP1_nlst, ↓stP_ndk, ↓rtP_ndk, ↓rtP_odk, ↓aP1_ndk, ↓aP1_st, ↓nwP_n, ↓oFn_1, ↓oFn_2, ↓oFn_3, ↓oFn_4, ↓oFn_5, ↓oFn_6, ↓sto_non, ↓nst_non, ↓sto_bl, ↓nst_bl, ↓sto_int, ↓nst_int, ↓sto_str, ↓nst_str, ↓sto_adr, ↓nst_adr, ↓sto_tup, ↓nst_tup, ↓sto_lst, ↓nst_lst, ↓sto_scr, ↓nst_scr, ↓sto_obj, ↓nst_obj, ↓sto_dk, ↓nst_dk, ↓sto_st, ↓sto_nil, ↓nst_nil, ↓wIsi_e, ↓oIsi_int_non, ↓oIsi_int_bl, ↓oIsi_int_int, ↓oIsi_int_str, ↓oIsi_int_tup, ↓oIsi_int_lst, ↓oIsi_bool_non, ↓oIsi_bool_bl, ↓oIsi_bool_int, ↓oIsi_bool_str, ↓oIsi_bool_tup, ↓oIsi_bool_lst, ↓oIsi_str_non, ↓oIsi_str_bl, ↓oIsi_str_int, ↓oIsi_str_str, ↓oIsi_str_tup, ↓oIsi_str_lst, ↓oIsi_tuple_non, ↓oIsi_tuple_bl, ↓oIsi_tuple_int, ↓oIsi_tuple_str, ↓oIsi_tuple_tup, ↓oIsi_tuple_lst, ↓oIsi_list_non, ↓oIsi_list_bl, ↓oIsi_list_int, ↓oIsi_list_str, ↓oIsi_list_tup, ↓oIsi_list_lst, ↓oIx_t, ↓cLen_t, ↓cTup_t, ↓cLst_t, ↓oIx_s, ↓cLen_s, ↓cTup_s, ↓cLst_s, ↓oIx_l, ↓cLen_l, ↓cTup_l, ↓cLst_l, ↓oIx_n, ↓cLen_n, ↓cTup_n, ↓cLst_n, ↓oIx_o, ↓cLen_o, ↓cTup_o, ↓cLst_o, ↓ixP_0, ↓ixP_1, ↓ixP_2, ↓ixP_3, ↓ixP_4, ↓ixP_5, ↓wSl_e, ↓wPn_e, ↓wPs_e, ↓oSl_t, ↓oSl_s, ↓oSl_l, ↓oSl_n, ↓oSl_o, ↓cAbs_i, ↓cInt_i, ↓cMin2_ii, ↓cMax2_ii, ↓wSeq_Set, ↓wSeq_If, ↓wSeq_Exp, ↓wSeq_Asg, ↓wSeq_Seq, ↓wSeq_Own, ↓wSeq_StS, ↓wSeq_App, ↓wSeq_Next, ↓wSeq_Ret, ↓wSeq_Rais, ↓wSeq_Par, ↓wSeq_Par3, ↓wSeq_St0, ↓wSeq_St1, ↓wSeq_Brk, ↓wSeq_Cnt, ↓wSeq_RetN, ↓wSeq_RaiF, ↓wSet_e, ↓wOwn_e, ↓sE_0, ↓sE_s, ↓wIf_e, ↓wRet_e, ↓wRetN_e, ↓wNext_e, ↓wBreak_e, ↓wCont_e, ↓wExpr_e, ↓wRaise_e, ↓wRaiseF_e, ↓wAsg_e, ↓tgP_name, ↓tgP_tup, ↓tgPs_nil, ↓tgPs_cons, ↓wTry_e, ↓wPar_ff, ↓noSt_0n, ↓noSt_0non, ↓noSt_0bl, ↓noSt_0int, ↓noSt_0str, ↓noSt_0tup, ↓noSt_0lst, ↓noSt_0ol, ↓noSt_s, ↓sSt0, ↓sSt1, ↓sSt0S, ↓sSt1S, ↓wOwnS_e, ↓fnE_nx, ↓fnE_rt, ↓fnE_ex, ↓wFor_e, ↓wSeq_For, ↓wSeq_While, ↓wiSeq_e, ↓wk_t, ↓wk_s, ↓wk_l, ↓wk_n, ↓wk_o, ↓wiRg1_e, ↓wiRg2_e, ↓wLRg2_e, ↓wLRg1_e, ↓wComp_e, ↓noMut_c, ↓noMut_n, ↓nm1_0, ↓nm1_int, ↓nm1_tup, ↓nm1_s, ↓nm1_v, ↓wYes_e, ↓wipeC_n, ↓wipeC_1, ↓wipeC_2, ↓wipeC_3, ↓cAll_b, ↓cAny_b, ↓oNe_int, ↓ns2_n, ↓oEq_mal, wIsi_e, okV_non, okV_bl, okV_int, okV_stR, okV_tup, okV_lst, ↓stP_v, ↓rtP_v, ↓aP1_v, ↓stOnce_v, ↓noSt_v, ↓oEq_int, ↓oIsi_int, ↓oIsi_bool, ↓oIsi_str, ↓oIsi_tuple, ↓oIsi_list, startP, ↓reduceIte, List.map_cons, List.map_nil, List.length_cons, List.length_nil, List.replicate, List.cons_append, List.nil_append, List.append_nil, true_and, and_true, implies_true, Bool.false_eq_true, Bool.not_true, Bool.not_false, Nat.reduceAdd, Nat.reduceSub, Nat.zero_add, Nat.reduceLT, Nat.reduceLeDiff, Int.reduceLT, Int.reduceLE, decide_eq_true_eq, Bool.true_and, Bool.and_true, Bool.false_and, Bool.and_false]
      by_cases h1 : lo ≤ i <;> simp [h1] at h ⊢ <;> exact h
    | non => exact h
    | bl _ => exact h
    | str _ => exact h
    | tup _ => exact h
    | lst _ => exact h
    | obj _ _ _ => exact h
    | _ => cases ho
theorem p_check_count (A : Ad) (hA : A.Ok) : ∀ qs Q R, qs.length = 3 → fs_check_count A qs Q R → w_check_count A (fnEnds Q R) (startP 3 qs)
  | [p, .int lo, .int hi], Q, R, _, ⟨ho, h⟩ => by
    have hp := okV_plain ho
    simp only [w_check_count, ho, hp, fs_is_count, fsIsCount, ↓wVar_0, ↓wVar_s, ↓wC_e, ↓wOp_e, ↓oAdd_ii, ↓oAdd_ss, ↓oAdd_tt, ↓oAdd_ll_, ↓oAdd_ln_, ↓oAdd_lo_, ↓oAdd_nl_, ↓oAdd_nn_, ↓oAdd_no_, ↓oAdd_ol_, ↓oAdd_on_, ↓oAdd_oo_, ↓oSub_ii, ↓oMul_ii, ↓oMul_li, ↓oMul_ni, ↓oMul_oi, ↓oDiv_ii, ↓oMod_ii, ↓oLt_ii, ↓oLe_ii, ↓oGt_ii, ↓oGe_ii, ↓wNeg_e, ↓wT_e, ↓kB_b, ↓kI_i, ↓wAnd_e, ↓wOr_e, ↓wNot_e, ↓wAndV_e, ↓wOrV_e, ↓wNotV_e, ↓wIfE_e, ↓wChain_e, ↓wIsN_e, ↓wNotN_e, ↓wCall_e, ↓wCons_e, ↓wNil_e, ↓wTup_e, ↓wLst_e, ↓tP_0, ↓tP_1, ↓tP_2, ↓tP_3, ↓tP_4, ↓tP_5, ↓tP_6, ↓tP_7, ↓tP_8, ↓lP_0, ↓lP_1, ↓lP_2, ↓lP_3, ↓lP_4, ↓lP_5, ↓lP_6, ↓lP_7, ↓lP_8, ↓stP_non, ↓rtP_non, ↓aP1_non, ↓stP_bl, ↓rtP_bl, ↓aP1_bl, ↓isN_bl, ↓stP_int, ↓rtP_int, ↓aP1_int, ↓isN_int, ↓stP_str, ↓rtP_str, ↓aP1_str, ↓isN_str, ↓stP_adr, ↓rtP_adr, ↓aP1_adr, ↓isN_adr, ↓stP_tup, ↓rtP_tup, ↓aP1_tup, ↓isN_tup, ↓stP_lst, ↓rtP_lst, ↓aP1_lst, ↓isN_lst, ↓stP_scr, ↓rtP_scr, ↓aP1_scr, ↓isN_scr, ↓stP_obj, ↓rtP_obj, ↓aP1_obj, ↓isN_obj, ↓stP_dk, ↓rtP_dk, ↓aP1_dk, ↓isN_dk, ↓isN_non, ↓stP_nlst, ↓rtP_nlst, ↓rtP_olst, ↓aP1_nlst, ↓stP_ndk, ↓rtP_ndk, ↓rtP_odk, ↓aP1_ndk, ↓aP1_st, ↓nwP_n, ↓oFn_1, ↓oFn_2, ↓oFn_3, ↓oFn_4, ↓oFn_5, ↓oFn_6, ↓sto_non, ↓nst_non, ↓sto_bl, ↓nst_bl, ↓sto_int, ↓nst_int, ↓sto_str, ↓nst_str, ↓sto_adr, ↓nst_adr, ↓sto_tup, ↓nst_tup, ↓sto_lst, ↓nst_lst, ↓sto_scr, ↓nst_scr, ↓sto_obj, ↓nst_obj, ↓sto_dk, ↓nst_dk, ↓sto_st, ↓sto_nil, ↓nst_nil, ↓wIsi_e, ↓oIsi_int_non, ↓oIsi_int_bl, ↓oIsi_int_int, ↓oIsi_int_str, ↓oIsi_int_tup, ↓oIsi_int_lst, ↓oIsi_bool_non, ↓oIsi_bool_bl, ↓oIsi_bool_int, ↓oIsi_bool_str, ↓oIsi_bool_tup, ↓oIsi_bool_lst, ↓oIsi_str_non, ↓oIsi_str_bl, ↓oIsi_str_int, ↓oIsi_str_str, ↓oIsi_str_tup, ↓oIsi_str_lst, ↓oIsi_tuple_non, ↓oIsi_tuple_bl, ↓oIsi_tuple_int, ↓oIsi_tuple_str, ↓oIsi_tuple_tup, ↓oIsi_tuple_lst, ↓oIsi_list_non, ↓oIsi_list_bl, ↓oIsi_list_int, ↓oIsi_list_str, ↓oIsi_list_tup, ↓oIsi_list_lst, ↓oIx_t, ↓cLen_t, ↓cTup_t, ↓cLst_t, ↓oIx_s, ↓cLen_s, ↓cTup_s, ↓cLst_s, ↓oIx_l, ↓cLen_l, ↓cTup_l, ↓cLst_l, ↓oIx_n, ↓cLen_n, ↓cTup_n, ↓cLst_n, ↓oIx_o, ↓cLen_o, ↓cTup_o, ↓cLst_o, ↓ixP_0, ↓ixP_1, ↓ixP_2, ↓ixP_3, ↓ixP_4, ↓ixP_5, ↓wSl_e, ↓wPn_e, ↓wPs_e, ↓oSl_t, ↓oSl_s, ↓oSl_l, ↓oSl_n, ↓oSl_o, ↓cAbs_i, ↓cInt_i, ↓cMin2_ii, ↓cMax2_ii, ↓wSeq_Set, ↓wSeq_If, ↓wSeq_Exp, ↓wSeq_Asg, ↓wSeq_Seq, ↓wSeq_Own, ↓wSeq_StS, ↓wSeq_App, ↓wSeq_Next, ↓wSeq_Ret, ↓wSeq_Rais, ↓wSeq_Par, ↓wSeq_Par3, ↓wSeq_St0, ↓wSeq_St1, ↓wSeq_Brk, ↓wSeq_Cnt, ↓wSeq_RetN, ↓wSeq_RaiF, ↓wSet_e, ↓wOwn_e, ↓sE_0, ↓sE_s, ↓wIf_e, ↓wRet_e, ↓wRetN_e, ↓wNext_e, ↓wBreak_e, ↓wCont_e, ↓wExpr_e, ↓wRaise_e, ↓wRaiseF_e, ↓wAsg_e, ↓tgP_name, ↓tgP_tup, ↓tgPs_nil, ↓tgPs_cons, ↓wTry_e, ↓wPar_ff, ↓noSt_0n, ↓noSt_0non, ↓noSt_0bl, ↓noSt_0int, ↓noSt_0str, ↓noSt_0tup, ↓noSt_0lst, ↓noSt_0ol, ↓noSt_s, ↓sSt0, ↓sSt1, ↓sSt0S, ↓sSt1S, ↓wOwnS_e, ↓fnE_nx, ↓fnE_rt, ↓fnE_ex, ↓wFor_e, ↓wSeq_For, ↓wSeq_While, ↓wiSeq_e, ↓wk_t, ↓wk_s, ↓wk_l, ↓wk_n, ↓wk_o, ↓wiRg1_e, ↓wiRg2_e, ↓wLRg2_e, ↓wLRg1_e, ↓wComp_e, ↓noMut_c, ↓noMut_n, ↓nm1_0, ↓nm1_int, ↓nm1_tup, ↓nm1_s, ↓nm1_v, ↓wYes_e, ↓wipeC_n, ↓wipeC_1, ↓wipeC_2, ↓wipeC_3, ↓cAll_b, ↓cAny_b, ↓oNe_int, ↓ns2_n, ↓oEq_mal, wIsi_e, okV_non, okV_bl, okV_int, okV_stR, okV_tup, okV_lst, ↓stP_v, ↓rtP_v, ↓aP1_v, ↓stOnce_v, ↓noSt_v, ↓oEq_int, ↓oIsi_int, ↓oIsi_bool, ↓oIsi_str, ↓oIsi_tuple, ↓oIsi_list, startP, ↓reduceIte, List.map_cons, List.map_nil, List.length_cons, List.length_nil, List.replicate, List.cons_append, List.nil_append, List.append_nil, true_and, and_true, implies_true, Bool.false_eq_true, Bool.not_true, Bool.not_false, Nat.reduceAdd, Nat.reduceSub, Nat.zero_add, Nat.reduceLT, Nat.reduceLeDiff, Int.reduceLT, Int.reduceLE, decide_eq_true_eq, Bool.true_and, Bool.and_true, Bool.false_and, Bool.and_false]
    cases hc : cnt p lo hi <;> simp [hc] at h ⊢ <;> exact h
theorem p_z_law_take (A : Ad) (hA : A.Ok) : ∀ qs Q R, qs.length = 2 → fs_z_law_take A qs Q R → w_z_law_take A (fnEnds Q R) (startP 3 qs)
  | [.st, .int m], Q, R, _, ⟨⟨h0, h1⟩, h⟩ => by
    simp only [w_z_law_take, ↓wVar_0, ↓wVar_s, ↓wC_e, ↓wOp_e, ↓oAdd_ii, ↓oAdd_ss, ↓oAdd_tt, ↓oAdd_ll_, ↓oAdd_ln_, ↓oAdd_lo_, ↓oAdd_nl_, ↓oAdd_nn_, ↓oAdd_no_, ↓oAdd_ol_, ↓oAdd_on_, ↓oAdd_oo_, ↓oSub_ii, ↓oMul_ii, ↓oMul_li, ↓oMul_ni, ↓oMul_oi, ↓oDiv_ii, ↓oMod_ii, ↓oLt_ii, ↓oLe_ii, ↓oGt_ii, ↓oGe_ii, ↓wNeg_e, ↓wT_e, ↓kB_b, ↓kI_i, ↓wAnd_e, ↓wOr_e, ↓wNot_e, ↓wAndV_e, ↓wOrV_e, ↓wNotV_e, ↓wIfE_e, ↓wChain_e, ↓wIsN_e, ↓wNotN_e, ↓wCall_e, ↓wCons_e, ↓wNil_e, ↓wTup_e, ↓wLst_e, ↓tP_0, ↓tP_1, ↓tP_2, ↓tP_3, ↓tP_4, ↓tP_5, ↓tP_6, ↓tP_7, ↓tP_8, ↓lP_0, ↓lP_1, ↓lP_2, ↓lP_3, ↓lP_4, ↓lP_5, ↓lP_6, ↓lP_7, ↓lP_8, ↓stP_non, ↓rtP_non, ↓aP1_non, ↓stP_bl, ↓rtP_bl, ↓aP1_bl, ↓isN_bl, ↓stP_int, ↓rtP_int, ↓aP1_int, ↓isN_int, ↓stP_str, ↓rtP_str, ↓aP1_str, ↓isN_str, ↓stP_adr, ↓rtP_adr, ↓aP1_adr, ↓isN_adr, ↓stP_tup, ↓rtP_tup, ↓aP1_tup, ↓isN_tup, ↓stP_lst, ↓rtP_lst, ↓aP1_lst, ↓isN_lst, ↓stP_scr, ↓rtP_scr, ↓aP1_scr, ↓isN_scr, ↓stP_obj, ↓rtP_obj, ↓aP1_obj, ↓isN_obj, ↓stP_dk, ↓rtP_dk, ↓aP1_dk, ↓isN_dk, ↓isN_non, ↓stP_nlst, ↓rtP_nlst, ↓rtP_olst, ↓aP1_nlst, ↓stP_ndk, ↓rtP_ndk, ↓rtP_odk, ↓aP1_ndk, ↓aP1_st, ↓nwP_n, ↓oFn_1, ↓oFn_2, ↓oFn_3, ↓oFn_4, ↓oFn_5, ↓oFn_6, ↓sto_non, ↓nst_non, ↓sto_bl, ↓nst_bl, ↓sto_int, ↓nst_int, ↓sto_str, ↓nst_str, ↓sto_adr, ↓nst_adr, ↓sto_tup, ↓nst_tup, ↓sto_lst, ↓nst_lst, ↓sto_scr, ↓nst_scr, ↓sto_obj, ↓nst_obj, ↓sto_dk, ↓nst_dk, ↓sto_st, ↓sto_nil, ↓nst_nil, ↓wIsi_e, ↓oIsi_int_non, ↓oIsi_int_bl, ↓oIsi_int_int, ↓oIsi_int_str, ↓oIsi_int_tup, ↓oIsi_int_lst, ↓oIsi_bool_non, ↓oIsi_bool_bl, ↓oIsi_bool_int, ↓oIsi_bool_str, ↓oIsi_bool_tup, ↓oIsi_bool_lst, ↓oIsi_str_non, ↓oIsi_str_bl, ↓oIsi_str_int, ↓oIsi_str_str, ↓oIsi_str_tup, ↓oIsi_str_lst, ↓oIsi_tuple_non, ↓oIsi_tuple_bl, ↓oIsi_tuple_int, ↓oIsi_tuple_str, ↓oIsi_tuple_tup, ↓oIsi_tuple_lst, ↓oIsi_list_non, ↓oIsi_list_bl, ↓oIsi_list_int, ↓oIsi_list_str, ↓oIsi_list_tup, ↓oIsi_list_lst, ↓oIx_t, ↓cLen_t, ↓cTup_t, ↓cLst_t, ↓oIx_s, ↓cLen_s, ↓cTup_s, ↓cLst_s, ↓oIx_l, ↓cLen_l, ↓cTup_l, ↓cLst_l, ↓oIx_n, ↓cLen_n, ↓cTup_n, ↓cLst_n, ↓oIx_o, ↓cLen_o, ↓cTup_o, ↓cLst_o, ↓ixP_0, ↓ixP_1, ↓ixP_2, ↓ixP_3, ↓ixP_4, ↓ixP_5, ↓wSl_e, ↓wPn_e, ↓wPs_e, ↓oSl_t, ↓oSl_s, ↓oSl_l, ↓oSl_n, ↓oSl_o, ↓cAbs_i, ↓cInt_i, ↓cMin2_ii, ↓cMax2_ii, ↓wSeq_Set, ↓wSeq_If, ↓wSeq_Exp, ↓wSeq_Asg, ↓wSeq_Seq, ↓wSeq_Own, ↓wSeq_StS, ↓wSeq_App, ↓wSeq_Next, ↓wSeq_Ret, ↓wSeq_Rais, ↓wSeq_Par, ↓wSeq_Par3, ↓wSeq_St0, ↓wSeq_St1, ↓wSeq_Brk, ↓wSeq_Cnt, ↓wSeq_RetN, ↓wSeq_RaiF, ↓wSet_e, ↓wOwn_e, ↓sE_0, ↓sE_s, ↓wIf_e, ↓wRet_e, ↓wRetN_e, ↓wNext_e, ↓wBreak_e, ↓wCont_e, ↓wExpr_e, ↓wRaise_e, ↓wRaiseF_e, ↓wAsg_e, ↓tgP_name, ↓tgP_tup, ↓tgPs_nil, ↓tgPs_cons, ↓wTry_e, ↓wPar_ff, ↓noSt_0n, ↓noSt_0non, ↓noSt_0bl, ↓noSt_0int, ↓noSt_0str, ↓noSt_0tup, ↓noSt_0lst, ↓noSt_0ol, ↓noSt_s, ↓sSt0, ↓sSt1, ↓sSt0S, ↓sSt1S, ↓wOwnS_e, ↓fnE_nx, ↓fnE_rt, ↓fnE_ex, ↓wFor_e, ↓wSeq_For, ↓wSeq_While, ↓wiSeq_e, ↓wk_t, ↓wk_s, ↓wk_l, ↓wk_n, ↓wk_o, ↓wiRg1_e, ↓wiRg2_e, ↓wLRg2_e, ↓wLRg1_e, ↓wComp_e, ↓noMut_c, ↓noMut_n, ↓nm1_0, ↓nm1_int, ↓nm1_tup, ↓nm1_s, ↓nm1_v, ↓wYes_e, ↓wipeC_n, ↓wipeC_1, ↓wipeC_2, ↓wipeC_3, ↓cAll_b, ↓cAny_b, ↓oNe_int, ↓ns2_n, ↓oEq_mal, wIsi_e, okV_non, okV_bl, okV_int, okV_stR, okV_tup, okV_lst, ↓stP_v, ↓rtP_v, ↓aP1_v, ↓stOnce_v, ↓noSt_v, ↓oEq_int, ↓oIsi_int, ↓oIsi_bool, ↓oIsi_str, ↓oIsi_tuple, ↓oIsi_list, startP, ↓reduceIte, List.map_cons, List.map_nil, List.length_cons, List.length_nil, List.replicate, List.cons_append, List.nil_append, List.append_nil, true_and, and_true, implies_true, Bool.false_eq_true, Bool.not_true, Bool.not_false, Nat.reduceAdd, Nat.reduceSub, Nat.zero_add, Nat.reduceLT, Nat.reduceLeDiff, Int.reduceLT, Int.reduceLE, decide_eq_true_eq, Bool.true_and, Bool.and_true, Bool.false_and, Bool.and_false]
    intro x hx
    have hm : m ≠ 0 := by omega
    split
    · exact fun y hy => ⟨hm, fun z hz => ⟨divOk_of h0 h1, fdiv_nn hz h0, h _ (fmod_b h0)⟩⟩
    · rintro y ⟨hy, hy2⟩
      refine ⟨mulOk_of (a := 31) (b := 31) (by omega) (by decide) (by decide), by decide, (fmod_b (by decide)).1, (fmod_b (by decide)).2, ?_⟩
      rintro z -
      exact ⟨divOk_7, hm, h _ (fmod_b h0)⟩
theorem p_z_law_state (A : Ad) (hA : A.Ok) : ∀ qs Q R, qs.length = 1 → fs_z_law_state A qs Q R → w_z_law_state A (fnEnds Q R) (startP 4 qs) := by
  rintro qs Q R - ⟨ns, rfl, ⟨hl, hb⟩, h⟩
  simp only [w_z_law_state, ↓wVar_0, ↓wVar_s, ↓wC_e, ↓wOp_e, ↓oAdd_ii, ↓oAdd_ss, ↓oAdd_tt, ↓oAdd_ll_, ↓oAdd_ln_, ↓oAdd_lo_, ↓oAdd_nl_, ↓oAdd_nn_, ↓oAdd_no_, ↓oAdd_ol_, ↓oAdd_on_, ↓oAdd_oo_, ↓oSub_ii, ↓oMul_ii, ↓oMul_li, ↓oMul_ni, ↓oMul_oi, ↓oDiv_ii, ↓oMod_ii, ↓oLt_ii, ↓oLe_ii, ↓oGt_ii, ↓oGe_ii, ↓wNeg_e, ↓wT_e, ↓kB_b, ↓kI_i, ↓wAnd_e, ↓wOr_e, ↓wNot_e, ↓wAndV_e, ↓wOrV_e, ↓wNotV_e, ↓wIfE_e, ↓wChain_e, ↓wIsN_e, ↓wNotN_e, ↓wCall_e, ↓wCons_e, ↓wNil_e, ↓wTup_e, ↓wLst_e, ↓tP_0, ↓tP_1, ↓tP_2, ↓tP_3, ↓tP_4, ↓tP_5, ↓tP_6, ↓tP_7, ↓tP_8, ↓lP_0, ↓lP_1, ↓lP_2, ↓lP_3, ↓lP_4, ↓lP_5, ↓lP_6, ↓lP_7, ↓lP_8, ↓stP_non, ↓rtP_non, ↓aP1_non, ↓stP_bl, ↓rtP_bl, ↓aP1_bl, ↓isN_bl, ↓stP_int, ↓rtP_int, ↓aP1_int, ↓isN_int, ↓stP_str, ↓rtP_str, ↓aP1_str, ↓isN_str, ↓stP_adr, ↓rtP_adr, ↓aP1_adr, ↓isN_adr, ↓stP_tup, ↓rtP_tup, ↓aP1_tup, ↓isN_tup, ↓stP_lst, ↓rtP_lst, ↓aP1_lst, ↓isN_lst, ↓stP_scr, ↓rtP_scr, ↓aP1_scr, ↓isN_scr, ↓stP_obj, ↓rtP_obj, ↓aP1_obj, ↓isN_obj, ↓stP_dk, ↓rtP_dk, ↓aP1_dk, ↓isN_dk, ↓isN_non, ↓stP_nlst, ↓rtP_nlst, ↓rtP_olst, ↓aP1_nlst, ↓stP_ndk, ↓rtP_ndk, ↓rtP_odk, ↓aP1_ndk, ↓aP1_st, ↓nwP_n, ↓oFn_1, ↓oFn_2, ↓oFn_3, ↓oFn_4, ↓oFn_5, ↓oFn_6, ↓sto_non, ↓nst_non, ↓sto_bl, ↓nst_bl, ↓sto_int, ↓nst_int, ↓sto_str, ↓nst_str, ↓sto_adr, ↓nst_adr, ↓sto_tup, ↓nst_tup, ↓sto_lst, ↓nst_lst, ↓sto_scr, ↓nst_scr, ↓sto_obj, ↓nst_obj, ↓sto_dk, ↓nst_dk, ↓sto_st, ↓sto_nil, ↓nst_nil, ↓wIsi_e, ↓oIsi_int_non, ↓oIsi_int_bl, ↓oIsi_int_int, ↓oIsi_int_str, ↓oIsi_int_tup, ↓oIsi_int_lst, ↓oIsi_bool_non, ↓oIsi_bool_bl, ↓oIsi_bool_int, ↓oIsi_bool_str, ↓oIsi_bool_tup, ↓oIsi_bool_lst, ↓oIsi_str_non, ↓oIsi_str_bl, ↓oIsi_str_int, ↓oIsi_str_str, ↓oIsi_str_tup, ↓oIsi_str_lst, ↓oIsi_tuple_non, ↓oIsi_tuple_bl, ↓oIsi_tuple_int, ↓oIsi_tuple_str, ↓oIsi_tuple_tup, ↓oIsi_tuple_lst, ↓oIsi_list_non, ↓oIsi_list_bl, ↓oIsi_list_int, ↓oIsi_list_str, ↓oIsi_list_tup, ↓oIsi_list_lst, ↓oIx_t, ↓cLen_t, ↓cTup_t, ↓cLst_t, ↓oIx_s, ↓cLen_s, ↓cTup_s, ↓cLst_s, ↓oIx_l, ↓cLen_l, ↓cTup_l, ↓cLst_l, ↓oIx_n, ↓cLen_n, ↓cTup_n, ↓cLst_n, ↓oIx_o, ↓cLen_o, ↓cTup_o, ↓cLst_o, ↓ixP_0, ↓ixP_1, ↓ixP_2, ↓ixP_3, ↓ixP_4, ↓ixP_5, ↓wSl_e, ↓wPn_e, ↓wPs_e, ↓oSl_t, ↓oSl_s, ↓oSl_l, ↓oSl_n, ↓oSl_o, ↓cAbs_i, ↓cInt_i, ↓cMin2_ii, ↓cMax2_ii, ↓wSeq_Set, ↓wSeq_If, ↓wSeq_Exp, ↓wSeq_Asg, ↓wSeq_Seq, ↓wSeq_Own, ↓wSeq_StS, ↓wSeq_App, ↓wSeq_Next, ↓wSeq_Ret, ↓wSeq_Rais, ↓wSeq_Par, ↓wSeq_Par3, ↓wSeq_St0, ↓wSeq_St1, ↓wSeq_Brk, ↓wSeq_Cnt, ↓wSeq_RetN, ↓wSeq_RaiF, ↓wSet_e, ↓wOwn_e, ↓sE_0, ↓sE_s, ↓wIf_e, ↓wRet_e, ↓wRetN_e, ↓wNext_e, ↓wBreak_e, ↓wCont_e, ↓wExpr_e, ↓wRaise_e, ↓wRaiseF_e, ↓wAsg_e, ↓tgP_name, ↓tgP_tup, ↓tgPs_nil, ↓tgPs_cons, ↓wTry_e, ↓wPar_ff, ↓noSt_0n, ↓noSt_0non, ↓noSt_0bl, ↓noSt_0int, ↓noSt_0str, ↓noSt_0tup, ↓noSt_0lst, ↓noSt_0ol, ↓noSt_s, ↓sSt0, ↓sSt1, ↓sSt0S, ↓sSt1S, ↓wOwnS_e, ↓fnE_nx, ↓fnE_rt, ↓fnE_ex, ↓wFor_e, ↓wSeq_For, ↓wSeq_While, ↓wiSeq_e, ↓wk_t, ↓wk_s, ↓wk_l, ↓wk_n, ↓wk_o, ↓wiRg1_e, ↓wiRg2_e, ↓wLRg2_e, ↓wLRg1_e, ↓wComp_e, ↓noMut_c, ↓noMut_n, ↓nm1_0, ↓nm1_int, ↓nm1_tup, ↓nm1_s, ↓nm1_v, ↓wYes_e, ↓wipeC_n, ↓wipeC_1, ↓wipeC_2, ↓wipeC_3, ↓cAll_b, ↓cAny_b, ↓oNe_int, ↓ns2_n, ↓oEq_mal, wIsi_e, okV_non, okV_bl, okV_int, okV_stR, okV_tup, okV_lst, ↓stP_v, ↓rtP_v, ↓aP1_v, ↓stOnce_v, ↓noSt_v, ↓oEq_int, ↓oIsi_int, ↓oIsi_bool, ↓oIsi_str, ↓oIsi_tuple, ↓oIsi_list, startP, ↓reduceIte, List.map_cons, List.map_nil, List.length_cons, List.length_nil, List.replicate, List.cons_append, List.nil_append, List.append_nil, true_and, and_true, implies_true, Bool.false_eq_true, Bool.not_true, Bool.not_false, Nat.reduceAdd, Nat.reduceSub, Nat.zero_add, Nat.reduceLT, Nat.reduceLeDiff, Int.reduceLT, Int.reduceLE, decide_eq_true_eq, Bool.true_and, Bool.and_true, Bool.false_and, Bool.and_false]
  have hcut : cutP (ns.map PV.int) none (some 63) = ns.map PV.int := cutP_whole (by
    rw [List.length_map]
    exact ⟨rfl, by show min (63 : Int).toNat ns.length = ns.length; omega⟩)
  rw [hcut]
  refine loopS_st (σ := Int × Int × Option PV) (fun s => [some (.scr (ns.map PV.int)), some (.int s.1), some (.int s.2.1), s.2.2]) (fun i s => 0 ≤ s.1 ∧ s.1.natAbs < 2 ^ (1048577 + 22 * i) ∧ 0 ≤ s.2.1 ∧ s.2.1 < 2147483647) (0, 1, none) ⟨rfl, by decide, Nat.pow_pos (by decide), by decide, by decide⟩ ?_ ?_
  · rintro i ⟨a, b, c⟩ p ⟨h1, h2, h3, h4⟩ hp
    have hi : i < 63 := by
      have := (List.getElem?_eq_some_iff.mp hp).1
      rw [List.length_map] at this
      omega
    rw [List.getElem?_map] at hp
    obtain ⟨z, hz, rfl⟩ := Option.map_eq_some_iff.mp hp
    have hzb := hb z (List.mem_of_getElem? hz)
    simp only [↓wVar_0, ↓wVar_s, ↓wC_e, ↓wOp_e, ↓oAdd_ii, ↓oAdd_ss, ↓oAdd_tt, ↓oAdd_ll_, ↓oAdd_ln_, ↓oAdd_lo_, ↓oAdd_nl_, ↓oAdd_nn_, ↓oAdd_no_, ↓oAdd_ol_, ↓oAdd_on_, ↓oAdd_oo_, ↓oSub_ii, ↓oMul_ii, ↓oMul_li, ↓oMul_ni, ↓oMul_oi, ↓oDiv_ii, ↓oMod_ii, ↓oLt_ii, ↓oLe_ii, ↓oGt_ii, ↓oGe_ii, ↓wNeg_e, ↓wT_e, ↓kB_b, ↓kI_i, ↓wAnd_e, ↓wOr_e, ↓wNot_e, ↓wAndV_e, ↓wOrV_e, ↓wNotV_e, ↓wIfE_e, ↓wChain_e, ↓wIsN_e, ↓wNotN_e, ↓wCall_e, ↓wCons_e, ↓wNil_e, ↓wTup_e, ↓wLst_e, ↓tP_0, ↓tP_1, ↓tP_2, ↓tP_3, ↓tP_4, ↓tP_5, ↓tP_6, ↓tP_7, ↓tP_8, ↓lP_0, ↓lP_1, ↓lP_2, ↓lP_3, ↓lP_4, ↓lP_5, ↓lP_6, ↓lP_7, ↓lP_8, ↓stP_non, ↓rtP_non, ↓aP1_non, ↓stP_bl, ↓rtP_bl, ↓aP1_bl, ↓isN_bl, ↓stP_int, ↓rtP_int, ↓aP1_int, ↓isN_int, ↓stP_str, ↓rtP_str, ↓aP1_str, ↓isN_str, ↓stP_adr, ↓rtP_adr, ↓aP1_adr, ↓isN_adr, ↓stP_tup, ↓rtP_tup, ↓aP1_tup, ↓isN_tup, ↓stP_lst, ↓rtP_lst, ↓aP1_lst, ↓isN_lst, ↓stP_scr, ↓rtP_scr, ↓aP1_scr, ↓isN_scr, ↓stP_obj, ↓rtP_obj, ↓aP1_obj, ↓isN_obj, ↓stP_dk, ↓rtP_dk, ↓aP1_dk, ↓isN_dk, ↓isN_non, ↓stP_nlst, ↓rtP_nlst, ↓rtP_olst, ↓aP1_nlst, ↓stP_ndk, ↓rtP_ndk, ↓rtP_odk, ↓aP1_ndk, ↓aP1_st, ↓nwP_n, ↓oFn_1, ↓oFn_2, ↓oFn_3, ↓oFn_4, ↓oFn_5, ↓oFn_6, ↓sto_non, ↓nst_non, ↓sto_bl, ↓nst_bl, ↓sto_int, ↓nst_int, ↓sto_str, ↓nst_str, ↓sto_adr, ↓nst_adr, ↓sto_tup, ↓nst_tup, ↓sto_lst, ↓nst_lst, ↓sto_scr, ↓nst_scr, ↓sto_obj, ↓nst_obj, ↓sto_dk, ↓nst_dk, ↓sto_st, ↓sto_nil, ↓nst_nil, ↓wIsi_e, ↓oIsi_int_non, ↓oIsi_int_bl, ↓oIsi_int_int, ↓oIsi_int_str, ↓oIsi_int_tup, ↓oIsi_int_lst, ↓oIsi_bool_non, ↓oIsi_bool_bl, ↓oIsi_bool_int, ↓oIsi_bool_str, ↓oIsi_bool_tup, ↓oIsi_bool_lst, ↓oIsi_str_non, ↓oIsi_str_bl, ↓oIsi_str_int, ↓oIsi_str_str, ↓oIsi_str_tup, ↓oIsi_str_lst, ↓oIsi_tuple_non, ↓oIsi_tuple_bl, ↓oIsi_tuple_int, ↓oIsi_tuple_str, ↓oIsi_tuple_tup, ↓oIsi_tuple_lst, ↓oIsi_list_non, ↓oIsi_list_bl, ↓oIsi_list_int, ↓oIsi_list_str, ↓oIsi_list_tup, ↓oIsi_list_lst, ↓oIx_t, ↓cLen_t, ↓cTup_t, ↓cLst_t, ↓oIx_s, ↓cLen_s, ↓cTup_s, ↓cLst_s, ↓oIx_l, ↓cLen_l, ↓cTup_l, ↓cLst_l, ↓oIx_n, ↓cLen_n, ↓cTup_n, ↓cLst_n, ↓oIx_o, ↓cLen_o, ↓cTup_o, ↓cLst_o, ↓ixP_0, ↓ixP_1, ↓ixP_2, ↓ixP_3, ↓ixP_4, ↓ixP_5, ↓wSl_e, ↓wPn_e, ↓wPs_e, ↓oSl_t, ↓oSl_s, ↓oSl_l, ↓oSl_n, ↓oSl_o, ↓cAbs_i, ↓cInt_i, ↓cMin2_ii, ↓cMax2_ii, ↓wSeq_Set, ↓wSeq_If, ↓wSeq_Exp, ↓wSeq_Asg, ↓wSeq_Seq, ↓wSeq_Own, ↓wSeq_StS, ↓wSeq_App, ↓wSeq_Next, ↓wSeq_Ret, ↓wSeq_Rais, ↓wSeq_Par, ↓wSeq_Par3, ↓wSeq_St0, ↓wSeq_St1, ↓wSeq_Brk, ↓wSeq_Cnt, ↓wSeq_RetN, ↓wSeq_RaiF, ↓wSet_e, ↓wOwn_e, ↓sE_0, ↓sE_s, ↓wIf_e, ↓wRet_e, ↓wRetN_e, ↓wNext_e, ↓wBreak_e, ↓wCont_e, ↓wExpr_e, ↓wRaise_e, ↓wRaiseF_e, ↓wAsg_e, ↓tgP_name, ↓tgP_tup, ↓tgPs_nil, ↓tgPs_cons, ↓wTry_e, ↓wPar_ff, ↓noSt_0n, ↓noSt_0non, ↓noSt_0bl, ↓noSt_0int, ↓noSt_0str, ↓noSt_0tup, ↓noSt_0lst, ↓noSt_0ol, ↓noSt_s, ↓sSt0, ↓sSt1, ↓sSt0S, ↓sSt1S, ↓wOwnS_e, ↓fnE_nx, ↓fnE_rt, ↓fnE_ex, ↓wFor_e, ↓wSeq_For, ↓wSeq_While, ↓wiSeq_e, ↓wk_t, ↓wk_s, ↓wk_l, ↓wk_n, ↓wk_o, ↓wiRg1_e, ↓wiRg2_e, ↓wLRg2_e, ↓wLRg1_e, ↓wComp_e, ↓noMut_c, ↓noMut_n, ↓nm1_0, ↓nm1_int, ↓nm1_tup, ↓nm1_s, ↓nm1_v, ↓wYes_e, ↓wipeC_n, ↓wipeC_1, ↓wipeC_2, ↓wipeC_3, ↓cAll_b, ↓cAny_b, ↓oNe_int, ↓ns2_n, ↓oEq_mal, wIsi_e, okV_non, okV_bl, okV_int, okV_stR, okV_tup, okV_lst, ↓stP_v, ↓rtP_v, ↓aP1_v, ↓stOnce_v, ↓noSt_v, ↓oEq_int, ↓oIsi_int, ↓oIsi_bool, ↓oIsi_str, ↓oIsi_tuple, ↓oIsi_list, startP, ↓reduceIte, List.map_cons, List.map_nil, List.length_cons, List.length_nil, List.replicate, List.cons_append, List.nil_append, List.append_nil, true_and, and_true, implies_true, Bool.false_eq_true, Bool.not_true, Bool.not_false, Nat.reduceAdd, Nat.reduceSub, Nat.zero_add, Nat.reduceLT, Nat.reduceLeDiff, Int.reduceLT, Int.reduceLE, decide_eq_true_eq, Bool.true_and, Bool.and_true, Bool.false_and, Bool.and_false]
    dsimp only at h1 h2 h3 h4
    refine ⟨mulOk_of h2 (b := 20) (by decide) (by omega), mulOk_of (a := 31) (b := 16) (by omega) (by decide) (by decide), by decide, ⟨_, _, some (.int z)⟩, rfl, ?_, ?_, (fmod_b (by decide)).1, (fmod_b (by decide)).2⟩
    · dsimp only
      omega
    · dsimp only
      exact seed_grow h1 h2 hzb
  · rintro ⟨a, b, c⟩ ⟨h1, h2, h3, h4⟩
    dsimp only at h1 h2 h3 h4
    simp only [↓wVar_0, ↓wVar_s, ↓wC_e, ↓wOp_e, ↓oAdd_ii, ↓oAdd_ss, ↓oAdd_tt, ↓oAdd_ll_, ↓oAdd_ln_, ↓oAdd_lo_, ↓oAdd_nl_, ↓oAdd_nn_, ↓oAdd_no_, ↓oAdd_ol_, ↓oAdd_on_, ↓oAdd_oo_, ↓oSub_ii, ↓oMul_ii, ↓oMul_li, ↓oMul_ni, ↓oMul_oi, ↓oDiv_ii, ↓oMod_ii, ↓oLt_ii, ↓oLe_ii, ↓oGt_ii, ↓oGe_ii, ↓wNeg_e, ↓wT_e, ↓kB_b, ↓kI_i, ↓wAnd_e, ↓wOr_e, ↓wNot_e, ↓wAndV_e, ↓wOrV_e, ↓wNotV_e, ↓wIfE_e, ↓wChain_e, ↓wIsN_e, ↓wNotN_e, ↓wCall_e, ↓wCons_e, ↓wNil_e, ↓wTup_e, ↓wLst_e, ↓tP_0, ↓tP_1, ↓tP_2, ↓tP_3, ↓tP_4, ↓tP_5, ↓tP_6, ↓tP_7, ↓tP_8, ↓lP_0, ↓lP_1, ↓lP_2, ↓lP_3, ↓lP_4, ↓lP_5, ↓lP_6, ↓lP_7, ↓lP_8, ↓stP_non, ↓rtP_non, ↓aP1_non, ↓stP_bl, ↓rtP_bl, ↓aP1_bl, ↓isN_bl, ↓stP_int, ↓rtP_int, ↓aP1_int, ↓isN_int, ↓stP_str, ↓rtP_str, ↓aP1_str, ↓isN_str, ↓stP_adr, ↓rtP_adr, ↓aP1_adr, ↓isN_adr, ↓stP_tup, ↓rtP_tup, ↓aP1_tup, ↓isN_tup, ↓stP_lst, ↓rtP_lst, ↓aP1_lst, ↓isN_lst, ↓stP_scr, ↓rtP_scr, ↓aP1_scr, ↓isN_scr, ↓stP_obj, ↓rtP_obj, ↓aP1_obj, ↓isN_obj, ↓stP_dk, ↓rtP_dk, ↓aP1_dk, ↓isN_dk, ↓isN_non, ↓stP_nlst, ↓rtP_nlst, ↓rtP_olst, ↓aP1_nlst, ↓stP_ndk, ↓rtP_ndk, ↓rtP_odk, ↓aP1_ndk, ↓aP1_st, ↓nwP_n, ↓oFn_1, ↓oFn_2, ↓oFn_3, ↓oFn_4, ↓oFn_5, ↓oFn_6, ↓sto_non, ↓nst_non, ↓sto_bl, ↓nst_bl, ↓sto_int, ↓nst_int, ↓sto_str, ↓nst_str, ↓sto_adr, ↓nst_adr, ↓sto_tup, ↓nst_tup, ↓sto_lst, ↓nst_lst, ↓sto_scr, ↓nst_scr, ↓sto_obj, ↓nst_obj, ↓sto_dk, ↓nst_dk, ↓sto_st, ↓sto_nil, ↓nst_nil, ↓wIsi_e, ↓oIsi_int_non, ↓oIsi_int_bl, ↓oIsi_int_int, ↓oIsi_int_str, ↓oIsi_int_tup, ↓oIsi_int_lst, ↓oIsi_bool_non, ↓oIsi_bool_bl, ↓oIsi_bool_int, ↓oIsi_bool_str, ↓oIsi_bool_tup, ↓oIsi_bool_lst, ↓oIsi_str_non, ↓oIsi_str_bl, ↓oIsi_str_int, ↓oIsi_str_str, ↓oIsi_str_tup, ↓oIsi_str_lst, ↓oIsi_tuple_non, ↓oIsi_tuple_bl, ↓oIsi_tuple_int, ↓oIsi_tuple_str, ↓oIsi_tuple_tup, ↓oIsi_tuple_lst, ↓oIsi_list_non, ↓oIsi_list_bl, ↓oIsi_list_int, ↓oIsi_list_str, ↓oIsi_list_tup, ↓oIsi_list_lst, ↓oIx_t, ↓cLen_t, ↓cTup_t, ↓cLst_t, ↓oIx_s, ↓cLen_s, ↓cTup_s, ↓cLst_s, ↓oIx_l, ↓cLen_l, ↓cTup_l, ↓cLst_l, ↓oIx_n, ↓cLen_n, ↓cTup_n, ↓cLst_n, ↓oIx_o, ↓cLen_o, ↓cTup_o, ↓cLst_o, ↓ixP_0, ↓ixP_1, ↓ixP_2, ↓ixP_3, ↓ixP_4, ↓ixP_5, ↓wSl_e, ↓wPn_e, ↓wPs_e, ↓oSl_t, ↓oSl_s, ↓oSl_l, ↓oSl_n, ↓oSl_o, ↓cAbs_i, ↓cInt_i, ↓cMin2_ii, ↓cMax2_ii, ↓wSeq_Set, ↓wSeq_If, ↓wSeq_Exp, ↓wSeq_Asg, ↓wSeq_Seq, ↓wSeq_Own, ↓wSeq_StS, ↓wSeq_App, ↓wSeq_Next, ↓wSeq_Ret, ↓wSeq_Rais, ↓wSeq_Par, ↓wSeq_Par3, ↓wSeq_St0, ↓wSeq_St1, ↓wSeq_Brk, ↓wSeq_Cnt, ↓wSeq_RetN, ↓wSeq_RaiF, ↓wSet_e, ↓wOwn_e, ↓sE_0, ↓sE_s, ↓wIf_e, ↓wRet_e, ↓wRetN_e, ↓wNext_e, ↓wBreak_e, ↓wCont_e, ↓wExpr_e, ↓wRaise_e, ↓wRaiseF_e, ↓wAsg_e, ↓tgP_name, ↓tgP_tup, ↓tgPs_nil, ↓tgPs_cons, ↓wTry_e, ↓wPar_ff, ↓noSt_0n, ↓noSt_0non, ↓noSt_0bl, ↓noSt_0int, ↓noSt_0str, ↓noSt_0tup, ↓noSt_0lst, ↓noSt_0ol, ↓noSt_s, ↓sSt0, ↓sSt1, ↓sSt0S, ↓sSt1S, ↓wOwnS_e, ↓fnE_nx, ↓fnE_rt, ↓fnE_ex, ↓wFor_e, ↓wSeq_For, ↓wSeq_While, ↓wiSeq_e, ↓wk_t, ↓wk_s, ↓wk_l, ↓wk_n, ↓wk_o, ↓wiRg1_e, ↓wiRg2_e, ↓wLRg2_e, ↓wLRg1_e, ↓wComp_e, ↓noMut_c, ↓noMut_n, ↓nm1_0, ↓nm1_int, ↓nm1_tup, ↓nm1_s, ↓nm1_v, ↓wYes_e, ↓wipeC_n, ↓wipeC_1, ↓wipeC_2, ↓wipeC_3, ↓cAll_b, ↓cAny_b, ↓oNe_int, ↓ns2_n, ↓oEq_mal, wIsi_e, okV_non, okV_bl, okV_int, okV_stR, okV_tup, okV_lst, ↓stP_v, ↓rtP_v, ↓aP1_v, ↓stOnce_v, ↓noSt_v, ↓oEq_int, ↓oIsi_int, ↓oIsi_bool, ↓oIsi_str, ↓oIsi_tuple, ↓oIsi_list, startP, ↓reduceIte, List.map_cons, List.map_nil, List.length_cons, List.length_nil, List.replicate, List.cons_append, List.nil_append, List.append_nil, true_and, and_true, implies_true, Bool.false_eq_true, Bool.not_true, Bool.not_false, Nat.reduceAdd, Nat.reduceSub, Nat.zero_add, Nat.reduceLT, Nat.reduceLeDiff, Int.reduceLT, Int.reduceLE, decide_eq_true_eq, Bool.true_and, Bool.and_true, Bool.false_and, Bool.and_false]
    by_cases hb : b = 1973665155
    · simp only [hb, decide_true, Bool.not_true, Bool.false_eq_true, if_false]
      exact h _ _ h1 (by decide) (by decide)
    · simp only [hb, decide_false, Bool.not_false, if_true]
      exact h _ _ h1 h3 h4
theorem ansM_M (A : Ad) : ansM A A.cM = some true := by unfold ansM; simp
theorem ansM_R (A : Ad) (hA : A.Ok) : ansM A A.cR = some false := by
  have h := hA.cs
  simp only [List.nodup_cons, List.mem_cons, List.not_mem_nil, or_false, not_or] at h
  have n : A.cR ≠ A.cM := fun e => by simp [e] at h
  unfold ansM
  rw [if_neg n, if_pos rfl]
theorem ansR_R (A : Ad) (hA : A.Ok) : ansR A A.cR = some true := by
  have h := hA.cs
  simp only [List.nodup_cons, List.mem_cons, List.not_mem_nil, or_false, not_or] at h
  have n : A.cR ≠ A.cM := fun e => by simp [e] at h
  unfold ansR
  rw [if_neg n, if_pos rfl]
theorem p_z_law_told (A : Ad) (hA : A.Ok) : ∀ qs Q R, qs.length = 2 → fs_z_law_told A qs Q R → w_z_law_told A (fnEnds Q R) (startP 3 qs)
  | [.adr f, .tup args], Q, R, _, ⟨o, ⟨n, fs, hS, hl, ⟨hn1, hn5⟩, hp, ho, hk⟩, hq⟩ => by
    have end_ : ∀ (s : WSt) (D : PEnds) (ρ : PEnv) (g : PV → Prop), ρ.length = 3 → D.rt = Q → (∀ p, o = .told p → g p) → outK A g (fun x => whOnly (ansM A) (wRet (wTup (wCons (wC (.str "malformed")) (wCons (wC .non) wNil)))) (whRet 2 (ansR A) A.cR "reason" "refused" (fun D x ρ => D.ex x ρ)) D x ρ) o := by
      intro s D ρ g hρ hD hg
      cases o with
      | told p => exact hg p rfl
      | mal =>
        refine ⟨true, ansM_M A, fun _ => ?_, (fun z => nomatch z)⟩
        simp only [hD, ↓wVar_0, ↓wVar_s, ↓wC_e, ↓wOp_e, ↓oAdd_ii, ↓oAdd_ss, ↓oAdd_tt, ↓oAdd_ll_, ↓oAdd_ln_, ↓oAdd_lo_, ↓oAdd_nl_, ↓oAdd_nn_, ↓oAdd_no_, ↓oAdd_ol_, ↓oAdd_on_, ↓oAdd_oo_, ↓oSub_ii, ↓oMul_ii, ↓oMul_li, ↓oMul_ni, ↓oMul_oi, ↓oDiv_ii, ↓oMod_ii, ↓oLt_ii, ↓oLe_ii, ↓oGt_ii, ↓oGe_ii, ↓wNeg_e, ↓wT_e, ↓kB_b, ↓kI_i, ↓wAnd_e, ↓wOr_e, ↓wNot_e, ↓wAndV_e, ↓wOrV_e, ↓wNotV_e, ↓wIfE_e, ↓wChain_e, ↓wIsN_e, ↓wNotN_e, ↓wCall_e, ↓wCons_e, ↓wNil_e, ↓wTup_e, ↓wLst_e, ↓tP_0, ↓tP_1, ↓tP_2, ↓tP_3, ↓tP_4, ↓tP_5, ↓tP_6, ↓tP_7, ↓tP_8, ↓lP_0, ↓lP_1, ↓lP_2, ↓lP_3, ↓lP_4, ↓lP_5, ↓lP_6, ↓lP_7, ↓lP_8, ↓stP_non, ↓rtP_non, ↓aP1_non, ↓stP_bl, ↓rtP_bl, ↓aP1_bl, ↓isN_bl, ↓stP_int, ↓rtP_int, ↓aP1_int, ↓isN_int, ↓stP_str, ↓rtP_str, ↓aP1_str, ↓isN_str, ↓stP_adr, ↓rtP_adr, ↓aP1_adr, ↓isN_adr, ↓stP_tup, ↓rtP_tup, ↓aP1_tup, ↓isN_tup, ↓stP_lst, ↓rtP_lst, ↓aP1_lst, ↓isN_lst, ↓stP_scr, ↓rtP_scr, ↓aP1_scr, ↓isN_scr, ↓stP_obj, ↓rtP_obj, ↓aP1_obj, ↓isN_obj, ↓stP_dk, ↓rtP_dk, ↓aP1_dk, ↓isN_dk, ↓isN_non, ↓stP_nlst, ↓rtP_nlst, ↓rtP_olst, ↓aP1_nlst, ↓stP_ndk, ↓rtP_ndk, ↓rtP_odk, ↓aP1_ndk, ↓aP1_st, ↓nwP_n, ↓oFn_1, ↓oFn_2, ↓oFn_3, ↓oFn_4, ↓oFn_5, ↓oFn_6, ↓sto_non, ↓nst_non, ↓sto_bl, ↓nst_bl, ↓sto_int, ↓nst_int, ↓sto_str, ↓nst_str, ↓sto_adr, ↓nst_adr, ↓sto_tup, ↓nst_tup, ↓sto_lst, ↓nst_lst, ↓sto_scr, ↓nst_scr, ↓sto_obj, ↓nst_obj, ↓sto_dk, ↓nst_dk, ↓sto_st, ↓sto_nil, ↓nst_nil, ↓wIsi_e, ↓oIsi_int_non, ↓oIsi_int_bl, ↓oIsi_int_int, ↓oIsi_int_str, ↓oIsi_int_tup, ↓oIsi_int_lst, ↓oIsi_bool_non, ↓oIsi_bool_bl, ↓oIsi_bool_int, ↓oIsi_bool_str, ↓oIsi_bool_tup, ↓oIsi_bool_lst, ↓oIsi_str_non, ↓oIsi_str_bl, ↓oIsi_str_int, ↓oIsi_str_str, ↓oIsi_str_tup, ↓oIsi_str_lst, ↓oIsi_tuple_non, ↓oIsi_tuple_bl, ↓oIsi_tuple_int, ↓oIsi_tuple_str, ↓oIsi_tuple_tup, ↓oIsi_tuple_lst, ↓oIsi_list_non, ↓oIsi_list_bl, ↓oIsi_list_int, ↓oIsi_list_str, ↓oIsi_list_tup, ↓oIsi_list_lst, ↓oIx_t, ↓cLen_t, ↓cTup_t, ↓cLst_t, ↓oIx_s, ↓cLen_s, ↓cTup_s, ↓cLst_s, ↓oIx_l, ↓cLen_l, ↓cTup_l, ↓cLst_l, ↓oIx_n, ↓cLen_n, ↓cTup_n, ↓cLst_n, ↓oIx_o, ↓cLen_o, ↓cTup_o, ↓cLst_o, ↓ixP_0, ↓ixP_1, ↓ixP_2, ↓ixP_3, ↓ixP_4, ↓ixP_5, ↓wSl_e, ↓wPn_e, ↓wPs_e, ↓oSl_t, ↓oSl_s, ↓oSl_l, ↓oSl_n, ↓oSl_o, ↓cAbs_i, ↓cInt_i, ↓cMin2_ii, ↓cMax2_ii, ↓wSeq_Set, ↓wSeq_If, ↓wSeq_Exp, ↓wSeq_Asg, ↓wSeq_Seq, ↓wSeq_Own, ↓wSeq_StS, ↓wSeq_App, ↓wSeq_Next, ↓wSeq_Ret, ↓wSeq_Rais, ↓wSeq_Par, ↓wSeq_Par3, ↓wSeq_St0, ↓wSeq_St1, ↓wSeq_Brk, ↓wSeq_Cnt, ↓wSeq_RetN, ↓wSeq_RaiF, ↓wSet_e, ↓wOwn_e, ↓sE_0, ↓sE_s, ↓wIf_e, ↓wRet_e, ↓wRetN_e, ↓wNext_e, ↓wBreak_e, ↓wCont_e, ↓wExpr_e, ↓wRaise_e, ↓wRaiseF_e, ↓wAsg_e, ↓tgP_name, ↓tgP_tup, ↓tgPs_nil, ↓tgPs_cons, ↓wTry_e, ↓wPar_ff, ↓noSt_0n, ↓noSt_0non, ↓noSt_0bl, ↓noSt_0int, ↓noSt_0str, ↓noSt_0tup, ↓noSt_0lst, ↓noSt_0ol, ↓noSt_s, ↓sSt0, ↓sSt1, ↓sSt0S, ↓sSt1S, ↓wOwnS_e, ↓fnE_nx, ↓fnE_rt, ↓fnE_ex, ↓wFor_e, ↓wSeq_For, ↓wSeq_While, ↓wiSeq_e, ↓wk_t, ↓wk_s, ↓wk_l, ↓wk_n, ↓wk_o, ↓wiRg1_e, ↓wiRg2_e, ↓wLRg2_e, ↓wLRg1_e, ↓wComp_e, ↓noMut_c, ↓noMut_n, ↓nm1_0, ↓nm1_int, ↓nm1_tup, ↓nm1_s, ↓nm1_v, ↓wYes_e, ↓wipeC_n, ↓wipeC_1, ↓wipeC_2, ↓wipeC_3, ↓cAll_b, ↓cAny_b, ↓oNe_int, ↓ns2_n, ↓oEq_mal, wIsi_e, okV_non, okV_bl, okV_int, okV_stR, okV_tup, okV_lst, ↓stP_v, ↓rtP_v, ↓aP1_v, ↓stOnce_v, ↓noSt_v, ↓oEq_int, ↓oIsi_int, ↓oIsi_bool, ↓oIsi_str, ↓oIsi_tuple, ↓oIsi_list, startP, ↓reduceIte, List.map_cons, List.map_nil, List.length_cons, List.length_nil, List.replicate, List.cons_append, List.nil_append, List.append_nil, true_and, and_true, implies_true, Bool.false_eq_true, Bool.not_true, Bool.not_false, Nat.reduceAdd, Nat.reduceSub, Nat.zero_add, Nat.reduceLT, Nat.reduceLeDiff, Int.reduceLT, Int.reduceLE, decide_eq_true_eq, Bool.true_and, Bool.and_true, Bool.false_and, Bool.and_false]
        exact hq
      | refused r =>
        refine ⟨false, ansM_R A hA, (fun z => nomatch z), fun _ => ⟨true, ansR_R A hA, fun _ => ⟨by rw [hρ]; decide, rfl, r, rfl, ?_⟩, (fun z => nomatch z)⟩⟩
        rw [hD]
        exact hq
    have told_ : ∀ p, o = .told p → stP p fun q => Q (.tup [.str "told", q]) := by
      intro p e
      subst e
      rw [stP_v (ho p rfl)]
      exact hq
    match args, n, hl, hn1, hn5 with
    | [a], _, rfl, _, _ =>
      have ha := hp a (by simp)
      simp only [w_z_law_told, wCallV_v hS, ha, ↓wVar_0, ↓wVar_s, ↓wC_e, ↓wOp_e, ↓oAdd_ii, ↓oAdd_ss, ↓oAdd_tt, ↓oAdd_ll_, ↓oAdd_ln_, ↓oAdd_lo_, ↓oAdd_nl_, ↓oAdd_nn_, ↓oAdd_no_, ↓oAdd_ol_, ↓oAdd_on_, ↓oAdd_oo_, ↓oSub_ii, ↓oMul_ii, ↓oMul_li, ↓oMul_ni, ↓oMul_oi, ↓oDiv_ii, ↓oMod_ii, ↓oLt_ii, ↓oLe_ii, ↓oGt_ii, ↓oGe_ii, ↓wNeg_e, ↓wT_e, ↓kB_b, ↓kI_i, ↓wAnd_e, ↓wOr_e, ↓wNot_e, ↓wAndV_e, ↓wOrV_e, ↓wNotV_e, ↓wIfE_e, ↓wChain_e, ↓wIsN_e, ↓wNotN_e, ↓wCall_e, ↓wCons_e, ↓wNil_e, ↓wTup_e, ↓wLst_e, ↓tP_0, ↓tP_1, ↓tP_2, ↓tP_3, ↓tP_4, ↓tP_5, ↓tP_6, ↓tP_7, ↓tP_8, ↓lP_0, ↓lP_1, ↓lP_2, ↓lP_3, ↓lP_4, ↓lP_5, ↓lP_6, ↓lP_7, ↓lP_8, ↓stP_non, ↓rtP_non, ↓aP1_non, ↓stP_bl, ↓rtP_bl, ↓aP1_bl, ↓isN_bl, ↓stP_int, ↓rtP_int, ↓aP1_int, ↓isN_int, ↓stP_str, ↓rtP_str, ↓aP1_str, ↓isN_str, ↓stP_adr, ↓rtP_adr, ↓aP1_adr, ↓isN_adr, ↓stP_tup, ↓rtP_tup, ↓aP1_tup, ↓isN_tup, ↓stP_lst, ↓rtP_lst, ↓aP1_lst, ↓isN_lst, ↓stP_scr, ↓rtP_scr, ↓aP1_scr, ↓isN_scr, ↓stP_obj, ↓rtP_obj, ↓aP1_obj, ↓isN_obj, ↓stP_dk, ↓rtP_dk, ↓aP1_dk, ↓isN_dk, ↓isN_non, ↓stP_nlst, ↓rtP_nlst, ↓rtP_olst, ↓aP1_nlst, ↓stP_ndk, ↓rtP_ndk, ↓rtP_odk, ↓aP1_ndk, ↓aP1_st, ↓nwP_n, ↓oFn_1, ↓oFn_2, ↓oFn_3, ↓oFn_4, ↓oFn_5, ↓oFn_6, ↓sto_non, ↓nst_non, ↓sto_bl, ↓nst_bl, ↓sto_int, ↓nst_int, ↓sto_str, ↓nst_str, ↓sto_adr, ↓nst_adr, ↓sto_tup, ↓nst_tup, ↓sto_lst, ↓nst_lst, ↓sto_scr, ↓nst_scr, ↓sto_obj, ↓nst_obj, ↓sto_dk, ↓nst_dk, ↓sto_st, ↓sto_nil, ↓nst_nil, ↓wIsi_e, ↓oIsi_int_non, ↓oIsi_int_bl, ↓oIsi_int_int, ↓oIsi_int_str, ↓oIsi_int_tup, ↓oIsi_int_lst, ↓oIsi_bool_non, ↓oIsi_bool_bl, ↓oIsi_bool_int, ↓oIsi_bool_str, ↓oIsi_bool_tup, ↓oIsi_bool_lst, ↓oIsi_str_non, ↓oIsi_str_bl, ↓oIsi_str_int, ↓oIsi_str_str, ↓oIsi_str_tup, ↓oIsi_str_lst, ↓oIsi_tuple_non, ↓oIsi_tuple_bl, ↓oIsi_tuple_int, ↓oIsi_tuple_str, ↓oIsi_tuple_tup, ↓oIsi_tuple_lst, ↓oIsi_list_non, ↓oIsi_list_bl, ↓oIsi_list_int, ↓oIsi_list_str, ↓oIsi_list_tup, ↓oIsi_list_lst, ↓oIx_t, ↓cLen_t, ↓cTup_t, ↓cLst_t, ↓oIx_s, ↓cLen_s, ↓cTup_s, ↓cLst_s, ↓oIx_l, ↓cLen_l, ↓cTup_l, ↓cLst_l, ↓oIx_n, ↓cLen_n, ↓cTup_n, ↓cLst_n, ↓oIx_o, ↓cLen_o, ↓cTup_o, ↓cLst_o, ↓ixP_0, ↓ixP_1, ↓ixP_2, ↓ixP_3, ↓ixP_4, ↓ixP_5, ↓wSl_e, ↓wPn_e, ↓wPs_e, ↓oSl_t, ↓oSl_s, ↓oSl_l, ↓oSl_n, ↓oSl_o, ↓cAbs_i, ↓cInt_i, ↓cMin2_ii, ↓cMax2_ii, ↓wSeq_Set, ↓wSeq_If, ↓wSeq_Exp, ↓wSeq_Asg, ↓wSeq_Seq, ↓wSeq_Own, ↓wSeq_StS, ↓wSeq_App, ↓wSeq_Next, ↓wSeq_Ret, ↓wSeq_Rais, ↓wSeq_Par, ↓wSeq_Par3, ↓wSeq_St0, ↓wSeq_St1, ↓wSeq_Brk, ↓wSeq_Cnt, ↓wSeq_RetN, ↓wSeq_RaiF, ↓wSet_e, ↓wOwn_e, ↓sE_0, ↓sE_s, ↓wIf_e, ↓wRet_e, ↓wRetN_e, ↓wNext_e, ↓wBreak_e, ↓wCont_e, ↓wExpr_e, ↓wRaise_e, ↓wRaiseF_e, ↓wAsg_e, ↓tgP_name, ↓tgP_tup, ↓tgPs_nil, ↓tgPs_cons, ↓wTry_e, ↓wPar_ff, ↓noSt_0n, ↓noSt_0non, ↓noSt_0bl, ↓noSt_0int, ↓noSt_0str, ↓noSt_0tup, ↓noSt_0lst, ↓noSt_0ol, ↓noSt_s, ↓sSt0, ↓sSt1, ↓sSt0S, ↓sSt1S, ↓wOwnS_e, ↓fnE_nx, ↓fnE_rt, ↓fnE_ex, ↓wFor_e, ↓wSeq_For, ↓wSeq_While, ↓wiSeq_e, ↓wk_t, ↓wk_s, ↓wk_l, ↓wk_n, ↓wk_o, ↓wiRg1_e, ↓wiRg2_e, ↓wLRg2_e, ↓wLRg1_e, ↓wComp_e, ↓noMut_c, ↓noMut_n, ↓nm1_0, ↓nm1_int, ↓nm1_tup, ↓nm1_s, ↓nm1_v, ↓wYes_e, ↓wipeC_n, ↓wipeC_1, ↓wipeC_2, ↓wipeC_3, ↓cAll_b, ↓cAny_b, ↓oNe_int, ↓ns2_n, ↓oEq_mal, wIsi_e, okV_non, okV_bl, okV_int, okV_stR, okV_tup, okV_lst, ↓stP_v, ↓rtP_v, ↓aP1_v, ↓stOnce_v, ↓noSt_v, ↓oEq_int, ↓oIsi_int, ↓oIsi_bool, ↓oIsi_str, ↓oIsi_tuple, ↓oIsi_list, startP, ↓reduceIte, List.map_cons, List.map_nil, List.length_cons, List.length_nil, List.replicate, List.cons_append, List.nil_append, List.append_nil, true_and, and_true, implies_true, Bool.false_eq_true, Bool.not_true, Bool.not_false, Nat.reduceAdd, Nat.reduceSub, Nat.zero_add, Nat.reduceLT, Nat.reduceLeDiff, Int.reduceLT, Int.reduceLE, decide_eq_true_eq, Bool.true_and, Bool.and_true, Bool.false_and, Bool.and_false]
      exact hk _ _ (end_ wNext _ _ _ rfl rfl told_)
    | [a, b], _, rfl, _, _ =>
      have ha := hp a (by simp)
      have hb := hp b (by simp)
      simp only [w_z_law_told, wCallV_v hS, ha, hb, ↓wVar_0, ↓wVar_s, ↓wC_e, ↓wOp_e, ↓oAdd_ii, ↓oAdd_ss, ↓oAdd_tt, ↓oAdd_ll_, ↓oAdd_ln_, ↓oAdd_lo_, ↓oAdd_nl_, ↓oAdd_nn_, ↓oAdd_no_, ↓oAdd_ol_, ↓oAdd_on_, ↓oAdd_oo_, ↓oSub_ii, ↓oMul_ii, ↓oMul_li, ↓oMul_ni, ↓oMul_oi, ↓oDiv_ii, ↓oMod_ii, ↓oLt_ii, ↓oLe_ii, ↓oGt_ii, ↓oGe_ii, ↓wNeg_e, ↓wT_e, ↓kB_b, ↓kI_i, ↓wAnd_e, ↓wOr_e, ↓wNot_e, ↓wAndV_e, ↓wOrV_e, ↓wNotV_e, ↓wIfE_e, ↓wChain_e, ↓wIsN_e, ↓wNotN_e, ↓wCall_e, ↓wCons_e, ↓wNil_e, ↓wTup_e, ↓wLst_e, ↓tP_0, ↓tP_1, ↓tP_2, ↓tP_3, ↓tP_4, ↓tP_5, ↓tP_6, ↓tP_7, ↓tP_8, ↓lP_0, ↓lP_1, ↓lP_2, ↓lP_3, ↓lP_4, ↓lP_5, ↓lP_6, ↓lP_7, ↓lP_8, ↓stP_non, ↓rtP_non, ↓aP1_non, ↓stP_bl, ↓rtP_bl, ↓aP1_bl, ↓isN_bl, ↓stP_int, ↓rtP_int, ↓aP1_int, ↓isN_int, ↓stP_str, ↓rtP_str, ↓aP1_str, ↓isN_str, ↓stP_adr, ↓rtP_adr, ↓aP1_adr, ↓isN_adr, ↓stP_tup, ↓rtP_tup, ↓aP1_tup, ↓isN_tup, ↓stP_lst, ↓rtP_lst, ↓aP1_lst, ↓isN_lst, ↓stP_scr, ↓rtP_scr, ↓aP1_scr, ↓isN_scr, ↓stP_obj, ↓rtP_obj, ↓aP1_obj, ↓isN_obj, ↓stP_dk, ↓rtP_dk, ↓aP1_dk, ↓isN_dk, ↓isN_non, ↓stP_nlst, ↓rtP_nlst, ↓rtP_olst, ↓aP1_nlst, ↓stP_ndk, ↓rtP_ndk, ↓rtP_odk, ↓aP1_ndk, ↓aP1_st, ↓nwP_n, ↓oFn_1, ↓oFn_2, ↓oFn_3, ↓oFn_4, ↓oFn_5, ↓oFn_6, ↓sto_non, ↓nst_non, ↓sto_bl, ↓nst_bl, ↓sto_int, ↓nst_int, ↓sto_str, ↓nst_str, ↓sto_adr, ↓nst_adr, ↓sto_tup, ↓nst_tup, ↓sto_lst, ↓nst_lst, ↓sto_scr, ↓nst_scr, ↓sto_obj, ↓nst_obj, ↓sto_dk, ↓nst_dk, ↓sto_st, ↓sto_nil, ↓nst_nil, ↓wIsi_e, ↓oIsi_int_non, ↓oIsi_int_bl, ↓oIsi_int_int, ↓oIsi_int_str, ↓oIsi_int_tup, ↓oIsi_int_lst, ↓oIsi_bool_non, ↓oIsi_bool_bl, ↓oIsi_bool_int, ↓oIsi_bool_str, ↓oIsi_bool_tup, ↓oIsi_bool_lst, ↓oIsi_str_non, ↓oIsi_str_bl, ↓oIsi_str_int, ↓oIsi_str_str, ↓oIsi_str_tup, ↓oIsi_str_lst, ↓oIsi_tuple_non, ↓oIsi_tuple_bl, ↓oIsi_tuple_int, ↓oIsi_tuple_str, ↓oIsi_tuple_tup, ↓oIsi_tuple_lst, ↓oIsi_list_non, ↓oIsi_list_bl, ↓oIsi_list_int, ↓oIsi_list_str, ↓oIsi_list_tup, ↓oIsi_list_lst, ↓oIx_t, ↓cLen_t, ↓cTup_t, ↓cLst_t, ↓oIx_s, ↓cLen_s, ↓cTup_s, ↓cLst_s, ↓oIx_l, ↓cLen_l, ↓cTup_l, ↓cLst_l, ↓oIx_n, ↓cLen_n, ↓cTup_n, ↓cLst_n, ↓oIx_o, ↓cLen_o, ↓cTup_o, ↓cLst_o, ↓ixP_0, ↓ixP_1, ↓ixP_2, ↓ixP_3, ↓ixP_4, ↓ixP_5, ↓wSl_e, ↓wPn_e, ↓wPs_e, ↓oSl_t, ↓oSl_s, ↓oSl_l, ↓oSl_n, ↓oSl_o, ↓cAbs_i, ↓cInt_i, ↓cMin2_ii, ↓cMax2_ii, ↓wSeq_Set, ↓wSeq_If, ↓wSeq_Exp, ↓wSeq_Asg, ↓wSeq_Seq, ↓wSeq_Own, ↓wSeq_StS, ↓wSeq_App, ↓wSeq_Next, ↓wSeq_Ret, ↓wSeq_Rais, ↓wSeq_Par, ↓wSeq_Par3, ↓wSeq_St0, ↓wSeq_St1, ↓wSeq_Brk, ↓wSeq_Cnt, ↓wSeq_RetN, ↓wSeq_RaiF, ↓wSet_e, ↓wOwn_e, ↓sE_0, ↓sE_s, ↓wIf_e, ↓wRet_e, ↓wRetN_e, ↓wNext_e, ↓wBreak_e, ↓wCont_e, ↓wExpr_e, ↓wRaise_e, ↓wRaiseF_e, ↓wAsg_e, ↓tgP_name, ↓tgP_tup, ↓tgPs_nil, ↓tgPs_cons, ↓wTry_e, ↓wPar_ff, ↓noSt_0n, ↓noSt_0non, ↓noSt_0bl, ↓noSt_0int, ↓noSt_0str, ↓noSt_0tup, ↓noSt_0lst, ↓noSt_0ol, ↓noSt_s, ↓sSt0, ↓sSt1, ↓sSt0S, ↓sSt1S, ↓wOwnS_e, ↓fnE_nx, ↓fnE_rt, ↓fnE_ex, ↓wFor_e, ↓wSeq_For, ↓wSeq_While, ↓wiSeq_e, ↓wk_t, ↓wk_s, ↓wk_l, ↓wk_n, ↓wk_o, ↓wiRg1_e, ↓wiRg2_e, ↓wLRg2_e, ↓wLRg1_e, ↓wComp_e, ↓noMut_c, ↓noMut_n, ↓nm1_0, ↓nm1_int, ↓nm1_tup, ↓nm1_s, ↓nm1_v, ↓wYes_e, ↓wipeC_n, ↓wipeC_1, ↓wipeC_2, ↓wipeC_3, ↓cAll_b, ↓cAny_b, ↓oNe_int, ↓ns2_n, ↓oEq_mal, wIsi_e, okV_non, okV_bl, okV_int, okV_stR, okV_tup, okV_lst, ↓stP_v, ↓rtP_v, ↓aP1_v, ↓stOnce_v, ↓noSt_v, ↓oEq_int, ↓oIsi_int, ↓oIsi_bool, ↓oIsi_str, ↓oIsi_tuple, ↓oIsi_list, startP, ↓reduceIte, List.map_cons, List.map_nil, List.length_cons, List.length_nil, List.replicate, List.cons_append, List.nil_append, List.append_nil, true_and, and_true, implies_true, Bool.false_eq_true, Bool.not_true, Bool.not_false, Nat.reduceAdd, Nat.reduceSub, Nat.zero_add, Nat.reduceLT, Nat.reduceLeDiff, Int.reduceLT, Int.reduceLE, decide_eq_true_eq, Bool.true_and, Bool.and_true, Bool.false_and, Bool.and_false]
      exact hk _ _ (end_ wNext _ _ _ rfl rfl told_)
    | [a, b, c], _, rfl, _, _ =>
      have ha := hp a (by simp)
      have hb := hp b (by simp)
      have hc := hp c (by simp)
      simp only [w_z_law_told, wCallV_v hS, ha, hb, hc, ↓wVar_0, ↓wVar_s, ↓wC_e, ↓wOp_e, ↓oAdd_ii, ↓oAdd_ss, ↓oAdd_tt, ↓oAdd_ll_, ↓oAdd_ln_, ↓oAdd_lo_, ↓oAdd_nl_, ↓oAdd_nn_, ↓oAdd_no_, ↓oAdd_ol_, ↓oAdd_on_, ↓oAdd_oo_, ↓oSub_ii, ↓oMul_ii, ↓oMul_li, ↓oMul_ni, ↓oMul_oi, ↓oDiv_ii, ↓oMod_ii, ↓oLt_ii, ↓oLe_ii, ↓oGt_ii, ↓oGe_ii, ↓wNeg_e, ↓wT_e, ↓kB_b, ↓kI_i, ↓wAnd_e, ↓wOr_e, ↓wNot_e, ↓wAndV_e, ↓wOrV_e, ↓wNotV_e, ↓wIfE_e, ↓wChain_e, ↓wIsN_e, ↓wNotN_e, ↓wCall_e, ↓wCons_e, ↓wNil_e, ↓wTup_e, ↓wLst_e, ↓tP_0, ↓tP_1, ↓tP_2, ↓tP_3, ↓tP_4, ↓tP_5, ↓tP_6, ↓tP_7, ↓tP_8, ↓lP_0, ↓lP_1, ↓lP_2, ↓lP_3, ↓lP_4, ↓lP_5, ↓lP_6, ↓lP_7, ↓lP_8, ↓stP_non, ↓rtP_non, ↓aP1_non, ↓stP_bl, ↓rtP_bl, ↓aP1_bl, ↓isN_bl, ↓stP_int, ↓rtP_int, ↓aP1_int, ↓isN_int, ↓stP_str, ↓rtP_str, ↓aP1_str, ↓isN_str, ↓stP_adr, ↓rtP_adr, ↓aP1_adr, ↓isN_adr, ↓stP_tup, ↓rtP_tup, ↓aP1_tup, ↓isN_tup, ↓stP_lst, ↓rtP_lst, ↓aP1_lst, ↓isN_lst, ↓stP_scr, ↓rtP_scr, ↓aP1_scr, ↓isN_scr, ↓stP_obj, ↓rtP_obj, ↓aP1_obj, ↓isN_obj, ↓stP_dk, ↓rtP_dk, ↓aP1_dk, ↓isN_dk, ↓isN_non, ↓stP_nlst, ↓rtP_nlst, ↓rtP_olst, ↓aP1_nlst, ↓stP_ndk, ↓rtP_ndk, ↓rtP_odk, ↓aP1_ndk, ↓aP1_st, ↓nwP_n, ↓oFn_1, ↓oFn_2, ↓oFn_3, ↓oFn_4, ↓oFn_5, ↓oFn_6, ↓sto_non, ↓nst_non, ↓sto_bl, ↓nst_bl, ↓sto_int, ↓nst_int, ↓sto_str, ↓nst_str, ↓sto_adr, ↓nst_adr, ↓sto_tup, ↓nst_tup, ↓sto_lst, ↓nst_lst, ↓sto_scr, ↓nst_scr, ↓sto_obj, ↓nst_obj, ↓sto_dk, ↓nst_dk, ↓sto_st, ↓sto_nil, ↓nst_nil, ↓wIsi_e, ↓oIsi_int_non, ↓oIsi_int_bl, ↓oIsi_int_int, ↓oIsi_int_str, ↓oIsi_int_tup, ↓oIsi_int_lst, ↓oIsi_bool_non, ↓oIsi_bool_bl, ↓oIsi_bool_int, ↓oIsi_bool_str, ↓oIsi_bool_tup, ↓oIsi_bool_lst, ↓oIsi_str_non, ↓oIsi_str_bl, ↓oIsi_str_int, ↓oIsi_str_str, ↓oIsi_str_tup, ↓oIsi_str_lst, ↓oIsi_tuple_non, ↓oIsi_tuple_bl, ↓oIsi_tuple_int, ↓oIsi_tuple_str, ↓oIsi_tuple_tup, ↓oIsi_tuple_lst, ↓oIsi_list_non, ↓oIsi_list_bl, ↓oIsi_list_int, ↓oIsi_list_str, ↓oIsi_list_tup, ↓oIsi_list_lst, ↓oIx_t, ↓cLen_t, ↓cTup_t, ↓cLst_t, ↓oIx_s, ↓cLen_s, ↓cTup_s, ↓cLst_s, ↓oIx_l, ↓cLen_l, ↓cTup_l, ↓cLst_l, ↓oIx_n, ↓cLen_n, ↓cTup_n, ↓cLst_n, ↓oIx_o, ↓cLen_o, ↓cTup_o, ↓cLst_o, ↓ixP_0, ↓ixP_1, ↓ixP_2, ↓ixP_3, ↓ixP_4, ↓ixP_5, ↓wSl_e, ↓wPn_e, ↓wPs_e, ↓oSl_t, ↓oSl_s, ↓oSl_l, ↓oSl_n, ↓oSl_o, ↓cAbs_i, ↓cInt_i, ↓cMin2_ii, ↓cMax2_ii, ↓wSeq_Set, ↓wSeq_If, ↓wSeq_Exp, ↓wSeq_Asg, ↓wSeq_Seq, ↓wSeq_Own, ↓wSeq_StS, ↓wSeq_App, ↓wSeq_Next, ↓wSeq_Ret, ↓wSeq_Rais, ↓wSeq_Par, ↓wSeq_Par3, ↓wSeq_St0, ↓wSeq_St1, ↓wSeq_Brk, ↓wSeq_Cnt, ↓wSeq_RetN, ↓wSeq_RaiF, ↓wSet_e, ↓wOwn_e, ↓sE_0, ↓sE_s, ↓wIf_e, ↓wRet_e, ↓wRetN_e, ↓wNext_e, ↓wBreak_e, ↓wCont_e, ↓wExpr_e, ↓wRaise_e, ↓wRaiseF_e, ↓wAsg_e, ↓tgP_name, ↓tgP_tup, ↓tgPs_nil, ↓tgPs_cons, ↓wTry_e, ↓wPar_ff, ↓noSt_0n, ↓noSt_0non, ↓noSt_0bl, ↓noSt_0int, ↓noSt_0str, ↓noSt_0tup, ↓noSt_0lst, ↓noSt_0ol, ↓noSt_s, ↓sSt0, ↓sSt1, ↓sSt0S, ↓sSt1S, ↓wOwnS_e, ↓fnE_nx, ↓fnE_rt, ↓fnE_ex, ↓wFor_e, ↓wSeq_For, ↓wSeq_While, ↓wiSeq_e, ↓wk_t, ↓wk_s, ↓wk_l, ↓wk_n, ↓wk_o, ↓wiRg1_e, ↓wiRg2_e, ↓wLRg2_e, ↓wLRg1_e, ↓wComp_e, ↓noMut_c, ↓noMut_n, ↓nm1_0, ↓nm1_int, ↓nm1_tup, ↓nm1_s, ↓nm1_v, ↓wYes_e, ↓wipeC_n, ↓wipeC_1, ↓wipeC_2, ↓wipeC_3, ↓cAll_b, ↓cAny_b, ↓oNe_int, ↓ns2_n, ↓oEq_mal, wIsi_e, okV_non, okV_bl, okV_int, okV_stR, okV_tup, okV_lst, ↓stP_v, ↓rtP_v, ↓aP1_v, ↓stOnce_v, ↓noSt_v, ↓oEq_int, ↓oIsi_int, ↓oIsi_bool, ↓oIsi_str, ↓oIsi_tuple, ↓oIsi_list, startP, ↓reduceIte, List.map_cons, List.map_nil, List.length_cons, List.length_nil, List.replicate, List.cons_append, List.nil_append, List.append_nil, true_and, and_true, implies_true, Bool.false_eq_true, Bool.not_true, Bool.not_false, Nat.reduceAdd, Nat.reduceSub, Nat.zero_add, Nat.reduceLT, Nat.reduceLeDiff, Int.reduceLT, Int.reduceLE, decide_eq_true_eq, Bool.true_and, Bool.and_true, Bool.false_and, Bool.and_false]
      exact hk _ _ (end_ wNext _ _ _ rfl rfl told_)
    | [a, b, c, d], _, rfl, _, _ =>
      have ha := hp a (by simp)
      have hb := hp b (by simp)
      have hc := hp c (by simp)
      have hd := hp d (by simp)
      simp only [w_z_law_told, wCallV_v hS, ha, hb, hc, hd, ↓wVar_0, ↓wVar_s, ↓wC_e, ↓wOp_e, ↓oAdd_ii, ↓oAdd_ss, ↓oAdd_tt, ↓oAdd_ll_, ↓oAdd_ln_, ↓oAdd_lo_, ↓oAdd_nl_, ↓oAdd_nn_, ↓oAdd_no_, ↓oAdd_ol_, ↓oAdd_on_, ↓oAdd_oo_, ↓oSub_ii, ↓oMul_ii, ↓oMul_li, ↓oMul_ni, ↓oMul_oi, ↓oDiv_ii, ↓oMod_ii, ↓oLt_ii, ↓oLe_ii, ↓oGt_ii, ↓oGe_ii, ↓wNeg_e, ↓wT_e, ↓kB_b, ↓kI_i, ↓wAnd_e, ↓wOr_e, ↓wNot_e, ↓wAndV_e, ↓wOrV_e, ↓wNotV_e, ↓wIfE_e, ↓wChain_e, ↓wIsN_e, ↓wNotN_e, ↓wCall_e, ↓wCons_e, ↓wNil_e, ↓wTup_e, ↓wLst_e, ↓tP_0, ↓tP_1, ↓tP_2, ↓tP_3, ↓tP_4, ↓tP_5, ↓tP_6, ↓tP_7, ↓tP_8, ↓lP_0, ↓lP_1, ↓lP_2, ↓lP_3, ↓lP_4, ↓lP_5, ↓lP_6, ↓lP_7, ↓lP_8, ↓stP_non, ↓rtP_non, ↓aP1_non, ↓stP_bl, ↓rtP_bl, ↓aP1_bl, ↓isN_bl, ↓stP_int, ↓rtP_int, ↓aP1_int, ↓isN_int, ↓stP_str, ↓rtP_str, ↓aP1_str, ↓isN_str, ↓stP_adr, ↓rtP_adr, ↓aP1_adr, ↓isN_adr, ↓stP_tup, ↓rtP_tup, ↓aP1_tup, ↓isN_tup, ↓stP_lst, ↓rtP_lst, ↓aP1_lst, ↓isN_lst, ↓stP_scr, ↓rtP_scr, ↓aP1_scr, ↓isN_scr, ↓stP_obj, ↓rtP_obj, ↓aP1_obj, ↓isN_obj, ↓stP_dk, ↓rtP_dk, ↓aP1_dk, ↓isN_dk, ↓isN_non, ↓stP_nlst, ↓rtP_nlst, ↓rtP_olst, ↓aP1_nlst, ↓stP_ndk, ↓rtP_ndk, ↓rtP_odk, ↓aP1_ndk, ↓aP1_st, ↓nwP_n, ↓oFn_1, ↓oFn_2, ↓oFn_3, ↓oFn_4, ↓oFn_5, ↓oFn_6, ↓sto_non, ↓nst_non, ↓sto_bl, ↓nst_bl, ↓sto_int, ↓nst_int, ↓sto_str, ↓nst_str, ↓sto_adr, ↓nst_adr, ↓sto_tup, ↓nst_tup, ↓sto_lst, ↓nst_lst, ↓sto_scr, ↓nst_scr, ↓sto_obj, ↓nst_obj, ↓sto_dk, ↓nst_dk, ↓sto_st, ↓sto_nil, ↓nst_nil, ↓wIsi_e, ↓oIsi_int_non, ↓oIsi_int_bl, ↓oIsi_int_int, ↓oIsi_int_str, ↓oIsi_int_tup, ↓oIsi_int_lst, ↓oIsi_bool_non, ↓oIsi_bool_bl, ↓oIsi_bool_int, ↓oIsi_bool_str, ↓oIsi_bool_tup, ↓oIsi_bool_lst, ↓oIsi_str_non, ↓oIsi_str_bl, ↓oIsi_str_int, ↓oIsi_str_str, ↓oIsi_str_tup, ↓oIsi_str_lst, ↓oIsi_tuple_non, ↓oIsi_tuple_bl, ↓oIsi_tuple_int, ↓oIsi_tuple_str, ↓oIsi_tuple_tup, ↓oIsi_tuple_lst, ↓oIsi_list_non, ↓oIsi_list_bl, ↓oIsi_list_int, ↓oIsi_list_str, ↓oIsi_list_tup, ↓oIsi_list_lst, ↓oIx_t, ↓cLen_t, ↓cTup_t, ↓cLst_t, ↓oIx_s, ↓cLen_s, ↓cTup_s, ↓cLst_s, ↓oIx_l, ↓cLen_l, ↓cTup_l, ↓cLst_l, ↓oIx_n, ↓cLen_n, ↓cTup_n, ↓cLst_n, ↓oIx_o, ↓cLen_o, ↓cTup_o, ↓cLst_o, ↓ixP_0, ↓ixP_1, ↓ixP_2, ↓ixP_3, ↓ixP_4, ↓ixP_5, ↓wSl_e, ↓wPn_e, ↓wPs_e, ↓oSl_t, ↓oSl_s, ↓oSl_l, ↓oSl_n, ↓oSl_o, ↓cAbs_i, ↓cInt_i, ↓cMin2_ii, ↓cMax2_ii, ↓wSeq_Set, ↓wSeq_If, ↓wSeq_Exp, ↓wSeq_Asg, ↓wSeq_Seq, ↓wSeq_Own, ↓wSeq_StS, ↓wSeq_App, ↓wSeq_Next, ↓wSeq_Ret, ↓wSeq_Rais, ↓wSeq_Par, ↓wSeq_Par3, ↓wSeq_St0, ↓wSeq_St1, ↓wSeq_Brk, ↓wSeq_Cnt, ↓wSeq_RetN, ↓wSeq_RaiF, ↓wSet_e, ↓wOwn_e, ↓sE_0, ↓sE_s, ↓wIf_e, ↓wRet_e, ↓wRetN_e, ↓wNext_e, ↓wBreak_e, ↓wCont_e, ↓wExpr_e, ↓wRaise_e, ↓wRaiseF_e, ↓wAsg_e, ↓tgP_name, ↓tgP_tup, ↓tgPs_nil, ↓tgPs_cons, ↓wTry_e, ↓wPar_ff, ↓noSt_0n, ↓noSt_0non, ↓noSt_0bl, ↓noSt_0int, ↓noSt_0str, ↓noSt_0tup, ↓noSt_0lst, ↓noSt_0ol, ↓noSt_s, ↓sSt0, ↓sSt1, ↓sSt0S, ↓sSt1S, ↓wOwnS_e, ↓fnE_nx, ↓fnE_rt, ↓fnE_ex, ↓wFor_e, ↓wSeq_For, ↓wSeq_While, ↓wiSeq_e, ↓wk_t, ↓wk_s, ↓wk_l, ↓wk_n, ↓wk_o, ↓wiRg1_e, ↓wiRg2_e, ↓wLRg2_e, ↓wLRg1_e, ↓wComp_e, ↓noMut_c, ↓noMut_n, ↓nm1_0, ↓nm1_int, ↓nm1_tup, ↓nm1_s, ↓nm1_v, ↓wYes_e, ↓wipeC_n, ↓wipeC_1, ↓wipeC_2, ↓wipeC_3, ↓cAll_b, ↓cAny_b, ↓oNe_int, ↓ns2_n, ↓oEq_mal, wIsi_e, okV_non, okV_bl, okV_int, okV_stR, okV_tup, okV_lst, ↓stP_v, ↓rtP_v, ↓aP1_v, ↓stOnce_v, ↓noSt_v, ↓oEq_int, ↓oIsi_int, ↓oIsi_bool, ↓oIsi_str, ↓oIsi_tuple, ↓oIsi_list, startP, ↓reduceIte, List.map_cons, List.map_nil, List.length_cons, List.length_nil, List.replicate, List.cons_append, List.nil_append, List.append_nil, true_and, and_true, implies_true, Bool.false_eq_true, Bool.not_true, Bool.not_false, Nat.reduceAdd, Nat.reduceSub, Nat.zero_add, Nat.reduceLT, Nat.reduceLeDiff, Int.reduceLT, Int.reduceLE, decide_eq_true_eq, Bool.true_and, Bool.and_true, Bool.false_and, Bool.and_false]
      exact hk _ _ (end_ wNext _ _ _ rfl rfl told_)
    | [a, b, c, d, e], _, rfl, _, _ =>
      have ha := hp a (by simp)
      have hb := hp b (by simp)
      have hc := hp c (by simp)
      have hd := hp d (by simp)
      have he := hp e (by simp)
      simp only [w_z_law_told, wCallV_v hS, ha, hb, hc, hd, he, ↓wVar_0, ↓wVar_s, ↓wC_e, ↓wOp_e, ↓oAdd_ii, ↓oAdd_ss, ↓oAdd_tt, ↓oAdd_ll_, ↓oAdd_ln_, ↓oAdd_lo_, ↓oAdd_nl_, ↓oAdd_nn_, ↓oAdd_no_, ↓oAdd_ol_, ↓oAdd_on_, ↓oAdd_oo_, ↓oSub_ii, ↓oMul_ii, ↓oMul_li, ↓oMul_ni, ↓oMul_oi, ↓oDiv_ii, ↓oMod_ii, ↓oLt_ii, ↓oLe_ii, ↓oGt_ii, ↓oGe_ii, ↓wNeg_e, ↓wT_e, ↓kB_b, ↓kI_i, ↓wAnd_e, ↓wOr_e, ↓wNot_e, ↓wAndV_e, ↓wOrV_e, ↓wNotV_e, ↓wIfE_e, ↓wChain_e, ↓wIsN_e, ↓wNotN_e, ↓wCall_e, ↓wCons_e, ↓wNil_e, ↓wTup_e, ↓wLst_e, ↓tP_0, ↓tP_1, ↓tP_2, ↓tP_3, ↓tP_4, ↓tP_5, ↓tP_6, ↓tP_7, ↓tP_8, ↓lP_0, ↓lP_1, ↓lP_2, ↓lP_3, ↓lP_4, ↓lP_5, ↓lP_6, ↓lP_7, ↓lP_8, ↓stP_non, ↓rtP_non, ↓aP1_non, ↓stP_bl, ↓rtP_bl, ↓aP1_bl, ↓isN_bl, ↓stP_int, ↓rtP_int, ↓aP1_int, ↓isN_int, ↓stP_str, ↓rtP_str, ↓aP1_str, ↓isN_str, ↓stP_adr, ↓rtP_adr, ↓aP1_adr, ↓isN_adr, ↓stP_tup, ↓rtP_tup, ↓aP1_tup, ↓isN_tup, ↓stP_lst, ↓rtP_lst, ↓aP1_lst, ↓isN_lst, ↓stP_scr, ↓rtP_scr, ↓aP1_scr, ↓isN_scr, ↓stP_obj, ↓rtP_obj, ↓aP1_obj, ↓isN_obj, ↓stP_dk, ↓rtP_dk, ↓aP1_dk, ↓isN_dk, ↓isN_non, ↓stP_nlst, ↓rtP_nlst, ↓rtP_olst, ↓aP1_nlst, ↓stP_ndk, ↓rtP_ndk, ↓rtP_odk, ↓aP1_ndk, ↓aP1_st, ↓nwP_n, ↓oFn_1, ↓oFn_2, ↓oFn_3, ↓oFn_4, ↓oFn_5, ↓oFn_6, ↓sto_non, ↓nst_non, ↓sto_bl, ↓nst_bl, ↓sto_int, ↓nst_int, ↓sto_str, ↓nst_str, ↓sto_adr, ↓nst_adr, ↓sto_tup, ↓nst_tup, ↓sto_lst, ↓nst_lst, ↓sto_scr, ↓nst_scr, ↓sto_obj, ↓nst_obj, ↓sto_dk, ↓nst_dk, ↓sto_st, ↓sto_nil, ↓nst_nil, ↓wIsi_e, ↓oIsi_int_non, ↓oIsi_int_bl, ↓oIsi_int_int, ↓oIsi_int_str, ↓oIsi_int_tup, ↓oIsi_int_lst, ↓oIsi_bool_non, ↓oIsi_bool_bl, ↓oIsi_bool_int, ↓oIsi_bool_str, ↓oIsi_bool_tup, ↓oIsi_bool_lst, ↓oIsi_str_non, ↓oIsi_str_bl, ↓oIsi_str_int, ↓oIsi_str_str, ↓oIsi_str_tup, ↓oIsi_str_lst, ↓oIsi_tuple_non, ↓oIsi_tuple_bl, ↓oIsi_tuple_int, ↓oIsi_tuple_str, ↓oIsi_tuple_tup, ↓oIsi_tuple_lst, ↓oIsi_list_non, ↓oIsi_list_bl, ↓oIsi_list_int, ↓oIsi_list_str, ↓oIsi_list_tup, ↓oIsi_list_lst, ↓oIx_t, ↓cLen_t, ↓cTup_t, ↓cLst_t, ↓oIx_s, ↓cLen_s, ↓cTup_s, ↓cLst_s, ↓oIx_l, ↓cLen_l, ↓cTup_l, ↓cLst_l, ↓oIx_n, ↓cLen_n, ↓cTup_n, ↓cLst_n, ↓oIx_o, ↓cLen_o, ↓cTup_o, ↓cLst_o, ↓ixP_0, ↓ixP_1, ↓ixP_2, ↓ixP_3, ↓ixP_4, ↓ixP_5, ↓wSl_e, ↓wPn_e, ↓wPs_e, ↓oSl_t, ↓oSl_s, ↓oSl_l, ↓oSl_n, ↓oSl_o, ↓cAbs_i, ↓cInt_i, ↓cMin2_ii, ↓cMax2_ii, ↓wSeq_Set, ↓wSeq_If, ↓wSeq_Exp, ↓wSeq_Asg, ↓wSeq_Seq, ↓wSeq_Own, ↓wSeq_StS, ↓wSeq_App, ↓wSeq_Next, ↓wSeq_Ret, ↓wSeq_Rais, ↓wSeq_Par, ↓wSeq_Par3, ↓wSeq_St0, ↓wSeq_St1, ↓wSeq_Brk, ↓wSeq_Cnt, ↓wSeq_RetN, ↓wSeq_RaiF, ↓wSet_e, ↓wOwn_e, ↓sE_0, ↓sE_s, ↓wIf_e, ↓wRet_e, ↓wRetN_e, ↓wNext_e, ↓wBreak_e, ↓wCont_e, ↓wExpr_e, ↓wRaise_e, ↓wRaiseF_e, ↓wAsg_e, ↓tgP_name, ↓tgP_tup, ↓tgPs_nil, ↓tgPs_cons, ↓wTry_e, ↓wPar_ff, ↓noSt_0n, ↓noSt_0non, ↓noSt_0bl, ↓noSt_0int, ↓noSt_0str, ↓noSt_0tup, ↓noSt_0lst, ↓noSt_0ol, ↓noSt_s, ↓sSt0, ↓sSt1, ↓sSt0S, ↓sSt1S, ↓wOwnS_e, ↓fnE_nx, ↓fnE_rt, ↓fnE_ex, ↓wFor_e, ↓wSeq_For, ↓wSeq_While, ↓wiSeq_e, ↓wk_t, ↓wk_s, ↓wk_l, ↓wk_n, ↓wk_o, ↓wiRg1_e, ↓wiRg2_e, ↓wLRg2_e, ↓wLRg1_e, ↓wComp_e, ↓noMut_c, ↓noMut_n, ↓nm1_0, ↓nm1_int, ↓nm1_tup, ↓nm1_s, ↓nm1_v, ↓wYes_e, ↓wipeC_n, ↓wipeC_1, ↓wipeC_2, ↓wipeC_3, ↓cAll_b, ↓cAny_b, ↓oNe_int, ↓ns2_n, ↓oEq_mal, wIsi_e, okV_non, okV_bl, okV_int, okV_stR, okV_tup, okV_lst, ↓stP_v, ↓rtP_v, ↓aP1_v, ↓stOnce_v, ↓noSt_v, ↓oEq_int, ↓oIsi_int, ↓oIsi_bool, ↓oIsi_str, ↓oIsi_tuple, ↓oIsi_list, startP, ↓reduceIte, List.map_cons, List.map_nil, List.length_cons, List.length_nil, List.replicate, List.cons_append, List.nil_append, List.append_nil, true_and, and_true, implies_true, Bool.false_eq_true, Bool.not_true, Bool.not_false, Nat.reduceAdd, Nat.reduceSub, Nat.zero_add, Nat.reduceLT, Nat.reduceLeDiff, Int.reduceLT, Int.reduceLE, decide_eq_true_eq, Bool.true_and, Bool.and_true, Bool.false_and, Bool.and_false]
      exact hk _ _ (end_ wNext _ _ _ rfl rfl told_)
theorem p_z_law_all_malformed (A : Ad) (hA : A.Ok) : ∀ qs Q R, qs.length = 1 → fs_z_law_all_malformed A qs Q R → w_z_law_all_malformed A (fnEnds Q R) (startP 3 qs)
  | [.lst xs], Q, R, _, ⟨⟨hl, hx⟩, hq⟩ => by
    simp only [w_z_law_all_malformed, ↓wVar_0, ↓wVar_s, ↓wC_e, ↓wOp_e, ↓oAdd_ii, ↓oAdd_ss, ↓oAdd_tt, ↓oAdd_ll_, ↓oAdd_ln_, ↓oAdd_lo_, ↓oAdd_nl_, ↓oAdd_nn_, ↓oAdd_no_, ↓oAdd_ol_, ↓oAdd_on_, ↓oAdd_oo_, ↓oSub_ii, ↓oMul_ii, ↓oMul_li, ↓oMul_ni, ↓oMul_oi, ↓oDiv_ii, ↓oMod_ii, ↓oLt_ii, ↓oLe_ii, ↓oGt_ii, ↓oGe_ii, ↓wNeg_e, ↓wT_e, ↓kB_b, ↓kI_i, ↓wAnd_e, ↓wOr_e, ↓wNot_e, ↓wAndV_e, ↓wOrV_e, ↓wNotV_e, ↓wIfE_e, ↓wChain_e, ↓wIsN_e, ↓wNotN_e, ↓wCall_e, ↓wCons_e, ↓wNil_e, ↓wTup_e, ↓wLst_e, ↓tP_0, ↓tP_1, ↓tP_2, ↓tP_3, ↓tP_4, ↓tP_5, ↓tP_6, ↓tP_7, ↓tP_8, ↓lP_0, ↓lP_1, ↓lP_2, ↓lP_3, ↓lP_4, ↓lP_5, ↓lP_6, ↓lP_7, ↓lP_8, ↓stP_non, ↓rtP_non, ↓aP1_non, ↓stP_bl, ↓rtP_bl, ↓aP1_bl, ↓isN_bl, ↓stP_int, ↓rtP_int, ↓aP1_int, ↓isN_int, ↓stP_str, ↓rtP_str, ↓aP1_str, ↓isN_str, ↓stP_adr, ↓rtP_adr, ↓aP1_adr, ↓isN_adr, ↓stP_tup, ↓rtP_tup, ↓aP1_tup, ↓isN_tup, ↓stP_lst, ↓rtP_lst, ↓aP1_lst, ↓isN_lst, ↓stP_scr, ↓rtP_scr, ↓aP1_scr, ↓isN_scr, ↓stP_obj, ↓rtP_obj, ↓aP1_obj, ↓isN_obj, ↓stP_dk, ↓rtP_dk, ↓aP1_dk, ↓isN_dk, ↓isN_non, ↓stP_nlst, ↓rtP_nlst, ↓rtP_olst, ↓aP1_nlst, ↓stP_ndk, ↓rtP_ndk, ↓rtP_odk, ↓aP1_ndk, ↓aP1_st, ↓nwP_n, ↓oFn_1, ↓oFn_2, ↓oFn_3, ↓oFn_4, ↓oFn_5, ↓oFn_6, ↓sto_non, ↓nst_non, ↓sto_bl, ↓nst_bl, ↓sto_int, ↓nst_int, ↓sto_str, ↓nst_str, ↓sto_adr, ↓nst_adr, ↓sto_tup, ↓nst_tup, ↓sto_lst, ↓nst_lst, ↓sto_scr, ↓nst_scr, ↓sto_obj, ↓nst_obj, ↓sto_dk, ↓nst_dk, ↓sto_st, ↓sto_nil, ↓nst_nil, ↓wIsi_e, ↓oIsi_int_non, ↓oIsi_int_bl, ↓oIsi_int_int, ↓oIsi_int_str, ↓oIsi_int_tup, ↓oIsi_int_lst, ↓oIsi_bool_non, ↓oIsi_bool_bl, ↓oIsi_bool_int, ↓oIsi_bool_str, ↓oIsi_bool_tup, ↓oIsi_bool_lst, ↓oIsi_str_non, ↓oIsi_str_bl, ↓oIsi_str_int, ↓oIsi_str_str, ↓oIsi_str_tup, ↓oIsi_str_lst, ↓oIsi_tuple_non, ↓oIsi_tuple_bl, ↓oIsi_tuple_int, ↓oIsi_tuple_str, ↓oIsi_tuple_tup, ↓oIsi_tuple_lst, ↓oIsi_list_non, ↓oIsi_list_bl, ↓oIsi_list_int, ↓oIsi_list_str, ↓oIsi_list_tup, ↓oIsi_list_lst, ↓oIx_t, ↓cLen_t, ↓cTup_t, ↓cLst_t, ↓oIx_s, ↓cLen_s, ↓cTup_s, ↓cLst_s, ↓oIx_l, ↓cLen_l, ↓cTup_l, ↓cLst_l, ↓oIx_n, ↓cLen_n, ↓cTup_n, ↓cLst_n, ↓oIx_o, ↓cLen_o, ↓cTup_o, ↓cLst_o, ↓ixP_0, ↓ixP_1, ↓ixP_2, ↓ixP_3, ↓ixP_4, ↓ixP_5, ↓wSl_e, ↓wPn_e, ↓wPs_e, ↓oSl_t, ↓oSl_s, ↓oSl_l, ↓oSl_n, ↓oSl_o, ↓cAbs_i, ↓cInt_i, ↓cMin2_ii, ↓cMax2_ii, ↓wSeq_Set, ↓wSeq_If, ↓wSeq_Exp, ↓wSeq_Asg, ↓wSeq_Seq, ↓wSeq_Own, ↓wSeq_StS, ↓wSeq_App, ↓wSeq_Next, ↓wSeq_Ret, ↓wSeq_Rais, ↓wSeq_Par, ↓wSeq_Par3, ↓wSeq_St0, ↓wSeq_St1, ↓wSeq_Brk, ↓wSeq_Cnt, ↓wSeq_RetN, ↓wSeq_RaiF, ↓wSet_e, ↓wOwn_e, ↓sE_0, ↓sE_s, ↓wIf_e, ↓wRet_e, ↓wRetN_e, ↓wNext_e, ↓wBreak_e, ↓wCont_e, ↓wExpr_e, ↓wRaise_e, ↓wRaiseF_e, ↓wAsg_e, ↓tgP_name, ↓tgP_tup, ↓tgPs_nil, ↓tgPs_cons, ↓wTry_e, ↓wPar_ff, ↓noSt_0n, ↓noSt_0non, ↓noSt_0bl, ↓noSt_0int, ↓noSt_0str, ↓noSt_0tup, ↓noSt_0lst, ↓noSt_0ol, ↓noSt_s, ↓sSt0, ↓sSt1, ↓sSt0S, ↓sSt1S, ↓wOwnS_e, ↓fnE_nx, ↓fnE_rt, ↓fnE_ex, ↓wFor_e, ↓wSeq_For, ↓wSeq_While, ↓wiSeq_e, ↓wk_t, ↓wk_s, ↓wk_l, ↓wk_n, ↓wk_o, ↓wiRg1_e, ↓wiRg2_e, ↓wLRg2_e, ↓wLRg1_e, ↓wComp_e, ↓noMut_c, ↓noMut_n, ↓nm1_0, ↓nm1_int, ↓nm1_tup, ↓nm1_s, ↓nm1_v, ↓wYes_e, ↓wipeC_n, ↓wipeC_1, ↓wipeC_2, ↓wipeC_3, ↓cAll_b, ↓cAny_b, ↓oNe_int, ↓ns2_n, ↓oEq_mal, wIsi_e, okV_non, okV_bl, okV_int, okV_stR, okV_tup, okV_lst, ↓stP_v, ↓rtP_v, ↓aP1_v, ↓stOnce_v, ↓noSt_v, ↓oEq_int, ↓oIsi_int, ↓oIsi_bool, ↓oIsi_str, ↓oIsi_tuple, ↓oIsi_list, startP, ↓reduceIte, List.map_cons, List.map_nil, List.length_cons, List.length_nil, List.replicate, List.cons_append, List.nil_append, List.append_nil, true_and, and_true, implies_true, Bool.false_eq_true, Bool.not_true, Bool.not_false, Nat.reduceAdd, Nat.reduceSub, Nat.zero_add, Nat.reduceLT, Nat.reduceLeDiff, Int.reduceLT, Int.reduceLE, decide_eq_true_eq, Bool.true_and, Bool.and_true, Bool.false_and, Bool.and_false]
    refine comp_yes ((List.replicate xs.length true).map .bl) (by simp) (by rw [sizeLine_eq]; omega) (fun i p y hp hy => ?_) ?_
    · obtain ⟨f, args, rfl, ht⟩ := hx p (List.mem_of_getElem? hp)
      simp only [fs_z_law_told, ↓wVar_0, ↓wVar_s, ↓wC_e, ↓wOp_e, ↓oAdd_ii, ↓oAdd_ss, ↓oAdd_tt, ↓oAdd_ll_, ↓oAdd_ln_, ↓oAdd_lo_, ↓oAdd_nl_, ↓oAdd_nn_, ↓oAdd_no_, ↓oAdd_ol_, ↓oAdd_on_, ↓oAdd_oo_, ↓oSub_ii, ↓oMul_ii, ↓oMul_li, ↓oMul_ni, ↓oMul_oi, ↓oDiv_ii, ↓oMod_ii, ↓oLt_ii, ↓oLe_ii, ↓oGt_ii, ↓oGe_ii, ↓wNeg_e, ↓wT_e, ↓kB_b, ↓kI_i, ↓wAnd_e, ↓wOr_e, ↓wNot_e, ↓wAndV_e, ↓wOrV_e, ↓wNotV_e, ↓wIfE_e, ↓wChain_e, ↓wIsN_e, ↓wNotN_e, ↓wCall_e, ↓wCons_e, ↓wNil_e, ↓wTup_e, ↓wLst_e, ↓tP_0, ↓tP_1, ↓tP_2, ↓tP_3, ↓tP_4, ↓tP_5, ↓tP_6, ↓tP_7, ↓tP_8, ↓lP_0, ↓lP_1, ↓lP_2, ↓lP_3, ↓lP_4, ↓lP_5, ↓lP_6, ↓lP_7, ↓lP_8, ↓stP_non, ↓rtP_non, ↓aP1_non, ↓stP_bl, ↓rtP_bl, ↓aP1_bl, ↓isN_bl, ↓stP_int, ↓rtP_int, ↓aP1_int, ↓isN_int, ↓stP_str, ↓rtP_str, ↓aP1_str, ↓isN_str, ↓stP_adr, ↓rtP_adr, ↓aP1_adr, ↓isN_adr, ↓stP_tup, ↓rtP_tup, ↓aP1_tup, ↓isN_tup, ↓stP_lst, ↓rtP_lst, ↓aP1_lst, ↓isN_lst, ↓stP_scr, ↓rtP_scr, ↓aP1_scr, ↓isN_scr, ↓stP_obj, ↓rtP_obj, ↓aP1_obj, ↓isN_obj, ↓stP_dk, ↓rtP_dk, ↓aP1_dk, ↓isN_dk, ↓isN_non, ↓stP_nlst, ↓rtP_nlst, ↓rtP_olst, ↓aP1_nlst, ↓stP_ndk, ↓rtP_ndk, ↓rtP_odk, ↓aP1_ndk, ↓aP1_st, ↓nwP_n, ↓oFn_1, ↓oFn_2, ↓oFn_3, ↓oFn_4, ↓oFn_5, ↓oFn_6, ↓sto_non, ↓nst_non, ↓sto_bl, ↓nst_bl, ↓sto_int, ↓nst_int, ↓sto_str, ↓nst_str, ↓sto_adr, ↓nst_adr, ↓sto_tup, ↓nst_tup, ↓sto_lst, ↓nst_lst, ↓sto_scr, ↓nst_scr, ↓sto_obj, ↓nst_obj, ↓sto_dk, ↓nst_dk, ↓sto_st, ↓sto_nil, ↓nst_nil, ↓wIsi_e, ↓oIsi_int_non, ↓oIsi_int_bl, ↓oIsi_int_int, ↓oIsi_int_str, ↓oIsi_int_tup, ↓oIsi_int_lst, ↓oIsi_bool_non, ↓oIsi_bool_bl, ↓oIsi_bool_int, ↓oIsi_bool_str, ↓oIsi_bool_tup, ↓oIsi_bool_lst, ↓oIsi_str_non, ↓oIsi_str_bl, ↓oIsi_str_int, ↓oIsi_str_str, ↓oIsi_str_tup, ↓oIsi_str_lst, ↓oIsi_tuple_non, ↓oIsi_tuple_bl, ↓oIsi_tuple_int, ↓oIsi_tuple_str, ↓oIsi_tuple_tup, ↓oIsi_tuple_lst, ↓oIsi_list_non, ↓oIsi_list_bl, ↓oIsi_list_int, ↓oIsi_list_str, ↓oIsi_list_tup, ↓oIsi_list_lst, ↓oIx_t, ↓cLen_t, ↓cTup_t, ↓cLst_t, ↓oIx_s, ↓cLen_s, ↓cTup_s, ↓cLst_s, ↓oIx_l, ↓cLen_l, ↓cTup_l, ↓cLst_l, ↓oIx_n, ↓cLen_n, ↓cTup_n, ↓cLst_n, ↓oIx_o, ↓cLen_o, ↓cTup_o, ↓cLst_o, ↓ixP_0, ↓ixP_1, ↓ixP_2, ↓ixP_3, ↓ixP_4, ↓ixP_5, ↓wSl_e, ↓wPn_e, ↓wPs_e, ↓oSl_t, ↓oSl_s, ↓oSl_l, ↓oSl_n, ↓oSl_o, ↓cAbs_i, ↓cInt_i, ↓cMin2_ii, ↓cMax2_ii, ↓wSeq_Set, ↓wSeq_If, ↓wSeq_Exp, ↓wSeq_Asg, ↓wSeq_Seq, ↓wSeq_Own, ↓wSeq_StS, ↓wSeq_App, ↓wSeq_Next, ↓wSeq_Ret, ↓wSeq_Rais, ↓wSeq_Par, ↓wSeq_Par3, ↓wSeq_St0, ↓wSeq_St1, ↓wSeq_Brk, ↓wSeq_Cnt, ↓wSeq_RetN, ↓wSeq_RaiF, ↓wSet_e, ↓wOwn_e, ↓sE_0, ↓sE_s, ↓wIf_e, ↓wRet_e, ↓wRetN_e, ↓wNext_e, ↓wBreak_e, ↓wCont_e, ↓wExpr_e, ↓wRaise_e, ↓wRaiseF_e, ↓wAsg_e, ↓tgP_name, ↓tgP_tup, ↓tgPs_nil, ↓tgPs_cons, ↓wTry_e, ↓wPar_ff, ↓noSt_0n, ↓noSt_0non, ↓noSt_0bl, ↓noSt_0int, ↓noSt_0str, ↓noSt_0tup, ↓noSt_0lst, ↓noSt_0ol, ↓noSt_s, ↓sSt0, ↓sSt1, ↓sSt0S, ↓sSt1S, ↓wOwnS_e, ↓fnE_nx, ↓fnE_rt, ↓fnE_ex, ↓wFor_e, ↓wSeq_For, ↓wSeq_While, ↓wiSeq_e, ↓wk_t, ↓wk_s, ↓wk_l, ↓wk_n, ↓wk_o, ↓wiRg1_e, ↓wiRg2_e, ↓wLRg2_e, ↓wLRg1_e, ↓wComp_e, ↓noMut_c, ↓noMut_n, ↓nm1_0, ↓nm1_int, ↓nm1_tup, ↓nm1_s, ↓nm1_v, ↓wYes_e, ↓wipeC_n, ↓wipeC_1, ↓wipeC_2, ↓wipeC_3, ↓cAll_b, ↓cAny_b, ↓oNe_int, ↓ns2_n, ↓oEq_mal, wIsi_e, okV_non, okV_bl, okV_int, okV_stR, okV_tup, okV_lst, ↓stP_v, ↓rtP_v, ↓aP1_v, ↓stOnce_v, ↓noSt_v, ↓oEq_int, ↓oIsi_int, ↓oIsi_bool, ↓oIsi_str, ↓oIsi_tuple, ↓oIsi_list, startP, ↓reduceIte, List.map_cons, List.map_nil, List.length_cons, List.length_nil, List.replicate, List.cons_append, List.nil_append, List.append_nil, true_and, and_true, implies_true, Bool.false_eq_true, Bool.not_true, Bool.not_false, Nat.reduceAdd, Nat.reduceSub, Nat.zero_add, Nat.reduceLT, Nat.reduceLeDiff, Int.reduceLT, Int.reduceLE, decide_eq_true_eq, Bool.true_and, Bool.and_true, Bool.false_and, Bool.and_false]
      refine ⟨.mal, ht, ?_⟩
      rw [List.getElem?_map] at hy
      obtain ⟨b, hb, rfl⟩ := Option.map_eq_some_iff.mp hy
      rw [List.getElem?_replicate] at hb
      split at hb
      · cases hb
        simp only [outV, ↓wVar_0, ↓wVar_s, ↓wC_e, ↓wOp_e, ↓oAdd_ii, ↓oAdd_ss, ↓oAdd_tt, ↓oAdd_ll_, ↓oAdd_ln_, ↓oAdd_lo_, ↓oAdd_nl_, ↓oAdd_nn_, ↓oAdd_no_, ↓oAdd_ol_, ↓oAdd_on_, ↓oAdd_oo_, ↓oSub_ii, ↓oMul_ii, ↓oMul_li, ↓oMul_ni, ↓oMul_oi, ↓oDiv_ii, ↓oMod_ii, ↓oLt_ii, ↓oLe_ii, ↓oGt_ii, ↓oGe_ii, ↓wNeg_e, ↓wT_e, ↓kB_b, ↓kI_i, ↓wAnd_e, ↓wOr_e, ↓wNot_e, ↓wAndV_e, ↓wOrV_e, ↓wNotV_e, ↓wIfE_e, ↓wChain_e, ↓wIsN_e, ↓wNotN_e, ↓wCall_e, ↓wCons_e, ↓wNil_e, ↓wTup_e, ↓wLst_e, ↓tP_0, ↓tP_1, ↓tP_2, ↓tP_3, ↓tP_4, ↓tP_5, ↓tP_6, ↓tP_7, ↓tP_8, ↓lP_0, ↓lP_1, ↓lP_2, ↓lP_3, ↓lP_4, ↓lP_5, ↓lP_6, ↓lP_7, ↓lP_8, ↓stP_non, ↓rtP_non, ↓aP1_non, ↓stP_bl, ↓rtP_bl, ↓aP1_bl, ↓isN_bl, ↓stP_int, ↓rtP_int, ↓aP1_int, ↓isN_int, ↓stP_str, ↓rtP_str, ↓aP1_str, ↓isN_str, ↓stP_adr, ↓rtP_adr, ↓aP1_adr, ↓isN_adr, ↓stP_tup, ↓rtP_tup, ↓aP1_tup, ↓isN_tup, ↓stP_lst, ↓rtP_lst, ↓aP1_lst, ↓isN_lst, ↓stP_scr, ↓rtP_scr, ↓aP1_scr, ↓isN_scr, ↓stP_obj, ↓rtP_obj, ↓aP1_obj, ↓isN_obj, ↓stP_dk, ↓rtP_dk, ↓aP1_dk, ↓isN_dk, ↓isN_non, ↓stP_nlst, ↓rtP_nlst, ↓rtP_olst, ↓aP1_nlst, ↓stP_ndk, ↓rtP_ndk, ↓rtP_odk, ↓aP1_ndk, ↓aP1_st, ↓nwP_n, ↓oFn_1, ↓oFn_2, ↓oFn_3, ↓oFn_4, ↓oFn_5, ↓oFn_6, ↓sto_non, ↓nst_non, ↓sto_bl, ↓nst_bl, ↓sto_int, ↓nst_int, ↓sto_str, ↓nst_str, ↓sto_adr, ↓nst_adr, ↓sto_tup, ↓nst_tup, ↓sto_lst, ↓nst_lst, ↓sto_scr, ↓nst_scr, ↓sto_obj, ↓nst_obj, ↓sto_dk, ↓nst_dk, ↓sto_st, ↓sto_nil, ↓nst_nil, ↓wIsi_e, ↓oIsi_int_non, ↓oIsi_int_bl, ↓oIsi_int_int, ↓oIsi_int_str, ↓oIsi_int_tup, ↓oIsi_int_lst, ↓oIsi_bool_non, ↓oIsi_bool_bl, ↓oIsi_bool_int, ↓oIsi_bool_str, ↓oIsi_bool_tup, ↓oIsi_bool_lst, ↓oIsi_str_non, ↓oIsi_str_bl, ↓oIsi_str_int, ↓oIsi_str_str, ↓oIsi_str_tup, ↓oIsi_str_lst, ↓oIsi_tuple_non, ↓oIsi_tuple_bl, ↓oIsi_tuple_int, ↓oIsi_tuple_str, ↓oIsi_tuple_tup, ↓oIsi_tuple_lst, ↓oIsi_list_non, ↓oIsi_list_bl, ↓oIsi_list_int, ↓oIsi_list_str, ↓oIsi_list_tup, ↓oIsi_list_lst, ↓oIx_t, ↓cLen_t, ↓cTup_t, ↓cLst_t, ↓oIx_s, ↓cLen_s, ↓cTup_s, ↓cLst_s, ↓oIx_l, ↓cLen_l, ↓cTup_l, ↓cLst_l, ↓oIx_n, ↓cLen_n, ↓cTup_n, ↓cLst_n, ↓oIx_o, ↓cLen_o, ↓cTup_o, ↓cLst_o, ↓ixP_0, ↓ixP_1, ↓ixP_2, ↓ixP_3, ↓ixP_4, ↓ixP_5, ↓wSl_e, ↓wPn_e, ↓wPs_e, ↓oSl_t, ↓oSl_s, ↓oSl_l, ↓oSl_n, ↓oSl_o, ↓cAbs_i, ↓cInt_i, ↓cMin2_ii, ↓cMax2_ii, ↓wSeq_Set, ↓wSeq_If, ↓wSeq_Exp, ↓wSeq_Asg, ↓wSeq_Seq, ↓wSeq_Own, ↓wSeq_StS, ↓wSeq_App, ↓wSeq_Next, ↓wSeq_Ret, ↓wSeq_Rais, ↓wSeq_Par, ↓wSeq_Par3, ↓wSeq_St0, ↓wSeq_St1, ↓wSeq_Brk, ↓wSeq_Cnt, ↓wSeq_RetN, ↓wSeq_RaiF, ↓wSet_e, ↓wOwn_e, ↓sE_0, ↓sE_s, ↓wIf_e, ↓wRet_e, ↓wRetN_e, ↓wNext_e, ↓wBreak_e, ↓wCont_e, ↓wExpr_e, ↓wRaise_e, ↓wRaiseF_e, ↓wAsg_e, ↓tgP_name, ↓tgP_tup, ↓tgPs_nil, ↓tgPs_cons, ↓wTry_e, ↓wPar_ff, ↓noSt_0n, ↓noSt_0non, ↓noSt_0bl, ↓noSt_0int, ↓noSt_0str, ↓noSt_0tup, ↓noSt_0lst, ↓noSt_0ol, ↓noSt_s, ↓sSt0, ↓sSt1, ↓sSt0S, ↓sSt1S, ↓wOwnS_e, ↓fnE_nx, ↓fnE_rt, ↓fnE_ex, ↓wFor_e, ↓wSeq_For, ↓wSeq_While, ↓wiSeq_e, ↓wk_t, ↓wk_s, ↓wk_l, ↓wk_n, ↓wk_o, ↓wiRg1_e, ↓wiRg2_e, ↓wLRg2_e, ↓wLRg1_e, ↓wComp_e, ↓noMut_c, ↓noMut_n, ↓nm1_0, ↓nm1_int, ↓nm1_tup, ↓nm1_s, ↓nm1_v, ↓wYes_e, ↓wipeC_n, ↓wipeC_1, ↓wipeC_2, ↓wipeC_3, ↓cAll_b, ↓cAny_b, ↓oNe_int, ↓ns2_n, ↓oEq_mal, wIsi_e, okV_non, okV_bl, okV_int, okV_stR, okV_tup, okV_lst, ↓stP_v, ↓rtP_v, ↓aP1_v, ↓stOnce_v, ↓noSt_v, ↓oEq_int, ↓oIsi_int, ↓oIsi_bool, ↓oIsi_str, ↓oIsi_tuple, ↓oIsi_list, startP, ↓reduceIte, List.map_cons, List.map_nil, List.length_cons, List.length_nil, List.replicate, List.cons_append, List.nil_append, List.append_nil, true_and, and_true, implies_true, Bool.false_eq_true, Bool.not_true, Bool.not_false, Nat.reduceAdd, Nat.reduceSub, Nat.zero_add, Nat.reduceLT, Nat.reduceLeDiff, Int.reduceLT, Int.reduceLE, decide_eq_true_eq, Bool.true_and, Bool.and_true, Bool.false_and, Bool.and_false]
      · cases hb
    · simp only [↓wVar_0, ↓wVar_s, ↓wC_e, ↓wOp_e, ↓oAdd_ii, ↓oAdd_ss, ↓oAdd_tt, ↓oAdd_ll_, ↓oAdd_ln_, ↓oAdd_lo_, ↓oAdd_nl_, ↓oAdd_nn_, ↓oAdd_no_, ↓oAdd_ol_, ↓oAdd_on_, ↓oAdd_oo_, ↓oSub_ii, ↓oMul_ii, ↓oMul_li, ↓oMul_ni, ↓oMul_oi, ↓oDiv_ii, ↓oMod_ii, ↓oLt_ii, ↓oLe_ii, ↓oGt_ii, ↓oGe_ii, ↓wNeg_e, ↓wT_e, ↓kB_b, ↓kI_i, ↓wAnd_e, ↓wOr_e, ↓wNot_e, ↓wAndV_e, ↓wOrV_e, ↓wNotV_e, ↓wIfE_e, ↓wChain_e, ↓wIsN_e, ↓wNotN_e, ↓wCall_e, ↓wCons_e, ↓wNil_e, ↓wTup_e, ↓wLst_e, ↓tP_0, ↓tP_1, ↓tP_2, ↓tP_3, ↓tP_4, ↓tP_5, ↓tP_6, ↓tP_7, ↓tP_8, ↓lP_0, ↓lP_1, ↓lP_2, ↓lP_3, ↓lP_4, ↓lP_5, ↓lP_6, ↓lP_7, ↓lP_8, ↓stP_non, ↓rtP_non, ↓aP1_non, ↓stP_bl, ↓rtP_bl, ↓aP1_bl, ↓isN_bl, ↓stP_int, ↓rtP_int, ↓aP1_int, ↓isN_int, ↓stP_str, ↓rtP_str, ↓aP1_str, ↓isN_str, ↓stP_adr, ↓rtP_adr, ↓aP1_adr, ↓isN_adr, ↓stP_tup, ↓rtP_tup, ↓aP1_tup, ↓isN_tup, ↓stP_lst, ↓rtP_lst, ↓aP1_lst, ↓isN_lst, ↓stP_scr, ↓rtP_scr, ↓aP1_scr, ↓isN_scr, ↓stP_obj, ↓rtP_obj, ↓aP1_obj, ↓isN_obj, ↓stP_dk, ↓rtP_dk, ↓aP1_dk, ↓isN_dk, ↓isN_non, ↓stP_nlst, ↓rtP_nlst, ↓rtP_olst, ↓aP1_nlst, ↓stP_ndk, ↓rtP_ndk, ↓rtP_odk, ↓aP1_ndk, ↓aP1_st, ↓nwP_n, ↓oFn_1, ↓oFn_2, ↓oFn_3, ↓oFn_4, ↓oFn_5, ↓oFn_6, ↓sto_non, ↓nst_non, ↓sto_bl, ↓nst_bl, ↓sto_int, ↓nst_int, ↓sto_str, ↓nst_str, ↓sto_adr, ↓nst_adr, ↓sto_tup, ↓nst_tup, ↓sto_lst, ↓nst_lst, ↓sto_scr, ↓nst_scr, ↓sto_obj, ↓nst_obj, ↓sto_dk, ↓nst_dk, ↓sto_st, ↓sto_nil, ↓nst_nil, ↓wIsi_e, ↓oIsi_int_non, ↓oIsi_int_bl, ↓oIsi_int_int, ↓oIsi_int_str, ↓oIsi_int_tup, ↓oIsi_int_lst, ↓oIsi_bool_non, ↓oIsi_bool_bl, ↓oIsi_bool_int, ↓oIsi_bool_str, ↓oIsi_bool_tup, ↓oIsi_bool_lst, ↓oIsi_str_non, ↓oIsi_str_bl, ↓oIsi_str_int, ↓oIsi_str_str, ↓oIsi_str_tup, ↓oIsi_str_lst, ↓oIsi_tuple_non, ↓oIsi_tuple_bl, ↓oIsi_tuple_int, ↓oIsi_tuple_str, ↓oIsi_tuple_tup, ↓oIsi_tuple_lst, ↓oIsi_list_non, ↓oIsi_list_bl, ↓oIsi_list_int, ↓oIsi_list_str, ↓oIsi_list_tup, ↓oIsi_list_lst, ↓oIx_t, ↓cLen_t, ↓cTup_t, ↓cLst_t, ↓oIx_s, ↓cLen_s, ↓cTup_s, ↓cLst_s, ↓oIx_l, ↓cLen_l, ↓cTup_l, ↓cLst_l, ↓oIx_n, ↓cLen_n, ↓cTup_n, ↓cLst_n, ↓oIx_o, ↓cLen_o, ↓cTup_o, ↓cLst_o, ↓ixP_0, ↓ixP_1, ↓ixP_2, ↓ixP_3, ↓ixP_4, ↓ixP_5, ↓wSl_e, ↓wPn_e, ↓wPs_e, ↓oSl_t, ↓oSl_s, ↓oSl_l, ↓oSl_n, ↓oSl_o, ↓cAbs_i, ↓cInt_i, ↓cMin2_ii, ↓cMax2_ii, ↓wSeq_Set, ↓wSeq_If, ↓wSeq_Exp, ↓wSeq_Asg, ↓wSeq_Seq, ↓wSeq_Own, ↓wSeq_StS, ↓wSeq_App, ↓wSeq_Next, ↓wSeq_Ret, ↓wSeq_Rais, ↓wSeq_Par, ↓wSeq_Par3, ↓wSeq_St0, ↓wSeq_St1, ↓wSeq_Brk, ↓wSeq_Cnt, ↓wSeq_RetN, ↓wSeq_RaiF, ↓wSet_e, ↓wOwn_e, ↓sE_0, ↓sE_s, ↓wIf_e, ↓wRet_e, ↓wRetN_e, ↓wNext_e, ↓wBreak_e, ↓wCont_e, ↓wExpr_e, ↓wRaise_e, ↓wRaiseF_e, ↓wAsg_e, ↓tgP_name, ↓tgP_tup, ↓tgPs_nil, ↓tgPs_cons, ↓wTry_e, ↓wPar_ff, ↓noSt_0n, ↓noSt_0non, ↓noSt_0bl, ↓noSt_0int, ↓noSt_0str, ↓noSt_0tup, ↓noSt_0lst, ↓noSt_0ol, ↓noSt_s, ↓sSt0, ↓sSt1, ↓sSt0S, ↓sSt1S, ↓wOwnS_e, ↓fnE_nx, ↓fnE_rt, ↓fnE_ex, ↓wFor_e, ↓wSeq_For, ↓wSeq_While, ↓wiSeq_e, ↓wk_t, ↓wk_s, ↓wk_l, ↓wk_n, ↓wk_o, ↓wiRg1_e, ↓wiRg2_e, ↓wLRg2_e, ↓wLRg1_e, ↓wComp_e, ↓noMut_c, ↓noMut_n, ↓nm1_0, ↓nm1_int, ↓nm1_tup, ↓nm1_s, ↓nm1_v, ↓wYes_e, ↓wipeC_n, ↓wipeC_1, ↓wipeC_2, ↓wipeC_3, ↓cAll_b, ↓cAny_b, ↓oNe_int, ↓ns2_n, ↓oEq_mal, wIsi_e, okV_non, okV_bl, okV_int, okV_stR, okV_tup, okV_lst, ↓stP_v, ↓rtP_v, ↓aP1_v, ↓stOnce_v, ↓noSt_v, ↓oEq_int, ↓oIsi_int, ↓oIsi_bool, ↓oIsi_str, ↓oIsi_tuple, ↓oIsi_list, startP, ↓reduceIte, List.map_cons, List.map_nil, List.length_cons, List.length_nil, List.replicate, List.cons_append, List.nil_append, List.append_nil, true_and, and_true, implies_true, Bool.false_eq_true, Bool.not_true, Bool.not_false, Nat.reduceAdd, Nat.reduceSub, Nat.zero_add, Nat.reduceLT, Nat.reduceLeDiff, Int.reduceLT, Int.reduceLE, decide_eq_true_eq, Bool.true_and, Bool.and_true, Bool.false_and, Bool.and_false]
      have e : (List.replicate xs.length true).all id = true := by simp
      rw [e]
      exact hq
/-! ### the ring's mathematics -/
theorem jos_b {q : Int} : ∀ {n : Nat}, 1 ≤ n → 0 ≤ jos q n ∧ jos q n < n
  | n + 1, _ => by
    have h : (0 : Int) < (n : Int) + 1 := by omega
    exact ⟨Int.emod_nonneg _ (by omega), by
      have := Int.emod_lt_of_pos (jos q n + q) h
      show (jos q n + q) % ((n : Int) + 1) < ((n + 1 : Nat) : Int)
      omega⟩
def RInv (k n d : Int) : Prop := 1 ≤ d ∧ ∃ m : Nat, 1 ≤ m ∧ (m : Int) ≤ n ∧ d ≤ k * m ∧ jos k m = (k * m - d) % m ∧ (k - 1) * ((m : Int) - 1) < d
theorem rinv_0 {k n : Int} (hk : 2 ≤ k) (hn : 1 ≤ n) : RInv k n 1 := by
  refine ⟨by decide, 1, by decide, by omega, by omega, ?_, by omega⟩
  show (jos k 0 + k) % ((0 : Nat) + 1 : Int) = _
  simp
theorem adv {k n d : Int} (hk : 2 ≤ k) : ∀ (j m : Nat), (m : Int) + j = n → 1 ≤ m → d ≤ k * m → jos k m = (k * m - d) % m → (k - 1) * ((m : Int) - 1) < d →
    ∃ m : Nat, 1 ≤ m ∧ (m : Int) ≤ n ∧ d ≤ k * m ∧ jos k m = (k * m - d) % m ∧ (k - 1) * ((m : Int) - 1) < d ∧ ((m : Int) = n ∨ d ≤ (k - 1) * m)
  | 0, m, hj, h1, h2, h3, h4 => ⟨m, h1, by omega, h2, h3, h4, .inl (by omega)⟩
  | j + 1, m, hj, h1, h2, h3, h4 => by
    by_cases hd : d ≤ (k - 1) * m
    · exact ⟨m, h1, by omega, h2, h3, h4, .inr hd⟩
    · have e1 : (k - 1) * (m : Int) = k * m - m := by rw [Int.sub_mul]; omega
      have e0 : (k * m - d) % (m : Int) = k * m - d := Int.emod_eq_of_lt (by omega) (by omega)
      have e2 : k * ((m + 1 : Nat) : Int) = k * m + k := by rw [Int.natCast_add, Int.mul_add]; simp
      refine adv hk j (m + 1) (by push_cast; omega) (by omega) (by rw [e2]; omega) ?_ ?_
      · show (jos k m + k) % ((m : Int) + 1) = _
        rw [h3, e0, e2]
        have : k * (m : Int) - d + k = k * m + k - d := by omega
        rw [this]
        rfl
      · have : ((m + 1 : Nat) : Int) - 1 = m := by omega
        rw [this]
        omega
theorem rinv_max {k n d : Int} (hk : 2 ≤ k) (h : RInv k n d) : ∃ m : Nat, 1 ≤ m ∧ (m : Int) ≤ n ∧ d ≤ k * m ∧ jos k m = (k * m - d) % m ∧ (k - 1) * ((m : Int) - 1) < d ∧ ((m : Int) = n ∨ d ≤ (k - 1) * m) := by
  obtain ⟨h0, m, h1, h2, h3, h4, h5⟩ := h
  exact adv hk (n - m).toNat m (by omega) h1 h3 h4 h5
theorem rinv_end {k n d : Int} (hk : 2 ≤ k) (hn : 1 ≤ n) (h : RInv k n d) (hd : ¬ d ≤ (k - 1) * n) : k * n + 1 - d = J n k := by
  obtain ⟨m, h1, h2, h3, h4, h5, h6⟩ := rinv_max hk h
  have hm : (m : Int) = n := by
    rcases h6 with h6 | h6
    · exact h6
    · have : (k - 1) * (m : Int) ≤ (k - 1) * n := Int.mul_le_mul_of_nonneg_left h2 (by omega)
      omega
  have e1 : (k - 1) * n = k * n - n := by rw [Int.sub_mul]; omega
  have e2 : n.toNat = m := by omega
  unfold J
  rw [e2, h4, hm]
  rw [hm] at h3
  rw [Int.emod_eq_of_lt (by omega) (by omega)]
  omega
theorem rinv_step {k n d : Int} (hk : 2 ≤ k) (hn : 1 ≤ n) (h : RInv k n d) (hd : d ≤ (k - 1) * n) : RInv k n (-(-k * d).fdiv (k - 1)) ∧ d < -(-k * d).fdiv (k - 1) := by
  have h0 := h.1
  obtain ⟨m, h1, h2, h3, h4, h5, h6⟩ := rinv_max hk h
  have hm : d ≤ (k - 1) * m := by
    rcases h6 with h6 | h6
    · rw [h6]; exact hd
    · exact h6
  have e : (-k * d).fdiv (k - 1) = -(d + m) := by
    rw [fdiv_e (by omega)]
    have f1 : (k - 1) * (-(d + (m : Int))) = -(k - 1) * d - (k - 1) * m := by rw [Int.mul_neg, Int.mul_add, Int.neg_mul]; omega
    have f2 : -k * d = -(k - 1) * d - d := by rw [Int.neg_mul, Int.neg_mul, Int.sub_mul]; omega
    have f3 : (k - 1) * ((m : Int) - 1) = (k - 1) * m - (k - 1) := by rw [Int.mul_sub]; omega
    exact ediv_of (by omega) (by omega) (by omega)
  rw [e, Int.neg_neg]
  refine ⟨⟨by omega, m, h1, h2, ?_, ?_, by omega⟩, by omega⟩
  · have e1 : (k - 1) * (m : Int) = k * m - m := by rw [Int.sub_mul]; omega
    omega
  · rw [h4]
    have : k * (m : Int) - d = (k * m - (d + m)) + m * 1 := by omega
    rw [this, Int.add_mul_emod_self_left]
theorem mulOk_s {i j : Int} (h1 : i.natAbs < 2 ^ 200) (h2 : j.natAbs < 2 ^ 200) : mulOk i j := mulOk_of h1 h2 (by decide)
theorem p_left_over (A : Ad) (hA : A.Ok) : ∀ qs Q R, qs.length = 2 → fs_left_over A qs Q R → w_left_over A (fnEnds Q R) (startP 3 qs)
  | [p, q], Q, R, _, ⟨⟨ho, ho2⟩, h⟩ => by
    have hp := okV_plain ho
    have hq := okV_plain ho2
    simp only [w_left_over, fs_check_count, fsCheckCount, ho, hp, ho2, hq, ↓wVar_0, ↓wVar_s, ↓wC_e, ↓wOp_e, ↓oAdd_ii, ↓oAdd_ss, ↓oAdd_tt, ↓oAdd_ll_, ↓oAdd_ln_, ↓oAdd_lo_, ↓oAdd_nl_, ↓oAdd_nn_, ↓oAdd_no_, ↓oAdd_ol_, ↓oAdd_on_, ↓oAdd_oo_, ↓oSub_ii, ↓oMul_ii, ↓oMul_li, ↓oMul_ni, ↓oMul_oi, ↓oDiv_ii, ↓oMod_ii, ↓oLt_ii, ↓oLe_ii, ↓oGt_ii, ↓oGe_ii, ↓wNeg_e, ↓wT_e, ↓kB_b, ↓kI_i, ↓wAnd_e, ↓wOr_e, ↓wNot_e, ↓wAndV_e, ↓wOrV_e, ↓wNotV_e, ↓wIfE_e, ↓wChain_e, ↓wIsN_e, ↓wNotN_e, ↓wCall_e, ↓wCons_e, ↓wNil_e, ↓wTup_e, ↓wLst_e, ↓tP_0, ↓tP_1, ↓tP_2, ↓tP_3, ↓tP_4, ↓tP_5, ↓tP_6, ↓tP_7, ↓tP_8, ↓lP_0, ↓lP_1, ↓lP_2, ↓lP_3, ↓lP_4, ↓lP_5, ↓lP_6, ↓lP_7, ↓lP_8, ↓stP_non, ↓rtP_non, ↓aP1_non, ↓stP_bl, ↓rtP_bl, ↓aP1_bl, ↓isN_bl, ↓stP_int, ↓rtP_int, ↓aP1_int, ↓isN_int, ↓stP_str, ↓rtP_str, ↓aP1_str, ↓isN_str, ↓stP_adr, ↓rtP_adr, ↓aP1_adr, ↓isN_adr, ↓stP_tup, ↓rtP_tup, ↓aP1_tup, ↓isN_tup, ↓stP_lst, ↓rtP_lst, ↓aP1_lst, ↓isN_lst, ↓stP_scr, ↓rtP_scr, ↓aP1_scr, ↓isN_scr, ↓stP_obj, ↓rtP_obj, ↓aP1_obj, ↓isN_obj, ↓stP_dk, ↓rtP_dk, ↓aP1_dk, ↓isN_dk, ↓isN_non, ↓stP_nlst, ↓rtP_nlst, ↓rtP_olst, ↓aP1_nlst, ↓stP_ndk, ↓rtP_ndk, ↓rtP_odk, ↓aP1_ndk, ↓aP1_st, ↓nwP_n, ↓oFn_1, ↓oFn_2, ↓oFn_3, ↓oFn_4, ↓oFn_5, ↓oFn_6, ↓sto_non, ↓nst_non, ↓sto_bl, ↓nst_bl, ↓sto_int, ↓nst_int, ↓sto_str, ↓nst_str, ↓sto_adr, ↓nst_adr, ↓sto_tup, ↓nst_tup, ↓sto_lst, ↓nst_lst, ↓sto_scr, ↓nst_scr, ↓sto_obj, ↓nst_obj, ↓sto_dk, ↓nst_dk, ↓sto_st, ↓sto_nil, ↓nst_nil, ↓wIsi_e, ↓oIsi_int_non, ↓oIsi_int_bl, ↓oIsi_int_int, ↓oIsi_int_str, ↓oIsi_int_tup, ↓oIsi_int_lst, ↓oIsi_bool_non, ↓oIsi_bool_bl, ↓oIsi_bool_int, ↓oIsi_bool_str, ↓oIsi_bool_tup, ↓oIsi_bool_lst, ↓oIsi_str_non, ↓oIsi_str_bl, ↓oIsi_str_int, ↓oIsi_str_str, ↓oIsi_str_tup, ↓oIsi_str_lst, ↓oIsi_tuple_non, ↓oIsi_tuple_bl, ↓oIsi_tuple_int, ↓oIsi_tuple_str, ↓oIsi_tuple_tup, ↓oIsi_tuple_lst, ↓oIsi_list_non, ↓oIsi_list_bl, ↓oIsi_list_int, ↓oIsi_list_str, ↓oIsi_list_tup, ↓oIsi_list_lst, ↓oIx_t, ↓cLen_t, ↓cTup_t, ↓cLst_t, ↓oIx_s, ↓cLen_s, ↓cTup_s, ↓cLst_s, ↓oIx_l, ↓cLen_l, ↓cTup_l, ↓cLst_l, ↓oIx_n, ↓cLen_n, ↓cTup_n, ↓cLst_n, ↓oIx_o, ↓cLen_o, ↓cTup_o, ↓cLst_o, ↓ixP_0, ↓ixP_1, ↓ixP_2, ↓ixP_3, ↓ixP_4, ↓ixP_5, ↓wSl_e, ↓wPn_e, ↓wPs_e, ↓oSl_t, ↓oSl_s, ↓oSl_l, ↓oSl_n, ↓oSl_o, ↓cAbs_i, ↓cInt_i, ↓cMin2_ii, ↓cMax2_ii, ↓wSeq_Set, ↓wSeq_If, ↓wSeq_Exp, ↓wSeq_Asg, ↓wSeq_Seq, ↓wSeq_Own, ↓wSeq_StS, ↓wSeq_App, ↓wSeq_Next, ↓wSeq_Ret, ↓wSeq_Rais, ↓wSeq_Par, ↓wSeq_Par3, ↓wSeq_St0, ↓wSeq_St1, ↓wSeq_Brk, ↓wSeq_Cnt, ↓wSeq_RetN, ↓wSeq_RaiF, ↓wSet_e, ↓wOwn_e, ↓sE_0, ↓sE_s, ↓wIf_e, ↓wRet_e, ↓wRetN_e, ↓wNext_e, ↓wBreak_e, ↓wCont_e, ↓wExpr_e, ↓wRaise_e, ↓wRaiseF_e, ↓wAsg_e, ↓tgP_name, ↓tgP_tup, ↓tgPs_nil, ↓tgPs_cons, ↓wTry_e, ↓wPar_ff, ↓noSt_0n, ↓noSt_0non, ↓noSt_0bl, ↓noSt_0int, ↓noSt_0str, ↓noSt_0tup, ↓noSt_0lst, ↓noSt_0ol, ↓noSt_s, ↓sSt0, ↓sSt1, ↓sSt0S, ↓sSt1S, ↓wOwnS_e, ↓fnE_nx, ↓fnE_rt, ↓fnE_ex, ↓wFor_e, ↓wSeq_For, ↓wSeq_While, ↓wiSeq_e, ↓wk_t, ↓wk_s, ↓wk_l, ↓wk_n, ↓wk_o, ↓wiRg1_e, ↓wiRg2_e, ↓wLRg2_e, ↓wLRg1_e, ↓wComp_e, ↓noMut_c, ↓noMut_n, ↓nm1_0, ↓nm1_int, ↓nm1_tup, ↓nm1_s, ↓nm1_v, ↓wYes_e, ↓wipeC_n, ↓wipeC_1, ↓wipeC_2, ↓wipeC_3, ↓cAll_b, ↓cAny_b, ↓oNe_int, ↓ns2_n, ↓oEq_mal, wIsi_e, okV_non, okV_bl, okV_int, okV_stR, okV_tup, okV_lst, ↓stP_v, ↓rtP_v, ↓aP1_v, ↓stOnce_v, ↓noSt_v, ↓oEq_int, ↓oIsi_int, ↓oIsi_bool, ↓oIsi_str, ↓oIsi_tuple, ↓oIsi_list, startP, ↓reduceIte, List.map_cons, List.map_nil, List.length_cons, List.length_nil, List.replicate, List.cons_append, List.nil_append, List.append_nil, true_and, and_true, implies_true, Bool.false_eq_true, Bool.not_true, Bool.not_false, Nat.reduceAdd, Nat.reduceSub, Nat.zero_add, Nat.reduceLT, Nat.reduceLeDiff, Int.reduceLT, Int.reduceLE, decide_eq_true_eq, Bool.true_and, Bool.and_true, Bool.false_and, Bool.and_false]
    cases h1 : cnt p 1 1000000000000000000000000000000
    · simp [h1] at h ⊢; exact h
    · cases h2 : cnt q 2 40
      · simp [h1, h2] at h ⊢; exact h
      · obtain ⟨n, rfl, hn1, hn2⟩ := cnt_int h1
        obtain ⟨k, rfl, hk1, hk2⟩ := cnt_int h2
        rw [h1, h2] at h
        simp only [↓wVar_0, ↓wVar_s, ↓wC_e, ↓wOp_e, ↓oAdd_ii, ↓oAdd_ss, ↓oAdd_tt, ↓oAdd_ll_, ↓oAdd_ln_, ↓oAdd_lo_, ↓oAdd_nl_, ↓oAdd_nn_, ↓oAdd_no_, ↓oAdd_ol_, ↓oAdd_on_, ↓oAdd_oo_, ↓oSub_ii, ↓oMul_ii, ↓oMul_li, ↓oMul_ni, ↓oMul_oi, ↓oDiv_ii, ↓oMod_ii, ↓oLt_ii, ↓oLe_ii, ↓oGt_ii, ↓oGe_ii, ↓wNeg_e, ↓wT_e, ↓kB_b, ↓kI_i, ↓wAnd_e, ↓wOr_e, ↓wNot_e, ↓wAndV_e, ↓wOrV_e, ↓wNotV_e, ↓wIfE_e, ↓wChain_e, ↓wIsN_e, ↓wNotN_e, ↓wCall_e, ↓wCons_e, ↓wNil_e, ↓wTup_e, ↓wLst_e, ↓tP_0, ↓tP_1, ↓tP_2, ↓tP_3, ↓tP_4, ↓tP_5, ↓tP_6, ↓tP_7, ↓tP_8, ↓lP_0, ↓lP_1, ↓lP_2, ↓lP_3, ↓lP_4, ↓lP_5, ↓lP_6, ↓lP_7, ↓lP_8, ↓stP_non, ↓rtP_non, ↓aP1_non, ↓stP_bl, ↓rtP_bl, ↓aP1_bl, ↓isN_bl, ↓stP_int, ↓rtP_int, ↓aP1_int, ↓isN_int, ↓stP_str, ↓rtP_str, ↓aP1_str, ↓isN_str, ↓stP_adr, ↓rtP_adr, ↓aP1_adr, ↓isN_adr, ↓stP_tup, ↓rtP_tup, ↓aP1_tup, ↓isN_tup, ↓stP_lst, ↓rtP_lst, ↓aP1_lst, ↓isN_lst, ↓stP_scr, ↓rtP_scr, ↓aP1_scr, ↓isN_scr, ↓stP_obj, ↓rtP_obj, ↓aP1_obj, ↓isN_obj, ↓stP_dk, ↓rtP_dk, ↓aP1_dk, ↓isN_dk, ↓isN_non, ↓stP_nlst, ↓rtP_nlst, ↓rtP_olst, ↓aP1_nlst, ↓stP_ndk, ↓rtP_ndk, ↓rtP_odk, ↓aP1_ndk, ↓aP1_st, ↓nwP_n, ↓oFn_1, ↓oFn_2, ↓oFn_3, ↓oFn_4, ↓oFn_5, ↓oFn_6, ↓sto_non, ↓nst_non, ↓sto_bl, ↓nst_bl, ↓sto_int, ↓nst_int, ↓sto_str, ↓nst_str, ↓sto_adr, ↓nst_adr, ↓sto_tup, ↓nst_tup, ↓sto_lst, ↓nst_lst, ↓sto_scr, ↓nst_scr, ↓sto_obj, ↓nst_obj, ↓sto_dk, ↓nst_dk, ↓sto_st, ↓sto_nil, ↓nst_nil, ↓wIsi_e, ↓oIsi_int_non, ↓oIsi_int_bl, ↓oIsi_int_int, ↓oIsi_int_str, ↓oIsi_int_tup, ↓oIsi_int_lst, ↓oIsi_bool_non, ↓oIsi_bool_bl, ↓oIsi_bool_int, ↓oIsi_bool_str, ↓oIsi_bool_tup, ↓oIsi_bool_lst, ↓oIsi_str_non, ↓oIsi_str_bl, ↓oIsi_str_int, ↓oIsi_str_str, ↓oIsi_str_tup, ↓oIsi_str_lst, ↓oIsi_tuple_non, ↓oIsi_tuple_bl, ↓oIsi_tuple_int, ↓oIsi_tuple_str, ↓oIsi_tuple_tup, ↓oIsi_tuple_lst, ↓oIsi_list_non, ↓oIsi_list_bl, ↓oIsi_list_int, ↓oIsi_list_str, ↓oIsi_list_tup, ↓oIsi_list_lst, ↓oIx_t, ↓cLen_t, ↓cTup_t, ↓cLst_t, ↓oIx_s, ↓cLen_s, ↓cTup_s, ↓cLst_s, ↓oIx_l, ↓cLen_l, ↓cTup_l, ↓cLst_l, ↓oIx_n, ↓cLen_n, ↓cTup_n, ↓cLst_n, ↓oIx_o, ↓cLen_o, ↓cTup_o, ↓cLst_o, ↓ixP_0, ↓ixP_1, ↓ixP_2, ↓ixP_3, ↓ixP_4, ↓ixP_5, ↓wSl_e, ↓wPn_e, ↓wPs_e, ↓oSl_t, ↓oSl_s, ↓oSl_l, ↓oSl_n, ↓oSl_o, ↓cAbs_i, ↓cInt_i, ↓cMin2_ii, ↓cMax2_ii, ↓wSeq_Set, ↓wSeq_If, ↓wSeq_Exp, ↓wSeq_Asg, ↓wSeq_Seq, ↓wSeq_Own, ↓wSeq_StS, ↓wSeq_App, ↓wSeq_Next, ↓wSeq_Ret, ↓wSeq_Rais, ↓wSeq_Par, ↓wSeq_Par3, ↓wSeq_St0, ↓wSeq_St1, ↓wSeq_Brk, ↓wSeq_Cnt, ↓wSeq_RetN, ↓wSeq_RaiF, ↓wSet_e, ↓wOwn_e, ↓sE_0, ↓sE_s, ↓wIf_e, ↓wRet_e, ↓wRetN_e, ↓wNext_e, ↓wBreak_e, ↓wCont_e, ↓wExpr_e, ↓wRaise_e, ↓wRaiseF_e, ↓wAsg_e, ↓tgP_name, ↓tgP_tup, ↓tgPs_nil, ↓tgPs_cons, ↓wTry_e, ↓wPar_ff, ↓noSt_0n, ↓noSt_0non, ↓noSt_0bl, ↓noSt_0int, ↓noSt_0str, ↓noSt_0tup, ↓noSt_0lst, ↓noSt_0ol, ↓noSt_s, ↓sSt0, ↓sSt1, ↓sSt0S, ↓sSt1S, ↓wOwnS_e, ↓fnE_nx, ↓fnE_rt, ↓fnE_ex, ↓wFor_e, ↓wSeq_For, ↓wSeq_While, ↓wiSeq_e, ↓wk_t, ↓wk_s, ↓wk_l, ↓wk_n, ↓wk_o, ↓wiRg1_e, ↓wiRg2_e, ↓wLRg2_e, ↓wLRg1_e, ↓wComp_e, ↓noMut_c, ↓noMut_n, ↓nm1_0, ↓nm1_int, ↓nm1_tup, ↓nm1_s, ↓nm1_v, ↓wYes_e, ↓wipeC_n, ↓wipeC_1, ↓wipeC_2, ↓wipeC_3, ↓cAll_b, ↓cAny_b, ↓oNe_int, ↓ns2_n, ↓oEq_mal, wIsi_e, okV_non, okV_bl, okV_int, okV_stR, okV_tup, okV_lst, ↓stP_v, ↓rtP_v, ↓aP1_v, ↓stOnce_v, ↓noSt_v, ↓oEq_int, ↓oIsi_int, ↓oIsi_bool, ↓oIsi_str, ↓oIsi_tuple, ↓oIsi_list, startP, ↓reduceIte, List.map_cons, List.map_nil, List.length_cons, List.length_nil, List.replicate, List.cons_append, List.nil_append, List.append_nil, true_and, and_true, implies_true, Bool.false_eq_true, Bool.not_true, Bool.not_false, Nat.reduceAdd, Nat.reduceSub, Nat.zero_add, Nat.reduceLT, Nat.reduceLeDiff, Int.reduceLT, Int.reduceLE, decide_eq_true_eq, Bool.true_and, Bool.and_true, Bool.false_and, Bool.and_false] at h
        simp only [↓wVar_0, ↓wVar_s, ↓wC_e, ↓wOp_e, ↓oAdd_ii, ↓oAdd_ss, ↓oAdd_tt, ↓oAdd_ll_, ↓oAdd_ln_, ↓oAdd_lo_, ↓oAdd_nl_, ↓oAdd_nn_, ↓oAdd_no_, ↓oAdd_ol_, ↓oAdd_on_, ↓oAdd_oo_, ↓oSub_ii, ↓oMul_ii, ↓oMul_li, ↓oMul_ni, ↓oMul_oi, ↓oDiv_ii, ↓oMod_ii, ↓oLt_ii, ↓oLe_ii, ↓oGt_ii, ↓oGe_ii, ↓wNeg_e, ↓wT_e, ↓kB_b, ↓kI_i, ↓wAnd_e, ↓wOr_e, ↓wNot_e, ↓wAndV_e, ↓wOrV_e, ↓wNotV_e, ↓wIfE_e, ↓wChain_e, ↓wIsN_e, ↓wNotN_e, ↓wCall_e, ↓wCons_e, ↓wNil_e, ↓wTup_e, ↓wLst_e, ↓tP_0, ↓tP_1, ↓tP_2, ↓tP_3, ↓tP_4, ↓tP_5, ↓tP_6, ↓tP_7, ↓tP_8, ↓lP_0, ↓lP_1, ↓lP_2, ↓lP_3, ↓lP_4, ↓lP_5, ↓lP_6, ↓lP_7, ↓lP_8, ↓stP_non, ↓rtP_non, ↓aP1_non, ↓stP_bl, ↓rtP_bl, ↓aP1_bl, ↓isN_bl, ↓stP_int, ↓rtP_int, ↓aP1_int, ↓isN_int, ↓stP_str, ↓rtP_str, ↓aP1_str, ↓isN_str, ↓stP_adr, ↓rtP_adr, ↓aP1_adr, ↓isN_adr, ↓stP_tup, ↓rtP_tup, ↓aP1_tup, ↓isN_tup, ↓stP_lst, ↓rtP_lst, ↓aP1_lst, ↓isN_lst, ↓stP_scr, ↓rtP_scr, ↓aP1_scr, ↓isN_scr, ↓stP_obj, ↓rtP_obj, ↓aP1_obj, ↓isN_obj, ↓stP_dk, ↓rtP_dk, ↓aP1_dk, ↓isN_dk, ↓isN_non, ↓stP_nlst, ↓rtP_nlst, ↓rtP_olst, ↓aP1_nlst, ↓stP_ndk, ↓rtP_ndk, ↓rtP_odk, ↓aP1_ndk, ↓aP1_st, ↓nwP_n, ↓oFn_1, ↓oFn_2, ↓oFn_3, ↓oFn_4, ↓oFn_5, ↓oFn_6, ↓sto_non, ↓nst_non, ↓sto_bl, ↓nst_bl, ↓sto_int, ↓nst_int, ↓sto_str, ↓nst_str, ↓sto_adr, ↓nst_adr, ↓sto_tup, ↓nst_tup, ↓sto_lst, ↓nst_lst, ↓sto_scr, ↓nst_scr, ↓sto_obj, ↓nst_obj, ↓sto_dk, ↓nst_dk, ↓sto_st, ↓sto_nil, ↓nst_nil, ↓wIsi_e, ↓oIsi_int_non, ↓oIsi_int_bl, ↓oIsi_int_int, ↓oIsi_int_str, ↓oIsi_int_tup, ↓oIsi_int_lst, ↓oIsi_bool_non, ↓oIsi_bool_bl, ↓oIsi_bool_int, ↓oIsi_bool_str, ↓oIsi_bool_tup, ↓oIsi_bool_lst, ↓oIsi_str_non, ↓oIsi_str_bl, ↓oIsi_str_int, ↓oIsi_str_str, ↓oIsi_str_tup, ↓oIsi_str_lst, ↓oIsi_tuple_non, ↓oIsi_tuple_bl, ↓oIsi_tuple_int, ↓oIsi_tuple_str, ↓oIsi_tuple_tup, ↓oIsi_tuple_lst, ↓oIsi_list_non, ↓oIsi_list_bl, ↓oIsi_list_int, ↓oIsi_list_str, ↓oIsi_list_tup, ↓oIsi_list_lst, ↓oIx_t, ↓cLen_t, ↓cTup_t, ↓cLst_t, ↓oIx_s, ↓cLen_s, ↓cTup_s, ↓cLst_s, ↓oIx_l, ↓cLen_l, ↓cTup_l, ↓cLst_l, ↓oIx_n, ↓cLen_n, ↓cTup_n, ↓cLst_n, ↓oIx_o, ↓cLen_o, ↓cTup_o, ↓cLst_o, ↓ixP_0, ↓ixP_1, ↓ixP_2, ↓ixP_3, ↓ixP_4, ↓ixP_5, ↓wSl_e, ↓wPn_e, ↓wPs_e, ↓oSl_t, ↓oSl_s, ↓oSl_l, ↓oSl_n, ↓oSl_o, ↓cAbs_i, ↓cInt_i, ↓cMin2_ii, ↓cMax2_ii, ↓wSeq_Set, ↓wSeq_If, ↓wSeq_Exp, ↓wSeq_Asg, ↓wSeq_Seq, ↓wSeq_Own, ↓wSeq_StS, ↓wSeq_App, ↓wSeq_Next, ↓wSeq_Ret, ↓wSeq_Rais, ↓wSeq_Par, ↓wSeq_Par3, ↓wSeq_St0, ↓wSeq_St1, ↓wSeq_Brk, ↓wSeq_Cnt, ↓wSeq_RetN, ↓wSeq_RaiF, ↓wSet_e, ↓wOwn_e, ↓sE_0, ↓sE_s, ↓wIf_e, ↓wRet_e, ↓wRetN_e, ↓wNext_e, ↓wBreak_e, ↓wCont_e, ↓wExpr_e, ↓wRaise_e, ↓wRaiseF_e, ↓wAsg_e, ↓tgP_name, ↓tgP_tup, ↓tgPs_nil, ↓tgPs_cons, ↓wTry_e, ↓wPar_ff, ↓noSt_0n, ↓noSt_0non, ↓noSt_0bl, ↓noSt_0int, ↓noSt_0str, ↓noSt_0tup, ↓noSt_0lst, ↓noSt_0ol, ↓noSt_s, ↓sSt0, ↓sSt1, ↓sSt0S, ↓sSt1S, ↓wOwnS_e, ↓fnE_nx, ↓fnE_rt, ↓fnE_ex, ↓wFor_e, ↓wSeq_For, ↓wSeq_While, ↓wiSeq_e, ↓wk_t, ↓wk_s, ↓wk_l, ↓wk_n, ↓wk_o, ↓wiRg1_e, ↓wiRg2_e, ↓wLRg2_e, ↓wLRg1_e, ↓wComp_e, ↓noMut_c, ↓noMut_n, ↓nm1_0, ↓nm1_int, ↓nm1_tup, ↓nm1_s, ↓nm1_v, ↓wYes_e, ↓wipeC_n, ↓wipeC_1, ↓wipeC_2, ↓wipeC_3, ↓cAll_b, ↓cAny_b, ↓oNe_int, ↓ns2_n, ↓oEq_mal, wIsi_e, okV_non, okV_bl, okV_int, okV_stR, okV_tup, okV_lst, ↓stP_v, ↓rtP_v, ↓aP1_v, ↓stOnce_v, ↓noSt_v, ↓oEq_int, ↓oIsi_int, ↓oIsi_bool, ↓oIsi_str, ↓oIsi_tuple, ↓oIsi_list, startP, ↓reduceIte, List.map_cons, List.map_nil, List.length_cons, List.length_nil, List.replicate, List.cons_append, List.nil_append, List.append_nil, true_and, and_true, implies_true, Bool.false_eq_true, Bool.not_true, Bool.not_false, Nat.reduceAdd, Nat.reduceSub, Nat.zero_add, Nat.reduceLT, Nat.reduceLeDiff, Int.reduceLT, Int.reduceLE, decide_eq_true_eq, Bool.true_and, Bool.and_true, Bool.false_and, Bool.and_false]
        refine whileS_st (σ := Int) (fun d => [some (.int n), some (.int k), some (.int d)]) (RInv k n) (fun d => ((k - 1) * n + 1 - d).toNat) 1 ⟨rfl, rinv_0 hk1 hn1⟩ ?_
        intro d hd
        simp only [↓wVar_0, ↓wVar_s, ↓wC_e, ↓wOp_e, ↓oAdd_ii, ↓oAdd_ss, ↓oAdd_tt, ↓oAdd_ll_, ↓oAdd_ln_, ↓oAdd_lo_, ↓oAdd_nl_, ↓oAdd_nn_, ↓oAdd_no_, ↓oAdd_ol_, ↓oAdd_on_, ↓oAdd_oo_, ↓oSub_ii, ↓oMul_ii, ↓oMul_li, ↓oMul_ni, ↓oMul_oi, ↓oDiv_ii, ↓oMod_ii, ↓oLt_ii, ↓oLe_ii, ↓oGt_ii, ↓oGe_ii, ↓wNeg_e, ↓wT_e, ↓kB_b, ↓kI_i, ↓wAnd_e, ↓wOr_e, ↓wNot_e, ↓wAndV_e, ↓wOrV_e, ↓wNotV_e, ↓wIfE_e, ↓wChain_e, ↓wIsN_e, ↓wNotN_e, ↓wCall_e, ↓wCons_e, ↓wNil_e, ↓wTup_e, ↓wLst_e, ↓tP_0, ↓tP_1, ↓tP_2, ↓tP_3, ↓tP_4, ↓tP_5, ↓tP_6, ↓tP_7, ↓tP_8, ↓lP_0, ↓lP_1, ↓lP_2, ↓lP_3, ↓lP_4, ↓lP_5, ↓lP_6, ↓lP_7, ↓lP_8, ↓stP_non, ↓rtP_non, ↓aP1_non, ↓stP_bl, ↓rtP_bl, ↓aP1_bl, ↓isN_bl, ↓stP_int, ↓rtP_int, ↓aP1_int, ↓isN_int, ↓stP_str, ↓rtP_str, ↓aP1_str, ↓isN_str, ↓stP_adr, ↓rtP_adr, ↓aP1_adr, ↓isN_adr, ↓stP_tup, ↓rtP_tup, ↓aP1_tup, ↓isN_tup, ↓stP_lst, ↓rtP_lst, ↓aP1_lst, ↓isN_lst, ↓stP_scr, ↓rtP_scr, ↓aP1_scr, ↓isN_scr, ↓stP_obj, ↓rtP_obj, ↓aP1_obj, ↓isN_obj, ↓stP_dk, ↓rtP_dk, ↓aP1_dk, ↓isN_dk, ↓isN_non, ↓stP_nlst, ↓rtP_nlst, ↓rtP_olst, ↓aP1_nlst, ↓stP_ndk, ↓rtP_ndk, ↓rtP_odk, ↓aP1_ndk, ↓aP1_st, ↓nwP_n, ↓oFn_1, ↓oFn_2, ↓oFn_3, ↓oFn_4, ↓oFn_5, ↓oFn_6, ↓sto_non, ↓nst_non, ↓sto_bl, ↓nst_bl, ↓sto_int, ↓nst_int, ↓sto_str, ↓nst_str, ↓sto_adr, ↓nst_adr, ↓sto_tup, ↓nst_tup, ↓sto_lst, ↓nst_lst, ↓sto_scr, ↓nst_scr, ↓sto_obj, ↓nst_obj, ↓sto_dk, ↓nst_dk, ↓sto_st, ↓sto_nil, ↓nst_nil, ↓wIsi_e, ↓oIsi_int_non, ↓oIsi_int_bl, ↓oIsi_int_int, ↓oIsi_int_str, ↓oIsi_int_tup, ↓oIsi_int_lst, ↓oIsi_bool_non, ↓oIsi_bool_bl, ↓oIsi_bool_int, ↓oIsi_bool_str, ↓oIsi_bool_tup, ↓oIsi_bool_lst, ↓oIsi_str_non, ↓oIsi_str_bl, ↓oIsi_str_int, ↓oIsi_str_str, ↓oIsi_str_tup, ↓oIsi_str_lst, ↓oIsi_tuple_non, ↓oIsi_tuple_bl, ↓oIsi_tuple_int, ↓oIsi_tuple_str, ↓oIsi_tuple_tup, ↓oIsi_tuple_lst, ↓oIsi_list_non, ↓oIsi_list_bl, ↓oIsi_list_int, ↓oIsi_list_str, ↓oIsi_list_tup, ↓oIsi_list_lst, ↓oIx_t, ↓cLen_t, ↓cTup_t, ↓cLst_t, ↓oIx_s, ↓cLen_s, ↓cTup_s, ↓cLst_s, ↓oIx_l, ↓cLen_l, ↓cTup_l, ↓cLst_l, ↓oIx_n, ↓cLen_n, ↓cTup_n, ↓cLst_n, ↓oIx_o, ↓cLen_o, ↓cTup_o, ↓cLst_o, ↓ixP_0, ↓ixP_1, ↓ixP_2, ↓ixP_3, ↓ixP_4, ↓ixP_5, ↓wSl_e, ↓wPn_e, ↓wPs_e, ↓oSl_t, ↓oSl_s, ↓oSl_l, ↓oSl_n, ↓oSl_o, ↓cAbs_i, ↓cInt_i, ↓cMin2_ii, ↓cMax2_ii, ↓wSeq_Set, ↓wSeq_If, ↓wSeq_Exp, ↓wSeq_Asg, ↓wSeq_Seq, ↓wSeq_Own, ↓wSeq_StS, ↓wSeq_App, ↓wSeq_Next, ↓wSeq_Ret, ↓wSeq_Rais, ↓wSeq_Par, ↓wSeq_Par3, ↓wSeq_St0, ↓wSeq_St1, ↓wSeq_Brk, ↓wSeq_Cnt, ↓wSeq_RetN, ↓wSeq_RaiF, ↓wSet_e, ↓wOwn_e, ↓sE_0, ↓sE_s, ↓wIf_e, ↓wRet_e, ↓wRetN_e, ↓wNext_e, ↓wBreak_e, ↓wCont_e, ↓wExpr_e, ↓wRaise_e, ↓wRaiseF_e, ↓wAsg_e, ↓tgP_name, ↓tgP_tup, ↓tgPs_nil, ↓tgPs_cons, ↓wTry_e, ↓wPar_ff, ↓noSt_0n, ↓noSt_0non, ↓noSt_0bl, ↓noSt_0int, ↓noSt_0str, ↓noSt_0tup, ↓noSt_0lst, ↓noSt_0ol, ↓noSt_s, ↓sSt0, ↓sSt1, ↓sSt0S, ↓sSt1S, ↓wOwnS_e, ↓fnE_nx, ↓fnE_rt, ↓fnE_ex, ↓wFor_e, ↓wSeq_For, ↓wSeq_While, ↓wiSeq_e, ↓wk_t, ↓wk_s, ↓wk_l, ↓wk_n, ↓wk_o, ↓wiRg1_e, ↓wiRg2_e, ↓wLRg2_e, ↓wLRg1_e, ↓wComp_e, ↓noMut_c, ↓noMut_n, ↓nm1_0, ↓nm1_int, ↓nm1_tup, ↓nm1_s, ↓nm1_v, ↓wYes_e, ↓wipeC_n, ↓wipeC_1, ↓wipeC_2, ↓wipeC_3, ↓cAll_b, ↓cAny_b, ↓oNe_int, ↓ns2_n, ↓oEq_mal, wIsi_e, okV_non, okV_bl, okV_int, okV_stR, okV_tup, okV_lst, ↓stP_v, ↓rtP_v, ↓aP1_v, ↓stOnce_v, ↓noSt_v, ↓oEq_int, ↓oIsi_int, ↓oIsi_bool, ↓oIsi_str, ↓oIsi_tuple, ↓oIsi_list, startP, ↓reduceIte, List.map_cons, List.map_nil, List.length_cons, List.length_nil, List.replicate, List.cons_append, List.nil_append, List.append_nil, true_and, and_true, implies_true, Bool.false_eq_true, Bool.not_true, Bool.not_false, Nat.reduceAdd, Nat.reduceSub, Nat.zero_add, Nat.reduceLT, Nat.reduceLeDiff, Int.reduceLT, Int.reduceLE, decide_eq_true_eq, Bool.true_and, Bool.and_true, Bool.false_and, Bool.and_false]
        have hdn : d ≤ 40 * n := by
          obtain ⟨_, m, h1, h2, h3, _⟩ := hd
          have a1 : k * (m : Int) ≤ 40 * m := Int.mul_le_mul_of_nonneg_right hk2 (by omega)
          omega
        have hd1 := hd.1
        refine ⟨mulOk_s (by omega) (by omega), ?_⟩
        split
        · rename_i hc
          obtain ⟨s1, s2⟩ := rinv_step hk1 hn1 hd hc
          exact ⟨mulOk_s (by omega) (by omega), divOk_of (by omega) (by omega), _, rfl, s1, by omega⟩
        · rename_i hc
          refine ⟨mulOk_s (by omega) (by omega), ?_⟩
          rw [rinv_end hk1 hn1 hd hc]
          exact h
theorem turn_n {k : Int} {i : Nat} : (jos k (i + 1) + k).fmod (2 + (i : Int)) = jos k (i + 2) := by
  rw [fmod_e (by omega)]
  show (jos k (i + 1) + k) % (2 + (i : Int)) = (jos k (i + 1) + k) % (((i + 1 : Nat) : Int) + 1)
  have : (2 + (i : Int)) = ((i + 1 : Nat) : Int) + 1 := by omega
  rw [this]
theorem p_left_by_turns (A : Ad) (hA : A.Ok) : ∀ qs Q R, qs.length = 2 → fs_left_by_turns A qs Q R → w_left_by_turns A (fnEnds Q R) (startP 4 qs)
  | [p, q], Q, R, _, ⟨⟨ho, ho2⟩, h⟩ => by
    have hp := okV_plain ho
    have hq := okV_plain ho2
    simp only [w_left_by_turns, fs_check_count, fsCheckCount, ho, hp, ho2, hq, ↓wVar_0, ↓wVar_s, ↓wC_e, ↓wOp_e, ↓oAdd_ii, ↓oAdd_ss, ↓oAdd_tt, ↓oAdd_ll_, ↓oAdd_ln_, ↓oAdd_lo_, ↓oAdd_nl_, ↓oAdd_nn_, ↓oAdd_no_, ↓oAdd_ol_, ↓oAdd_on_, ↓oAdd_oo_, ↓oSub_ii, ↓oMul_ii, ↓oMul_li, ↓oMul_ni, ↓oMul_oi, ↓oDiv_ii, ↓oMod_ii, ↓oLt_ii, ↓oLe_ii, ↓oGt_ii, ↓oGe_ii, ↓wNeg_e, ↓wT_e, ↓kB_b, ↓kI_i, ↓wAnd_e, ↓wOr_e, ↓wNot_e, ↓wAndV_e, ↓wOrV_e, ↓wNotV_e, ↓wIfE_e, ↓wChain_e, ↓wIsN_e, ↓wNotN_e, ↓wCall_e, ↓wCons_e, ↓wNil_e, ↓wTup_e, ↓wLst_e, ↓tP_0, ↓tP_1, ↓tP_2, ↓tP_3, ↓tP_4, ↓tP_5, ↓tP_6, ↓tP_7, ↓tP_8, ↓lP_0, ↓lP_1, ↓lP_2, ↓lP_3, ↓lP_4, ↓lP_5, ↓lP_6, ↓lP_7, ↓lP_8, ↓stP_non, ↓rtP_non, ↓aP1_non, ↓stP_bl, ↓rtP_bl, ↓aP1_bl, ↓isN_bl, ↓stP_int, ↓rtP_int, ↓aP1_int, ↓isN_int, ↓stP_str, ↓rtP_str, ↓aP1_str, ↓isN_str, ↓stP_adr, ↓rtP_adr, ↓aP1_adr, ↓isN_adr, ↓stP_tup, ↓rtP_tup, ↓aP1_tup, ↓isN_tup, ↓stP_lst, ↓rtP_lst, ↓aP1_lst, ↓isN_lst, ↓stP_scr, ↓rtP_scr, ↓aP1_scr, ↓isN_scr, ↓stP_obj, ↓rtP_obj, ↓aP1_obj, ↓isN_obj, ↓stP_dk, ↓rtP_dk, ↓aP1_dk, ↓isN_dk, ↓isN_non, ↓stP_nlst, ↓rtP_nlst, ↓rtP_olst, ↓aP1_nlst, ↓stP_ndk, ↓rtP_ndk, ↓rtP_odk, ↓aP1_ndk, ↓aP1_st, ↓nwP_n, ↓oFn_1, ↓oFn_2, ↓oFn_3, ↓oFn_4, ↓oFn_5, ↓oFn_6, ↓sto_non, ↓nst_non, ↓sto_bl, ↓nst_bl, ↓sto_int, ↓nst_int, ↓sto_str, ↓nst_str, ↓sto_adr, ↓nst_adr, ↓sto_tup, ↓nst_tup, ↓sto_lst, ↓nst_lst, ↓sto_scr, ↓nst_scr, ↓sto_obj, ↓nst_obj, ↓sto_dk, ↓nst_dk, ↓sto_st, ↓sto_nil, ↓nst_nil, ↓wIsi_e, ↓oIsi_int_non, ↓oIsi_int_bl, ↓oIsi_int_int, ↓oIsi_int_str, ↓oIsi_int_tup, ↓oIsi_int_lst, ↓oIsi_bool_non, ↓oIsi_bool_bl, ↓oIsi_bool_int, ↓oIsi_bool_str, ↓oIsi_bool_tup, ↓oIsi_bool_lst, ↓oIsi_str_non, ↓oIsi_str_bl, ↓oIsi_str_int, ↓oIsi_str_str, ↓oIsi_str_tup, ↓oIsi_str_lst, ↓oIsi_tuple_non, ↓oIsi_tuple_bl, ↓oIsi_tuple_int, ↓oIsi_tuple_str, ↓oIsi_tuple_tup, ↓oIsi_tuple_lst, ↓oIsi_list_non, ↓oIsi_list_bl, ↓oIsi_list_int, ↓oIsi_list_str, ↓oIsi_list_tup, ↓oIsi_list_lst, ↓oIx_t, ↓cLen_t, ↓cTup_t, ↓cLst_t, ↓oIx_s, ↓cLen_s, ↓cTup_s, ↓cLst_s, ↓oIx_l, ↓cLen_l, ↓cTup_l, ↓cLst_l, ↓oIx_n, ↓cLen_n, ↓cTup_n, ↓cLst_n, ↓oIx_o, ↓cLen_o, ↓cTup_o, ↓cLst_o, ↓ixP_0, ↓ixP_1, ↓ixP_2, ↓ixP_3, ↓ixP_4, ↓ixP_5, ↓wSl_e, ↓wPn_e, ↓wPs_e, ↓oSl_t, ↓oSl_s, ↓oSl_l, ↓oSl_n, ↓oSl_o, ↓cAbs_i, ↓cInt_i, ↓cMin2_ii, ↓cMax2_ii, ↓wSeq_Set, ↓wSeq_If, ↓wSeq_Exp, ↓wSeq_Asg, ↓wSeq_Seq, ↓wSeq_Own, ↓wSeq_StS, ↓wSeq_App, ↓wSeq_Next, ↓wSeq_Ret, ↓wSeq_Rais, ↓wSeq_Par, ↓wSeq_Par3, ↓wSeq_St0, ↓wSeq_St1, ↓wSeq_Brk, ↓wSeq_Cnt, ↓wSeq_RetN, ↓wSeq_RaiF, ↓wSet_e, ↓wOwn_e, ↓sE_0, ↓sE_s, ↓wIf_e, ↓wRet_e, ↓wRetN_e, ↓wNext_e, ↓wBreak_e, ↓wCont_e, ↓wExpr_e, ↓wRaise_e, ↓wRaiseF_e, ↓wAsg_e, ↓tgP_name, ↓tgP_tup, ↓tgPs_nil, ↓tgPs_cons, ↓wTry_e, ↓wPar_ff, ↓noSt_0n, ↓noSt_0non, ↓noSt_0bl, ↓noSt_0int, ↓noSt_0str, ↓noSt_0tup, ↓noSt_0lst, ↓noSt_0ol, ↓noSt_s, ↓sSt0, ↓sSt1, ↓sSt0S, ↓sSt1S, ↓wOwnS_e, ↓fnE_nx, ↓fnE_rt, ↓fnE_ex, ↓wFor_e, ↓wSeq_For, ↓wSeq_While, ↓wiSeq_e, ↓wk_t, ↓wk_s, ↓wk_l, ↓wk_n, ↓wk_o, ↓wiRg1_e, ↓wiRg2_e, ↓wLRg2_e, ↓wLRg1_e, ↓wComp_e, ↓noMut_c, ↓noMut_n, ↓nm1_0, ↓nm1_int, ↓nm1_tup, ↓nm1_s, ↓nm1_v, ↓wYes_e, ↓wipeC_n, ↓wipeC_1, ↓wipeC_2, ↓wipeC_3, ↓cAll_b, ↓cAny_b, ↓oNe_int, ↓ns2_n, ↓oEq_mal, wIsi_e, okV_non, okV_bl, okV_int, okV_stR, okV_tup, okV_lst, ↓stP_v, ↓rtP_v, ↓aP1_v, ↓stOnce_v, ↓noSt_v, ↓oEq_int, ↓oIsi_int, ↓oIsi_bool, ↓oIsi_str, ↓oIsi_tuple, ↓oIsi_list, startP, ↓reduceIte, List.map_cons, List.map_nil, List.length_cons, List.length_nil, List.replicate, List.cons_append, List.nil_append, List.append_nil, true_and, and_true, implies_true, Bool.false_eq_true, Bool.not_true, Bool.not_false, Nat.reduceAdd, Nat.reduceSub, Nat.zero_add, Nat.reduceLT, Nat.reduceLeDiff, Int.reduceLT, Int.reduceLE, decide_eq_true_eq, Bool.true_and, Bool.and_true, Bool.false_and, Bool.and_false]
    cases h1 : cnt p 1 2000
    · simp [h1] at h ⊢; exact h
    · cases h2 : cnt q 2 40
      · simp [h1, h2] at h ⊢; exact h
      · obtain ⟨n, rfl, hn1, hn2⟩ := cnt_int h1
        obtain ⟨k, rfl, hk1, hk2⟩ := cnt_int h2
        rw [h1, h2] at h
        simp only [↓wVar_0, ↓wVar_s, ↓wC_e, ↓wOp_e, ↓oAdd_ii, ↓oAdd_ss, ↓oAdd_tt, ↓oAdd_ll_, ↓oAdd_ln_, ↓oAdd_lo_, ↓oAdd_nl_, ↓oAdd_nn_, ↓oAdd_no_, ↓oAdd_ol_, ↓oAdd_on_, ↓oAdd_oo_, ↓oSub_ii, ↓oMul_ii, ↓oMul_li, ↓oMul_ni, ↓oMul_oi, ↓oDiv_ii, ↓oMod_ii, ↓oLt_ii, ↓oLe_ii, ↓oGt_ii, ↓oGe_ii, ↓wNeg_e, ↓wT_e, ↓kB_b, ↓kI_i, ↓wAnd_e, ↓wOr_e, ↓wNot_e, ↓wAndV_e, ↓wOrV_e, ↓wNotV_e, ↓wIfE_e, ↓wChain_e, ↓wIsN_e, ↓wNotN_e, ↓wCall_e, ↓wCons_e, ↓wNil_e, ↓wTup_e, ↓wLst_e, ↓tP_0, ↓tP_1, ↓tP_2, ↓tP_3, ↓tP_4, ↓tP_5, ↓tP_6, ↓tP_7, ↓tP_8, ↓lP_0, ↓lP_1, ↓lP_2, ↓lP_3, ↓lP_4, ↓lP_5, ↓lP_6, ↓lP_7, ↓lP_8, ↓stP_non, ↓rtP_non, ↓aP1_non, ↓stP_bl, ↓rtP_bl, ↓aP1_bl, ↓isN_bl, ↓stP_int, ↓rtP_int, ↓aP1_int, ↓isN_int, ↓stP_str, ↓rtP_str, ↓aP1_str, ↓isN_str, ↓stP_adr, ↓rtP_adr, ↓aP1_adr, ↓isN_adr, ↓stP_tup, ↓rtP_tup, ↓aP1_tup, ↓isN_tup, ↓stP_lst, ↓rtP_lst, ↓aP1_lst, ↓isN_lst, ↓stP_scr, ↓rtP_scr, ↓aP1_scr, ↓isN_scr, ↓stP_obj, ↓rtP_obj, ↓aP1_obj, ↓isN_obj, ↓stP_dk, ↓rtP_dk, ↓aP1_dk, ↓isN_dk, ↓isN_non, ↓stP_nlst, ↓rtP_nlst, ↓rtP_olst, ↓aP1_nlst, ↓stP_ndk, ↓rtP_ndk, ↓rtP_odk, ↓aP1_ndk, ↓aP1_st, ↓nwP_n, ↓oFn_1, ↓oFn_2, ↓oFn_3, ↓oFn_4, ↓oFn_5, ↓oFn_6, ↓sto_non, ↓nst_non, ↓sto_bl, ↓nst_bl, ↓sto_int, ↓nst_int, ↓sto_str, ↓nst_str, ↓sto_adr, ↓nst_adr, ↓sto_tup, ↓nst_tup, ↓sto_lst, ↓nst_lst, ↓sto_scr, ↓nst_scr, ↓sto_obj, ↓nst_obj, ↓sto_dk, ↓nst_dk, ↓sto_st, ↓sto_nil, ↓nst_nil, ↓wIsi_e, ↓oIsi_int_non, ↓oIsi_int_bl, ↓oIsi_int_int, ↓oIsi_int_str, ↓oIsi_int_tup, ↓oIsi_int_lst, ↓oIsi_bool_non, ↓oIsi_bool_bl, ↓oIsi_bool_int, ↓oIsi_bool_str, ↓oIsi_bool_tup, ↓oIsi_bool_lst, ↓oIsi_str_non, ↓oIsi_str_bl, ↓oIsi_str_int, ↓oIsi_str_str, ↓oIsi_str_tup, ↓oIsi_str_lst, ↓oIsi_tuple_non, ↓oIsi_tuple_bl, ↓oIsi_tuple_int, ↓oIsi_tuple_str, ↓oIsi_tuple_tup, ↓oIsi_tuple_lst, ↓oIsi_list_non, ↓oIsi_list_bl, ↓oIsi_list_int, ↓oIsi_list_str, ↓oIsi_list_tup, ↓oIsi_list_lst, ↓oIx_t, ↓cLen_t, ↓cTup_t, ↓cLst_t, ↓oIx_s, ↓cLen_s, ↓cTup_s, ↓cLst_s, ↓oIx_l, ↓cLen_l, ↓cTup_l, ↓cLst_l, ↓oIx_n, ↓cLen_n, ↓cTup_n, ↓cLst_n, ↓oIx_o, ↓cLen_o, ↓cTup_o, ↓cLst_o, ↓ixP_0, ↓ixP_1, ↓ixP_2, ↓ixP_3, ↓ixP_4, ↓ixP_5, ↓wSl_e, ↓wPn_e, ↓wPs_e, ↓oSl_t, ↓oSl_s, ↓oSl_l, ↓oSl_n, ↓oSl_o, ↓cAbs_i, ↓cInt_i, ↓cMin2_ii, ↓cMax2_ii, ↓wSeq_Set, ↓wSeq_If, ↓wSeq_Exp, ↓wSeq_Asg, ↓wSeq_Seq, ↓wSeq_Own, ↓wSeq_StS, ↓wSeq_App, ↓wSeq_Next, ↓wSeq_Ret, ↓wSeq_Rais, ↓wSeq_Par, ↓wSeq_Par3, ↓wSeq_St0, ↓wSeq_St1, ↓wSeq_Brk, ↓wSeq_Cnt, ↓wSeq_RetN, ↓wSeq_RaiF, ↓wSet_e, ↓wOwn_e, ↓sE_0, ↓sE_s, ↓wIf_e, ↓wRet_e, ↓wRetN_e, ↓wNext_e, ↓wBreak_e, ↓wCont_e, ↓wExpr_e, ↓wRaise_e, ↓wRaiseF_e, ↓wAsg_e, ↓tgP_name, ↓tgP_tup, ↓tgPs_nil, ↓tgPs_cons, ↓wTry_e, ↓wPar_ff, ↓noSt_0n, ↓noSt_0non, ↓noSt_0bl, ↓noSt_0int, ↓noSt_0str, ↓noSt_0tup, ↓noSt_0lst, ↓noSt_0ol, ↓noSt_s, ↓sSt0, ↓sSt1, ↓sSt0S, ↓sSt1S, ↓wOwnS_e, ↓fnE_nx, ↓fnE_rt, ↓fnE_ex, ↓wFor_e, ↓wSeq_For, ↓wSeq_While, ↓wiSeq_e, ↓wk_t, ↓wk_s, ↓wk_l, ↓wk_n, ↓wk_o, ↓wiRg1_e, ↓wiRg2_e, ↓wLRg2_e, ↓wLRg1_e, ↓wComp_e, ↓noMut_c, ↓noMut_n, ↓nm1_0, ↓nm1_int, ↓nm1_tup, ↓nm1_s, ↓nm1_v, ↓wYes_e, ↓wipeC_n, ↓wipeC_1, ↓wipeC_2, ↓wipeC_3, ↓cAll_b, ↓cAny_b, ↓oNe_int, ↓ns2_n, ↓oEq_mal, wIsi_e, okV_non, okV_bl, okV_int, okV_stR, okV_tup, okV_lst, ↓stP_v, ↓rtP_v, ↓aP1_v, ↓stOnce_v, ↓noSt_v, ↓oEq_int, ↓oIsi_int, ↓oIsi_bool, ↓oIsi_str, ↓oIsi_tuple, ↓oIsi_list, startP, ↓reduceIte, List.map_cons, List.map_nil, List.length_cons, List.length_nil, List.replicate, List.cons_append, List.nil_append, List.append_nil, true_and, and_true, implies_true, Bool.false_eq_true, Bool.not_true, Bool.not_false, Nat.reduceAdd, Nat.reduceSub, Nat.zero_add, Nat.reduceLT, Nat.reduceLeDiff, Int.reduceLT, Int.reduceLE, decide_eq_true_eq, Bool.true_and, Bool.and_true, Bool.false_and, Bool.and_false] at h
        simp only [↓wVar_0, ↓wVar_s, ↓wC_e, ↓wOp_e, ↓oAdd_ii, ↓oAdd_ss, ↓oAdd_tt, ↓oAdd_ll_, ↓oAdd_ln_, ↓oAdd_lo_, ↓oAdd_nl_, ↓oAdd_nn_, ↓oAdd_no_, ↓oAdd_ol_, ↓oAdd_on_, ↓oAdd_oo_, ↓oSub_ii, ↓oMul_ii, ↓oMul_li, ↓oMul_ni, ↓oMul_oi, ↓oDiv_ii, ↓oMod_ii, ↓oLt_ii, ↓oLe_ii, ↓oGt_ii, ↓oGe_ii, ↓wNeg_e, ↓wT_e, ↓kB_b, ↓kI_i, ↓wAnd_e, ↓wOr_e, ↓wNot_e, ↓wAndV_e, ↓wOrV_e, ↓wNotV_e, ↓wIfE_e, ↓wChain_e, ↓wIsN_e, ↓wNotN_e, ↓wCall_e, ↓wCons_e, ↓wNil_e, ↓wTup_e, ↓wLst_e, ↓tP_0, ↓tP_1, ↓tP_2, ↓tP_3, ↓tP_4, ↓tP_5, ↓tP_6, ↓tP_7, ↓tP_8, ↓lP_0, ↓lP_1, ↓lP_2, ↓lP_3, ↓lP_4, ↓lP_5, ↓lP_6, ↓lP_7, ↓lP_8, ↓stP_non, ↓rtP_non, ↓aP1_non, ↓stP_bl, ↓rtP_bl, ↓aP1_bl, ↓isN_bl, ↓stP_int, ↓rtP_int, ↓aP1_int, ↓isN_int, ↓stP_str, ↓rtP_str, ↓aP1_str, ↓isN_str, ↓stP_adr, ↓rtP_adr, ↓aP1_adr, ↓isN_adr, ↓stP_tup, ↓rtP_tup, ↓aP1_tup, ↓isN_tup, ↓stP_lst, ↓rtP_lst, ↓aP1_lst, ↓isN_lst, ↓stP_scr, ↓rtP_scr, ↓aP1_scr, ↓isN_scr, ↓stP_obj, ↓rtP_obj, ↓aP1_obj, ↓isN_obj, ↓stP_dk, ↓rtP_dk, ↓aP1_dk, ↓isN_dk, ↓isN_non, ↓stP_nlst, ↓rtP_nlst, ↓rtP_olst, ↓aP1_nlst, ↓stP_ndk, ↓rtP_ndk, ↓rtP_odk, ↓aP1_ndk, ↓aP1_st, ↓nwP_n, ↓oFn_1, ↓oFn_2, ↓oFn_3, ↓oFn_4, ↓oFn_5, ↓oFn_6, ↓sto_non, ↓nst_non, ↓sto_bl, ↓nst_bl, ↓sto_int, ↓nst_int, ↓sto_str, ↓nst_str, ↓sto_adr, ↓nst_adr, ↓sto_tup, ↓nst_tup, ↓sto_lst, ↓nst_lst, ↓sto_scr, ↓nst_scr, ↓sto_obj, ↓nst_obj, ↓sto_dk, ↓nst_dk, ↓sto_st, ↓sto_nil, ↓nst_nil, ↓wIsi_e, ↓oIsi_int_non, ↓oIsi_int_bl, ↓oIsi_int_int, ↓oIsi_int_str, ↓oIsi_int_tup, ↓oIsi_int_lst, ↓oIsi_bool_non, ↓oIsi_bool_bl, ↓oIsi_bool_int, ↓oIsi_bool_str, ↓oIsi_bool_tup, ↓oIsi_bool_lst, ↓oIsi_str_non, ↓oIsi_str_bl, ↓oIsi_str_int, ↓oIsi_str_str, ↓oIsi_str_tup, ↓oIsi_str_lst, ↓oIsi_tuple_non, ↓oIsi_tuple_bl, ↓oIsi_tuple_int, ↓oIsi_tuple_str, ↓oIsi_tuple_tup, ↓oIsi_tuple_lst, ↓oIsi_list_non, ↓oIsi_list_bl, ↓oIsi_list_int, ↓oIsi_list_str, ↓oIsi_list_tup, ↓oIsi_list_lst, ↓oIx_t, ↓cLen_t, ↓cTup_t, ↓cLst_t, ↓oIx_s, ↓cLen_s, ↓cTup_s, ↓cLst_s, ↓oIx_l, ↓cLen_l, ↓cTup_l, ↓cLst_l, ↓oIx_n, ↓cLen_n, ↓cTup_n, ↓cLst_n, ↓oIx_o, ↓cLen_o, ↓cTup_o, ↓cLst_o, ↓ixP_0, ↓ixP_1, ↓ixP_2, ↓ixP_3, ↓ixP_4, ↓ixP_5, ↓wSl_e, ↓wPn_e, ↓wPs_e, ↓oSl_t, ↓oSl_s, ↓oSl_l, ↓oSl_n, ↓oSl_o, ↓cAbs_i, ↓cInt_i, ↓cMin2_ii, ↓cMax2_ii, ↓wSeq_Set, ↓wSeq_If, ↓wSeq_Exp, ↓wSeq_Asg, ↓wSeq_Seq, ↓wSeq_Own, ↓wSeq_StS, ↓wSeq_App, ↓wSeq_Next, ↓wSeq_Ret, ↓wSeq_Rais, ↓wSeq_Par, ↓wSeq_Par3, ↓wSeq_St0, ↓wSeq_St1, ↓wSeq_Brk, ↓wSeq_Cnt, ↓wSeq_RetN, ↓wSeq_RaiF, ↓wSet_e, ↓wOwn_e, ↓sE_0, ↓sE_s, ↓wIf_e, ↓wRet_e, ↓wRetN_e, ↓wNext_e, ↓wBreak_e, ↓wCont_e, ↓wExpr_e, ↓wRaise_e, ↓wRaiseF_e, ↓wAsg_e, ↓tgP_name, ↓tgP_tup, ↓tgPs_nil, ↓tgPs_cons, ↓wTry_e, ↓wPar_ff, ↓noSt_0n, ↓noSt_0non, ↓noSt_0bl, ↓noSt_0int, ↓noSt_0str, ↓noSt_0tup, ↓noSt_0lst, ↓noSt_0ol, ↓noSt_s, ↓sSt0, ↓sSt1, ↓sSt0S, ↓sSt1S, ↓wOwnS_e, ↓fnE_nx, ↓fnE_rt, ↓fnE_ex, ↓wFor_e, ↓wSeq_For, ↓wSeq_While, ↓wiSeq_e, ↓wk_t, ↓wk_s, ↓wk_l, ↓wk_n, ↓wk_o, ↓wiRg1_e, ↓wiRg2_e, ↓wLRg2_e, ↓wLRg1_e, ↓wComp_e, ↓noMut_c, ↓noMut_n, ↓nm1_0, ↓nm1_int, ↓nm1_tup, ↓nm1_s, ↓nm1_v, ↓wYes_e, ↓wipeC_n, ↓wipeC_1, ↓wipeC_2, ↓wipeC_3, ↓cAll_b, ↓cAny_b, ↓oNe_int, ↓ns2_n, ↓oEq_mal, wIsi_e, okV_non, okV_bl, okV_int, okV_stR, okV_tup, okV_lst, ↓stP_v, ↓rtP_v, ↓aP1_v, ↓stOnce_v, ↓noSt_v, ↓oEq_int, ↓oIsi_int, ↓oIsi_bool, ↓oIsi_str, ↓oIsi_tuple, ↓oIsi_list, startP, ↓reduceIte, List.map_cons, List.map_nil, List.length_cons, List.length_nil, List.replicate, List.cons_append, List.nil_append, List.append_nil, true_and, and_true, implies_true, Bool.false_eq_true, Bool.not_true, Bool.not_false, Nat.reduceAdd, Nat.reduceSub, Nat.zero_add, Nat.reduceLT, Nat.reduceLeDiff, Int.reduceLT, Int.reduceLE, decide_eq_true_eq, Bool.true_and, Bool.and_true, Bool.false_and, Bool.and_false]
        refine ⟨⟨rgOk_of (by omega) (by omega), rgOk_of (by omega) (by omega)⟩, ?_⟩
        refine loopS_st (σ := Int × Option PV) (fun s => [some (.int n), some (.int k), some (.int s.1), s.2]) (fun i s => s.1 = jos k (i + 1)) (0, none) ⟨rfl, by show (0 : Int) = (jos k 0 + k) % _; simp⟩ ?_ ?_
        · rintro i ⟨a, x⟩ p ha hp
          obtain ⟨rfl, hi⟩ := rgP_get hp
          dsimp only at ha
          subst ha
          simp only [↓wVar_0, ↓wVar_s, ↓wC_e, ↓wOp_e, ↓oAdd_ii, ↓oAdd_ss, ↓oAdd_tt, ↓oAdd_ll_, ↓oAdd_ln_, ↓oAdd_lo_, ↓oAdd_nl_, ↓oAdd_nn_, ↓oAdd_no_, ↓oAdd_ol_, ↓oAdd_on_, ↓oAdd_oo_, ↓oSub_ii, ↓oMul_ii, ↓oMul_li, ↓oMul_ni, ↓oMul_oi, ↓oDiv_ii, ↓oMod_ii, ↓oLt_ii, ↓oLe_ii, ↓oGt_ii, ↓oGe_ii, ↓wNeg_e, ↓wT_e, ↓kB_b, ↓kI_i, ↓wAnd_e, ↓wOr_e, ↓wNot_e, ↓wAndV_e, ↓wOrV_e, ↓wNotV_e, ↓wIfE_e, ↓wChain_e, ↓wIsN_e, ↓wNotN_e, ↓wCall_e, ↓wCons_e, ↓wNil_e, ↓wTup_e, ↓wLst_e, ↓tP_0, ↓tP_1, ↓tP_2, ↓tP_3, ↓tP_4, ↓tP_5, ↓tP_6, ↓tP_7, ↓tP_8, ↓lP_0, ↓lP_1, ↓lP_2, ↓lP_3, ↓lP_4, ↓lP_5, ↓lP_6, ↓lP_7, ↓lP_8, ↓stP_non, ↓rtP_non, ↓aP1_non, ↓stP_bl, ↓rtP_bl, ↓aP1_bl, ↓isN_bl, ↓stP_int, ↓rtP_int, ↓aP1_int, ↓isN_int, ↓stP_str, ↓rtP_str, ↓aP1_str, ↓isN_str, ↓stP_adr, ↓rtP_adr, ↓aP1_adr, ↓isN_adr, ↓stP_tup, ↓rtP_tup, ↓aP1_tup, ↓isN_tup, ↓stP_lst, ↓rtP_lst, ↓aP1_lst, ↓isN_lst, ↓stP_scr, ↓rtP_scr, ↓aP1_scr, ↓isN_scr, ↓stP_obj, ↓rtP_obj, ↓aP1_obj, ↓isN_obj, ↓stP_dk, ↓rtP_dk, ↓aP1_dk, ↓isN_dk, ↓isN_non, ↓stP_nlst, ↓rtP_nlst, ↓rtP_olst, ↓aP1_nlst, ↓stP_ndk, ↓rtP_ndk, ↓rtP_odk, ↓aP1_ndk, ↓aP1_st, ↓nwP_n, ↓oFn_1, ↓oFn_2, ↓oFn_3, ↓oFn_4, ↓oFn_5, ↓oFn_6, ↓sto_non, ↓nst_non, ↓sto_bl, ↓nst_bl, ↓sto_int, ↓nst_int, ↓sto_str, ↓nst_str, ↓sto_adr, ↓nst_adr, ↓sto_tup, ↓nst_tup, ↓sto_lst, ↓nst_lst, ↓sto_scr, ↓nst_scr, ↓sto_obj, ↓nst_obj, ↓sto_dk, ↓nst_dk, ↓sto_st, ↓sto_nil, ↓nst_nil, ↓wIsi_e, ↓oIsi_int_non, ↓oIsi_int_bl, ↓oIsi_int_int, ↓oIsi_int_str, ↓oIsi_int_tup, ↓oIsi_int_lst, ↓oIsi_bool_non, ↓oIsi_bool_bl, ↓oIsi_bool_int, ↓oIsi_bool_str, ↓oIsi_bool_tup, ↓oIsi_bool_lst, ↓oIsi_str_non, ↓oIsi_str_bl, ↓oIsi_str_int, ↓oIsi_str_str, ↓oIsi_str_tup, ↓oIsi_str_lst, ↓oIsi_tuple_non, ↓oIsi_tuple_bl, ↓oIsi_tuple_int, ↓oIsi_tuple_str, ↓oIsi_tuple_tup, ↓oIsi_tuple_lst, ↓oIsi_list_non, ↓oIsi_list_bl, ↓oIsi_list_int, ↓oIsi_list_str, ↓oIsi_list_tup, ↓oIsi_list_lst, ↓oIx_t, ↓cLen_t, ↓cTup_t, ↓cLst_t, ↓oIx_s, ↓cLen_s, ↓cTup_s, ↓cLst_s, ↓oIx_l, ↓cLen_l, ↓cTup_l, ↓cLst_l, ↓oIx_n, ↓cLen_n, ↓cTup_n, ↓cLst_n, ↓oIx_o, ↓cLen_o, ↓cTup_o, ↓cLst_o, ↓ixP_0, ↓ixP_1, ↓ixP_2, ↓ixP_3, ↓ixP_4, ↓ixP_5, ↓wSl_e, ↓wPn_e, ↓wPs_e, ↓oSl_t, ↓oSl_s, ↓oSl_l, ↓oSl_n, ↓oSl_o, ↓cAbs_i, ↓cInt_i, ↓cMin2_ii, ↓cMax2_ii, ↓wSeq_Set, ↓wSeq_If, ↓wSeq_Exp, ↓wSeq_Asg, ↓wSeq_Seq, ↓wSeq_Own, ↓wSeq_StS, ↓wSeq_App, ↓wSeq_Next, ↓wSeq_Ret, ↓wSeq_Rais, ↓wSeq_Par, ↓wSeq_Par3, ↓wSeq_St0, ↓wSeq_St1, ↓wSeq_Brk, ↓wSeq_Cnt, ↓wSeq_RetN, ↓wSeq_RaiF, ↓wSet_e, ↓wOwn_e, ↓sE_0, ↓sE_s, ↓wIf_e, ↓wRet_e, ↓wRetN_e, ↓wNext_e, ↓wBreak_e, ↓wCont_e, ↓wExpr_e, ↓wRaise_e, ↓wRaiseF_e, ↓wAsg_e, ↓tgP_name, ↓tgP_tup, ↓tgPs_nil, ↓tgPs_cons, ↓wTry_e, ↓wPar_ff, ↓noSt_0n, ↓noSt_0non, ↓noSt_0bl, ↓noSt_0int, ↓noSt_0str, ↓noSt_0tup, ↓noSt_0lst, ↓noSt_0ol, ↓noSt_s, ↓sSt0, ↓sSt1, ↓sSt0S, ↓sSt1S, ↓wOwnS_e, ↓fnE_nx, ↓fnE_rt, ↓fnE_ex, ↓wFor_e, ↓wSeq_For, ↓wSeq_While, ↓wiSeq_e, ↓wk_t, ↓wk_s, ↓wk_l, ↓wk_n, ↓wk_o, ↓wiRg1_e, ↓wiRg2_e, ↓wLRg2_e, ↓wLRg1_e, ↓wComp_e, ↓noMut_c, ↓noMut_n, ↓nm1_0, ↓nm1_int, ↓nm1_tup, ↓nm1_s, ↓nm1_v, ↓wYes_e, ↓wipeC_n, ↓wipeC_1, ↓wipeC_2, ↓wipeC_3, ↓cAll_b, ↓cAny_b, ↓oNe_int, ↓ns2_n, ↓oEq_mal, wIsi_e, okV_non, okV_bl, okV_int, okV_stR, okV_tup, okV_lst, ↓stP_v, ↓rtP_v, ↓aP1_v, ↓stOnce_v, ↓noSt_v, ↓oEq_int, ↓oIsi_int, ↓oIsi_bool, ↓oIsi_str, ↓oIsi_tuple, ↓oIsi_list, startP, ↓reduceIte, List.map_cons, List.map_nil, List.length_cons, List.length_nil, List.replicate, List.cons_append, List.nil_append, List.append_nil, true_and, and_true, implies_true, Bool.false_eq_true, Bool.not_true, Bool.not_false, Nat.reduceAdd, Nat.reduceSub, Nat.zero_add, Nat.reduceLT, Nat.reduceLeDiff, Int.reduceLT, Int.reduceLE, decide_eq_true_eq, Bool.true_and, Bool.and_true, Bool.false_and, Bool.and_false]
          refine ⟨by omega, ⟨_, some _⟩, rfl, ?_⟩
          exact turn_n
        · rintro ⟨a, x⟩ ha
          dsimp only at ha
          subst ha
          rw [rgP_len]
          simp only [↓wVar_0, ↓wVar_s, ↓wC_e, ↓wOp_e, ↓oAdd_ii, ↓oAdd_ss, ↓oAdd_tt, ↓oAdd_ll_, ↓oAdd_ln_, ↓oAdd_lo_, ↓oAdd_nl_, ↓oAdd_nn_, ↓oAdd_no_, ↓oAdd_ol_, ↓oAdd_on_, ↓oAdd_oo_, ↓oSub_ii, ↓oMul_ii, ↓oMul_li, ↓oMul_ni, ↓oMul_oi, ↓oDiv_ii, ↓oMod_ii, ↓oLt_ii, ↓oLe_ii, ↓oGt_ii, ↓oGe_ii, ↓wNeg_e, ↓wT_e, ↓kB_b, ↓kI_i, ↓wAnd_e, ↓wOr_e, ↓wNot_e, ↓wAndV_e, ↓wOrV_e, ↓wNotV_e, ↓wIfE_e, ↓wChain_e, ↓wIsN_e, ↓wNotN_e, ↓wCall_e, ↓wCons_e, ↓wNil_e, ↓wTup_e, ↓wLst_e, ↓tP_0, ↓tP_1, ↓tP_2, ↓tP_3, ↓tP_4, ↓tP_5, ↓tP_6, ↓tP_7, ↓tP_8, ↓lP_0, ↓lP_1, ↓lP_2, ↓lP_3, ↓lP_4, ↓lP_5, ↓lP_6, ↓lP_7, ↓lP_8, ↓stP_non, ↓rtP_non, ↓aP1_non, ↓stP_bl, ↓rtP_bl, ↓aP1_bl, ↓isN_bl, ↓stP_int, ↓rtP_int, ↓aP1_int, ↓isN_int, ↓stP_str, ↓rtP_str, ↓aP1_str, ↓isN_str, ↓stP_adr, ↓rtP_adr, ↓aP1_adr, ↓isN_adr, ↓stP_tup, ↓rtP_tup, ↓aP1_tup, ↓isN_tup, ↓stP_lst, ↓rtP_lst, ↓aP1_lst, ↓isN_lst, ↓stP_scr, ↓rtP_scr, ↓aP1_scr, ↓isN_scr, ↓stP_obj, ↓rtP_obj, ↓aP1_obj, ↓isN_obj, ↓stP_dk, ↓rtP_dk, ↓aP1_dk, ↓isN_dk, ↓isN_non, ↓stP_nlst, ↓rtP_nlst, ↓rtP_olst, ↓aP1_nlst, ↓stP_ndk, ↓rtP_ndk, ↓rtP_odk, ↓aP1_ndk, ↓aP1_st, ↓nwP_n, ↓oFn_1, ↓oFn_2, ↓oFn_3, ↓oFn_4, ↓oFn_5, ↓oFn_6, ↓sto_non, ↓nst_non, ↓sto_bl, ↓nst_bl, ↓sto_int, ↓nst_int, ↓sto_str, ↓nst_str, ↓sto_adr, ↓nst_adr, ↓sto_tup, ↓nst_tup, ↓sto_lst, ↓nst_lst, ↓sto_scr, ↓nst_scr, ↓sto_obj, ↓nst_obj, ↓sto_dk, ↓nst_dk, ↓sto_st, ↓sto_nil, ↓nst_nil, ↓wIsi_e, ↓oIsi_int_non, ↓oIsi_int_bl, ↓oIsi_int_int, ↓oIsi_int_str, ↓oIsi_int_tup, ↓oIsi_int_lst, ↓oIsi_bool_non, ↓oIsi_bool_bl, ↓oIsi_bool_int, ↓oIsi_bool_str, ↓oIsi_bool_tup, ↓oIsi_bool_lst, ↓oIsi_str_non, ↓oIsi_str_bl, ↓oIsi_str_int, ↓oIsi_str_str, ↓oIsi_str_tup, ↓oIsi_str_lst, ↓oIsi_tuple_non, ↓oIsi_tuple_bl, ↓oIsi_tuple_int, ↓oIsi_tuple_str, ↓oIsi_tuple_tup, ↓oIsi_tuple_lst, ↓oIsi_list_non, ↓oIsi_list_bl, ↓oIsi_list_int, ↓oIsi_list_str, ↓oIsi_list_tup, ↓oIsi_list_lst, ↓oIx_t, ↓cLen_t, ↓cTup_t, ↓cLst_t, ↓oIx_s, ↓cLen_s, ↓cTup_s, ↓cLst_s, ↓oIx_l, ↓cLen_l, ↓cTup_l, ↓cLst_l, ↓oIx_n, ↓cLen_n, ↓cTup_n, ↓cLst_n, ↓oIx_o, ↓cLen_o, ↓cTup_o, ↓cLst_o, ↓ixP_0, ↓ixP_1, ↓ixP_2, ↓ixP_3, ↓ixP_4, ↓ixP_5, ↓wSl_e, ↓wPn_e, ↓wPs_e, ↓oSl_t, ↓oSl_s, ↓oSl_l, ↓oSl_n, ↓oSl_o, ↓cAbs_i, ↓cInt_i, ↓cMin2_ii, ↓cMax2_ii, ↓wSeq_Set, ↓wSeq_If, ↓wSeq_Exp, ↓wSeq_Asg, ↓wSeq_Seq, ↓wSeq_Own, ↓wSeq_StS, ↓wSeq_App, ↓wSeq_Next, ↓wSeq_Ret, ↓wSeq_Rais, ↓wSeq_Par, ↓wSeq_Par3, ↓wSeq_St0, ↓wSeq_St1, ↓wSeq_Brk, ↓wSeq_Cnt, ↓wSeq_RetN, ↓wSeq_RaiF, ↓wSet_e, ↓wOwn_e, ↓sE_0, ↓sE_s, ↓wIf_e, ↓wRet_e, ↓wRetN_e, ↓wNext_e, ↓wBreak_e, ↓wCont_e, ↓wExpr_e, ↓wRaise_e, ↓wRaiseF_e, ↓wAsg_e, ↓tgP_name, ↓tgP_tup, ↓tgPs_nil, ↓tgPs_cons, ↓wTry_e, ↓wPar_ff, ↓noSt_0n, ↓noSt_0non, ↓noSt_0bl, ↓noSt_0int, ↓noSt_0str, ↓noSt_0tup, ↓noSt_0lst, ↓noSt_0ol, ↓noSt_s, ↓sSt0, ↓sSt1, ↓sSt0S, ↓sSt1S, ↓wOwnS_e, ↓fnE_nx, ↓fnE_rt, ↓fnE_ex, ↓wFor_e, ↓wSeq_For, ↓wSeq_While, ↓wiSeq_e, ↓wk_t, ↓wk_s, ↓wk_l, ↓wk_n, ↓wk_o, ↓wiRg1_e, ↓wiRg2_e, ↓wLRg2_e, ↓wLRg1_e, ↓wComp_e, ↓noMut_c, ↓noMut_n, ↓nm1_0, ↓nm1_int, ↓nm1_tup, ↓nm1_s, ↓nm1_v, ↓wYes_e, ↓wipeC_n, ↓wipeC_1, ↓wipeC_2, ↓wipeC_3, ↓cAll_b, ↓cAny_b, ↓oNe_int, ↓ns2_n, ↓oEq_mal, wIsi_e, okV_non, okV_bl, okV_int, okV_stR, okV_tup, okV_lst, ↓stP_v, ↓rtP_v, ↓aP1_v, ↓stOnce_v, ↓noSt_v, ↓oEq_int, ↓oIsi_int, ↓oIsi_bool, ↓oIsi_str, ↓oIsi_tuple, ↓oIsi_list, startP, ↓reduceIte, List.map_cons, List.map_nil, List.length_cons, List.length_nil, List.replicate, List.cons_append, List.nil_append, List.append_nil, true_and, and_true, implies_true, Bool.false_eq_true, Bool.not_true, Bool.not_false, Nat.reduceAdd, Nat.reduceSub, Nat.zero_add, Nat.reduceLT, Nat.reduceLeDiff, Int.reduceLT, Int.reduceLE, decide_eq_true_eq, Bool.true_and, Bool.and_true, Bool.false_and, Bool.and_false]
          have e : (n + 1 - 2).toNat + 1 = n.toNat := by omega
          rw [e]
          exact h
theorem p_z_law_turns (A : Ad) (hA : A.Ok) : ∀ qs Q R, qs.length = 2 → fs_z_law_turns A qs Q R → w_z_law_turns A (fnEnds Q R) (startP 4 qs)
  | [.int n, .int k], Q, R, _, ⟨⟨hn1, hn2, hk1, hk2⟩, h⟩ => by
    simp only [w_z_law_turns, ↓wVar_0, ↓wVar_s, ↓wC_e, ↓wOp_e, ↓oAdd_ii, ↓oAdd_ss, ↓oAdd_tt, ↓oAdd_ll_, ↓oAdd_ln_, ↓oAdd_lo_, ↓oAdd_nl_, ↓oAdd_nn_, ↓oAdd_no_, ↓oAdd_ol_, ↓oAdd_on_, ↓oAdd_oo_, ↓oSub_ii, ↓oMul_ii, ↓oMul_li, ↓oMul_ni, ↓oMul_oi, ↓oDiv_ii, ↓oMod_ii, ↓oLt_ii, ↓oLe_ii, ↓oGt_ii, ↓oGe_ii, ↓wNeg_e, ↓wT_e, ↓kB_b, ↓kI_i, ↓wAnd_e, ↓wOr_e, ↓wNot_e, ↓wAndV_e, ↓wOrV_e, ↓wNotV_e, ↓wIfE_e, ↓wChain_e, ↓wIsN_e, ↓wNotN_e, ↓wCall_e, ↓wCons_e, ↓wNil_e, ↓wTup_e, ↓wLst_e, ↓tP_0, ↓tP_1, ↓tP_2, ↓tP_3, ↓tP_4, ↓tP_5, ↓tP_6, ↓tP_7, ↓tP_8, ↓lP_0, ↓lP_1, ↓lP_2, ↓lP_3, ↓lP_4, ↓lP_5, ↓lP_6, ↓lP_7, ↓lP_8, ↓stP_non, ↓rtP_non, ↓aP1_non, ↓stP_bl, ↓rtP_bl, ↓aP1_bl, ↓isN_bl, ↓stP_int, ↓rtP_int, ↓aP1_int, ↓isN_int, ↓stP_str, ↓rtP_str, ↓aP1_str, ↓isN_str, ↓stP_adr, ↓rtP_adr, ↓aP1_adr, ↓isN_adr, ↓stP_tup, ↓rtP_tup, ↓aP1_tup, ↓isN_tup, ↓stP_lst, ↓rtP_lst, ↓aP1_lst, ↓isN_lst, ↓stP_scr, ↓rtP_scr, ↓aP1_scr, ↓isN_scr, ↓stP_obj, ↓rtP_obj, ↓aP1_obj, ↓isN_obj, ↓stP_dk, ↓rtP_dk, ↓aP1_dk, ↓isN_dk, ↓isN_non, ↓stP_nlst, ↓rtP_nlst, ↓rtP_olst, ↓aP1_nlst, ↓stP_ndk, ↓rtP_ndk, ↓rtP_odk, ↓aP1_ndk, ↓aP1_st, ↓nwP_n, ↓oFn_1, ↓oFn_2, ↓oFn_3, ↓oFn_4, ↓oFn_5, ↓oFn_6, ↓sto_non, ↓nst_non, ↓sto_bl, ↓nst_bl, ↓sto_int, ↓nst_int, ↓sto_str, ↓nst_str, ↓sto_adr, ↓nst_adr, ↓sto_tup, ↓nst_tup, ↓sto_lst, ↓nst_lst, ↓sto_scr, ↓nst_scr, ↓sto_obj, ↓nst_obj, ↓sto_dk, ↓nst_dk, ↓sto_st, ↓sto_nil, ↓nst_nil, ↓wIsi_e, ↓oIsi_int_non, ↓oIsi_int_bl, ↓oIsi_int_int, ↓oIsi_int_str, ↓oIsi_int_tup, ↓oIsi_int_lst, ↓oIsi_bool_non, ↓oIsi_bool_bl, ↓oIsi_bool_int, ↓oIsi_bool_str, ↓oIsi_bool_tup, ↓oIsi_bool_lst, ↓oIsi_str_non, ↓oIsi_str_bl, ↓oIsi_str_int, ↓oIsi_str_str, ↓oIsi_str_tup, ↓oIsi_str_lst, ↓oIsi_tuple_non, ↓oIsi_tuple_bl, ↓oIsi_tuple_int, ↓oIsi_tuple_str, ↓oIsi_tuple_tup, ↓oIsi_tuple_lst, ↓oIsi_list_non, ↓oIsi_list_bl, ↓oIsi_list_int, ↓oIsi_list_str, ↓oIsi_list_tup, ↓oIsi_list_lst, ↓oIx_t, ↓cLen_t, ↓cTup_t, ↓cLst_t, ↓oIx_s, ↓cLen_s, ↓cTup_s, ↓cLst_s, ↓oIx_l, ↓cLen_l, ↓cTup_l, ↓cLst_l, ↓oIx_n, ↓cLen_n, ↓cTup_n, ↓cLst_n, ↓oIx_o, ↓cLen_o, ↓cTup_o, ↓cLst_o, ↓ixP_0, ↓ixP_1, ↓ixP_2, ↓ixP_3, ↓ixP_4, ↓ixP_5, ↓wSl_e, ↓wPn_e, ↓wPs_e, ↓oSl_t, ↓oSl_s, ↓oSl_l, ↓oSl_n, ↓oSl_o, ↓cAbs_i, ↓cInt_i, ↓cMin2_ii, ↓cMax2_ii, ↓wSeq_Set, ↓wSeq_If, ↓wSeq_Exp, ↓wSeq_Asg, ↓wSeq_Seq, ↓wSeq_Own, ↓wSeq_StS, ↓wSeq_App, ↓wSeq_Next, ↓wSeq_Ret, ↓wSeq_Rais, ↓wSeq_Par, ↓wSeq_Par3, ↓wSeq_St0, ↓wSeq_St1, ↓wSeq_Brk, ↓wSeq_Cnt, ↓wSeq_RetN, ↓wSeq_RaiF, ↓wSet_e, ↓wOwn_e, ↓sE_0, ↓sE_s, ↓wIf_e, ↓wRet_e, ↓wRetN_e, ↓wNext_e, ↓wBreak_e, ↓wCont_e, ↓wExpr_e, ↓wRaise_e, ↓wRaiseF_e, ↓wAsg_e, ↓tgP_name, ↓tgP_tup, ↓tgPs_nil, ↓tgPs_cons, ↓wTry_e, ↓wPar_ff, ↓noSt_0n, ↓noSt_0non, ↓noSt_0bl, ↓noSt_0int, ↓noSt_0str, ↓noSt_0tup, ↓noSt_0lst, ↓noSt_0ol, ↓noSt_s, ↓sSt0, ↓sSt1, ↓sSt0S, ↓sSt1S, ↓wOwnS_e, ↓fnE_nx, ↓fnE_rt, ↓fnE_ex, ↓wFor_e, ↓wSeq_For, ↓wSeq_While, ↓wiSeq_e, ↓wk_t, ↓wk_s, ↓wk_l, ↓wk_n, ↓wk_o, ↓wiRg1_e, ↓wiRg2_e, ↓wLRg2_e, ↓wLRg1_e, ↓wComp_e, ↓noMut_c, ↓noMut_n, ↓nm1_0, ↓nm1_int, ↓nm1_tup, ↓nm1_s, ↓nm1_v, ↓wYes_e, ↓wipeC_n, ↓wipeC_1, ↓wipeC_2, ↓wipeC_3, ↓cAll_b, ↓cAny_b, ↓oNe_int, ↓ns2_n, ↓oEq_mal, wIsi_e, okV_non, okV_bl, okV_int, okV_stR, okV_tup, okV_lst, ↓stP_v, ↓rtP_v, ↓aP1_v, ↓stOnce_v, ↓noSt_v, ↓oEq_int, ↓oIsi_int, ↓oIsi_bool, ↓oIsi_str, ↓oIsi_tuple, ↓oIsi_list, startP, ↓reduceIte, List.map_cons, List.map_nil, List.length_cons, List.length_nil, List.replicate, List.cons_append, List.nil_append, List.append_nil, true_and, and_true, implies_true, Bool.false_eq_true, Bool.not_true, Bool.not_false, Nat.reduceAdd, Nat.reduceSub, Nat.zero_add, Nat.reduceLT, Nat.reduceLeDiff, Int.reduceLT, Int.reduceLE, decide_eq_true_eq, Bool.true_and, Bool.and_true, Bool.false_and, Bool.and_false]
    refine ⟨⟨rgOk_of (by omega) (by omega), rgOk_of (by omega) (by omega)⟩, ?_⟩
    refine loopS_st (σ := Int × Option PV) (fun s => [some (.int n), some (.int k), some (.int s.1), s.2]) (fun i s => s.1 = jos k (i + 1)) (0, none) ⟨rfl, by show (0 : Int) = (jos k 0 + k) % _; simp⟩ ?_ ?_
    · rintro i ⟨a, x⟩ p ha hp
      obtain ⟨rfl, hi⟩ := rgP_get hp
      dsimp only at ha
      subst ha
      simp only [↓wVar_0, ↓wVar_s, ↓wC_e, ↓wOp_e, ↓oAdd_ii, ↓oAdd_ss, ↓oAdd_tt, ↓oAdd_ll_, ↓oAdd_ln_, ↓oAdd_lo_, ↓oAdd_nl_, ↓oAdd_nn_, ↓oAdd_no_, ↓oAdd_ol_, ↓oAdd_on_, ↓oAdd_oo_, ↓oSub_ii, ↓oMul_ii, ↓oMul_li, ↓oMul_ni, ↓oMul_oi, ↓oDiv_ii, ↓oMod_ii, ↓oLt_ii, ↓oLe_ii, ↓oGt_ii, ↓oGe_ii, ↓wNeg_e, ↓wT_e, ↓kB_b, ↓kI_i, ↓wAnd_e, ↓wOr_e, ↓wNot_e, ↓wAndV_e, ↓wOrV_e, ↓wNotV_e, ↓wIfE_e, ↓wChain_e, ↓wIsN_e, ↓wNotN_e, ↓wCall_e, ↓wCons_e, ↓wNil_e, ↓wTup_e, ↓wLst_e, ↓tP_0, ↓tP_1, ↓tP_2, ↓tP_3, ↓tP_4, ↓tP_5, ↓tP_6, ↓tP_7, ↓tP_8, ↓lP_0, ↓lP_1, ↓lP_2, ↓lP_3, ↓lP_4, ↓lP_5, ↓lP_6, ↓lP_7, ↓lP_8, ↓stP_non, ↓rtP_non, ↓aP1_non, ↓stP_bl, ↓rtP_bl, ↓aP1_bl, ↓isN_bl, ↓stP_int, ↓rtP_int, ↓aP1_int, ↓isN_int, ↓stP_str, ↓rtP_str, ↓aP1_str, ↓isN_str, ↓stP_adr, ↓rtP_adr, ↓aP1_adr, ↓isN_adr, ↓stP_tup, ↓rtP_tup, ↓aP1_tup, ↓isN_tup, ↓stP_lst, ↓rtP_lst, ↓aP1_lst, ↓isN_lst, ↓stP_scr, ↓rtP_scr, ↓aP1_scr, ↓isN_scr, ↓stP_obj, ↓rtP_obj, ↓aP1_obj, ↓isN_obj, ↓stP_dk, ↓rtP_dk, ↓aP1_dk, ↓isN_dk, ↓isN_non, ↓stP_nlst, ↓rtP_nlst, ↓rtP_olst, ↓aP1_nlst, ↓stP_ndk, ↓rtP_ndk, ↓rtP_odk, ↓aP1_ndk, ↓aP1_st, ↓nwP_n, ↓oFn_1, ↓oFn_2, ↓oFn_3, ↓oFn_4, ↓oFn_5, ↓oFn_6, ↓sto_non, ↓nst_non, ↓sto_bl, ↓nst_bl, ↓sto_int, ↓nst_int, ↓sto_str, ↓nst_str, ↓sto_adr, ↓nst_adr, ↓sto_tup, ↓nst_tup, ↓sto_lst, ↓nst_lst, ↓sto_scr, ↓nst_scr, ↓sto_obj, ↓nst_obj, ↓sto_dk, ↓nst_dk, ↓sto_st, ↓sto_nil, ↓nst_nil, ↓wIsi_e, ↓oIsi_int_non, ↓oIsi_int_bl, ↓oIsi_int_int, ↓oIsi_int_str, ↓oIsi_int_tup, ↓oIsi_int_lst, ↓oIsi_bool_non, ↓oIsi_bool_bl, ↓oIsi_bool_int, ↓oIsi_bool_str, ↓oIsi_bool_tup, ↓oIsi_bool_lst, ↓oIsi_str_non, ↓oIsi_str_bl, ↓oIsi_str_int, ↓oIsi_str_str, ↓oIsi_str_tup, ↓oIsi_str_lst, ↓oIsi_tuple_non, ↓oIsi_tuple_bl, ↓oIsi_tuple_int, ↓oIsi_tuple_str, ↓oIsi_tuple_tup, ↓oIsi_tuple_lst, ↓oIsi_list_non, ↓oIsi_list_bl, ↓oIsi_list_int, ↓oIsi_list_str, ↓oIsi_list_tup, ↓oIsi_list_lst, ↓oIx_t, ↓cLen_t, ↓cTup_t, ↓cLst_t, ↓oIx_s, ↓cLen_s, ↓cTup_s, ↓cLst_s, ↓oIx_l, ↓cLen_l, ↓cTup_l, ↓cLst_l, ↓oIx_n, ↓cLen_n, ↓cTup_n, ↓cLst_n, ↓oIx_o, ↓cLen_o, ↓cTup_o, ↓cLst_o, ↓ixP_0, ↓ixP_1, ↓ixP_2, ↓ixP_3, ↓ixP_4, ↓ixP_5, ↓wSl_e, ↓wPn_e, ↓wPs_e, ↓oSl_t, ↓oSl_s, ↓oSl_l, ↓oSl_n, ↓oSl_o, ↓cAbs_i, ↓cInt_i, ↓cMin2_ii, ↓cMax2_ii, ↓wSeq_Set, ↓wSeq_If, ↓wSeq_Exp, ↓wSeq_Asg, ↓wSeq_Seq, ↓wSeq_Own, ↓wSeq_StS, ↓wSeq_App, ↓wSeq_Next, ↓wSeq_Ret, ↓wSeq_Rais, ↓wSeq_Par, ↓wSeq_Par3, ↓wSeq_St0, ↓wSeq_St1, ↓wSeq_Brk, ↓wSeq_Cnt, ↓wSeq_RetN, ↓wSeq_RaiF, ↓wSet_e, ↓wOwn_e, ↓sE_0, ↓sE_s, ↓wIf_e, ↓wRet_e, ↓wRetN_e, ↓wNext_e, ↓wBreak_e, ↓wCont_e, ↓wExpr_e, ↓wRaise_e, ↓wRaiseF_e, ↓wAsg_e, ↓tgP_name, ↓tgP_tup, ↓tgPs_nil, ↓tgPs_cons, ↓wTry_e, ↓wPar_ff, ↓noSt_0n, ↓noSt_0non, ↓noSt_0bl, ↓noSt_0int, ↓noSt_0str, ↓noSt_0tup, ↓noSt_0lst, ↓noSt_0ol, ↓noSt_s, ↓sSt0, ↓sSt1, ↓sSt0S, ↓sSt1S, ↓wOwnS_e, ↓fnE_nx, ↓fnE_rt, ↓fnE_ex, ↓wFor_e, ↓wSeq_For, ↓wSeq_While, ↓wiSeq_e, ↓wk_t, ↓wk_s, ↓wk_l, ↓wk_n, ↓wk_o, ↓wiRg1_e, ↓wiRg2_e, ↓wLRg2_e, ↓wLRg1_e, ↓wComp_e, ↓noMut_c, ↓noMut_n, ↓nm1_0, ↓nm1_int, ↓nm1_tup, ↓nm1_s, ↓nm1_v, ↓wYes_e, ↓wipeC_n, ↓wipeC_1, ↓wipeC_2, ↓wipeC_3, ↓cAll_b, ↓cAny_b, ↓oNe_int, ↓ns2_n, ↓oEq_mal, wIsi_e, okV_non, okV_bl, okV_int, okV_stR, okV_tup, okV_lst, ↓stP_v, ↓rtP_v, ↓aP1_v, ↓stOnce_v, ↓noSt_v, ↓oEq_int, ↓oIsi_int, ↓oIsi_bool, ↓oIsi_str, ↓oIsi_tuple, ↓oIsi_list, startP, ↓reduceIte, List.map_cons, List.map_nil, List.length_cons, List.length_nil, List.replicate, List.cons_append, List.nil_append, List.append_nil, true_and, and_true, implies_true, Bool.false_eq_true, Bool.not_true, Bool.not_false, Nat.reduceAdd, Nat.reduceSub, Nat.zero_add, Nat.reduceLT, Nat.reduceLeDiff, Int.reduceLT, Int.reduceLE, decide_eq_true_eq, Bool.true_and, Bool.and_true, Bool.false_and, Bool.and_false]
      refine ⟨by omega, ⟨_, some _⟩, rfl, ?_⟩
      exact turn_n
    · rintro ⟨a, x⟩ ha
      dsimp only at ha
      subst ha
      rw [rgP_len]
      simp only [↓wVar_0, ↓wVar_s, ↓wC_e, ↓wOp_e, ↓oAdd_ii, ↓oAdd_ss, ↓oAdd_tt, ↓oAdd_ll_, ↓oAdd_ln_, ↓oAdd_lo_, ↓oAdd_nl_, ↓oAdd_nn_, ↓oAdd_no_, ↓oAdd_ol_, ↓oAdd_on_, ↓oAdd_oo_, ↓oSub_ii, ↓oMul_ii, ↓oMul_li, ↓oMul_ni, ↓oMul_oi, ↓oDiv_ii, ↓oMod_ii, ↓oLt_ii, ↓oLe_ii, ↓oGt_ii, ↓oGe_ii, ↓wNeg_e, ↓wT_e, ↓kB_b, ↓kI_i, ↓wAnd_e, ↓wOr_e, ↓wNot_e, ↓wAndV_e, ↓wOrV_e, ↓wNotV_e, ↓wIfE_e, ↓wChain_e, ↓wIsN_e, ↓wNotN_e, ↓wCall_e, ↓wCons_e, ↓wNil_e, ↓wTup_e, ↓wLst_e, ↓tP_0, ↓tP_1, ↓tP_2, ↓tP_3, ↓tP_4, ↓tP_5, ↓tP_6, ↓tP_7, ↓tP_8, ↓lP_0, ↓lP_1, ↓lP_2, ↓lP_3, ↓lP_4, ↓lP_5, ↓lP_6, ↓lP_7, ↓lP_8, ↓stP_non, ↓rtP_non, ↓aP1_non, ↓stP_bl, ↓rtP_bl, ↓aP1_bl, ↓isN_bl, ↓stP_int, ↓rtP_int, ↓aP1_int, ↓isN_int, ↓stP_str, ↓rtP_str, ↓aP1_str, ↓isN_str, ↓stP_adr, ↓rtP_adr, ↓aP1_adr, ↓isN_adr, ↓stP_tup, ↓rtP_tup, ↓aP1_tup, ↓isN_tup, ↓stP_lst, ↓rtP_lst, ↓aP1_lst, ↓isN_lst, ↓stP_scr, ↓rtP_scr, ↓aP1_scr, ↓isN_scr, ↓stP_obj, ↓rtP_obj, ↓aP1_obj, ↓isN_obj, ↓stP_dk, ↓rtP_dk, ↓aP1_dk, ↓isN_dk, ↓isN_non, ↓stP_nlst, ↓rtP_nlst, ↓rtP_olst, ↓aP1_nlst, ↓stP_ndk, ↓rtP_ndk, ↓rtP_odk, ↓aP1_ndk, ↓aP1_st, ↓nwP_n, ↓oFn_1, ↓oFn_2, ↓oFn_3, ↓oFn_4, ↓oFn_5, ↓oFn_6, ↓sto_non, ↓nst_non, ↓sto_bl, ↓nst_bl, ↓sto_int, ↓nst_int, ↓sto_str, ↓nst_str, ↓sto_adr, ↓nst_adr, ↓sto_tup, ↓nst_tup, ↓sto_lst, ↓nst_lst, ↓sto_scr, ↓nst_scr, ↓sto_obj, ↓nst_obj, ↓sto_dk, ↓nst_dk, ↓sto_st, ↓sto_nil, ↓nst_nil, ↓wIsi_e, ↓oIsi_int_non, ↓oIsi_int_bl, ↓oIsi_int_int, ↓oIsi_int_str, ↓oIsi_int_tup, ↓oIsi_int_lst, ↓oIsi_bool_non, ↓oIsi_bool_bl, ↓oIsi_bool_int, ↓oIsi_bool_str, ↓oIsi_bool_tup, ↓oIsi_bool_lst, ↓oIsi_str_non, ↓oIsi_str_bl, ↓oIsi_str_int, ↓oIsi_str_str, ↓oIsi_str_tup, ↓oIsi_str_lst, ↓oIsi_tuple_non, ↓oIsi_tuple_bl, ↓oIsi_tuple_int, ↓oIsi_tuple_str, ↓oIsi_tuple_tup, ↓oIsi_tuple_lst, ↓oIsi_list_non, ↓oIsi_list_bl, ↓oIsi_list_int, ↓oIsi_list_str, ↓oIsi_list_tup, ↓oIsi_list_lst, ↓oIx_t, ↓cLen_t, ↓cTup_t, ↓cLst_t, ↓oIx_s, ↓cLen_s, ↓cTup_s, ↓cLst_s, ↓oIx_l, ↓cLen_l, ↓cTup_l, ↓cLst_l, ↓oIx_n, ↓cLen_n, ↓cTup_n, ↓cLst_n, ↓oIx_o, ↓cLen_o, ↓cTup_o, ↓cLst_o, ↓ixP_0, ↓ixP_1, ↓ixP_2, ↓ixP_3, ↓ixP_4, ↓ixP_5, ↓wSl_e, ↓wPn_e, ↓wPs_e, ↓oSl_t, ↓oSl_s, ↓oSl_l, ↓oSl_n, ↓oSl_o, ↓cAbs_i, ↓cInt_i, ↓cMin2_ii, ↓cMax2_ii, ↓wSeq_Set, ↓wSeq_If, ↓wSeq_Exp, ↓wSeq_Asg, ↓wSeq_Seq, ↓wSeq_Own, ↓wSeq_StS, ↓wSeq_App, ↓wSeq_Next, ↓wSeq_Ret, ↓wSeq_Rais, ↓wSeq_Par, ↓wSeq_Par3, ↓wSeq_St0, ↓wSeq_St1, ↓wSeq_Brk, ↓wSeq_Cnt, ↓wSeq_RetN, ↓wSeq_RaiF, ↓wSet_e, ↓wOwn_e, ↓sE_0, ↓sE_s, ↓wIf_e, ↓wRet_e, ↓wRetN_e, ↓wNext_e, ↓wBreak_e, ↓wCont_e, ↓wExpr_e, ↓wRaise_e, ↓wRaiseF_e, ↓wAsg_e, ↓tgP_name, ↓tgP_tup, ↓tgPs_nil, ↓tgPs_cons, ↓wTry_e, ↓wPar_ff, ↓noSt_0n, ↓noSt_0non, ↓noSt_0bl, ↓noSt_0int, ↓noSt_0str, ↓noSt_0tup, ↓noSt_0lst, ↓noSt_0ol, ↓noSt_s, ↓sSt0, ↓sSt1, ↓sSt0S, ↓sSt1S, ↓wOwnS_e, ↓fnE_nx, ↓fnE_rt, ↓fnE_ex, ↓wFor_e, ↓wSeq_For, ↓wSeq_While, ↓wiSeq_e, ↓wk_t, ↓wk_s, ↓wk_l, ↓wk_n, ↓wk_o, ↓wiRg1_e, ↓wiRg2_e, ↓wLRg2_e, ↓wLRg1_e, ↓wComp_e, ↓noMut_c, ↓noMut_n, ↓nm1_0, ↓nm1_int, ↓nm1_tup, ↓nm1_s, ↓nm1_v, ↓wYes_e, ↓wipeC_n, ↓wipeC_1, ↓wipeC_2, ↓wipeC_3, ↓cAll_b, ↓cAny_b, ↓oNe_int, ↓ns2_n, ↓oEq_mal, wIsi_e, okV_non, okV_bl, okV_int, okV_stR, okV_tup, okV_lst, ↓stP_v, ↓rtP_v, ↓aP1_v, ↓stOnce_v, ↓noSt_v, ↓oEq_int, ↓oIsi_int, ↓oIsi_bool, ↓oIsi_str, ↓oIsi_tuple, ↓oIsi_list, startP, ↓reduceIte, List.map_cons, List.map_nil, List.length_cons, List.length_nil, List.replicate, List.cons_append, List.nil_append, List.append_nil, true_and, and_true, implies_true, Bool.false_eq_true, Bool.not_true, Bool.not_false, Nat.reduceAdd, Nat.reduceSub, Nat.zero_add, Nat.reduceLT, Nat.reduceLeDiff, Int.reduceLT, Int.reduceLE, decide_eq_true_eq, Bool.true_and, Bool.and_true, Bool.false_and, Bool.and_false]
      have e : (n + 1 - 2).toNat + 1 = n.toNat := by omega
      rw [e]
      exact h
theorem p_z_law_same (A : Ad) (hA : A.Ok) (n : Nat) : ∀ qs Q R, qs.length = 2 → fsN_z_law_same A (n + 1) qs Q R → w_z_law_same A (fsN_z_law_same A n) (fnEnds Q R) (startP 3 qs)
  | [.int a, .int b], Q, R, _, h => by
    simp only [w_z_law_same, fs_z_law_is_whole, fsIsInt, isI, ↓wVar_0, ↓wVar_s, ↓wC_e, ↓wOp_e, ↓oAdd_ii, ↓oAdd_ss, ↓oAdd_tt, ↓oAdd_ll_, ↓oAdd_ln_, ↓oAdd_lo_, ↓oAdd_nl_, ↓oAdd_nn_, ↓oAdd_no_, ↓oAdd_ol_, ↓oAdd_on_, ↓oAdd_oo_, ↓oSub_ii, ↓oMul_ii, ↓oMul_li, ↓oMul_ni, ↓oMul_oi, ↓oDiv_ii, ↓oMod_ii, ↓oLt_ii, ↓oLe_ii, ↓oGt_ii, ↓oGe_ii, ↓wNeg_e, ↓wT_e, ↓kB_b, ↓kI_i, ↓wAnd_e, ↓wOr_e, ↓wNot_e, ↓wAndV_e, ↓wOrV_e, ↓wNotV_e, ↓wIfE_e, ↓wChain_e, ↓wIsN_e, ↓wNotN_e, ↓wCall_e, ↓wCons_e, ↓wNil_e, ↓wTup_e, ↓wLst_e, ↓tP_0, ↓tP_1, ↓tP_2, ↓tP_3, ↓tP_4, ↓tP_5, ↓tP_6, ↓tP_7, ↓tP_8, ↓lP_0, ↓lP_1, ↓lP_2, ↓lP_3, ↓lP_4, ↓lP_5, ↓lP_6, ↓lP_7, ↓lP_8, ↓stP_non, ↓rtP_non, ↓aP1_non, ↓stP_bl, ↓rtP_bl, ↓aP1_bl, ↓isN_bl, ↓stP_int, ↓rtP_int, ↓aP1_int, ↓isN_int, ↓stP_str, ↓rtP_str, ↓aP1_str, ↓isN_str, ↓stP_adr, ↓rtP_adr, ↓aP1_adr, ↓isN_adr, ↓stP_tup, ↓rtP_tup, ↓aP1_tup, ↓isN_tup, ↓stP_lst, ↓rtP_lst, ↓aP1_lst, ↓isN_lst, ↓stP_scr, ↓rtP_scr, ↓aP1_scr, ↓isN_scr, ↓stP_obj, ↓rtP_obj, ↓aP1_obj, ↓isN_obj, ↓stP_dk, ↓rtP_dk, ↓aP1_dk, ↓isN_dk, ↓isN_non, ↓stP_nlst, ↓rtP_nlst, ↓rtP_olst, ↓aP1_nlst, ↓stP_ndk, ↓rtP_ndk, ↓rtP_odk, ↓aP1_ndk, ↓aP1_st, ↓nwP_n, ↓oFn_1, ↓oFn_2, ↓oFn_3, ↓oFn_4, ↓oFn_5, ↓oFn_6, ↓sto_non, ↓nst_non, ↓sto_bl, ↓nst_bl, ↓sto_int, ↓nst_int, ↓sto_str, ↓nst_str, ↓sto_adr, ↓nst_adr, ↓sto_tup, ↓nst_tup, ↓sto_lst, ↓nst_lst, ↓sto_scr, ↓nst_scr, ↓sto_obj, ↓nst_obj, ↓sto_dk, ↓nst_dk, ↓sto_st, ↓sto_nil, ↓nst_nil, ↓wIsi_e, ↓oIsi_int_non, ↓oIsi_int_bl, ↓oIsi_int_int, ↓oIsi_int_str, ↓oIsi_int_tup, ↓oIsi_int_lst, ↓oIsi_bool_non, ↓oIsi_bool_bl, ↓oIsi_bool_int, ↓oIsi_bool_str, ↓oIsi_bool_tup, ↓oIsi_bool_lst, ↓oIsi_str_non, ↓oIsi_str_bl, ↓oIsi_str_int, ↓oIsi_str_str, ↓oIsi_str_tup, ↓oIsi_str_lst, ↓oIsi_tuple_non, ↓oIsi_tuple_bl, ↓oIsi_tuple_int, ↓oIsi_tuple_str, ↓oIsi_tuple_tup, ↓oIsi_tuple_lst, ↓oIsi_list_non, ↓oIsi_list_bl, ↓oIsi_list_int, ↓oIsi_list_str, ↓oIsi_list_tup, ↓oIsi_list_lst, ↓oIx_t, ↓cLen_t, ↓cTup_t, ↓cLst_t, ↓oIx_s, ↓cLen_s, ↓cTup_s, ↓cLst_s, ↓oIx_l, ↓cLen_l, ↓cTup_l, ↓cLst_l, ↓oIx_n, ↓cLen_n, ↓cTup_n, ↓cLst_n, ↓oIx_o, ↓cLen_o, ↓cTup_o, ↓cLst_o, ↓ixP_0, ↓ixP_1, ↓ixP_2, ↓ixP_3, ↓ixP_4, ↓ixP_5, ↓wSl_e, ↓wPn_e, ↓wPs_e, ↓oSl_t, ↓oSl_s, ↓oSl_l, ↓oSl_n, ↓oSl_o, ↓cAbs_i, ↓cInt_i, ↓cMin2_ii, ↓cMax2_ii, ↓wSeq_Set, ↓wSeq_If, ↓wSeq_Exp, ↓wSeq_Asg, ↓wSeq_Seq, ↓wSeq_Own, ↓wSeq_StS, ↓wSeq_App, ↓wSeq_Next, ↓wSeq_Ret, ↓wSeq_Rais, ↓wSeq_Par, ↓wSeq_Par3, ↓wSeq_St0, ↓wSeq_St1, ↓wSeq_Brk, ↓wSeq_Cnt, ↓wSeq_RetN, ↓wSeq_RaiF, ↓wSet_e, ↓wOwn_e, ↓sE_0, ↓sE_s, ↓wIf_e, ↓wRet_e, ↓wRetN_e, ↓wNext_e, ↓wBreak_e, ↓wCont_e, ↓wExpr_e, ↓wRaise_e, ↓wRaiseF_e, ↓wAsg_e, ↓tgP_name, ↓tgP_tup, ↓tgPs_nil, ↓tgPs_cons, ↓wTry_e, ↓wPar_ff, ↓noSt_0n, ↓noSt_0non, ↓noSt_0bl, ↓noSt_0int, ↓noSt_0str, ↓noSt_0tup, ↓noSt_0lst, ↓noSt_0ol, ↓noSt_s, ↓sSt0, ↓sSt1, ↓sSt0S, ↓sSt1S, ↓wOwnS_e, ↓fnE_nx, ↓fnE_rt, ↓fnE_ex, ↓wFor_e, ↓wSeq_For, ↓wSeq_While, ↓wiSeq_e, ↓wk_t, ↓wk_s, ↓wk_l, ↓wk_n, ↓wk_o, ↓wiRg1_e, ↓wiRg2_e, ↓wLRg2_e, ↓wLRg1_e, ↓wComp_e, ↓noMut_c, ↓noMut_n, ↓nm1_0, ↓nm1_int, ↓nm1_tup, ↓nm1_s, ↓nm1_v, ↓wYes_e, ↓wipeC_n, ↓wipeC_1, ↓wipeC_2, ↓wipeC_3, ↓cAll_b, ↓cAny_b, ↓oNe_int, ↓ns2_n, ↓oEq_mal, wIsi_e, okV_non, okV_bl, okV_int, okV_stR, okV_tup, okV_lst, ↓stP_v, ↓rtP_v, ↓aP1_v, ↓stOnce_v, ↓noSt_v, ↓oEq_int, ↓oIsi_int, ↓oIsi_bool, ↓oIsi_str, ↓oIsi_tuple, ↓oIsi_list, startP, ↓reduceIte, List.map_cons, List.map_nil, List.length_cons, List.length_nil, List.replicate, List.cons_append, List.nil_append, List.append_nil, true_and, and_true, implies_true, Bool.false_eq_true, Bool.not_true, Bool.not_false, Nat.reduceAdd, Nat.reduceSub, Nat.zero_add, Nat.reduceLT, Nat.reduceLeDiff, Int.reduceLT, Int.reduceLE, decide_eq_true_eq, Bool.true_and, Bool.and_true, Bool.false_and, Bool.and_false]
    exact h
theorem p_z_law_great (A : Ad) (hA : A.Ok) : ∀ qs Q R, qs.length = 1 → fs_z_law_great A qs Q R → w_z_law_great A (fnEnds Q R) (startP 3 qs)
  | [.st], Q, R, _, h => by
    simp only [w_z_law_great, fs_z_law_take, fsTake, ↓wVar_0, ↓wVar_s, ↓wC_e, ↓wOp_e, ↓oAdd_ii, ↓oAdd_ss, ↓oAdd_tt, ↓oAdd_ll_, ↓oAdd_ln_, ↓oAdd_lo_, ↓oAdd_nl_, ↓oAdd_nn_, ↓oAdd_no_, ↓oAdd_ol_, ↓oAdd_on_, ↓oAdd_oo_, ↓oSub_ii, ↓oMul_ii, ↓oMul_li, ↓oMul_ni, ↓oMul_oi, ↓oDiv_ii, ↓oMod_ii, ↓oLt_ii, ↓oLe_ii, ↓oGt_ii, ↓oGe_ii, ↓wNeg_e, ↓wT_e, ↓kB_b, ↓kI_i, ↓wAnd_e, ↓wOr_e, ↓wNot_e, ↓wAndV_e, ↓wOrV_e, ↓wNotV_e, ↓wIfE_e, ↓wChain_e, ↓wIsN_e, ↓wNotN_e, ↓wCall_e, ↓wCons_e, ↓wNil_e, ↓wTup_e, ↓wLst_e, ↓tP_0, ↓tP_1, ↓tP_2, ↓tP_3, ↓tP_4, ↓tP_5, ↓tP_6, ↓tP_7, ↓tP_8, ↓lP_0, ↓lP_1, ↓lP_2, ↓lP_3, ↓lP_4, ↓lP_5, ↓lP_6, ↓lP_7, ↓lP_8, ↓stP_non, ↓rtP_non, ↓aP1_non, ↓stP_bl, ↓rtP_bl, ↓aP1_bl, ↓isN_bl, ↓stP_int, ↓rtP_int, ↓aP1_int, ↓isN_int, ↓stP_str, ↓rtP_str, ↓aP1_str, ↓isN_str, ↓stP_adr, ↓rtP_adr, ↓aP1_adr, ↓isN_adr, ↓stP_tup, ↓rtP_tup, ↓aP1_tup, ↓isN_tup, ↓stP_lst, ↓rtP_lst, ↓aP1_lst, ↓isN_lst, ↓stP_scr, ↓rtP_scr, ↓aP1_scr, ↓isN_scr, ↓stP_obj, ↓rtP_obj, ↓aP1_obj, ↓isN_obj, ↓stP_dk, ↓rtP_dk, ↓aP1_dk, ↓isN_dk, ↓isN_non, ↓stP_nlst, ↓rtP_nlst, ↓rtP_olst, ↓aP1_nlst, ↓stP_ndk, ↓rtP_ndk, ↓rtP_odk, ↓aP1_ndk, ↓aP1_st, ↓nwP_n, ↓oFn_1, ↓oFn_2, ↓oFn_3, ↓oFn_4, ↓oFn_5, ↓oFn_6, ↓sto_non, ↓nst_non, ↓sto_bl, ↓nst_bl, ↓sto_int, ↓nst_int, ↓sto_str, ↓nst_str, ↓sto_adr, ↓nst_adr, ↓sto_tup, ↓nst_tup, ↓sto_lst, ↓nst_lst, ↓sto_scr, ↓nst_scr, ↓sto_obj, ↓nst_obj, ↓sto_dk, ↓nst_dk, ↓sto_st, ↓sto_nil, ↓nst_nil, ↓wIsi_e, ↓oIsi_int_non, ↓oIsi_int_bl, ↓oIsi_int_int, ↓oIsi_int_str, ↓oIsi_int_tup, ↓oIsi_int_lst, ↓oIsi_bool_non, ↓oIsi_bool_bl, ↓oIsi_bool_int, ↓oIsi_bool_str, ↓oIsi_bool_tup, ↓oIsi_bool_lst, ↓oIsi_str_non, ↓oIsi_str_bl, ↓oIsi_str_int, ↓oIsi_str_str, ↓oIsi_str_tup, ↓oIsi_str_lst, ↓oIsi_tuple_non, ↓oIsi_tuple_bl, ↓oIsi_tuple_int, ↓oIsi_tuple_str, ↓oIsi_tuple_tup, ↓oIsi_tuple_lst, ↓oIsi_list_non, ↓oIsi_list_bl, ↓oIsi_list_int, ↓oIsi_list_str, ↓oIsi_list_tup, ↓oIsi_list_lst, ↓oIx_t, ↓cLen_t, ↓cTup_t, ↓cLst_t, ↓oIx_s, ↓cLen_s, ↓cTup_s, ↓cLst_s, ↓oIx_l, ↓cLen_l, ↓cTup_l, ↓cLst_l, ↓oIx_n, ↓cLen_n, ↓cTup_n, ↓cLst_n, ↓oIx_o, ↓cLen_o, ↓cTup_o, ↓cLst_o, ↓ixP_0, ↓ixP_1, ↓ixP_2, ↓ixP_3, ↓ixP_4, ↓ixP_5, ↓wSl_e, ↓wPn_e, ↓wPs_e, ↓oSl_t, ↓oSl_s, ↓oSl_l, ↓oSl_n, ↓oSl_o, ↓cAbs_i, ↓cInt_i, ↓cMin2_ii, ↓cMax2_ii, ↓wSeq_Set, ↓wSeq_If, ↓wSeq_Exp, ↓wSeq_Asg, ↓wSeq_Seq, ↓wSeq_Own, ↓wSeq_StS, ↓wSeq_App, ↓wSeq_Next, ↓wSeq_Ret, ↓wSeq_Rais, ↓wSeq_Par, ↓wSeq_Par3, ↓wSeq_St0, ↓wSeq_St1, ↓wSeq_Brk, ↓wSeq_Cnt, ↓wSeq_RetN, ↓wSeq_RaiF, ↓wSet_e, ↓wOwn_e, ↓sE_0, ↓sE_s, ↓wIf_e, ↓wRet_e, ↓wRetN_e, ↓wNext_e, ↓wBreak_e, ↓wCont_e, ↓wExpr_e, ↓wRaise_e, ↓wRaiseF_e, ↓wAsg_e, ↓tgP_name, ↓tgP_tup, ↓tgPs_nil, ↓tgPs_cons, ↓wTry_e, ↓wPar_ff, ↓noSt_0n, ↓noSt_0non, ↓noSt_0bl, ↓noSt_0int, ↓noSt_0str, ↓noSt_0tup, ↓noSt_0lst, ↓noSt_0ol, ↓noSt_s, ↓sSt0, ↓sSt1, ↓sSt0S, ↓sSt1S, ↓wOwnS_e, ↓fnE_nx, ↓fnE_rt, ↓fnE_ex, ↓wFor_e, ↓wSeq_For, ↓wSeq_While, ↓wiSeq_e, ↓wk_t, ↓wk_s, ↓wk_l, ↓wk_n, ↓wk_o, ↓wiRg1_e, ↓wiRg2_e, ↓wLRg2_e, ↓wLRg1_e, ↓wComp_e, ↓noMut_c, ↓noMut_n, ↓nm1_0, ↓nm1_int, ↓nm1_tup, ↓nm1_s, ↓nm1_v, ↓wYes_e, ↓wipeC_n, ↓wipeC_1, ↓wipeC_2, ↓wipeC_3, ↓cAll_b, ↓cAny_b, ↓oNe_int, ↓ns2_n, ↓oEq_mal, wIsi_e, okV_non, okV_bl, okV_int, okV_stR, okV_tup, okV_lst, ↓stP_v, ↓rtP_v, ↓aP1_v, ↓stOnce_v, ↓noSt_v, ↓oEq_int, ↓oIsi_int, ↓oIsi_bool, ↓oIsi_str, ↓oIsi_tuple, ↓oIsi_list, startP, ↓reduceIte, List.map_cons, List.map_nil, List.length_cons, List.length_nil, List.replicate, List.cons_append, List.nil_append, List.append_nil, true_and, and_true, implies_true, Bool.false_eq_true, Bool.not_true, Bool.not_false, Nat.reduceAdd, Nat.reduceSub, Nat.zero_add, Nat.reduceLT, Nat.reduceLeDiff, Int.reduceLT, Int.reduceLE, decide_eq_true_eq, Bool.true_and, Bool.and_true, Bool.false_and, Bool.and_false]
    intro v hv n hn
    split
    · refine ⟨mulOk_s (by omega) (by omega), fun x hx => ?_⟩
      split
      · exact ⟨mulOk_s (by omega) (by omega), fun y hy => ⟨mulOk_s (by omega) (by omega), h _ (by omega)⟩⟩
      · exact h _ (by omega)
    · split
      · exact ⟨mulOk_s (by omega) (by omega), fun y hy => ⟨mulOk_s (by omega) (by omega), h _ (by omega)⟩⟩
      · exact h _ (by omega)
/-! one by one -/
def LeftI (n k : Int) (xs : List PV) (at_ : Int) : Prop := 1 ≤ xs.length ∧ (xs.length : Int) ≤ n ∧ 0 ≤ at_ ∧ at_ ≤ n ∧ xs[((at_ + jos k xs.length) % xs.length).toNat]? = some (.int (J n k))
theorem left_0 {n k : Int} (hn : 1 ≤ n) : LeftI n k (rgP 1 n.toNat) 0 := by
  have hl : (rgP 1 n.toNat).length = n.toNat := rgP_len _ _
  obtain ⟨b1, b2⟩ := jos_b (q := k) (n := n.toNat) (by omega)
  refine ⟨by omega, by omega, by omega, by omega, ?_⟩
  rw [hl, Int.zero_add, Int.emod_eq_of_lt b1 b2, rgP_at (by omega)]
  unfold J
  have : (1 : Int) + ((jos k n.toNat).toNat : Int) = jos k n.toNat + 1 := by omega
  rw [this]
theorem left_step {n k : Int} {xs : List PV} {at_ : Int} (hk : 2 ≤ k) (h : LeftI n k xs at_) (h1 : 1 < xs.length) : LeftI n k (xs.eraseIdx ((at_ + k - 1) % xs.length).toNat) ((at_ + k - 1) % xs.length) := by
  obtain ⟨_, h2, h3, h4, h5⟩ := h
  obtain ⟨m, hm⟩ : ∃ m : Nat, xs.length = m + 1 := ⟨xs.length - 1, by omega⟩
  have hm1 : 1 ≤ m := by omega
  rw [hm] at h2 h5 ⊢
  have p0 : (0 : Int) < ((m + 1 : Nat) : Int) := by omega
  have a0 := Int.emod_nonneg (at_ + k - 1) (show ((m + 1 : Nat) : Int) ≠ 0 by omega)
  have a1 := Int.emod_lt_of_pos (at_ + k - 1) p0
  obtain ⟨j0, j1⟩ := jos_b (q := k) (n := m) hm1
  have hjos : jos k (m + 1) = (jos k m + k) % ((m + 1 : Nat) : Int) := rfl
  rw [hjos] at h5
  have e1 : (at_ + (jos k m + k) % ((m + 1 : Nat) : Int)) % ((m + 1 : Nat) : Int) = ((at_ + k - 1) % ((m + 1 : Nat) : Int) + 1 + jos k m) % ((m + 1 : Nat) : Int) := by
    rw [Int.add_emod_emod]
    have : (at_ + k - 1) % ((m + 1 : Nat) : Int) + 1 + jos k m = (1 + jos k m) + (at_ + k - 1) % ((m + 1 : Nat) : Int) := by omega
    rw [this, Int.add_emod_emod]
    congr 1
    omega
  rw [e1] at h5
  generalize hc : (at_ + k - 1) % ((m + 1 : Nat) : Int) = c at *
  have hl : (xs.eraseIdx c.toNat).length = m := by
    rw [List.length_eraseIdx_of_lt (by omega), hm]
    rfl
  refine ⟨by omega, by omega, a0, by omega, ?_⟩
  rw [hl, List.getElem?_eraseIdx]
  generalize hj : jos k m = j at *
  by_cases hw : c + j < m
  · have e2 : (c + j) % (m : Int) = c + j := Int.emod_eq_of_lt (by omega) hw
    have e3 : (c + 1 + j) % ((m + 1 : Nat) : Int) = c + 1 + j := Int.emod_eq_of_lt (by omega) (by omega)
    rw [e3] at h5
    rw [e2, if_neg (by omega), ← h5]
    congr 1
    omega
  · have e2 : (c + j) % (m : Int) = c + j - m := emod_of (c := 1) (by omega) (by omega) (by omega)
    have e3 : (c + 1 + j) % ((m + 1 : Nat) : Int) = c + j - m := emod_of (c := 1) (by omega) (by omega) (by omega)
    rw [e3] at h5
    rw [e2, if_pos (by omega), ← h5]
theorem p_z_law_left (A : Ad) (hA : A.Ok) : ∀ qs Q R, qs.length = 2 → fs_z_law_left A qs Q R → w_z_law_left A (fnEnds Q R) (startP 4 qs)
  | [.int n, .int k], Q, R, _, ⟨⟨hn1, hn2, hk1, hk2⟩, h⟩ => by
    simp only [w_z_law_left, ↓wVar_0, ↓wVar_s, ↓wC_e, ↓wOp_e, ↓oAdd_ii, ↓oAdd_ss, ↓oAdd_tt, ↓oAdd_ll_, ↓oAdd_ln_, ↓oAdd_lo_, ↓oAdd_nl_, ↓oAdd_nn_, ↓oAdd_no_, ↓oAdd_ol_, ↓oAdd_on_, ↓oAdd_oo_, ↓oSub_ii, ↓oMul_ii, ↓oMul_li, ↓oMul_ni, ↓oMul_oi, ↓oDiv_ii, ↓oMod_ii, ↓oLt_ii, ↓oLe_ii, ↓oGt_ii, ↓oGe_ii, ↓wNeg_e, ↓wT_e, ↓kB_b, ↓kI_i, ↓wAnd_e, ↓wOr_e, ↓wNot_e, ↓wAndV_e, ↓wOrV_e, ↓wNotV_e, ↓wIfE_e, ↓wChain_e, ↓wIsN_e, ↓wNotN_e, ↓wCall_e, ↓wCons_e, ↓wNil_e, ↓wTup_e, ↓wLst_e, ↓tP_0, ↓tP_1, ↓tP_2, ↓tP_3, ↓tP_4, ↓tP_5, ↓tP_6, ↓tP_7, ↓tP_8, ↓lP_0, ↓lP_1, ↓lP_2, ↓lP_3, ↓lP_4, ↓lP_5, ↓lP_6, ↓lP_7, ↓lP_8, ↓stP_non, ↓rtP_non, ↓aP1_non, ↓stP_bl, ↓rtP_bl, ↓aP1_bl, ↓isN_bl, ↓stP_int, ↓rtP_int, ↓aP1_int, ↓isN_int, ↓stP_str, ↓rtP_str, ↓aP1_str, ↓isN_str, ↓stP_adr, ↓rtP_adr, ↓aP1_adr, ↓isN_adr, ↓stP_tup, ↓rtP_tup, ↓aP1_tup, ↓isN_tup, ↓stP_lst, ↓rtP_lst, ↓aP1_lst, ↓isN_lst, ↓stP_scr, ↓rtP_scr, ↓aP1_scr, ↓isN_scr, ↓stP_obj, ↓rtP_obj, ↓aP1_obj, ↓isN_obj, ↓stP_dk, ↓rtP_dk, ↓aP1_dk, ↓isN_dk, ↓isN_non, ↓stP_nlst, ↓rtP_nlst, ↓rtP_olst, ↓aP1_nlst, ↓stP_ndk, ↓rtP_ndk, ↓rtP_odk, ↓aP1_ndk, ↓aP1_st, ↓nwP_n, ↓oFn_1, ↓oFn_2, ↓oFn_3, ↓oFn_4, ↓oFn_5, ↓oFn_6, ↓sto_non, ↓nst_non, ↓sto_bl, ↓nst_bl, ↓sto_int, ↓nst_int, ↓sto_str, ↓nst_str, ↓sto_adr, ↓nst_adr, ↓sto_tup, ↓nst_tup, ↓sto_lst, ↓nst_lst, ↓sto_scr, ↓nst_scr, ↓sto_obj, ↓nst_obj, ↓sto_dk, ↓nst_dk, ↓sto_st, ↓sto_nil, ↓nst_nil, ↓wIsi_e, ↓oIsi_int_non, ↓oIsi_int_bl, ↓oIsi_int_int, ↓oIsi_int_str, ↓oIsi_int_tup, ↓oIsi_int_lst, ↓oIsi_bool_non, ↓oIsi_bool_bl, ↓oIsi_bool_int, ↓oIsi_bool_str, ↓oIsi_bool_tup, ↓oIsi_bool_lst, ↓oIsi_str_non, ↓oIsi_str_bl, ↓oIsi_str_int, ↓oIsi_str_str, ↓oIsi_str_tup, ↓oIsi_str_lst, ↓oIsi_tuple_non, ↓oIsi_tuple_bl, ↓oIsi_tuple_int, ↓oIsi_tuple_str, ↓oIsi_tuple_tup, ↓oIsi_tuple_lst, ↓oIsi_list_non, ↓oIsi_list_bl, ↓oIsi_list_int, ↓oIsi_list_str, ↓oIsi_list_tup, ↓oIsi_list_lst, ↓oIx_t, ↓cLen_t, ↓cTup_t, ↓cLst_t, ↓oIx_s, ↓cLen_s, ↓cTup_s, ↓cLst_s, ↓oIx_l, ↓cLen_l, ↓cTup_l, ↓cLst_l, ↓oIx_n, ↓cLen_n, ↓cTup_n, ↓cLst_n, ↓oIx_o, ↓cLen_o, ↓cTup_o, ↓cLst_o, ↓ixP_0, ↓ixP_1, ↓ixP_2, ↓ixP_3, ↓ixP_4, ↓ixP_5, ↓wSl_e, ↓wPn_e, ↓wPs_e, ↓oSl_t, ↓oSl_s, ↓oSl_l, ↓oSl_n, ↓oSl_o, ↓cAbs_i, ↓cInt_i, ↓cMin2_ii, ↓cMax2_ii, ↓wSeq_Set, ↓wSeq_If, ↓wSeq_Exp, ↓wSeq_Asg, ↓wSeq_Seq, ↓wSeq_Own, ↓wSeq_StS, ↓wSeq_App, ↓wSeq_Next, ↓wSeq_Ret, ↓wSeq_Rais, ↓wSeq_Par, ↓wSeq_Par3, ↓wSeq_St0, ↓wSeq_St1, ↓wSeq_Brk, ↓wSeq_Cnt, ↓wSeq_RetN, ↓wSeq_RaiF, ↓wSet_e, ↓wOwn_e, ↓sE_0, ↓sE_s, ↓wIf_e, ↓wRet_e, ↓wRetN_e, ↓wNext_e, ↓wBreak_e, ↓wCont_e, ↓wExpr_e, ↓wRaise_e, ↓wRaiseF_e, ↓wAsg_e, ↓tgP_name, ↓tgP_tup, ↓tgPs_nil, ↓tgPs_cons, ↓wTry_e, ↓wPar_ff, ↓noSt_0n, ↓noSt_0non, ↓noSt_0bl, ↓noSt_0int, ↓noSt_0str, ↓noSt_0tup, ↓noSt_0lst, ↓noSt_0ol, ↓noSt_s, ↓sSt0, ↓sSt1, ↓sSt0S, ↓sSt1S, ↓wOwnS_e, ↓fnE_nx, ↓fnE_rt, ↓fnE_ex, ↓wFor_e, ↓wSeq_For, ↓wSeq_While, ↓wiSeq_e, ↓wk_t, ↓wk_s, ↓wk_l, ↓wk_n, ↓wk_o, ↓wiRg1_e, ↓wiRg2_e, ↓wLRg2_e, ↓wLRg1_e, ↓wComp_e, ↓noMut_c, ↓noMut_n, ↓nm1_0, ↓nm1_int, ↓nm1_tup, ↓nm1_s, ↓nm1_v, ↓wYes_e, ↓wipeC_n, ↓wipeC_1, ↓wipeC_2, ↓wipeC_3, ↓cAll_b, ↓cAny_b, ↓oNe_int, ↓ns2_n, ↓oEq_mal, wIsi_e, okV_non, okV_bl, okV_int, okV_stR, okV_tup, okV_lst, ↓stP_v, ↓rtP_v, ↓aP1_v, ↓stOnce_v, ↓noSt_v, ↓oEq_int, ↓oIsi_int, ↓oIsi_bool, ↓oIsi_str, ↓oIsi_tuple, ↓oIsi_list, startP, ↓reduceIte, List.map_cons, List.map_nil, List.length_cons, List.length_nil, List.replicate, List.cons_append, List.nil_append, List.append_nil, true_and, and_true, implies_true, Bool.false_eq_true, Bool.not_true, Bool.not_false, Nat.reduceAdd, Nat.reduceSub, Nat.zero_add, Nat.reduceLT, Nat.reduceLeDiff, Int.reduceLT, Int.reduceLE, decide_eq_true_eq, Bool.true_and, Bool.and_true, Bool.false_and, Bool.and_false]
    refine ⟨⟨rgOk_of (by omega) (by omega), rgOk_of (by omega) (by omega), by omega⟩, ?_⟩
    refine whileS_st (σ := List PV × Int) (fun s => [some (.int n), some (.int k), some (.lst s.1), some (.int s.2)]) (fun s => LeftI n k s.1 s.2) (fun s => s.1.length) (rgP 1 (n + 1 - 1).toNat, 0) ⟨rfl, ?_⟩ ?_
    · have : n + 1 - 1 = n := by omega
      rw [this]
      exact left_0 hn1
    · rintro ⟨xs, c⟩ hI
      dsimp only at hI
      simp only [↓wVar_0, ↓wVar_s, ↓wC_e, ↓wOp_e, ↓oAdd_ii, ↓oAdd_ss, ↓oAdd_tt, ↓oAdd_ll_, ↓oAdd_ln_, ↓oAdd_lo_, ↓oAdd_nl_, ↓oAdd_nn_, ↓oAdd_no_, ↓oAdd_ol_, ↓oAdd_on_, ↓oAdd_oo_, ↓oSub_ii, ↓oMul_ii, ↓oMul_li, ↓oMul_ni, ↓oMul_oi, ↓oDiv_ii, ↓oMod_ii, ↓oLt_ii, ↓oLe_ii, ↓oGt_ii, ↓oGe_ii, ↓wNeg_e, ↓wT_e, ↓kB_b, ↓kI_i, ↓wAnd_e, ↓wOr_e, ↓wNot_e, ↓wAndV_e, ↓wOrV_e, ↓wNotV_e, ↓wIfE_e, ↓wChain_e, ↓wIsN_e, ↓wNotN_e, ↓wCall_e, ↓wCons_e, ↓wNil_e, ↓wTup_e, ↓wLst_e, ↓tP_0, ↓tP_1, ↓tP_2, ↓tP_3, ↓tP_4, ↓tP_5, ↓tP_6, ↓tP_7, ↓tP_8, ↓lP_0, ↓lP_1, ↓lP_2, ↓lP_3, ↓lP_4, ↓lP_5, ↓lP_6, ↓lP_7, ↓lP_8, ↓stP_non, ↓rtP_non, ↓aP1_non, ↓stP_bl, ↓rtP_bl, ↓aP1_bl, ↓isN_bl, ↓stP_int, ↓rtP_int, ↓aP1_int, ↓isN_int, ↓stP_str, ↓rtP_str, ↓aP1_str, ↓isN_str, ↓stP_adr, ↓rtP_adr, ↓aP1_adr, ↓isN_adr, ↓stP_tup, ↓rtP_tup, ↓aP1_tup, ↓isN_tup, ↓stP_lst, ↓rtP_lst, ↓aP1_lst, ↓isN_lst, ↓stP_scr, ↓rtP_scr, ↓aP1_scr, ↓isN_scr, ↓stP_obj, ↓rtP_obj, ↓aP1_obj, ↓isN_obj, ↓stP_dk, ↓rtP_dk, ↓aP1_dk, ↓isN_dk, ↓isN_non, ↓stP_nlst, ↓rtP_nlst, ↓rtP_olst, ↓aP1_nlst, ↓stP_ndk, ↓rtP_ndk, ↓rtP_odk, ↓aP1_ndk, ↓aP1_st, ↓nwP_n, ↓oFn_1, ↓oFn_2, ↓oFn_3, ↓oFn_4, ↓oFn_5, ↓oFn_6, ↓sto_non, ↓nst_non, ↓sto_bl, ↓nst_bl, ↓sto_int, ↓nst_int, ↓sto_str, ↓nst_str, ↓sto_adr, ↓nst_adr, ↓sto_tup, ↓nst_tup, ↓sto_lst, ↓nst_lst, ↓sto_scr, ↓nst_scr, ↓sto_obj, ↓nst_obj, ↓sto_dk, ↓nst_dk, ↓sto_st, ↓sto_nil, ↓nst_nil, ↓wIsi_e, ↓oIsi_int_non, ↓oIsi_int_bl, ↓oIsi_int_int, ↓oIsi_int_str, ↓oIsi_int_tup, ↓oIsi_int_lst, ↓oIsi_bool_non, ↓oIsi_bool_bl, ↓oIsi_bool_int, ↓oIsi_bool_str, ↓oIsi_bool_tup, ↓oIsi_bool_lst, ↓oIsi_str_non, ↓oIsi_str_bl, ↓oIsi_str_int, ↓oIsi_str_str, ↓oIsi_str_tup, ↓oIsi_str_lst, ↓oIsi_tuple_non, ↓oIsi_tuple_bl, ↓oIsi_tuple_int, ↓oIsi_tuple_str, ↓oIsi_tuple_tup, ↓oIsi_tuple_lst, ↓oIsi_list_non, ↓oIsi_list_bl, ↓oIsi_list_int, ↓oIsi_list_str, ↓oIsi_list_tup, ↓oIsi_list_lst, ↓oIx_t, ↓cLen_t, ↓cTup_t, ↓cLst_t, ↓oIx_s, ↓cLen_s, ↓cTup_s, ↓cLst_s, ↓oIx_l, ↓cLen_l, ↓cTup_l, ↓cLst_l, ↓oIx_n, ↓cLen_n, ↓cTup_n, ↓cLst_n, ↓oIx_o, ↓cLen_o, ↓cTup_o, ↓cLst_o, ↓ixP_0, ↓ixP_1, ↓ixP_2, ↓ixP_3, ↓ixP_4, ↓ixP_5, ↓wSl_e, ↓wPn_e, ↓wPs_e, ↓oSl_t, ↓oSl_s, ↓oSl_l, ↓oSl_n, ↓oSl_o, ↓cAbs_i, ↓cInt_i, ↓cMin2_ii, ↓cMax2_ii, ↓wSeq_Set, ↓wSeq_If, ↓wSeq_Exp, ↓wSeq_Asg, ↓wSeq_Seq, ↓wSeq_Own, ↓wSeq_StS, ↓wSeq_App, ↓wSeq_Next, ↓wSeq_Ret, ↓wSeq_Rais, ↓wSeq_Par, ↓wSeq_Par3, ↓wSeq_St0, ↓wSeq_St1, ↓wSeq_Brk, ↓wSeq_Cnt, ↓wSeq_RetN, ↓wSeq_RaiF, ↓wSet_e, ↓wOwn_e, ↓sE_0, ↓sE_s, ↓wIf_e, ↓wRet_e, ↓wRetN_e, ↓wNext_e, ↓wBreak_e, ↓wCont_e, ↓wExpr_e, ↓wRaise_e, ↓wRaiseF_e, ↓wAsg_e, ↓tgP_name, ↓tgP_tup, ↓tgPs_nil, ↓tgPs_cons, ↓wTry_e, ↓wPar_ff, ↓noSt_0n, ↓noSt_0non, ↓noSt_0bl, ↓noSt_0int, ↓noSt_0str, ↓noSt_0tup, ↓noSt_0lst, ↓noSt_0ol, ↓noSt_s, ↓sSt0, ↓sSt1, ↓sSt0S, ↓sSt1S, ↓wOwnS_e, ↓fnE_nx, ↓fnE_rt, ↓fnE_ex, ↓wFor_e, ↓wSeq_For, ↓wSeq_While, ↓wiSeq_e, ↓wk_t, ↓wk_s, ↓wk_l, ↓wk_n, ↓wk_o, ↓wiRg1_e, ↓wiRg2_e, ↓wLRg2_e, ↓wLRg1_e, ↓wComp_e, ↓noMut_c, ↓noMut_n, ↓nm1_0, ↓nm1_int, ↓nm1_tup, ↓nm1_s, ↓nm1_v, ↓wYes_e, ↓wipeC_n, ↓wipeC_1, ↓wipeC_2, ↓wipeC_3, ↓cAll_b, ↓cAny_b, ↓oNe_int, ↓ns2_n, ↓oEq_mal, wIsi_e, okV_non, okV_bl, okV_int, okV_stR, okV_tup, okV_lst, ↓stP_v, ↓rtP_v, ↓aP1_v, ↓stOnce_v, ↓noSt_v, ↓oEq_int, ↓oIsi_int, ↓oIsi_bool, ↓oIsi_str, ↓oIsi_tuple, ↓oIsi_list, startP, ↓reduceIte, List.map_cons, List.map_nil, List.length_cons, List.length_nil, List.replicate, List.cons_append, List.nil_append, List.append_nil, true_and, and_true, implies_true, Bool.false_eq_true, Bool.not_true, Bool.not_false, Nat.reduceAdd, Nat.reduceSub, Nat.zero_add, Nat.reduceLT, Nat.reduceLeDiff, Int.reduceLT, Int.reduceLE, decide_eq_true_eq, Bool.true_and, Bool.and_true, Bool.false_and, Bool.and_false]
      split
      · rename_i hl
        have hl : 1 < xs.length := by omega
        have hs := left_step hk1 hI hl
        have hfm : (c + k - 1).fmod (xs.length : Int) = (c + k - 1) % (xs.length : Int) := fmod_e (by omega)
        rw [hfm]
        have a0 := Int.emod_nonneg (c + k - 1) (show (xs.length : Int) ≠ 0 by omega)
        have a1 := Int.emod_lt_of_pos (c + k - 1) (show (0 : Int) < xs.length by omega)
        generalize hd : (c + k - 1) % (xs.length : Int) = d at *
        have e1 : (d + 1).toNat = d.toNat + 1 := by omega
        rw [cutP_take a0, cutP_drop (by omega), e1, ← List.eraseIdx_eq_take_drop_succ]
        obtain ⟨b1, b2, b3, b4, b5⟩ := hI
        refine ⟨by omega, ?_, (_, _), rfl, hs, ?_⟩
        · rw [List.length_take, List.length_drop, sizeLine_eq]
          omega
        · dsimp only
          rw [List.length_eraseIdx_of_lt (by omega)]
          omega
      · rename_i hl
        obtain ⟨b1, b2, b3, b4, b5⟩ := hI
        have hl : xs.length = 1 := by omega
        rw [hl] at b5
        have e : ((c + jos k 1) % ((1 : Nat) : Int)).toNat = 0 := by
          have : ((1 : Nat) : Int) = 1 := rfl
          rw [this, Int.emod_one]
          rfl
        rw [e] at b5
        refine ixP_at (i := 0) b5 ?_
        simp only [↓wVar_0, ↓wVar_s, ↓wC_e, ↓wOp_e, ↓oAdd_ii, ↓oAdd_ss, ↓oAdd_tt, ↓oAdd_ll_, ↓oAdd_ln_, ↓oAdd_lo_, ↓oAdd_nl_, ↓oAdd_nn_, ↓oAdd_no_, ↓oAdd_ol_, ↓oAdd_on_, ↓oAdd_oo_, ↓oSub_ii, ↓oMul_ii, ↓oMul_li, ↓oMul_ni, ↓oMul_oi, ↓oDiv_ii, ↓oMod_ii, ↓oLt_ii, ↓oLe_ii, ↓oGt_ii, ↓oGe_ii, ↓wNeg_e, ↓wT_e, ↓kB_b, ↓kI_i, ↓wAnd_e, ↓wOr_e, ↓wNot_e, ↓wAndV_e, ↓wOrV_e, ↓wNotV_e, ↓wIfE_e, ↓wChain_e, ↓wIsN_e, ↓wNotN_e, ↓wCall_e, ↓wCons_e, ↓wNil_e, ↓wTup_e, ↓wLst_e, ↓tP_0, ↓tP_1, ↓tP_2, ↓tP_3, ↓tP_4, ↓tP_5, ↓tP_6, ↓tP_7, ↓tP_8, ↓lP_0, ↓lP_1, ↓lP_2, ↓lP_3, ↓lP_4, ↓lP_5, ↓lP_6, ↓lP_7, ↓lP_8, ↓stP_non, ↓rtP_non, ↓aP1_non, ↓stP_bl, ↓rtP_bl, ↓aP1_bl, ↓isN_bl, ↓stP_int, ↓rtP_int, ↓aP1_int, ↓isN_int, ↓stP_str, ↓rtP_str, ↓aP1_str, ↓isN_str, ↓stP_adr, ↓rtP_adr, ↓aP1_adr, ↓isN_adr, ↓stP_tup, ↓rtP_tup, ↓aP1_tup, ↓isN_tup, ↓stP_lst, ↓rtP_lst, ↓aP1_lst, ↓isN_lst, ↓stP_scr, ↓rtP_scr, ↓aP1_scr, ↓isN_scr, ↓stP_obj, ↓rtP_obj, ↓aP1_obj, ↓isN_obj, ↓stP_dk, ↓rtP_dk, ↓aP1_dk, ↓isN_dk, ↓isN_non, ↓stP_nlst, ↓rtP_nlst, ↓rtP_olst, ↓aP1_nlst, ↓stP_ndk, ↓rtP_ndk, ↓rtP_odk, ↓aP1_ndk, ↓aP1_st, ↓nwP_n, ↓oFn_1, ↓oFn_2, ↓oFn_3, ↓oFn_4, ↓oFn_5, ↓oFn_6, ↓sto_non, ↓nst_non, ↓sto_bl, ↓nst_bl, ↓sto_int, ↓nst_int, ↓sto_str, ↓nst_str, ↓sto_adr, ↓nst_adr, ↓sto_tup, ↓nst_tup, ↓sto_lst, ↓nst_lst, ↓sto_scr, ↓nst_scr, ↓sto_obj, ↓nst_obj, ↓sto_dk, ↓nst_dk, ↓sto_st, ↓sto_nil, ↓nst_nil, ↓wIsi_e, ↓oIsi_int_non, ↓oIsi_int_bl, ↓oIsi_int_int, ↓oIsi_int_str, ↓oIsi_int_tup, ↓oIsi_int_lst, ↓oIsi_bool_non, ↓oIsi_bool_bl, ↓oIsi_bool_int, ↓oIsi_bool_str, ↓oIsi_bool_tup, ↓oIsi_bool_lst, ↓oIsi_str_non, ↓oIsi_str_bl, ↓oIsi_str_int, ↓oIsi_str_str, ↓oIsi_str_tup, ↓oIsi_str_lst, ↓oIsi_tuple_non, ↓oIsi_tuple_bl, ↓oIsi_tuple_int, ↓oIsi_tuple_str, ↓oIsi_tuple_tup, ↓oIsi_tuple_lst, ↓oIsi_list_non, ↓oIsi_list_bl, ↓oIsi_list_int, ↓oIsi_list_str, ↓oIsi_list_tup, ↓oIsi_list_lst, ↓oIx_t, ↓cLen_t, ↓cTup_t, ↓cLst_t, ↓oIx_s, ↓cLen_s, ↓cTup_s, ↓cLst_s, ↓oIx_l, ↓cLen_l, ↓cTup_l, ↓cLst_l, ↓oIx_n, ↓cLen_n, ↓cTup_n, ↓cLst_n, ↓oIx_o, ↓cLen_o, ↓cTup_o, ↓cLst_o, ↓ixP_0, ↓ixP_1, ↓ixP_2, ↓ixP_3, ↓ixP_4, ↓ixP_5, ↓wSl_e, ↓wPn_e, ↓wPs_e, ↓oSl_t, ↓oSl_s, ↓oSl_l, ↓oSl_n, ↓oSl_o, ↓cAbs_i, ↓cInt_i, ↓cMin2_ii, ↓cMax2_ii, ↓wSeq_Set, ↓wSeq_If, ↓wSeq_Exp, ↓wSeq_Asg, ↓wSeq_Seq, ↓wSeq_Own, ↓wSeq_StS, ↓wSeq_App, ↓wSeq_Next, ↓wSeq_Ret, ↓wSeq_Rais, ↓wSeq_Par, ↓wSeq_Par3, ↓wSeq_St0, ↓wSeq_St1, ↓wSeq_Brk, ↓wSeq_Cnt, ↓wSeq_RetN, ↓wSeq_RaiF, ↓wSet_e, ↓wOwn_e, ↓sE_0, ↓sE_s, ↓wIf_e, ↓wRet_e, ↓wRetN_e, ↓wNext_e, ↓wBreak_e, ↓wCont_e, ↓wExpr_e, ↓wRaise_e, ↓wRaiseF_e, ↓wAsg_e, ↓tgP_name, ↓tgP_tup, ↓tgPs_nil, ↓tgPs_cons, ↓wTry_e, ↓wPar_ff, ↓noSt_0n, ↓noSt_0non, ↓noSt_0bl, ↓noSt_0int, ↓noSt_0str, ↓noSt_0tup, ↓noSt_0lst, ↓noSt_0ol, ↓noSt_s, ↓sSt0, ↓sSt1, ↓sSt0S, ↓sSt1S, ↓wOwnS_e, ↓fnE_nx, ↓fnE_rt, ↓fnE_ex, ↓wFor_e, ↓wSeq_For, ↓wSeq_While, ↓wiSeq_e, ↓wk_t, ↓wk_s, ↓wk_l, ↓wk_n, ↓wk_o, ↓wiRg1_e, ↓wiRg2_e, ↓wLRg2_e, ↓wLRg1_e, ↓wComp_e, ↓noMut_c, ↓noMut_n, ↓nm1_0, ↓nm1_int, ↓nm1_tup, ↓nm1_s, ↓nm1_v, ↓wYes_e, ↓wipeC_n, ↓wipeC_1, ↓wipeC_2, ↓wipeC_3, ↓cAll_b, ↓cAny_b, ↓oNe_int, ↓ns2_n, ↓oEq_mal, wIsi_e, okV_non, okV_bl, okV_int, okV_stR, okV_tup, okV_lst, ↓stP_v, ↓rtP_v, ↓aP1_v, ↓stOnce_v, ↓noSt_v, ↓oEq_int, ↓oIsi_int, ↓oIsi_bool, ↓oIsi_str, ↓oIsi_tuple, ↓oIsi_list, startP, ↓reduceIte, List.map_cons, List.map_nil, List.length_cons, List.length_nil, List.replicate, List.cons_append, List.nil_append, List.append_nil, true_and, and_true, implies_true, Bool.false_eq_true, Bool.not_true, Bool.not_false, Nat.reduceAdd, Nat.reduceSub, Nat.zero_add, Nat.reduceLT, Nat.reduceLeDiff, Int.reduceLT, Int.reduceLE, decide_eq_true_eq, Bool.true_and, Bool.and_true, Bool.false_and, Bool.and_false]
        exact h
/-! each second one -/
theorem jos2_up {t : Nat} (h : jos 2 t = 0) : ∀ l : Nat, l < t → jos 2 (t + l) = 2 * l
  | 0, _ => by simpa using h
  | l + 1, hl => by
    have ih := jos2_up h l (by omega)
    show (jos 2 (t + l) + 2) % (((t + l : Nat) : Int) + 1) = _
    rw [ih, Int.emod_eq_of_lt (by omega) (by omega)]
    push_cast
    omega
theorem jos2_twice {t : Nat} (h : jos 2 t = 0) (ht : 1 ≤ t) : jos 2 (2 * t) = 0 := by
  obtain ⟨l, rfl⟩ : ∃ l, t = l + 1 := ⟨t - 1, by omega⟩
  have ih := jos2_up h l (by omega)
  have e : 2 * (l + 1) = (l + 1 + l) + 1 := by omega
  rw [e]
  show (jos 2 (l + 1 + l) + 2) % (((l + 1 + l : Nat) : Int) + 1) = 0
  rw [ih]
  have e2 : 2 * (l : Int) + 2 = 0 + (((l + 1 + l : Nat) : Int) + 1) * 1 := by push_cast; omega
  exact emod_of e2 (by omega) (by push_cast; omega)
theorem J_two {t g : Int} (h1 : 1 ≤ t) (h2 : t ≤ g) (h3 : ¬ 2 * t ≤ g) (h : jos 2 t.toNat = 0) : J g 2 = 2 * (g - t) + 1 := by
  have e : g.toNat = t.toNat + (g - t).toNat := by omega
  unfold J
  rw [e, jos2_up h _ (by omega)]
  omega
theorem J_next {n k : Int} (h : 1 ≤ n) : J (n + 1) k = (J n k - 1 + k).fmod (n + 1) + 1 := by
  have e : (n + 1).toNat = n.toNat + 1 := by omega
  unfold J
  rw [e, fmod_e (by omega)]
  show (jos k n.toNat + k) % ((n.toNat : Int) + 1) + 1 = _
  have e2 : (n.toNat : Int) = n := by omega
  rw [e2]
  congr 2
  omega
theorem J_b {n k : Int} (h : 1 ≤ n) : 1 ≤ J n k ∧ J n k ≤ n := by
  obtain ⟨h1, h2⟩ := jos_b (q := k) (n := n.toNat) (by omega)
  unfold J
  omega
theorem acts_lo (A : Ad) : acts A A.left_over = some (2, fs_left_over A) := if_pos rfl
theorem acts_lt (A : Ad) (hA : A.Ok) : acts A A.left_by_turns = some (2, fs_left_by_turns A) := by
  have h := hA.fs
  have n : A.left_by_turns ≠ A.left_over := fun e => by simp [e] at h
  unfold acts
  rw [if_neg n, if_pos rfl]
theorem tell_lo (A : Ad) {p q : PV} (h1 : okV (owns A) p = true) (h2 : okV (owns A) q = true) (h : cnt p 1 1000000000000000000000000000000 = false ∨ cnt q 2 40 = false) : Tells A A.left_over [p, q] .mal := by
  refine ⟨2, _, acts_lo A, rfl, by omega, ?_, (fun _ z => nomatch z), fun Q R hk => ⟨⟨h1, h2⟩, ?_⟩⟩
  · intro x hx
    simp only [List.mem_cons, List.not_mem_nil, or_false] at hx
    rcases hx with rfl | rfl
    · exact okV_plain h1
    · exact okV_plain h2
  · cases e : cnt p 1 1000000000000000000000000000000
    · exact hk
    · rcases h with h | h
      · rw [e] at h; cases h
      · simp only [if_true, h, Bool.false_eq_true, if_false]; exact hk
theorem tell_lt (A : Ad) (hA : A.Ok) {p q : PV} (h1 : okV (owns A) p = true) (h2 : okV (owns A) q = true) (h : cnt p 1 2000 = false ∨ cnt q 2 40 = false) : Tells A A.left_by_turns [p, q] .mal := by
  refine ⟨2, _, acts_lt A hA, rfl, by omega, ?_, (fun _ z => nomatch z), fun Q R hk => ⟨⟨h1, h2⟩, ?_⟩⟩
  · intro x hx
    simp only [List.mem_cons, List.not_mem_nil, or_false] at hx
    rcases hx with rfl | rfl
    · exact okV_plain h1
    · exact okV_plain h2
  · cases e : cnt p 1 2000
    · exact hk
    · rcases h with h | h
      · rw [e] at h; cases h
      · simp only [if_true, h, Bool.false_eq_true, if_false]; exact hk
def MalX (A : Ad) (x : PV) : Prop := ∃ f args, x = .tup [.adr f, .tup args] ∧ Tells A f args .mal
theorem p_law (A : Ad) (hA : A.Ok) : ∀ qs Q R, qs.length = 1 → fs_law A qs Q R → w_law A (fnEnds Q R) (startP 12 qs) := by
  rintro qs Q R - ⟨ns, rfl, hs, h⟩
  simp only [w_law, fs_z_law_state, fsState, ↓wVar_0, ↓wVar_s, ↓wC_e, ↓wOp_e, ↓oAdd_ii, ↓oAdd_ss, ↓oAdd_tt, ↓oAdd_ll_, ↓oAdd_ln_, ↓oAdd_lo_, ↓oAdd_nl_, ↓oAdd_nn_, ↓oAdd_no_, ↓oAdd_ol_, ↓oAdd_on_, ↓oAdd_oo_, ↓oSub_ii, ↓oMul_ii, ↓oMul_li, ↓oMul_ni, ↓oMul_oi, ↓oDiv_ii, ↓oMod_ii, ↓oLt_ii, ↓oLe_ii, ↓oGt_ii, ↓oGe_ii, ↓wNeg_e, ↓wT_e, ↓kB_b, ↓kI_i, ↓wAnd_e, ↓wOr_e, ↓wNot_e, ↓wAndV_e, ↓wOrV_e, ↓wNotV_e, ↓wIfE_e, ↓wChain_e, ↓wIsN_e, ↓wNotN_e, ↓wCall_e, ↓wCons_e, ↓wNil_e, ↓wTup_e, ↓wLst_e, ↓tP_0, ↓tP_1, ↓tP_2, ↓tP_3, ↓tP_4, ↓tP_5, ↓tP_6, ↓tP_7, ↓tP_8, ↓lP_0, ↓lP_1, ↓lP_2, ↓lP_3, ↓lP_4, ↓lP_5, ↓lP_6, ↓lP_7, ↓lP_8, ↓stP_non, ↓rtP_non, ↓aP1_non, ↓stP_bl, ↓rtP_bl, ↓aP1_bl, ↓isN_bl, ↓stP_int, ↓rtP_int, ↓aP1_int, ↓isN_int, ↓stP_str, ↓rtP_str, ↓aP1_str, ↓isN_str, ↓stP_adr, ↓rtP_adr, ↓aP1_adr, ↓isN_adr, ↓stP_tup, ↓rtP_tup, ↓aP1_tup, ↓isN_tup, ↓stP_lst, ↓rtP_lst, ↓aP1_lst, ↓isN_lst, ↓stP_scr, ↓rtP_scr, ↓aP1_scr, ↓isN_scr, ↓stP_obj, ↓rtP_obj, ↓aP1_obj, ↓isN_obj, ↓stP_dk, ↓rtP_dk, ↓aP1_dk, ↓isN_dk, ↓isN_non, ↓stP_nlst, ↓rtP_nlst, ↓rtP_olst, ↓aP1_nlst, ↓stP_ndk, ↓rtP_ndk, ↓rtP_odk, ↓aP1_ndk, ↓aP1_st, ↓nwP_n, ↓oFn_1, ↓oFn_2, ↓oFn_3, ↓oFn_4, ↓oFn_5, ↓oFn_6, ↓sto_non, ↓nst_non, ↓sto_bl, ↓nst_bl, ↓sto_int, ↓nst_int, ↓sto_str, ↓nst_str, ↓sto_adr, ↓nst_adr, ↓sto_tup, ↓nst_tup, ↓sto_lst, ↓nst_lst, ↓sto_scr, ↓nst_scr, ↓sto_obj, ↓nst_obj, ↓sto_dk, ↓nst_dk, ↓sto_st, ↓sto_nil, ↓nst_nil, ↓wIsi_e, ↓oIsi_int_non, ↓oIsi_int_bl, ↓oIsi_int_int, ↓oIsi_int_str, ↓oIsi_int_tup, ↓oIsi_int_lst, ↓oIsi_bool_non, ↓oIsi_bool_bl, ↓oIsi_bool_int, ↓oIsi_bool_str, ↓oIsi_bool_tup, ↓oIsi_bool_lst, ↓oIsi_str_non, ↓oIsi_str_bl, ↓oIsi_str_int, ↓oIsi_str_str, ↓oIsi_str_tup, ↓oIsi_str_lst, ↓oIsi_tuple_non, ↓oIsi_tuple_bl, ↓oIsi_tuple_int, ↓oIsi_tuple_str, ↓oIsi_tuple_tup, ↓oIsi_tuple_lst, ↓oIsi_list_non, ↓oIsi_list_bl, ↓oIsi_list_int, ↓oIsi_list_str, ↓oIsi_list_tup, ↓oIsi_list_lst, ↓oIx_t, ↓cLen_t, ↓cTup_t, ↓cLst_t, ↓oIx_s, ↓cLen_s, ↓cTup_s, ↓cLst_s, ↓oIx_l, ↓cLen_l, ↓cTup_l, ↓cLst_l, ↓oIx_n, ↓cLen_n, ↓cTup_n, ↓cLst_n, ↓oIx_o, ↓cLen_o, ↓cTup_o, ↓cLst_o, ↓ixP_0, ↓ixP_1, ↓ixP_2, ↓ixP_3, ↓ixP_4, ↓ixP_5, ↓wSl_e, ↓wPn_e, ↓wPs_e, ↓oSl_t, ↓oSl_s, ↓oSl_l, ↓oSl_n, ↓oSl_o, ↓cAbs_i, ↓cInt_i, ↓cMin2_ii, ↓cMax2_ii, ↓wSeq_Set, ↓wSeq_If, ↓wSeq_Exp, ↓wSeq_Asg, ↓wSeq_Seq, ↓wSeq_Own, ↓wSeq_StS, ↓wSeq_App, ↓wSeq_Next, ↓wSeq_Ret, ↓wSeq_Rais, ↓wSeq_Par, ↓wSeq_Par3, ↓wSeq_St0, ↓wSeq_St1, ↓wSeq_Brk, ↓wSeq_Cnt, ↓wSeq_RetN, ↓wSeq_RaiF, ↓wSet_e, ↓wOwn_e, ↓sE_0, ↓sE_s, ↓wIf_e, ↓wRet_e, ↓wRetN_e, ↓wNext_e, ↓wBreak_e, ↓wCont_e, ↓wExpr_e, ↓wRaise_e, ↓wRaiseF_e, ↓wAsg_e, ↓tgP_name, ↓tgP_tup, ↓tgPs_nil, ↓tgPs_cons, ↓wTry_e, ↓wPar_ff, ↓noSt_0n, ↓noSt_0non, ↓noSt_0bl, ↓noSt_0int, ↓noSt_0str, ↓noSt_0tup, ↓noSt_0lst, ↓noSt_0ol, ↓noSt_s, ↓sSt0, ↓sSt1, ↓sSt0S, ↓sSt1S, ↓wOwnS_e, ↓fnE_nx, ↓fnE_rt, ↓fnE_ex, ↓wFor_e, ↓wSeq_For, ↓wSeq_While, ↓wiSeq_e, ↓wk_t, ↓wk_s, ↓wk_l, ↓wk_n, ↓wk_o, ↓wiRg1_e, ↓wiRg2_e, ↓wLRg2_e, ↓wLRg1_e, ↓wComp_e, ↓noMut_c, ↓noMut_n, ↓nm1_0, ↓nm1_int, ↓nm1_tup, ↓nm1_s, ↓nm1_v, ↓wYes_e, ↓wipeC_n, ↓wipeC_1, ↓wipeC_2, ↓wipeC_3, ↓cAll_b, ↓cAny_b, ↓oNe_int, ↓ns2_n, ↓oEq_mal, wIsi_e, okV_non, okV_bl, okV_int, okV_stR, okV_tup, okV_lst, ↓stP_v, ↓rtP_v, ↓aP1_v, ↓stOnce_v, ↓noSt_v, ↓oEq_int, ↓oIsi_int, ↓oIsi_bool, ↓oIsi_str, ↓oIsi_tuple, ↓oIsi_list, startP, ↓reduceIte, List.map_cons, List.map_nil, List.length_cons, List.length_nil, List.replicate, List.cons_append, List.nil_append, List.append_nil, true_and, and_true, implies_true, Bool.false_eq_true, Bool.not_true, Bool.not_false, Nat.reduceAdd, Nat.reduceSub, Nat.zero_add, Nat.reduceLT, Nat.reduceLeDiff, Int.reduceLT, Int.reduceLE, decide_eq_true_eq, Bool.true_and, Bool.and_true, Bool.false_and, Bool.and_false]
  refine ⟨ns, rfl, hs, fun x y hx hy hy2 => ?_⟩
  refine ⟨⟨hx, hy, hy2⟩, ?_⟩
  simp only [fs_z_law_take, fsTake, fs_z_law_left, fs_left_over, fs_left_by_turns, fs_z_law_same, fsN_z_law_same, fs_z_law_great, fs_z_law_turns, ↓wVar_0, ↓wVar_s, ↓wC_e, ↓wOp_e, ↓oAdd_ii, ↓oAdd_ss, ↓oAdd_tt, ↓oAdd_ll_, ↓oAdd_ln_, ↓oAdd_lo_, ↓oAdd_nl_, ↓oAdd_nn_, ↓oAdd_no_, ↓oAdd_ol_, ↓oAdd_on_, ↓oAdd_oo_, ↓oSub_ii, ↓oMul_ii, ↓oMul_li, ↓oMul_ni, ↓oMul_oi, ↓oDiv_ii, ↓oMod_ii, ↓oLt_ii, ↓oLe_ii, ↓oGt_ii, ↓oGe_ii, ↓wNeg_e, ↓wT_e, ↓kB_b, ↓kI_i, ↓wAnd_e, ↓wOr_e, ↓wNot_e, ↓wAndV_e, ↓wOrV_e, ↓wNotV_e, ↓wIfE_e, ↓wChain_e, ↓wIsN_e, ↓wNotN_e, ↓wCall_e, ↓wCons_e, ↓wNil_e, ↓wTup_e, ↓wLst_e, ↓tP_0, ↓tP_1, ↓tP_2, ↓tP_3, ↓tP_4, ↓tP_5, ↓tP_6, ↓tP_7, ↓tP_8, ↓lP_0, ↓lP_1, ↓lP_2, ↓lP_3, ↓lP_4, ↓lP_5, ↓lP_6, ↓lP_7, ↓lP_8, ↓stP_non, ↓rtP_non, ↓aP1_non, ↓stP_bl, ↓rtP_bl, ↓aP1_bl, ↓isN_bl, ↓stP_int, ↓rtP_int, ↓aP1_int, ↓isN_int, ↓stP_str, ↓rtP_str, ↓aP1_str, ↓isN_str, ↓stP_adr, ↓rtP_adr, ↓aP1_adr, ↓isN_adr, ↓stP_tup, ↓rtP_tup, ↓aP1_tup, ↓isN_tup, ↓stP_lst, ↓rtP_lst, ↓aP1_lst, ↓isN_lst, ↓stP_scr, ↓rtP_scr, ↓aP1_scr, ↓isN_scr, ↓stP_obj, ↓rtP_obj, ↓aP1_obj, ↓isN_obj, ↓stP_dk, ↓rtP_dk, ↓aP1_dk, ↓isN_dk, ↓isN_non, ↓stP_nlst, ↓rtP_nlst, ↓rtP_olst, ↓aP1_nlst, ↓stP_ndk, ↓rtP_ndk, ↓rtP_odk, ↓aP1_ndk, ↓aP1_st, ↓nwP_n, ↓oFn_1, ↓oFn_2, ↓oFn_3, ↓oFn_4, ↓oFn_5, ↓oFn_6, ↓sto_non, ↓nst_non, ↓sto_bl, ↓nst_bl, ↓sto_int, ↓nst_int, ↓sto_str, ↓nst_str, ↓sto_adr, ↓nst_adr, ↓sto_tup, ↓nst_tup, ↓sto_lst, ↓nst_lst, ↓sto_scr, ↓nst_scr, ↓sto_obj, ↓nst_obj, ↓sto_dk, ↓nst_dk, ↓sto_st, ↓sto_nil, ↓nst_nil, ↓wIsi_e, ↓oIsi_int_non, ↓oIsi_int_bl, ↓oIsi_int_int, ↓oIsi_int_str, ↓oIsi_int_tup, ↓oIsi_int_lst, ↓oIsi_bool_non, ↓oIsi_bool_bl, ↓oIsi_bool_int, ↓oIsi_bool_str, ↓oIsi_bool_tup, ↓oIsi_bool_lst, ↓oIsi_str_non, ↓oIsi_str_bl, ↓oIsi_str_int, ↓oIsi_str_str, ↓oIsi_str_tup, ↓oIsi_str_lst, ↓oIsi_tuple_non, ↓oIsi_tuple_bl, ↓oIsi_tuple_int, ↓oIsi_tuple_str, ↓oIsi_tuple_tup, ↓oIsi_tuple_lst, ↓oIsi_list_non, ↓oIsi_list_bl, ↓oIsi_list_int, ↓oIsi_list_str, ↓oIsi_list_tup, ↓oIsi_list_lst, ↓oIx_t, ↓cLen_t, ↓cTup_t, ↓cLst_t, ↓oIx_s, ↓cLen_s, ↓cTup_s, ↓cLst_s, ↓oIx_l, ↓cLen_l, ↓cTup_l, ↓cLst_l, ↓oIx_n, ↓cLen_n, ↓cTup_n, ↓cLst_n, ↓oIx_o, ↓cLen_o, ↓cTup_o, ↓cLst_o, ↓ixP_0, ↓ixP_1, ↓ixP_2, ↓ixP_3, ↓ixP_4, ↓ixP_5, ↓wSl_e, ↓wPn_e, ↓wPs_e, ↓oSl_t, ↓oSl_s, ↓oSl_l, ↓oSl_n, ↓oSl_o, ↓cAbs_i, ↓cInt_i, ↓cMin2_ii, ↓cMax2_ii, ↓wSeq_Set, ↓wSeq_If, ↓wSeq_Exp, ↓wSeq_Asg, ↓wSeq_Seq, ↓wSeq_Own, ↓wSeq_StS, ↓wSeq_App, ↓wSeq_Next, ↓wSeq_Ret, ↓wSeq_Rais, ↓wSeq_Par, ↓wSeq_Par3, ↓wSeq_St0, ↓wSeq_St1, ↓wSeq_Brk, ↓wSeq_Cnt, ↓wSeq_RetN, ↓wSeq_RaiF, ↓wSet_e, ↓wOwn_e, ↓sE_0, ↓sE_s, ↓wIf_e, ↓wRet_e, ↓wRetN_e, ↓wNext_e, ↓wBreak_e, ↓wCont_e, ↓wExpr_e, ↓wRaise_e, ↓wRaiseF_e, ↓wAsg_e, ↓tgP_name, ↓tgP_tup, ↓tgPs_nil, ↓tgPs_cons, ↓wTry_e, ↓wPar_ff, ↓noSt_0n, ↓noSt_0non, ↓noSt_0bl, ↓noSt_0int, ↓noSt_0str, ↓noSt_0tup, ↓noSt_0lst, ↓noSt_0ol, ↓noSt_s, ↓sSt0, ↓sSt1, ↓sSt0S, ↓sSt1S, ↓wOwnS_e, ↓fnE_nx, ↓fnE_rt, ↓fnE_ex, ↓wFor_e, ↓wSeq_For, ↓wSeq_While, ↓wiSeq_e, ↓wk_t, ↓wk_s, ↓wk_l, ↓wk_n, ↓wk_o, ↓wiRg1_e, ↓wiRg2_e, ↓wLRg2_e, ↓wLRg1_e, ↓wComp_e, ↓noMut_c, ↓noMut_n, ↓nm1_0, ↓nm1_int, ↓nm1_tup, ↓nm1_s, ↓nm1_v, ↓wYes_e, ↓wipeC_n, ↓wipeC_1, ↓wipeC_2, ↓wipeC_3, ↓cAll_b, ↓cAny_b, ↓oNe_int, ↓ns2_n, ↓oEq_mal, wIsi_e, okV_non, okV_bl, okV_int, okV_stR, okV_tup, okV_lst, ↓stP_v, ↓rtP_v, ↓aP1_v, ↓stOnce_v, ↓noSt_v, ↓oEq_int, ↓oIsi_int, ↓oIsi_bool, ↓oIsi_str, ↓oIsi_tuple, ↓oIsi_list, startP, ↓reduceIte, List.map_cons, List.map_nil, List.length_cons, List.length_nil, List.replicate, List.cons_append, List.nil_append, List.append_nil, true_and, and_true, implies_true, Bool.false_eq_true, Bool.not_true, Bool.not_false, Nat.reduceAdd, Nat.reduceSub, Nat.zero_add, Nat.reduceLT, Nat.reduceLeDiff, Int.reduceLT, Int.reduceLE, decide_eq_true_eq, Bool.true_and, Bool.and_true, Bool.false_and, Bool.and_false]
  intro v hv w hw
  have c1 : cnt (.int (1 + v)) 1 1000000000000000000000000000000 = true := cnt_of (by omega) (by omega)
  have c2 : cnt (.int (1 + v)) 1 2000 = true := cnt_of (by omega) (by omega)
  have c3 : cnt (.int (2 + w)) 2 40 = true := cnt_of (by omega) (by omega)
  refine ⟨by omega, ?_⟩
  simp only [c1, c2, c3, if_true, decide_true, Bool.not_true, Bool.false_eq_true, if_false]
  intro m hm
  have c4 : cnt (.int (1 + m)) 1 1000000000000000000000000000000 = true := cnt_of (by omega) (by omega)
  have c5 : cnt (.int (1 + m)) 1 2000 = true := cnt_of (by omega) (by omega)
  simp only [c4, c5, if_true]
  refine ⟨by omega, ?_⟩
  intro g hg
  refine whileS_st (σ := Int) (fun t => [some (.scr (ns.map PV.int)), some .st, some (.int (1 + v)), some (.int (2 + w)), some (.int (J (1 + v) (2 + w))), some (.int (1 + m)), some (.int (1 + g)), some (.int t), none, none, none, none]) (fun t => 1 ≤ t ∧ t ≤ 1 + g ∧ jos 2 t.toNat = 0) (fun t => (1 + g - t).toNat) 1 ⟨rfl, by omega, by omega, rfl⟩ ?_
  rintro t ⟨ht1, ht2, ht3⟩
  simp only [↓wVar_0, ↓wVar_s, ↓wC_e, ↓wOp_e, ↓oAdd_ii, ↓oAdd_ss, ↓oAdd_tt, ↓oAdd_ll_, ↓oAdd_ln_, ↓oAdd_lo_, ↓oAdd_nl_, ↓oAdd_nn_, ↓oAdd_no_, ↓oAdd_ol_, ↓oAdd_on_, ↓oAdd_oo_, ↓oSub_ii, ↓oMul_ii, ↓oMul_li, ↓oMul_ni, ↓oMul_oi, ↓oDiv_ii, ↓oMod_ii, ↓oLt_ii, ↓oLe_ii, ↓oGt_ii, ↓oGe_ii, ↓wNeg_e, ↓wT_e, ↓kB_b, ↓kI_i, ↓wAnd_e, ↓wOr_e, ↓wNot_e, ↓wAndV_e, ↓wOrV_e, ↓wNotV_e, ↓wIfE_e, ↓wChain_e, ↓wIsN_e, ↓wNotN_e, ↓wCall_e, ↓wCons_e, ↓wNil_e, ↓wTup_e, ↓wLst_e, ↓tP_0, ↓tP_1, ↓tP_2, ↓tP_3, ↓tP_4, ↓tP_5, ↓tP_6, ↓tP_7, ↓tP_8, ↓lP_0, ↓lP_1, ↓lP_2, ↓lP_3, ↓lP_4, ↓lP_5, ↓lP_6, ↓lP_7, ↓lP_8, ↓stP_non, ↓rtP_non, ↓aP1_non, ↓stP_bl, ↓rtP_bl, ↓aP1_bl, ↓isN_bl, ↓stP_int, ↓rtP_int, ↓aP1_int, ↓isN_int, ↓stP_str, ↓rtP_str, ↓aP1_str, ↓isN_str, ↓stP_adr, ↓rtP_adr, ↓aP1_adr, ↓isN_adr, ↓stP_tup, ↓rtP_tup, ↓aP1_tup, ↓isN_tup, ↓stP_lst, ↓rtP_lst, ↓aP1_lst, ↓isN_lst, ↓stP_scr, ↓rtP_scr, ↓aP1_scr, ↓isN_scr, ↓stP_obj, ↓rtP_obj, ↓aP1_obj, ↓isN_obj, ↓stP_dk, ↓rtP_dk, ↓aP1_dk, ↓isN_dk, ↓isN_non, ↓stP_nlst, ↓rtP_nlst, ↓rtP_olst, ↓aP1_nlst, ↓stP_ndk, ↓rtP_ndk, ↓rtP_odk, ↓aP1_ndk, ↓aP1_st, ↓nwP_n, ↓oFn_1, ↓oFn_2, ↓oFn_3, ↓oFn_4, ↓oFn_5, ↓oFn_6, ↓sto_non, ↓nst_non, ↓sto_bl, ↓nst_bl, ↓sto_int, ↓nst_int, ↓sto_str, ↓nst_str, ↓sto_adr, ↓nst_adr, ↓sto_tup, ↓nst_tup, ↓sto_lst, ↓nst_lst, ↓sto_scr, ↓nst_scr, ↓sto_obj, ↓nst_obj, ↓sto_dk, ↓nst_dk, ↓sto_st, ↓sto_nil, ↓nst_nil, ↓wIsi_e, ↓oIsi_int_non, ↓oIsi_int_bl, ↓oIsi_int_int, ↓oIsi_int_str, ↓oIsi_int_tup, ↓oIsi_int_lst, ↓oIsi_bool_non, ↓oIsi_bool_bl, ↓oIsi_bool_int, ↓oIsi_bool_str, ↓oIsi_bool_tup, ↓oIsi_bool_lst, ↓oIsi_str_non, ↓oIsi_str_bl, ↓oIsi_str_int, ↓oIsi_str_str, ↓oIsi_str_tup, ↓oIsi_str_lst, ↓oIsi_tuple_non, ↓oIsi_tuple_bl, ↓oIsi_tuple_int, ↓oIsi_tuple_str, ↓oIsi_tuple_tup, ↓oIsi_tuple_lst, ↓oIsi_list_non, ↓oIsi_list_bl, ↓oIsi_list_int, ↓oIsi_list_str, ↓oIsi_list_tup, ↓oIsi_list_lst, ↓oIx_t, ↓cLen_t, ↓cTup_t, ↓cLst_t, ↓oIx_s, ↓cLen_s, ↓cTup_s, ↓cLst_s, ↓oIx_l, ↓cLen_l, ↓cTup_l, ↓cLst_l, ↓oIx_n, ↓cLen_n, ↓cTup_n, ↓cLst_n, ↓oIx_o, ↓cLen_o, ↓cTup_o, ↓cLst_o, ↓ixP_0, ↓ixP_1, ↓ixP_2, ↓ixP_3, ↓ixP_4, ↓ixP_5, ↓wSl_e, ↓wPn_e, ↓wPs_e, ↓oSl_t, ↓oSl_s, ↓oSl_l, ↓oSl_n, ↓oSl_o, ↓cAbs_i, ↓cInt_i, ↓cMin2_ii, ↓cMax2_ii, ↓wSeq_Set, ↓wSeq_If, ↓wSeq_Exp, ↓wSeq_Asg, ↓wSeq_Seq, ↓wSeq_Own, ↓wSeq_StS, ↓wSeq_App, ↓wSeq_Next, ↓wSeq_Ret, ↓wSeq_Rais, ↓wSeq_Par, ↓wSeq_Par3, ↓wSeq_St0, ↓wSeq_St1, ↓wSeq_Brk, ↓wSeq_Cnt, ↓wSeq_RetN, ↓wSeq_RaiF, ↓wSet_e, ↓wOwn_e, ↓sE_0, ↓sE_s, ↓wIf_e, ↓wRet_e, ↓wRetN_e, ↓wNext_e, ↓wBreak_e, ↓wCont_e, ↓wExpr_e, ↓wRaise_e, ↓wRaiseF_e, ↓wAsg_e, ↓tgP_name, ↓tgP_tup, ↓tgPs_nil, ↓tgPs_cons, ↓wTry_e, ↓wPar_ff, ↓noSt_0n, ↓noSt_0non, ↓noSt_0bl, ↓noSt_0int, ↓noSt_0str, ↓noSt_0tup, ↓noSt_0lst, ↓noSt_0ol, ↓noSt_s, ↓sSt0, ↓sSt1, ↓sSt0S, ↓sSt1S, ↓wOwnS_e, ↓fnE_nx, ↓fnE_rt, ↓fnE_ex, ↓wFor_e, ↓wSeq_For, ↓wSeq_While, ↓wiSeq_e, ↓wk_t, ↓wk_s, ↓wk_l, ↓wk_n, ↓wk_o, ↓wiRg1_e, ↓wiRg2_e, ↓wLRg2_e, ↓wLRg1_e, ↓wComp_e, ↓noMut_c, ↓noMut_n, ↓nm1_0, ↓nm1_int, ↓nm1_tup, ↓nm1_s, ↓nm1_v, ↓wYes_e, ↓wipeC_n, ↓wipeC_1, ↓wipeC_2, ↓wipeC_3, ↓cAll_b, ↓cAny_b, ↓oNe_int, ↓ns2_n, ↓oEq_mal, wIsi_e, okV_non, okV_bl, okV_int, okV_stR, okV_tup, okV_lst, ↓stP_v, ↓rtP_v, ↓aP1_v, ↓stOnce_v, ↓noSt_v, ↓oEq_int, ↓oIsi_int, ↓oIsi_bool, ↓oIsi_str, ↓oIsi_tuple, ↓oIsi_list, startP, ↓reduceIte, List.map_cons, List.map_nil, List.length_cons, List.length_nil, List.replicate, List.cons_append, List.nil_append, List.append_nil, true_and, and_true, implies_true, Bool.false_eq_true, Bool.not_true, Bool.not_false, Nat.reduceAdd, Nat.reduceSub, Nat.zero_add, Nat.reduceLT, Nat.reduceLeDiff, Int.reduceLT, Int.reduceLE, decide_eq_true_eq, Bool.true_and, Bool.and_true, Bool.false_and, Bool.and_false]
  refine ⟨mulOk_s (by decide) (by omega), ?_⟩
  split
  · rename_i hc
    refine ⟨mulOk_s (by decide) (by omega), _, rfl, ⟨by omega, hc, ?_⟩, by omega⟩
    have e : (2 * t).toNat = 2 * t.toNat := by omega
    rw [e]
    exact jos2_twice ht3 (by omega)
  · rename_i hc
    have c6 : cnt (.int (1 + g)) 1 1000000000000000000000000000000 = true := cnt_of (by omega) (by omega)
    have c7 : cnt (.int (1 + g + 1)) 1 1000000000000000000000000000000 = true := cnt_of (by omega) (by omega)
    have c8 : cnt (.int 2) 2 40 = true := by decide
    simp only [fs_left_over, fs_z_law_same, fsN_z_law_same, c6, c8, ↓wVar_0, ↓wVar_s, ↓wC_e, ↓wOp_e, ↓oAdd_ii, ↓oAdd_ss, ↓oAdd_tt, ↓oAdd_ll_, ↓oAdd_ln_, ↓oAdd_lo_, ↓oAdd_nl_, ↓oAdd_nn_, ↓oAdd_no_, ↓oAdd_ol_, ↓oAdd_on_, ↓oAdd_oo_, ↓oSub_ii, ↓oMul_ii, ↓oMul_li, ↓oMul_ni, ↓oMul_oi, ↓oDiv_ii, ↓oMod_ii, ↓oLt_ii, ↓oLe_ii, ↓oGt_ii, ↓oGe_ii, ↓wNeg_e, ↓wT_e, ↓kB_b, ↓kI_i, ↓wAnd_e, ↓wOr_e, ↓wNot_e, ↓wAndV_e, ↓wOrV_e, ↓wNotV_e, ↓wIfE_e, ↓wChain_e, ↓wIsN_e, ↓wNotN_e, ↓wCall_e, ↓wCons_e, ↓wNil_e, ↓wTup_e, ↓wLst_e, ↓tP_0, ↓tP_1, ↓tP_2, ↓tP_3, ↓tP_4, ↓tP_5, ↓tP_6, ↓tP_7, ↓tP_8, ↓lP_0, ↓lP_1, ↓lP_2, ↓lP_3, ↓lP_4, ↓lP_5, ↓lP_6, ↓lP_7, ↓lP_8, ↓stP_non, ↓rtP_non, ↓aP1_non, ↓stP_bl, ↓rtP_bl, ↓aP1_bl, ↓isN_bl, ↓stP_int, ↓rtP_int, ↓aP1_int, ↓isN_int, ↓stP_str, ↓rtP_str, ↓aP1_str, ↓isN_str, ↓stP_adr, ↓rtP_adr, ↓aP1_adr, ↓isN_adr, ↓stP_tup, ↓rtP_tup, ↓aP1_tup, ↓isN_tup, ↓stP_lst, ↓rtP_lst, ↓aP1_lst, ↓isN_lst, ↓stP_scr, ↓rtP_scr, ↓aP1_scr, ↓isN_scr, ↓stP_obj, ↓rtP_obj, ↓aP1_obj, ↓isN_obj, ↓stP_dk, ↓rtP_dk, ↓aP1_dk, ↓isN_dk, ↓isN_non, ↓stP_nlst, ↓rtP_nlst, ↓rtP_olst, ↓aP1_nlst, ↓stP_ndk, ↓rtP_ndk, ↓rtP_odk, ↓aP1_ndk, ↓aP1_st, ↓nwP_n, ↓oFn_1, ↓oFn_2, ↓oFn_3, ↓oFn_4, ↓oFn_5, ↓oFn_6, ↓sto_non, ↓nst_non, ↓sto_bl, ↓nst_bl, ↓sto_int, ↓nst_int, ↓sto_str, ↓nst_str, ↓sto_adr, ↓nst_adr, ↓sto_tup, ↓nst_tup, ↓sto_lst, ↓nst_lst, ↓sto_scr, ↓nst_scr, ↓sto_obj, ↓nst_obj, ↓sto_dk, ↓nst_dk, ↓sto_st, ↓sto_nil, ↓nst_nil, ↓wIsi_e, ↓oIsi_int_non, ↓oIsi_int_bl, ↓oIsi_int_int, ↓oIsi_int_str, ↓oIsi_int_tup, ↓oIsi_int_lst, ↓oIsi_bool_non, ↓oIsi_bool_bl, ↓oIsi_bool_int, ↓oIsi_bool_str, ↓oIsi_bool_tup, ↓oIsi_bool_lst, ↓oIsi_str_non, ↓oIsi_str_bl, ↓oIsi_str_int, ↓oIsi_str_str, ↓oIsi_str_tup, ↓oIsi_str_lst, ↓oIsi_tuple_non, ↓oIsi_tuple_bl, ↓oIsi_tuple_int, ↓oIsi_tuple_str, ↓oIsi_tuple_tup, ↓oIsi_tuple_lst, ↓oIsi_list_non, ↓oIsi_list_bl, ↓oIsi_list_int, ↓oIsi_list_str, ↓oIsi_list_tup, ↓oIsi_list_lst, ↓oIx_t, ↓cLen_t, ↓cTup_t, ↓cLst_t, ↓oIx_s, ↓cLen_s, ↓cTup_s, ↓cLst_s, ↓oIx_l, ↓cLen_l, ↓cTup_l, ↓cLst_l, ↓oIx_n, ↓cLen_n, ↓cTup_n, ↓cLst_n, ↓oIx_o, ↓cLen_o, ↓cTup_o, ↓cLst_o, ↓ixP_0, ↓ixP_1, ↓ixP_2, ↓ixP_3, ↓ixP_4, ↓ixP_5, ↓wSl_e, ↓wPn_e, ↓wPs_e, ↓oSl_t, ↓oSl_s, ↓oSl_l, ↓oSl_n, ↓oSl_o, ↓cAbs_i, ↓cInt_i, ↓cMin2_ii, ↓cMax2_ii, ↓wSeq_Set, ↓wSeq_If, ↓wSeq_Exp, ↓wSeq_Asg, ↓wSeq_Seq, ↓wSeq_Own, ↓wSeq_StS, ↓wSeq_App, ↓wSeq_Next, ↓wSeq_Ret, ↓wSeq_Rais, ↓wSeq_Par, ↓wSeq_Par3, ↓wSeq_St0, ↓wSeq_St1, ↓wSeq_Brk, ↓wSeq_Cnt, ↓wSeq_RetN, ↓wSeq_RaiF, ↓wSet_e, ↓wOwn_e, ↓sE_0, ↓sE_s, ↓wIf_e, ↓wRet_e, ↓wRetN_e, ↓wNext_e, ↓wBreak_e, ↓wCont_e, ↓wExpr_e, ↓wRaise_e, ↓wRaiseF_e, ↓wAsg_e, ↓tgP_name, ↓tgP_tup, ↓tgPs_nil, ↓tgPs_cons, ↓wTry_e, ↓wPar_ff, ↓noSt_0n, ↓noSt_0non, ↓noSt_0bl, ↓noSt_0int, ↓noSt_0str, ↓noSt_0tup, ↓noSt_0lst, ↓noSt_0ol, ↓noSt_s, ↓sSt0, ↓sSt1, ↓sSt0S, ↓sSt1S, ↓wOwnS_e, ↓fnE_nx, ↓fnE_rt, ↓fnE_ex, ↓wFor_e, ↓wSeq_For, ↓wSeq_While, ↓wiSeq_e, ↓wk_t, ↓wk_s, ↓wk_l, ↓wk_n, ↓wk_o, ↓wiRg1_e, ↓wiRg2_e, ↓wLRg2_e, ↓wLRg1_e, ↓wComp_e, ↓noMut_c, ↓noMut_n, ↓nm1_0, ↓nm1_int, ↓nm1_tup, ↓nm1_s, ↓nm1_v, ↓wYes_e, ↓wipeC_n, ↓wipeC_1, ↓wipeC_2, ↓wipeC_3, ↓cAll_b, ↓cAny_b, ↓oNe_int, ↓ns2_n, ↓oEq_mal, wIsi_e, okV_non, okV_bl, okV_int, okV_stR, okV_tup, okV_lst, ↓stP_v, ↓rtP_v, ↓aP1_v, ↓stOnce_v, ↓noSt_v, ↓oEq_int, ↓oIsi_int, ↓oIsi_bool, ↓oIsi_str, ↓oIsi_tuple, ↓oIsi_list, startP, ↓reduceIte, List.map_cons, List.map_nil, List.length_cons, List.length_nil, List.replicate, List.cons_append, List.nil_append, List.append_nil, true_and, and_true, implies_true, Bool.false_eq_true, Bool.not_true, Bool.not_false, Nat.reduceAdd, Nat.reduceSub, Nat.zero_add, Nat.reduceLT, Nat.reduceLeDiff, Int.reduceLT, Int.reduceLE, decide_eq_true_eq, Bool.true_and, Bool.and_true, Bool.false_and, Bool.and_false]
    refine ⟨mulOk_s (by decide) (by omega), ?_⟩
    simp only [J_two ht1 ht2 hc ht3, decide_true, Bool.not_true, Bool.false_eq_true, if_false, c3, c7, if_true]
    obtain ⟨b1, b2⟩ := J_b (n := 1 + g) (k := 2 + w) (by omega)
    have j := J_next (n := 1 + g) (k := 2 + w) (by omega)
    simp only [fs_z_law_is_whole, fsIsInt, isI, b1, b2, j, ↓wVar_0, ↓wVar_s, ↓wC_e, ↓wOp_e, ↓oAdd_ii, ↓oAdd_ss, ↓oAdd_tt, ↓oAdd_ll_, ↓oAdd_ln_, ↓oAdd_lo_, ↓oAdd_nl_, ↓oAdd_nn_, ↓oAdd_no_, ↓oAdd_ol_, ↓oAdd_on_, ↓oAdd_oo_, ↓oSub_ii, ↓oMul_ii, ↓oMul_li, ↓oMul_ni, ↓oMul_oi, ↓oDiv_ii, ↓oMod_ii, ↓oLt_ii, ↓oLe_ii, ↓oGt_ii, ↓oGe_ii, ↓wNeg_e, ↓wT_e, ↓kB_b, ↓kI_i, ↓wAnd_e, ↓wOr_e, ↓wNot_e, ↓wAndV_e, ↓wOrV_e, ↓wNotV_e, ↓wIfE_e, ↓wChain_e, ↓wIsN_e, ↓wNotN_e, ↓wCall_e, ↓wCons_e, ↓wNil_e, ↓wTup_e, ↓wLst_e, ↓tP_0, ↓tP_1, ↓tP_2, ↓tP_3, ↓tP_4, ↓tP_5, ↓tP_6, ↓tP_7, ↓tP_8, ↓lP_0, ↓lP_1, ↓lP_2, ↓lP_3, ↓lP_4, ↓lP_5, ↓lP_6, ↓lP_7, ↓lP_8, ↓stP_non, ↓rtP_non, ↓aP1_non, ↓stP_bl, ↓rtP_bl, ↓aP1_bl, ↓isN_bl, ↓stP_int, ↓rtP_int, ↓aP1_int, ↓isN_int, ↓stP_str, ↓rtP_str, ↓aP1_str, ↓isN_str, ↓stP_adr, ↓rtP_adr, ↓aP1_adr, ↓isN_adr, ↓stP_tup, ↓rtP_tup, ↓aP1_tup, ↓isN_tup, ↓stP_lst, ↓rtP_lst, ↓aP1_lst, ↓isN_lst, ↓stP_scr, ↓rtP_scr, ↓aP1_scr, ↓isN_scr, ↓stP_obj, ↓rtP_obj, ↓aP1_obj, ↓isN_obj, ↓stP_dk, ↓rtP_dk, ↓aP1_dk, ↓isN_dk, ↓isN_non, ↓stP_nlst, ↓rtP_nlst, ↓rtP_olst, ↓aP1_nlst, ↓stP_ndk, ↓rtP_ndk, ↓rtP_odk, ↓aP1_ndk, ↓aP1_st, ↓nwP_n, ↓oFn_1, ↓oFn_2, ↓oFn_3, ↓oFn_4, ↓oFn_5, ↓oFn_6, ↓sto_non, ↓nst_non, ↓sto_bl, ↓nst_bl, ↓sto_int, ↓nst_int, ↓sto_str, ↓nst_str, ↓sto_adr, ↓nst_adr, ↓sto_tup, ↓nst_tup, ↓sto_lst, ↓nst_lst, ↓sto_scr, ↓nst_scr, ↓sto_obj, ↓nst_obj, ↓sto_dk, ↓nst_dk, ↓sto_st, ↓sto_nil, ↓nst_nil, ↓wIsi_e, ↓oIsi_int_non, ↓oIsi_int_bl, ↓oIsi_int_int, ↓oIsi_int_str, ↓oIsi_int_tup, ↓oIsi_int_lst, ↓oIsi_bool_non, ↓oIsi_bool_bl, ↓oIsi_bool_int, ↓oIsi_bool_str, ↓oIsi_bool_tup, ↓oIsi_bool_lst, ↓oIsi_str_non, ↓oIsi_str_bl, ↓oIsi_str_int, ↓oIsi_str_str, ↓oIsi_str_tup, ↓oIsi_str_lst, ↓oIsi_tuple_non, ↓oIsi_tuple_bl, ↓oIsi_tuple_int, ↓oIsi_tuple_str, ↓oIsi_tuple_tup, ↓oIsi_tuple_lst, ↓oIsi_list_non, ↓oIsi_list_bl, ↓oIsi_list_int, ↓oIsi_list_str, ↓oIsi_list_tup, ↓oIsi_list_lst, ↓oIx_t, ↓cLen_t, ↓cTup_t, ↓cLst_t, ↓oIx_s, ↓cLen_s, ↓cTup_s, ↓cLst_s, ↓oIx_l, ↓cLen_l, ↓cTup_l, ↓cLst_l, ↓oIx_n, ↓cLen_n, ↓cTup_n, ↓cLst_n, ↓oIx_o, ↓cLen_o, ↓cTup_o, ↓cLst_o, ↓ixP_0, ↓ixP_1, ↓ixP_2, ↓ixP_3, ↓ixP_4, ↓ixP_5, ↓wSl_e, ↓wPn_e, ↓wPs_e, ↓oSl_t, ↓oSl_s, ↓oSl_l, ↓oSl_n, ↓oSl_o, ↓cAbs_i, ↓cInt_i, ↓cMin2_ii, ↓cMax2_ii, ↓wSeq_Set, ↓wSeq_If, ↓wSeq_Exp, ↓wSeq_Asg, ↓wSeq_Seq, ↓wSeq_Own, ↓wSeq_StS, ↓wSeq_App, ↓wSeq_Next, ↓wSeq_Ret, ↓wSeq_Rais, ↓wSeq_Par, ↓wSeq_Par3, ↓wSeq_St0, ↓wSeq_St1, ↓wSeq_Brk, ↓wSeq_Cnt, ↓wSeq_RetN, ↓wSeq_RaiF, ↓wSet_e, ↓wOwn_e, ↓sE_0, ↓sE_s, ↓wIf_e, ↓wRet_e, ↓wRetN_e, ↓wNext_e, ↓wBreak_e, ↓wCont_e, ↓wExpr_e, ↓wRaise_e, ↓wRaiseF_e, ↓wAsg_e, ↓tgP_name, ↓tgP_tup, ↓tgPs_nil, ↓tgPs_cons, ↓wTry_e, ↓wPar_ff, ↓noSt_0n, ↓noSt_0non, ↓noSt_0bl, ↓noSt_0int, ↓noSt_0str, ↓noSt_0tup, ↓noSt_0lst, ↓noSt_0ol, ↓noSt_s, ↓sSt0, ↓sSt1, ↓sSt0S, ↓sSt1S, ↓wOwnS_e, ↓fnE_nx, ↓fnE_rt, ↓fnE_ex, ↓wFor_e, ↓wSeq_For, ↓wSeq_While, ↓wiSeq_e, ↓wk_t, ↓wk_s, ↓wk_l, ↓wk_n, ↓wk_o, ↓wiRg1_e, ↓wiRg2_e, ↓wLRg2_e, ↓wLRg1_e, ↓wComp_e, ↓noMut_c, ↓noMut_n, ↓nm1_0, ↓nm1_int, ↓nm1_tup, ↓nm1_s, ↓nm1_v, ↓wYes_e, ↓wipeC_n, ↓wipeC_1, ↓wipeC_2, ↓wipeC_3, ↓cAll_b, ↓cAny_b, ↓oNe_int, ↓ns2_n, ↓oEq_mal, wIsi_e, okV_non, okV_bl, okV_int, okV_stR, okV_tup, okV_lst, ↓stP_v, ↓rtP_v, ↓aP1_v, ↓stOnce_v, ↓noSt_v, ↓oEq_int, ↓oIsi_int, ↓oIsi_bool, ↓oIsi_str, ↓oIsi_tuple, ↓oIsi_list, startP, ↓reduceIte, List.map_cons, List.map_nil, List.length_cons, List.length_nil, List.replicate, List.cons_append, List.nil_append, List.append_nil, true_and, and_true, implies_true, Bool.false_eq_true, Bool.not_true, Bool.not_false, Nat.reduceAdd, Nat.reduceSub, Nat.zero_add, Nat.reduceLT, Nat.reduceLeDiff, Int.reduceLT, Int.reduceLE, decide_eq_true_eq, Bool.true_and, Bool.and_true, Bool.false_and, Bool.and_false]
    refine ⟨by omega, ?_⟩
    let E : List PV × Option PV → PEnv := fun s => [some (.scr (ns.map PV.int)), some .st, some (.int (1 + v)), some (.int (2 + w)), some (.int (J (1 + v) (2 + w))), some (.int (1 + m)), some (.int (1 + g)), some (.int t), some (.int (J (1 + g) (2 + w))), some (.int ((J (1 + g) (2 + w) - 1 + (2 + w)).fmod (1 + g + 1) + 1)), some (.lst s.1), s.2]
    refine loopS_st (σ := List PV × Option PV) E (fun i s => s.1.length ≤ 2 + 2 * i ∧ ∀ x ∈ s.1, MalX A x) (_, none) ⟨rfl, by simp, ?_⟩ ?_ ?_
    · intro x hx
      simp only [List.mem_cons, List.not_mem_nil, or_false] at hx
      rcases hx with rfl | rfl
      · exact ⟨_, _, rfl, tell_lt A hA rfl rfl (.inl (by decide))⟩
      · exact ⟨_, _, rfl, tell_lo A rfl rfl (.inl (by decide))⟩
    · rintro i ⟨xs, b⟩ p ⟨hl, hx⟩ hp
      have hi : i < 5 := (List.getElem?_eq_some_iff.mp hp).1
      have hpm := List.mem_of_getElem? hp
      have ok : okV (owns A) p = true ∧ cnt p 1 1000000000000000000000000000000 = false ∧ cnt p 1 2000 = false := by
        simp only [List.mem_cons, List.not_mem_nil, or_false] at hpm
        rcases hpm with rfl | rfl | rfl | rfl | rfl <;> exact ⟨rfl, by decide, by decide⟩
      have pl := okV_plain ok.1
      dsimp only at hl hx
      simp only [E, pl, ↓wVar_0, ↓wVar_s, ↓wC_e, ↓wOp_e, ↓oAdd_ii, ↓oAdd_ss, ↓oAdd_tt, ↓oAdd_ll_, ↓oAdd_ln_, ↓oAdd_lo_, ↓oAdd_nl_, ↓oAdd_nn_, ↓oAdd_no_, ↓oAdd_ol_, ↓oAdd_on_, ↓oAdd_oo_, ↓oSub_ii, ↓oMul_ii, ↓oMul_li, ↓oMul_ni, ↓oMul_oi, ↓oDiv_ii, ↓oMod_ii, ↓oLt_ii, ↓oLe_ii, ↓oGt_ii, ↓oGe_ii, ↓wNeg_e, ↓wT_e, ↓kB_b, ↓kI_i, ↓wAnd_e, ↓wOr_e, ↓wNot_e, ↓wAndV_e, ↓wOrV_e, ↓wNotV_e, ↓wIfE_e, ↓wChain_e, ↓wIsN_e, ↓wNotN_e, ↓wCall_e, ↓wCons_e, ↓wNil_e, ↓wTup_e, ↓wLst_e, ↓tP_0, ↓tP_1, ↓tP_2, ↓tP_3, ↓tP_4, ↓tP_5, ↓tP_6, ↓tP_7, ↓tP_8, ↓lP_0, ↓lP_1, ↓lP_2, ↓lP_3, ↓lP_4, ↓lP_5, ↓lP_6, ↓lP_7, ↓lP_8, ↓stP_non, ↓rtP_non, ↓aP1_non, ↓stP_bl, ↓rtP_bl, ↓aP1_bl, ↓isN_bl, ↓stP_int, ↓rtP_int, ↓aP1_int, ↓isN_int, ↓stP_str, ↓rtP_str, ↓aP1_str, ↓isN_str, ↓stP_adr, ↓rtP_adr, ↓aP1_adr, ↓isN_adr, ↓stP_tup, ↓rtP_tup, ↓aP1_tup, ↓isN_tup, ↓stP_lst, ↓rtP_lst, ↓aP1_lst, ↓isN_lst, ↓stP_scr, ↓rtP_scr, ↓aP1_scr, ↓isN_scr, ↓stP_obj, ↓rtP_obj, ↓aP1_obj, ↓isN_obj, ↓stP_dk, ↓rtP_dk, ↓aP1_dk, ↓isN_dk, ↓isN_non, ↓stP_nlst, ↓rtP_nlst, ↓rtP_olst, ↓aP1_nlst, ↓stP_ndk, ↓rtP_ndk, ↓rtP_odk, ↓aP1_ndk, ↓aP1_st, ↓nwP_n, ↓oFn_1, ↓oFn_2, ↓oFn_3, ↓oFn_4, ↓oFn_5, ↓oFn_6, ↓sto_non, ↓nst_non, ↓sto_bl, ↓nst_bl, ↓sto_int, ↓nst_int, ↓sto_str, ↓nst_str, ↓sto_adr, ↓nst_adr, ↓sto_tup, ↓nst_tup, ↓sto_lst, ↓nst_lst, ↓sto_scr, ↓nst_scr, ↓sto_obj, ↓nst_obj, ↓sto_dk, ↓nst_dk, ↓sto_st, ↓sto_nil, ↓nst_nil, ↓wIsi_e, ↓oIsi_int_non, ↓oIsi_int_bl, ↓oIsi_int_int, ↓oIsi_int_str, ↓oIsi_int_tup, ↓oIsi_int_lst, ↓oIsi_bool_non, ↓oIsi_bool_bl, ↓oIsi_bool_int, ↓oIsi_bool_str, ↓oIsi_bool_tup, ↓oIsi_bool_lst, ↓oIsi_str_non, ↓oIsi_str_bl, ↓oIsi_str_int, ↓oIsi_str_str, ↓oIsi_str_tup, ↓oIsi_str_lst, ↓oIsi_tuple_non, ↓oIsi_tuple_bl, ↓oIsi_tuple_int, ↓oIsi_tuple_str, ↓oIsi_tuple_tup, ↓oIsi_tuple_lst, ↓oIsi_list_non, ↓oIsi_list_bl, ↓oIsi_list_int, ↓oIsi_list_str, ↓oIsi_list_tup, ↓oIsi_list_lst, ↓oIx_t, ↓cLen_t, ↓cTup_t, ↓cLst_t, ↓oIx_s, ↓cLen_s, ↓cTup_s, ↓cLst_s, ↓oIx_l, ↓cLen_l, ↓cTup_l, ↓cLst_l, ↓oIx_n, ↓cLen_n, ↓cTup_n, ↓cLst_n, ↓oIx_o, ↓cLen_o, ↓cTup_o, ↓cLst_o, ↓ixP_0, ↓ixP_1, ↓ixP_2, ↓ixP_3, ↓ixP_4, ↓ixP_5, ↓wSl_e, ↓wPn_e, ↓wPs_e, ↓oSl_t, ↓oSl_s, ↓oSl_l, ↓oSl_n, ↓oSl_o, ↓cAbs_i, ↓cInt_i, ↓cMin2_ii, ↓cMax2_ii, ↓wSeq_Set, ↓wSeq_If, ↓wSeq_Exp, ↓wSeq_Asg, ↓wSeq_Seq, ↓wSeq_Own, ↓wSeq_StS, ↓wSeq_App, ↓wSeq_Next, ↓wSeq_Ret, ↓wSeq_Rais, ↓wSeq_Par, ↓wSeq_Par3, ↓wSeq_St0, ↓wSeq_St1, ↓wSeq_Brk, ↓wSeq_Cnt, ↓wSeq_RetN, ↓wSeq_RaiF, ↓wSet_e, ↓wOwn_e, ↓sE_0, ↓sE_s, ↓wIf_e, ↓wRet_e, ↓wRetN_e, ↓wNext_e, ↓wBreak_e, ↓wCont_e, ↓wExpr_e, ↓wRaise_e, ↓wRaiseF_e, ↓wAsg_e, ↓tgP_name, ↓tgP_tup, ↓tgPs_nil, ↓tgPs_cons, ↓wTry_e, ↓wPar_ff, ↓noSt_0n, ↓noSt_0non, ↓noSt_0bl, ↓noSt_0int, ↓noSt_0str, ↓noSt_0tup, ↓noSt_0lst, ↓noSt_0ol, ↓noSt_s, ↓sSt0, ↓sSt1, ↓sSt0S, ↓sSt1S, ↓wOwnS_e, ↓fnE_nx, ↓fnE_rt, ↓fnE_ex, ↓wFor_e, ↓wSeq_For, ↓wSeq_While, ↓wiSeq_e, ↓wk_t, ↓wk_s, ↓wk_l, ↓wk_n, ↓wk_o, ↓wiRg1_e, ↓wiRg2_e, ↓wLRg2_e, ↓wLRg1_e, ↓wComp_e, ↓noMut_c, ↓noMut_n, ↓nm1_0, ↓nm1_int, ↓nm1_tup, ↓nm1_s, ↓nm1_v, ↓wYes_e, ↓wipeC_n, ↓wipeC_1, ↓wipeC_2, ↓wipeC_3, ↓cAll_b, ↓cAny_b, ↓oNe_int, ↓ns2_n, ↓oEq_mal, wIsi_e, okV_non, okV_bl, okV_int, okV_stR, okV_tup, okV_lst, ↓stP_v, ↓rtP_v, ↓aP1_v, ↓stOnce_v, ↓noSt_v, ↓oEq_int, ↓oIsi_int, ↓oIsi_bool, ↓oIsi_str, ↓oIsi_tuple, ↓oIsi_list, startP, ↓reduceIte, List.map_cons, List.map_nil, List.length_cons, List.length_nil, List.replicate, List.cons_append, List.nil_append, List.append_nil, true_and, and_true, implies_true, Bool.false_eq_true, Bool.not_true, Bool.not_false, Nat.reduceAdd, Nat.reduceSub, Nat.zero_add, Nat.reduceLT, Nat.reduceLeDiff, Int.reduceLT, Int.reduceLE, decide_eq_true_eq, Bool.true_and, Bool.and_true, Bool.false_and, Bool.and_false]
      refine ⟨by rw [sizeLine_eq]; omega, (_, some p), rfl, ?_, ?_⟩
      · dsimp only
        rw [List.length_append]
        show xs.length + 2 ≤ _
        omega
      · dsimp only
        intro x hx'
        rcases List.mem_append.mp hx' with hx' | hx'
        · exact hx x hx'
        · simp only [List.mem_cons, List.not_mem_nil, or_false] at hx'
          rcases hx' with rfl | rfl
          · exact ⟨_, _, rfl, tell_lo A ok.1 rfl (.inl ok.2.1)⟩
          · exact ⟨_, _, rfl, tell_lt A hA ok.1 rfl (.inl ok.2.2)⟩
    · rintro ⟨xs, b⟩ ⟨hl, hx⟩
      dsimp only [List.length_cons, List.length_nil] at hl hx
      simp only [E, ↓wVar_0, ↓wVar_s, ↓wC_e, ↓wOp_e, ↓oAdd_ii, ↓oAdd_ss, ↓oAdd_tt, ↓oAdd_ll_, ↓oAdd_ln_, ↓oAdd_lo_, ↓oAdd_nl_, ↓oAdd_nn_, ↓oAdd_no_, ↓oAdd_ol_, ↓oAdd_on_, ↓oAdd_oo_, ↓oSub_ii, ↓oMul_ii, ↓oMul_li, ↓oMul_ni, ↓oMul_oi, ↓oDiv_ii, ↓oMod_ii, ↓oLt_ii, ↓oLe_ii, ↓oGt_ii, ↓oGe_ii, ↓wNeg_e, ↓wT_e, ↓kB_b, ↓kI_i, ↓wAnd_e, ↓wOr_e, ↓wNot_e, ↓wAndV_e, ↓wOrV_e, ↓wNotV_e, ↓wIfE_e, ↓wChain_e, ↓wIsN_e, ↓wNotN_e, ↓wCall_e, ↓wCons_e, ↓wNil_e, ↓wTup_e, ↓wLst_e, ↓tP_0, ↓tP_1, ↓tP_2, ↓tP_3, ↓tP_4, ↓tP_5, ↓tP_6, ↓tP_7, ↓tP_8, ↓lP_0, ↓lP_1, ↓lP_2, ↓lP_3, ↓lP_4, ↓lP_5, ↓lP_6, ↓lP_7, ↓lP_8, ↓stP_non, ↓rtP_non, ↓aP1_non, ↓stP_bl, ↓rtP_bl, ↓aP1_bl, ↓isN_bl, ↓stP_int, ↓rtP_int, ↓aP1_int, ↓isN_int, ↓stP_str, ↓rtP_str, ↓aP1_str, ↓isN_str, ↓stP_adr, ↓rtP_adr, ↓aP1_adr, ↓isN_adr, ↓stP_tup, ↓rtP_tup, ↓aP1_tup, ↓isN_tup, ↓stP_lst, ↓rtP_lst, ↓aP1_lst, ↓isN_lst, ↓stP_scr, ↓rtP_scr, ↓aP1_scr, ↓isN_scr, ↓stP_obj, ↓rtP_obj, ↓aP1_obj, ↓isN_obj, ↓stP_dk, ↓rtP_dk, ↓aP1_dk, ↓isN_dk, ↓isN_non, ↓stP_nlst, ↓rtP_nlst, ↓rtP_olst, ↓aP1_nlst, ↓stP_ndk, ↓rtP_ndk, ↓rtP_odk, ↓aP1_ndk, ↓aP1_st, ↓nwP_n, ↓oFn_1, ↓oFn_2, ↓oFn_3, ↓oFn_4, ↓oFn_5, ↓oFn_6, ↓sto_non, ↓nst_non, ↓sto_bl, ↓nst_bl, ↓sto_int, ↓nst_int, ↓sto_str, ↓nst_str, ↓sto_adr, ↓nst_adr, ↓sto_tup, ↓nst_tup, ↓sto_lst, ↓nst_lst, ↓sto_scr, ↓nst_scr, ↓sto_obj, ↓nst_obj, ↓sto_dk, ↓nst_dk, ↓sto_st, ↓sto_nil, ↓nst_nil, ↓wIsi_e, ↓oIsi_int_non, ↓oIsi_int_bl, ↓oIsi_int_int, ↓oIsi_int_str, ↓oIsi_int_tup, ↓oIsi_int_lst, ↓oIsi_bool_non, ↓oIsi_bool_bl, ↓oIsi_bool_int, ↓oIsi_bool_str, ↓oIsi_bool_tup, ↓oIsi_bool_lst, ↓oIsi_str_non, ↓oIsi_str_bl, ↓oIsi_str_int, ↓oIsi_str_str, ↓oIsi_str_tup, ↓oIsi_str_lst, ↓oIsi_tuple_non, ↓oIsi_tuple_bl, ↓oIsi_tuple_int, ↓oIsi_tuple_str, ↓oIsi_tuple_tup, ↓oIsi_tuple_lst, ↓oIsi_list_non, ↓oIsi_list_bl, ↓oIsi_list_int, ↓oIsi_list_str, ↓oIsi_list_tup, ↓oIsi_list_lst, ↓oIx_t, ↓cLen_t, ↓cTup_t, ↓cLst_t, ↓oIx_s, ↓cLen_s, ↓cTup_s, ↓cLst_s, ↓oIx_l, ↓cLen_l, ↓cTup_l, ↓cLst_l, ↓oIx_n, ↓cLen_n, ↓cTup_n, ↓cLst_n, ↓oIx_o, ↓cLen_o, ↓cTup_o, ↓cLst_o, ↓ixP_0, ↓ixP_1, ↓ixP_2, ↓ixP_3, ↓ixP_4, ↓ixP_5, ↓wSl_e, ↓wPn_e, ↓wPs_e, ↓oSl_t, ↓oSl_s, ↓oSl_l, ↓oSl_n, ↓oSl_o, ↓cAbs_i, ↓cInt_i, ↓cMin2_ii, ↓cMax2_ii, ↓wSeq_Set, ↓wSeq_If, ↓wSeq_Exp, ↓wSeq_Asg, ↓wSeq_Seq, ↓wSeq_Own, ↓wSeq_StS, ↓wSeq_App, ↓wSeq_Next, ↓wSeq_Ret, ↓wSeq_Rais, ↓wSeq_Par, ↓wSeq_Par3, ↓wSeq_St0, ↓wSeq_St1, ↓wSeq_Brk, ↓wSeq_Cnt, ↓wSeq_RetN, ↓wSeq_RaiF, ↓wSet_e, ↓wOwn_e, ↓sE_0, ↓sE_s, ↓wIf_e, ↓wRet_e, ↓wRetN_e, ↓wNext_e, ↓wBreak_e, ↓wCont_e, ↓wExpr_e, ↓wRaise_e, ↓wRaiseF_e, ↓wAsg_e, ↓tgP_name, ↓tgP_tup, ↓tgPs_nil, ↓tgPs_cons, ↓wTry_e, ↓wPar_ff, ↓noSt_0n, ↓noSt_0non, ↓noSt_0bl, ↓noSt_0int, ↓noSt_0str, ↓noSt_0tup, ↓noSt_0lst, ↓noSt_0ol, ↓noSt_s, ↓sSt0, ↓sSt1, ↓sSt0S, ↓sSt1S, ↓wOwnS_e, ↓fnE_nx, ↓fnE_rt, ↓fnE_ex, ↓wFor_e, ↓wSeq_For, ↓wSeq_While, ↓wiSeq_e, ↓wk_t, ↓wk_s, ↓wk_l, ↓wk_n, ↓wk_o, ↓wiRg1_e, ↓wiRg2_e, ↓wLRg2_e, ↓wLRg1_e, ↓wComp_e, ↓noMut_c, ↓noMut_n, ↓nm1_0, ↓nm1_int, ↓nm1_tup, ↓nm1_s, ↓nm1_v, ↓wYes_e, ↓wipeC_n, ↓wipeC_1, ↓wipeC_2, ↓wipeC_3, ↓cAll_b, ↓cAny_b, ↓oNe_int, ↓ns2_n, ↓oEq_mal, wIsi_e, okV_non, okV_bl, okV_int, okV_stR, okV_tup, okV_lst, ↓stP_v, ↓rtP_v, ↓aP1_v, ↓stOnce_v, ↓noSt_v, ↓oEq_int, ↓oIsi_int, ↓oIsi_bool, ↓oIsi_str, ↓oIsi_tuple, ↓oIsi_list, startP, ↓reduceIte, List.map_cons, List.map_nil, List.length_cons, List.length_nil, List.replicate, List.cons_append, List.nil_append, List.append_nil, true_and, and_true, implies_true, Bool.false_eq_true, Bool.not_true, Bool.not_false, Nat.reduceAdd, Nat.reduceSub, Nat.zero_add, Nat.reduceLT, Nat.reduceLeDiff, Int.reduceLT, Int.reduceLE, decide_eq_true_eq, Bool.true_and, Bool.and_true, Bool.false_and, Bool.and_false]
      refine loopS_st (σ := List PV × Option PV) E (fun i s => s.1.length ≤ 12 + 2 * i ∧ ∀ x ∈ s.1, MalX A x) (xs, b) ⟨rfl, by dsimp only; omega, hx⟩ ?_ ?_
      · rintro i ⟨xs, b⟩ p ⟨hl, hx⟩ hp
        have hi : i < 4 := (List.getElem?_eq_some_iff.mp hp).1
        have hpm := List.mem_of_getElem? hp
        have ok : okV (owns A) p = true ∧ cnt p 2 40 = false := by
          simp only [List.mem_cons, List.not_mem_nil, or_false] at hpm
          rcases hpm with rfl | rfl | rfl | rfl <;> exact ⟨rfl, by decide⟩
        have pl := okV_plain ok.1
        dsimp only at hl hx
        simp only [E, pl, ↓wVar_0, ↓wVar_s, ↓wC_e, ↓wOp_e, ↓oAdd_ii, ↓oAdd_ss, ↓oAdd_tt, ↓oAdd_ll_, ↓oAdd_ln_, ↓oAdd_lo_, ↓oAdd_nl_, ↓oAdd_nn_, ↓oAdd_no_, ↓oAdd_ol_, ↓oAdd_on_, ↓oAdd_oo_, ↓oSub_ii, ↓oMul_ii, ↓oMul_li, ↓oMul_ni, ↓oMul_oi, ↓oDiv_ii, ↓oMod_ii, ↓oLt_ii, ↓oLe_ii, ↓oGt_ii, ↓oGe_ii, ↓wNeg_e, ↓wT_e, ↓kB_b, ↓kI_i, ↓wAnd_e, ↓wOr_e, ↓wNot_e, ↓wAndV_e, ↓wOrV_e, ↓wNotV_e, ↓wIfE_e, ↓wChain_e, ↓wIsN_e, ↓wNotN_e, ↓wCall_e, ↓wCons_e, ↓wNil_e, ↓wTup_e, ↓wLst_e, ↓tP_0, ↓tP_1, ↓tP_2, ↓tP_3, ↓tP_4, ↓tP_5, ↓tP_6, ↓tP_7, ↓tP_8, ↓lP_0, ↓lP_1, ↓lP_2, ↓lP_3, ↓lP_4, ↓lP_5, ↓lP_6, ↓lP_7, ↓lP_8, ↓stP_non, ↓rtP_non, ↓aP1_non, ↓stP_bl, ↓rtP_bl, ↓aP1_bl, ↓isN_bl, ↓stP_int, ↓rtP_int, ↓aP1_int, ↓isN_int, ↓stP_str, ↓rtP_str, ↓aP1_str, ↓isN_str, ↓stP_adr, ↓rtP_adr, ↓aP1_adr, ↓isN_adr, ↓stP_tup, ↓rtP_tup, ↓aP1_tup, ↓isN_tup, ↓stP_lst, ↓rtP_lst, ↓aP1_lst, ↓isN_lst, ↓stP_scr, ↓rtP_scr, ↓aP1_scr, ↓isN_scr, ↓stP_obj, ↓rtP_obj, ↓aP1_obj, ↓isN_obj, ↓stP_dk, ↓rtP_dk, ↓aP1_dk, ↓isN_dk, ↓isN_non, ↓stP_nlst, ↓rtP_nlst, ↓rtP_olst, ↓aP1_nlst, ↓stP_ndk, ↓rtP_ndk, ↓rtP_odk, ↓aP1_ndk, ↓aP1_st, ↓nwP_n, ↓oFn_1, ↓oFn_2, ↓oFn_3, ↓oFn_4, ↓oFn_5, ↓oFn_6, ↓sto_non, ↓nst_non, ↓sto_bl, ↓nst_bl, ↓sto_int, ↓nst_int, ↓sto_str, ↓nst_str, ↓sto_adr, ↓nst_adr, ↓sto_tup, ↓nst_tup, ↓sto_lst, ↓nst_lst, ↓sto_scr, ↓nst_scr, ↓sto_obj, ↓nst_obj, ↓sto_dk, ↓nst_dk, ↓sto_st, ↓sto_nil, ↓nst_nil, ↓wIsi_e, ↓oIsi_int_non, ↓oIsi_int_bl, ↓oIsi_int_int, ↓oIsi_int_str, ↓oIsi_int_tup, ↓oIsi_int_lst, ↓oIsi_bool_non, ↓oIsi_bool_bl, ↓oIsi_bool_int, ↓oIsi_bool_str, ↓oIsi_bool_tup, ↓oIsi_bool_lst, ↓oIsi_str_non, ↓oIsi_str_bl, ↓oIsi_str_int, ↓oIsi_str_str, ↓oIsi_str_tup, ↓oIsi_str_lst, ↓oIsi_tuple_non, ↓oIsi_tuple_bl, ↓oIsi_tuple_int, ↓oIsi_tuple_str, ↓oIsi_tuple_tup, ↓oIsi_tuple_lst, ↓oIsi_list_non, ↓oIsi_list_bl, ↓oIsi_list_int, ↓oIsi_list_str, ↓oIsi_list_tup, ↓oIsi_list_lst, ↓oIx_t, ↓cLen_t, ↓cTup_t, ↓cLst_t, ↓oIx_s, ↓cLen_s, ↓cTup_s, ↓cLst_s, ↓oIx_l, ↓cLen_l, ↓cTup_l, ↓cLst_l, ↓oIx_n, ↓cLen_n, ↓cTup_n, ↓cLst_n, ↓oIx_o, ↓cLen_o, ↓cTup_o, ↓cLst_o, ↓ixP_0, ↓ixP_1, ↓ixP_2, ↓ixP_3, ↓ixP_4, ↓ixP_5, ↓wSl_e, ↓wPn_e, ↓wPs_e, ↓oSl_t, ↓oSl_s, ↓oSl_l, ↓oSl_n, ↓oSl_o, ↓cAbs_i, ↓cInt_i, ↓cMin2_ii, ↓cMax2_ii, ↓wSeq_Set, ↓wSeq_If, ↓wSeq_Exp, ↓wSeq_Asg, ↓wSeq_Seq, ↓wSeq_Own, ↓wSeq_StS, ↓wSeq_App, ↓wSeq_Next, ↓wSeq_Ret, ↓wSeq_Rais, ↓wSeq_Par, ↓wSeq_Par3, ↓wSeq_St0, ↓wSeq_St1, ↓wSeq_Brk, ↓wSeq_Cnt, ↓wSeq_RetN, ↓wSeq_RaiF, ↓wSet_e, ↓wOwn_e, ↓sE_0, ↓sE_s, ↓wIf_e, ↓wRet_e, ↓wRetN_e, ↓wNext_e, ↓wBreak_e, ↓wCont_e, ↓wExpr_e, ↓wRaise_e, ↓wRaiseF_e, ↓wAsg_e, ↓tgP_name, ↓tgP_tup, ↓tgPs_nil, ↓tgPs_cons, ↓wTry_e, ↓wPar_ff, ↓noSt_0n, ↓noSt_0non, ↓noSt_0bl, ↓noSt_0int, ↓noSt_0str, ↓noSt_0tup, ↓noSt_0lst, ↓noSt_0ol, ↓noSt_s, ↓sSt0, ↓sSt1, ↓sSt0S, ↓sSt1S, ↓wOwnS_e, ↓fnE_nx, ↓fnE_rt, ↓fnE_ex, ↓wFor_e, ↓wSeq_For, ↓wSeq_While, ↓wiSeq_e, ↓wk_t, ↓wk_s, ↓wk_l, ↓wk_n, ↓wk_o, ↓wiRg1_e, ↓wiRg2_e, ↓wLRg2_e, ↓wLRg1_e, ↓wComp_e, ↓noMut_c, ↓noMut_n, ↓nm1_0, ↓nm1_int, ↓nm1_tup, ↓nm1_s, ↓nm1_v, ↓wYes_e, ↓wipeC_n, ↓wipeC_1, ↓wipeC_2, ↓wipeC_3, ↓cAll_b, ↓cAny_b, ↓oNe_int, ↓ns2_n, ↓oEq_mal, wIsi_e, okV_non, okV_bl, okV_int, okV_stR, okV_tup, okV_lst, ↓stP_v, ↓rtP_v, ↓aP1_v, ↓stOnce_v, ↓noSt_v, ↓oEq_int, ↓oIsi_int, ↓oIsi_bool, ↓oIsi_str, ↓oIsi_tuple, ↓oIsi_list, startP, ↓reduceIte, List.map_cons, List.map_nil, List.length_cons, List.length_nil, List.replicate, List.cons_append, List.nil_append, List.append_nil, true_and, and_true, implies_true, Bool.false_eq_true, Bool.not_true, Bool.not_false, Nat.reduceAdd, Nat.reduceSub, Nat.zero_add, Nat.reduceLT, Nat.reduceLeDiff, Int.reduceLT, Int.reduceLE, decide_eq_true_eq, Bool.true_and, Bool.and_true, Bool.false_and, Bool.and_false]
        refine ⟨by rw [sizeLine_eq]; omega, (_, some p), rfl, ?_, ?_⟩
        · dsimp only
          rw [List.length_append]
          show xs.length + 2 ≤ _
          omega
        · dsimp only
          intro x hx'
          rcases List.mem_append.mp hx' with hx' | hx'
          · exact hx x hx'
          · simp only [List.mem_cons, List.not_mem_nil, or_false] at hx'
            rcases hx' with rfl | rfl
            · exact ⟨_, _, rfl, tell_lo A rfl ok.1 (.inr ok.2)⟩
            · exact ⟨_, _, rfl, tell_lt A hA rfl ok.1 (.inr ok.2)⟩
      · rintro ⟨xs, b⟩ ⟨hl, hx⟩
        dsimp only [List.length_cons, List.length_nil] at hl hx
        simp only [E, fs_z_law_all_malformed, ↓wVar_0, ↓wVar_s, ↓wC_e, ↓wOp_e, ↓oAdd_ii, ↓oAdd_ss, ↓oAdd_tt, ↓oAdd_ll_, ↓oAdd_ln_, ↓oAdd_lo_, ↓oAdd_nl_, ↓oAdd_nn_, ↓oAdd_no_, ↓oAdd_ol_, ↓oAdd_on_, ↓oAdd_oo_, ↓oSub_ii, ↓oMul_ii, ↓oMul_li, ↓oMul_ni, ↓oMul_oi, ↓oDiv_ii, ↓oMod_ii, ↓oLt_ii, ↓oLe_ii, ↓oGt_ii, ↓oGe_ii, ↓wNeg_e, ↓wT_e, ↓kB_b, ↓kI_i, ↓wAnd_e, ↓wOr_e, ↓wNot_e, ↓wAndV_e, ↓wOrV_e, ↓wNotV_e, ↓wIfE_e, ↓wChain_e, ↓wIsN_e, ↓wNotN_e, ↓wCall_e, ↓wCons_e, ↓wNil_e, ↓wTup_e, ↓wLst_e, ↓tP_0, ↓tP_1, ↓tP_2, ↓tP_3, ↓tP_4, ↓tP_5, ↓tP_6, ↓tP_7, ↓tP_8, ↓lP_0, ↓lP_1, ↓lP_2, ↓lP_3, ↓lP_4, ↓lP_5, ↓lP_6, ↓lP_7, ↓lP_8, ↓stP_non, ↓rtP_non, ↓aP1_non, ↓stP_bl, ↓rtP_bl, ↓aP1_bl, ↓isN_bl, ↓stP_int, ↓rtP_int, ↓aP1_int, ↓isN_int, ↓stP_str, ↓rtP_str, ↓aP1_str, ↓isN_str, ↓stP_adr, ↓rtP_adr, ↓aP1_adr, ↓isN_adr, ↓stP_tup, ↓rtP_tup, ↓aP1_tup, ↓isN_tup, ↓stP_lst, ↓rtP_lst, ↓aP1_lst, ↓isN_lst, ↓stP_scr, ↓rtP_scr, ↓aP1_scr, ↓isN_scr, ↓stP_obj, ↓rtP_obj, ↓aP1_obj, ↓isN_obj, ↓stP_dk, ↓rtP_dk, ↓aP1_dk, ↓isN_dk, ↓isN_non, ↓stP_nlst, ↓rtP_nlst, ↓rtP_olst, ↓aP1_nlst, ↓stP_ndk, ↓rtP_ndk, ↓rtP_odk, ↓aP1_ndk, ↓aP1_st, ↓nwP_n, ↓oFn_1, ↓oFn_2, ↓oFn_3, ↓oFn_4, ↓oFn_5, ↓oFn_6, ↓sto_non, ↓nst_non, ↓sto_bl, ↓nst_bl, ↓sto_int, ↓nst_int, ↓sto_str, ↓nst_str, ↓sto_adr, ↓nst_adr, ↓sto_tup, ↓nst_tup, ↓sto_lst, ↓nst_lst, ↓sto_scr, ↓nst_scr, ↓sto_obj, ↓nst_obj, ↓sto_dk, ↓nst_dk, ↓sto_st, ↓sto_nil, ↓nst_nil, ↓wIsi_e, ↓oIsi_int_non, ↓oIsi_int_bl, ↓oIsi_int_int, ↓oIsi_int_str, ↓oIsi_int_tup, ↓oIsi_int_lst, ↓oIsi_bool_non, ↓oIsi_bool_bl, ↓oIsi_bool_int, ↓oIsi_bool_str, ↓oIsi_bool_tup, ↓oIsi_bool_lst, ↓oIsi_str_non, ↓oIsi_str_bl, ↓oIsi_str_int, ↓oIsi_str_str, ↓oIsi_str_tup, ↓oIsi_str_lst, ↓oIsi_tuple_non, ↓oIsi_tuple_bl, ↓oIsi_tuple_int, ↓oIsi_tuple_str, ↓oIsi_tuple_tup, ↓oIsi_tuple_lst, ↓oIsi_list_non, ↓oIsi_list_bl, ↓oIsi_list_int, ↓oIsi_list_str, ↓oIsi_list_tup, ↓oIsi_list_lst, ↓oIx_t, ↓cLen_t, ↓cTup_t, ↓cLst_t, ↓oIx_s, ↓cLen_s, ↓cTup_s, ↓cLst_s, ↓oIx_l, ↓cLen_l, ↓cTup_l, ↓cLst_l, ↓oIx_n, ↓cLen_n, ↓cTup_n, ↓cLst_n, ↓oIx_o, ↓cLen_o, ↓cTup_o, ↓cLst_o, ↓ixP_0, ↓ixP_1, ↓ixP_2, ↓ixP_3, ↓ixP_4, ↓ixP_5, ↓wSl_e, ↓wPn_e, ↓wPs_e, ↓oSl_t, ↓oSl_s, ↓oSl_l, ↓oSl_n, ↓oSl_o, ↓cAbs_i, ↓cInt_i, ↓cMin2_ii, ↓cMax2_ii, ↓wSeq_Set, ↓wSeq_If, ↓wSeq_Exp, ↓wSeq_Asg, ↓wSeq_Seq, ↓wSeq_Own, ↓wSeq_StS, ↓wSeq_App, ↓wSeq_Next, ↓wSeq_Ret, ↓wSeq_Rais, ↓wSeq_Par, ↓wSeq_Par3, ↓wSeq_St0, ↓wSeq_St1, ↓wSeq_Brk, ↓wSeq_Cnt, ↓wSeq_RetN, ↓wSeq_RaiF, ↓wSet_e, ↓wOwn_e, ↓sE_0, ↓sE_s, ↓wIf_e, ↓wRet_e, ↓wRetN_e, ↓wNext_e, ↓wBreak_e, ↓wCont_e, ↓wExpr_e, ↓wRaise_e, ↓wRaiseF_e, ↓wAsg_e, ↓tgP_name, ↓tgP_tup, ↓tgPs_nil, ↓tgPs_cons, ↓wTry_e, ↓wPar_ff, ↓noSt_0n, ↓noSt_0non, ↓noSt_0bl, ↓noSt_0int, ↓noSt_0str, ↓noSt_0tup, ↓noSt_0lst, ↓noSt_0ol, ↓noSt_s, ↓sSt0, ↓sSt1, ↓sSt0S, ↓sSt1S, ↓wOwnS_e, ↓fnE_nx, ↓fnE_rt, ↓fnE_ex, ↓wFor_e, ↓wSeq_For, ↓wSeq_While, ↓wiSeq_e, ↓wk_t, ↓wk_s, ↓wk_l, ↓wk_n, ↓wk_o, ↓wiRg1_e, ↓wiRg2_e, ↓wLRg2_e, ↓wLRg1_e, ↓wComp_e, ↓noMut_c, ↓noMut_n, ↓nm1_0, ↓nm1_int, ↓nm1_tup, ↓nm1_s, ↓nm1_v, ↓wYes_e, ↓wipeC_n, ↓wipeC_1, ↓wipeC_2, ↓wipeC_3, ↓cAll_b, ↓cAny_b, ↓oNe_int, ↓ns2_n, ↓oEq_mal, wIsi_e, okV_non, okV_bl, okV_int, okV_stR, okV_tup, okV_lst, ↓stP_v, ↓rtP_v, ↓aP1_v, ↓stOnce_v, ↓noSt_v, ↓oEq_int, ↓oIsi_int, ↓oIsi_bool, ↓oIsi_str, ↓oIsi_tuple, ↓oIsi_list, startP, ↓reduceIte, List.map_cons, List.map_nil, List.length_cons, List.length_nil, List.replicate, List.cons_append, List.nil_append, List.append_nil, true_and, and_true, implies_true, Bool.false_eq_true, Bool.not_true, Bool.not_false, Nat.reduceAdd, Nat.reduceSub, Nat.zero_add, Nat.reduceLT, Nat.reduceLeDiff, Int.reduceLT, Int.reduceLE, decide_eq_true_eq, Bool.true_and, Bool.and_true, Bool.false_and, Bool.and_false]
        exact ⟨⟨by omega, hx⟩, h⟩
/-! ### the text -/
def top (i : Nat) : Stmt := PySem.Challenge.pw_radixroads_k41_whole_people_in_a_ring.main.body.getD i (.Pass ⟨0, 0, 0, 0⟩)
def inC (i j : Nat) : Stmt := match top i with
  | .ClassDef _ _ _ b _ _ _ _ _ _ _ => b.getD j (.Pass ⟨0, 0, 0, 0⟩)
  | s => s
abbrev s_is_integer : Stmt := top 5
theorem sc_is_integer : FnScope ["value"] ["value"] (defScope s_is_integer) := ⟨rfl, rfl, rfl, by decide +kernel, rfl, by decide +kernel, by decide +kernel⟩
abbrev s_is_count : Stmt := top 6
theorem sc_is_count : FnScope ["value", "low", "high"] ["value", "low", "high"] (defScope s_is_count) := ⟨rfl, rfl, rfl, by decide +kernel, rfl, by decide +kernel, by decide +kernel⟩
abbrev s_check_count : Stmt := top 7
theorem sc_check_count : FnScope ["value", "low", "high"] ["value", "low", "high"] (defScope s_check_count) := ⟨rfl, rfl, rfl, by decide +kernel, rfl, by decide +kernel, by decide +kernel⟩
abbrev s_left_over : Stmt := top 10
theorem sc_left_over : FnScope ["n", "q", "d"] ["n", "q"] (defScope s_left_over) := ⟨rfl, rfl, rfl, by decide +kernel, rfl, by decide +kernel, by decide +kernel⟩
abbrev s_left_by_turns : Stmt := top 11
theorem sc_left_by_turns : FnScope ["n", "q", "at", "k"] ["n", "q"] (defScope s_left_by_turns) := ⟨rfl, rfl, rfl, by decide +kernel, rfl, by decide +kernel, by decide +kernel⟩
abbrev s_z_law_state : Stmt := top 13
theorem sc_z_law_state : FnScope ["script", "seed", "total", "cell"] ["script"] (defScope s_z_law_state) := ⟨rfl, rfl, rfl, by decide +kernel, rfl, by decide +kernel, by decide +kernel⟩
abbrev s_z_law_take : Stmt := top 14
theorem sc_z_law_take : FnScope ["state", "m", "value"] ["state", "m"] (defScope s_z_law_take) := ⟨rfl, rfl, rfl, by decide +kernel, rfl, by decide +kernel, by decide +kernel⟩
abbrev s_z_law_is_whole : Stmt := top 15
theorem sc_z_law_is_whole : FnScope ["value"] ["value"] (defScope s_z_law_is_whole) := ⟨rfl, rfl, rfl, by decide +kernel, rfl, by decide +kernel, by decide +kernel⟩
abbrev s_z_law_same : Stmt := top 16
theorem sc_z_law_same : FnScope ["one", "two", "k"] ["one", "two"] (defScope s_z_law_same) := ⟨rfl, rfl, rfl, by decide +kernel, rfl, by decide +kernel, by decide +kernel⟩
abbrev s_z_law_told : Stmt := top 17
theorem sc_z_law_told : FnScope ["act", "given", "refused"] ["act", "given"] (defScope s_z_law_told) := ⟨rfl, rfl, rfl, by decide +kernel, rfl, by decide +kernel, by decide +kernel⟩
abbrev s_z_law_all_malformed : Stmt := top 18
theorem sc_z_law_all_malformed : FnScope ["tried", "act", "given"] ["tried"] (defScope s_z_law_all_malformed) := ⟨rfl, rfl, rfl, by decide +kernel, rfl, by decide +kernel, by decide +kernel⟩
abbrev s_z_law_great : Stmt := top 19
theorem sc_z_law_great : FnScope ["state", "k", "n"] ["state"] (defScope s_z_law_great) := ⟨rfl, rfl, rfl, by decide +kernel, rfl, by decide +kernel, by decide +kernel⟩
abbrev s_z_law_left : Stmt := top 20
theorem sc_z_law_left : FnScope ["n", "q", "ring", "at"] ["n", "q"] (defScope s_z_law_left) := ⟨rfl, rfl, rfl, by decide +kernel, rfl, by decide +kernel, by decide +kernel⟩
abbrev s_z_law_turns : Stmt := top 21
theorem sc_z_law_turns : FnScope ["n", "q", "at", "k"] ["n", "q"] (defScope s_z_law_turns) := ⟨rfl, rfl, rfl, by decide +kernel, rfl, by decide +kernel, by decide +kernel⟩
abbrev s_law : Stmt := top 22
theorem sc_law : FnScope ["script", "state", "n", "q", "due", "m", "great", "top", "told", "later", "tried", "bad"] ["script"] (defScope s_law) := ⟨rfl, rfl, rfl, by decide +kernel, rfl, by decide +kernel, by decide +kernel⟩
abbrev s_initR : Stmt := inC 3 0
theorem sc_initR : FnScope ["self", "reason"] ["self", "reason"] (defScope s_initR) := ⟨rfl, rfl, rfl, by decide +kernel, rfl, by decide +kernel, by decide +kernel⟩
def fn0 : List He.DefD := [L3.dfL ("is_integer", none) "is_integer" "is_integer" s_is_integer, L3.dfL ("is_count", none) "is_count" "is_count" s_is_count, L3.dfL ("check_count", none) "check_count" "check_count" s_check_count, L3.dfL ("left_over", none) "left_over" "left_over" s_left_over, L3.dfL ("left_by_turns", none) "left_by_turns" "left_by_turns" s_left_by_turns, L3.dfL ("_law_state", none) "_law_state" "_law_state" s_z_law_state, L3.dfL ("_law_take", none) "_law_take" "_law_take" s_z_law_take, L3.dfL ("_law_is_whole", none) "_law_is_whole" "_law_is_whole" s_z_law_is_whole, L3.dfL ("_law_same", none) "_law_same" "_law_same" s_z_law_same, L3.dfL ("_law_told", none) "_law_told" "_law_told" s_z_law_told, L3.dfL ("_law_all_malformed", none) "_law_all_malformed" "_law_all_malformed" s_z_law_all_malformed, L3.dfL ("_law_great", none) "_law_great" "_law_great" s_z_law_great, L3.dfL ("_law_left", none) "_law_left" "_law_left" s_z_law_left, L3.dfL ("_law_turns", none) "_law_turns" "_law_turns" s_z_law_turns, L3.dfL ("law", none) "law" "law" s_law, L3.dfL ("Refused", some "__init__") "__init__" "Refused.__init__" s_initR]
def fn : List He.DefD := fn0
def fa0 : List FaL := [gB "is_integer", gB "is_count", gB "check_count", gB "left_over", gB "left_by_turns", gB "_law_state", gB "_law_take", gB "_law_is_whole", gB "_law_same", gB "_law_told", gB "_law_all_malformed", gB "_law_great", gB "_law_left", gB "_law_turns", gB "law", frB "abs", frB "all", frB "bool", frB "int", frB "isinstance", frB "len", frB "list", frB "range", frB "str", frB "tuple", intB "MOST_NUMBER" 1000000000000000000000000000000, gB "Malformed", excB "Malformed", gB "Refused", oexB "Refused" "reason"]
def fa1 : List FaL := [gB "Fault", fauB "Fault", exmB "Malformed" "Malformed" true, exmB "Refused" "Malformed" false, exmB "Malformed" "Refused" false, exmB "Refused" "Refused" true, fun K => decide ([He.ga K "left_over", He.ga K "left_by_turns"] : List Addr).Nodup, fun K => decide ([He.ga K "Malformed", He.ga K "Refused"] : List Addr).Nodup]
def fa : List FaL := fa0 ++ fa1
def adOf (K : PySem.W.Frag) : Ad := ⟨He.ga K "is_integer", He.ga K "is_count", He.ga K "check_count", He.ga K "left_over", He.ga K "left_by_turns", He.ga K "_law_state", He.ga K "_law_take", He.ga K "_law_is_whole", He.ga K "_law_same", He.ga K "_law_told", He.ga K "_law_all_malformed", He.ga K "_law_great", He.ga K "_law_left", He.ga K "_law_turns", He.ga K "law", He.ga K "Malformed", He.ga K "Refused"⟩
structure Txt (K : PySem.W.Frag) (mg : Str → Option Value) : Prop where
  c : SaysL fa fn K
  g : ∀ x u, PySem.W.nsIn K mainGlobals x = some (some u) → mg x = some u
  z : ∀ x, PySem.W.nsIn K mainGlobals x = some none → mg x = none
section
variable {K : PySem.W.Frag} {mg : Str → Option Value}
theorem Txt.g_is_integer (T : Txt K mg) : mg "is_integer" = some (.ref (adOf K).is_integer) := T.g _ _ (He.eqO_ok (T.c.fact 0))
theorem Txt.F_is_integer (T : Txt K mg) : Fun K "is_integer" "is_integer" s_is_integer (adOf K).is_integer (fdOf K ("is_integer", none)) := T.c.def_ 0
theorem Txt.b_is_integer (T : Txt K mg) : Binds K (fdOf K ("is_integer", none)) ["value"] [] := T.F_is_integer.binds fun _ _ _ _ _ _ us hl => match us, hl with | [_], _ => rfl
theorem Txt.g_is_count (T : Txt K mg) : mg "is_count" = some (.ref (adOf K).is_count) := T.g _ _ (He.eqO_ok (T.c.fact 1))
theorem Txt.F_is_count (T : Txt K mg) : Fun K "is_count" "is_count" s_is_count (adOf K).is_count (fdOf K ("is_count", none)) := T.c.def_ 1
theorem Txt.b_is_count (T : Txt K mg) : Binds K (fdOf K ("is_count", none)) ["value", "low", "high"] [] := T.F_is_count.binds fun _ _ _ _ _ _ us hl => match us, hl with | [_, _, _], _ => rfl
theorem Txt.g_check_count (T : Txt K mg) : mg "check_count" = some (.ref (adOf K).check_count) := T.g _ _ (He.eqO_ok (T.c.fact 2))
theorem Txt.F_check_count (T : Txt K mg) : Fun K "check_count" "check_count" s_check_count (adOf K).check_count (fdOf K ("check_count", none)) := T.c.def_ 2
theorem Txt.b_check_count (T : Txt K mg) : Binds K (fdOf K ("check_count", none)) ["value", "low", "high"] [] := T.F_check_count.binds fun _ _ _ _ _ _ us hl => match us, hl with | [_, _, _], _ => rfl
theorem Txt.g_left_over (T : Txt K mg) : mg "left_over" = some (.ref (adOf K).left_over) := T.g _ _ (He.eqO_ok (T.c.fact 3))
theorem Txt.F_left_over (T : Txt K mg) : Fun K "left_over" "left_over" s_left_over (adOf K).left_over (fdOf K ("left_over", none)) := T.c.def_ 3
theorem Txt.b_left_over (T : Txt K mg) : Binds K (fdOf K ("left_over", none)) ["n", "q"] [] := T.F_left_over.binds fun _ _ _ _ _ _ us hl => match us, hl with | [_, _], _ => rfl
theorem Txt.g_left_by_turns (T : Txt K mg) : mg "left_by_turns" = some (.ref (adOf K).left_by_turns) := T.g _ _ (He.eqO_ok (T.c.fact 4))
theorem Txt.F_left_by_turns (T : Txt K mg) : Fun K "left_by_turns" "left_by_turns" s_left_by_turns (adOf K).left_by_turns (fdOf K ("left_by_turns", none)) := T.c.def_ 4
theorem Txt.b_left_by_turns (T : Txt K mg) : Binds K (fdOf K ("left_by_turns", none)) ["n", "q"] [] := T.F_left_by_turns.binds fun _ _ _ _ _ _ us hl => match us, hl with | [_, _], _ => rfl
theorem Txt.g_z_law_state (T : Txt K mg) : mg "_law_state" = some (.ref (adOf K).z_law_state) := T.g _ _ (He.eqO_ok (T.c.fact 5))
theorem Txt.F_z_law_state (T : Txt K mg) : Fun K "_law_state" "_law_state" s_z_law_state (adOf K).z_law_state (fdOf K ("_law_state", none)) := T.c.def_ 5
theorem Txt.b_z_law_state (T : Txt K mg) : Binds K (fdOf K ("_law_state", none)) ["script"] [] := T.F_z_law_state.binds fun _ _ _ _ _ _ us hl => match us, hl with | [_], _ => rfl
theorem Txt.g_z_law_take (T : Txt K mg) : mg "_law_take" = some (.ref (adOf K).z_law_take) := T.g _ _ (He.eqO_ok (T.c.fact 6))
theorem Txt.F_z_law_take (T : Txt K mg) : Fun K "_law_take" "_law_take" s_z_law_take (adOf K).z_law_take (fdOf K ("_law_take", none)) := T.c.def_ 6
theorem Txt.b_z_law_take (T : Txt K mg) : Binds K (fdOf K ("_law_take", none)) ["state", "m"] [] := T.F_z_law_take.binds fun _ _ _ _ _ _ us hl => match us, hl with | [_, _], _ => rfl
theorem Txt.g_z_law_is_whole (T : Txt K mg) : mg "_law_is_whole" = some (.ref (adOf K).z_law_is_whole) := T.g _ _ (He.eqO_ok (T.c.fact 7))
theorem Txt.F_z_law_is_whole (T : Txt K mg) : Fun K "_law_is_whole" "_law_is_whole" s_z_law_is_whole (adOf K).z_law_is_whole (fdOf K ("_law_is_whole", none)) := T.c.def_ 7
theorem Txt.b_z_law_is_whole (T : Txt K mg) : Binds K (fdOf K ("_law_is_whole", none)) ["value"] [] := T.F_z_law_is_whole.binds fun _ _ _ _ _ _ us hl => match us, hl with | [_], _ => rfl
theorem Txt.g_z_law_same (T : Txt K mg) : mg "_law_same" = some (.ref (adOf K).z_law_same) := T.g _ _ (He.eqO_ok (T.c.fact 8))
theorem Txt.F_z_law_same (T : Txt K mg) : Fun K "_law_same" "_law_same" s_z_law_same (adOf K).z_law_same (fdOf K ("_law_same", none)) := T.c.def_ 8
theorem Txt.b_z_law_same (T : Txt K mg) : Binds K (fdOf K ("_law_same", none)) ["one", "two"] [] := T.F_z_law_same.binds fun _ _ _ _ _ _ us hl => match us, hl with | [_, _], _ => rfl
theorem Txt.g_z_law_told (T : Txt K mg) : mg "_law_told" = some (.ref (adOf K).z_law_told) := T.g _ _ (He.eqO_ok (T.c.fact 9))
theorem Txt.F_z_law_told (T : Txt K mg) : Fun K "_law_told" "_law_told" s_z_law_told (adOf K).z_law_told (fdOf K ("_law_told", none)) := T.c.def_ 9
theorem Txt.b_z_law_told (T : Txt K mg) : Binds K (fdOf K ("_law_told", none)) ["act", "given"] [] := T.F_z_law_told.binds fun _ _ _ _ _ _ us hl => match us, hl with | [_, _], _ => rfl
theorem Txt.g_z_law_all_malformed (T : Txt K mg) : mg "_law_all_malformed" = some (.ref (adOf K).z_law_all_malformed) := T.g _ _ (He.eqO_ok (T.c.fact 10))
theorem Txt.F_z_law_all_malformed (T : Txt K mg) : Fun K "_law_all_malformed" "_law_all_malformed" s_z_law_all_malformed (adOf K).z_law_all_malformed (fdOf K ("_law_all_malformed", none)) := T.c.def_ 10
theorem Txt.b_z_law_all_malformed (T : Txt K mg) : Binds K (fdOf K ("_law_all_malformed", none)) ["tried"] [] := T.F_z_law_all_malformed.binds fun _ _ _ _ _ _ us hl => match us, hl with | [_], _ => rfl
theorem Txt.g_z_law_great (T : Txt K mg) : mg "_law_great" = some (.ref (adOf K).z_law_great) := T.g _ _ (He.eqO_ok (T.c.fact 11))
theorem Txt.F_z_law_great (T : Txt K mg) : Fun K "_law_great" "_law_great" s_z_law_great (adOf K).z_law_great (fdOf K ("_law_great", none)) := T.c.def_ 11
theorem Txt.b_z_law_great (T : Txt K mg) : Binds K (fdOf K ("_law_great", none)) ["state"] [] := T.F_z_law_great.binds fun _ _ _ _ _ _ us hl => match us, hl with | [_], _ => rfl
theorem Txt.g_z_law_left (T : Txt K mg) : mg "_law_left" = some (.ref (adOf K).z_law_left) := T.g _ _ (He.eqO_ok (T.c.fact 12))
theorem Txt.F_z_law_left (T : Txt K mg) : Fun K "_law_left" "_law_left" s_z_law_left (adOf K).z_law_left (fdOf K ("_law_left", none)) := T.c.def_ 12
theorem Txt.b_z_law_left (T : Txt K mg) : Binds K (fdOf K ("_law_left", none)) ["n", "q"] [] := T.F_z_law_left.binds fun _ _ _ _ _ _ us hl => match us, hl with | [_, _], _ => rfl
theorem Txt.g_z_law_turns (T : Txt K mg) : mg "_law_turns" = some (.ref (adOf K).z_law_turns) := T.g _ _ (He.eqO_ok (T.c.fact 13))
theorem Txt.F_z_law_turns (T : Txt K mg) : Fun K "_law_turns" "_law_turns" s_z_law_turns (adOf K).z_law_turns (fdOf K ("_law_turns", none)) := T.c.def_ 13
theorem Txt.b_z_law_turns (T : Txt K mg) : Binds K (fdOf K ("_law_turns", none)) ["n", "q"] [] := T.F_z_law_turns.binds fun _ _ _ _ _ _ us hl => match us, hl with | [_, _], _ => rfl
theorem Txt.g_law (T : Txt K mg) : mg "law" = some (.ref (adOf K).law) := T.g _ _ (He.eqO_ok (T.c.fact 14))
theorem Txt.F_law (T : Txt K mg) : Fun K "law" "law" s_law (adOf K).law (fdOf K ("law", none)) := T.c.def_ 14
theorem Txt.b_law (T : Txt K mg) : Binds K (fdOf K ("law", none)) ["script"] [] := T.F_law.binds fun _ _ _ _ _ _ us hl => match us, hl with | [_], _ => rfl
theorem Txt.m_abs (T : Txt K mg) : mg "abs" = none := T.z _ (He.eqO_ok (T.c.fact 15))
theorem Txt.m_all (T : Txt K mg) : mg "all" = none := T.z _ (He.eqO_ok (T.c.fact 16))
theorem Txt.m_bool (T : Txt K mg) : mg "bool" = none := T.z _ (He.eqO_ok (T.c.fact 17))
theorem Txt.m_int (T : Txt K mg) : mg "int" = none := T.z _ (He.eqO_ok (T.c.fact 18))
theorem Txt.m_isinstance (T : Txt K mg) : mg "isinstance" = none := T.z _ (He.eqO_ok (T.c.fact 19))
theorem Txt.m_len (T : Txt K mg) : mg "len" = none := T.z _ (He.eqO_ok (T.c.fact 20))
theorem Txt.m_list (T : Txt K mg) : mg "list" = none := T.z _ (He.eqO_ok (T.c.fact 21))
theorem Txt.m_range (T : Txt K mg) : mg "range" = none := T.z _ (He.eqO_ok (T.c.fact 22))
theorem Txt.m_str (T : Txt K mg) : mg "str" = none := T.z _ (He.eqO_ok (T.c.fact 23))
theorem Txt.m_tuple (T : Txt K mg) : mg "tuple" = none := T.z _ (He.eqO_ok (T.c.fact 24))
theorem Txt.c_MOST_NUMBER (T : Txt K mg) : ∃ t, mg "MOST_NUMBER" = some (.int 1000000000000000000000000000000 t) := int_of T.g (T.c.fact 25)
theorem Txt.gM (T : Txt K mg) : mg "Malformed" = some (.ref (adOf K).cM) := T.g _ _ (He.eqO_ok (T.c.fact 26))
theorem Txt.xM (T : Txt K mg) : PySem.W.excIn K (adOf K).cM veBm "ValueError.__new__" = true := (excB_ok (T.c.fact 27)).1
theorem Txt.kM (T : Txt K mg) : PySem.W.keepIn K (.ref (adOf K).cM) = true := (excB_ok (T.c.fact 27)).2.1
theorem Txt.bM (T : Txt K mg) : PySem.W.subIn K (.ref (adOf K).cM) (.type "BaseException") = some true := (excB_ok (T.c.fact 27)).2.2.1
theorem Txt.tM (T : Txt K mg) : PySem.W.typeIn K (.ref (adOf K).cM) = some (.type "type") := (excB_ok (T.c.fact 27)).2.2.2
theorem Txt.gR (T : Txt K mg) : mg "Refused" = some (.ref (adOf K).cR) := T.g _ _ (He.eqO_ok (T.c.fact 28))
theorem Txt.xR (T : Txt K mg) : OexC K (adOf K).cR := (oexB_ok (T.c.fact 29)).x
theorem Txt.iR (T : Txt K mg) : PySem.W.findIn K (.ref (adOf K).cR) "__init__" = some (some (.ref (He.ma K (He.ga K "Refused") "__init__"))) := (oexB_ok (T.c.fact 29)).i
theorem Txt.tRI (T : Txt K mg) : PySem.W.typeIn K (.ref (He.ma K (He.ga K "Refused") "__init__")) = some (.type "function") := (oexB_ok (T.c.fact 29)).t
theorem Txt.nR (T : Txt K mg) : PySem.W.findIn K (.ref (adOf K).cR) "reason" = some none := (oexB_ok (T.c.fact 29)).n
theorem Txt.yR (T : Txt K mg) : XfC K (adOf K).cR := (oexB_ok (T.c.fact 29)).y
theorem Txt.F_initR (T : Txt K mg) : Fun K "__init__" "Refused.__init__" s_initR (He.ma K (He.ga K "Refused") "__init__") (fdOf K ("Refused", some "__init__")) := T.c.def_ 15
theorem Txt.bRI (T : Txt K mg) : Binds K (fdOf K ("Refused", some "__init__")) ["self", "reason"] [] := T.F_initR.binds fun _ _ _ _ _ _ us hl => match us, hl with | [_, _], _ => rfl
theorem Txt.gF (T : Txt K mg) : mg "Fault" = some (.ref (He.ga K "Fault")) := T.g _ _ (He.eqO_ok (T.c.fact 30))
theorem Txt.fau (T : Txt K mg) : PySem.W.specialIn K (.ref (He.ga K "Fault")) "__getattribute__" = some (some (.builtin "type.__getattribute__")) ∧ PySem.W.readsIn K (He.ga K "Fault") (.type "type") = true ∧ PySem.W.findCls K (.ref (He.ga K "Fault")) (.type "type") "__init__" = some (.val (.builtin "ValueError.__init__")) := fauB_ok (T.c.fact 31)
theorem Txt.eM (T : Txt K mg) : ∀ a b, ansM (adOf K) a = some b → PySem.W.exmOne K (.ref a) (.ref (adOf K).cM) = some b := by
  intro a b h
  unfold ansM at h
  split at h
  · rename_i e; cases h; rw [e]; exact exmB_ok (T.c.fact 32)
  split at h
  · rename_i e; cases h; rw [e]; exact exmB_ok (T.c.fact 33)
  cases h
theorem Txt.eR (T : Txt K mg) : ∀ a b, ansR (adOf K) a = some b → PySem.W.exmOne K (.ref a) (.ref (adOf K).cR) = some b := by
  intro a b h
  unfold ansR at h
  split at h
  · rename_i e; cases h; rw [e]; exact exmB_ok (T.c.fact 34)
  split at h
  · rename_i e; cases h; rw [e]; exact exmB_ok (T.c.fact 35)
  cases h
theorem Txt.own_int (T : Txt K mg) : ∀ C ∈ owns (adOf K), ObjC K C ∧ PySem.W.kitOne K (.ref C) (.type "int") = some false := fun C h => nomatch h
theorem Txt.own_bool (T : Txt K mg) : ∀ C ∈ owns (adOf K), ObjC K C ∧ PySem.W.kitOne K (.ref C) (.type "bool") = some false := fun C h => nomatch h
theorem Txt.own_tuple (T : Txt K mg) : ∀ C ∈ owns (adOf K), ObjC K C ∧ PySem.W.kitOne K (.ref C) (.type "tuple") = some false := fun C h => nomatch h
theorem Txt.own_list (T : Txt K mg) : ∀ C ∈ owns (adOf K), ObjC K C ∧ PySem.W.kitOne K (.ref C) (.type "list") = some false := fun C h => nomatch h
theorem Txt.own_str (T : Txt K mg) : ∀ C ∈ owns (adOf K), ObjC K C ∧ PySem.W.kitOne K (.ref C) (.type "str") = some false := fun C h => nomatch h
theorem Txt.ok (T : Txt K mg) : (adOf K).Ok := ⟨of_decide_eq_true (T.c.fact 36), of_decide_eq_true (T.c.fact 37)⟩
end
/-! ### each def keeps its promise -/
section
variable {P : Program} {w : World} {K : PySem.W.Frag} {mg : Str → Option Value} {base : Heap}
theorem ok_initR (T : Txt K mg) : FnOk P w K mg base (L2.CX P w) 1 (He.ma K (He.ga K "Refused") "__init__") (fdOf K ("Refused", some "__init__")) ["self", "reason"] (spErr K (adOf K).cR "reason") := init_rule T.F_initR sc_initR rfl (fun cdv A outer s H E hr => pss_cons (ps_expr (pe_bInit rfl T.gF T.fau.1 T.fau.2.1 T.fau.2.2 (pa_cons (pv 0) (pa_cons (pv 1) pa_nil)))) (pss_one (ps_ost (pv 0) (pv 1))))
theorem ok_is_integer (T : Txt K mg) : FnOk P w K mg base (L2.CX P w) 1 (adOf K).is_integer (fdOf K ("is_integer", none)) ["value"] (spL K 1 (fs_is_integer (adOf K))) :=
  fn_rule2 (k := 0) T.F_is_integer sc_is_integer rfl (p_is_integer (adOf K) T.ok) fun cdv Aa outer s H E hr tk hp nd =>
  (vss_one (vs_ret (ve_and (ve_isT (owns (adOf K)) T.m_isinstance T.m_int (ve_var 0) (by decide +kernel) T.own_int (by decide +kernel)) (ve_one (ve_not (ve_isT (owns (adOf K)) T.m_isinstance T.m_bool (ve_var 0) (by decide +kernel) T.own_bool (by decide +kernel)))))))
theorem ok_is_count (T : Txt K mg) : FnOk P w K mg base (L2.CX P w) 2 (adOf K).is_count (fdOf K ("is_count", none)) ["value", "low", "high"] (spL K 3 (fs_is_count (adOf K))) :=
  fn_rule2 (k := 1) T.F_is_count sc_is_count rfl (p_is_count (adOf K) T.ok) fun cdv Aa outer s H E hr tk hp nd =>
  (vss_one (vs_ret (ve_and (ve_fn (ok_is_integer T) (hr.mono (by decide)) tk rfl T.g_is_integer T.F_is_integer.kp T.b_is_integer (va_cons (ve_var 0) va_nil)) (ve_one (ve_chain op_le op_le ov_cmp ov_cmp (ve_var 1) (ve_var 0) (ve_var 2))))))
theorem ok_check_count (T : Txt K mg) : FnOk P w K mg base (L2.CX P w) 3 (adOf K).check_count (fdOf K ("check_count", none)) ["value", "low", "high"] (spL K 3 (fs_check_count (adOf K))) :=
  fn_rule2 (k := 2) T.F_check_count sc_check_count rfl (p_check_count (adOf K) T.ok) fun cdv Aa outer s H E hr tk hp nd =>
  (vss_one (vs_if (vt_not (vt_val (ve_fn (ok_is_count T) (hr.mono (by decide)) tk rfl T.g_is_count T.F_is_count.kp T.b_is_count (va_cons (ve_var 0) (va_cons (ve_var 1) (va_cons (ve_var 2) va_nil)))))) (vss_one (vs_raise rfl tk PySem.F.excBase_ValueError T.xM T.gM T.kM (raises_own T.bM T.tM) rfl)) vss_nil))
theorem ok_left_over (T : Txt K mg) : FnOk P w K mg base (L2.CX P w) 4 (adOf K).left_over (fdOf K ("left_over", none)) ["n", "q"] (spL K 2 (fs_left_over (adOf K))) :=
  fn_rule2 (k := 3) T.F_left_over sc_left_over rfl (p_left_over (adOf K) T.ok) fun cdv Aa outer s H E hr tk hp nd =>
  (vss_cons (vs_expr (ve_fn (ok_check_count T) (hr.mono (by decide)) tk rfl T.g_check_count T.F_check_count.kp T.b_check_count (va_cons (ve_var 0) (va_cons ve_int (va_cons (ve_gint rfl T.c_MOST_NUMBER) va_nil)))))
  (vss_cons (vs_expr (ve_fn (ok_check_count T) (hr.mono (by decide)) tk rfl T.g_check_count T.F_check_count.kp T.b_check_count (va_cons (ve_var 1) (va_cons ve_int (va_cons ve_int va_nil)))))
  (vss_cons (vs_set (i := 2) ve_int nd rfl (by first | exact .inl rfl | exact .inr rfl))
  (vss_cons (vs_while hp (vt_cmp op_le ov_cmp (ve_var 2) (ve_mul (ve_sub (ve_var 1) ve_int) (ve_var 0)) (nobehind _ (by decide) (by decide))) (vss_one (vs_set (i := 2) (ve_neg (ve_div (ve_mul (ve_neg (ve_var 1)) (ve_var 2)) (ve_sub (ve_var 1) ve_int))) nd rfl (by first | exact .inl rfl | exact .inr rfl))))
  (vss_one (vs_ret (ve_sub (ve_add (ve_mul (ve_var 1) (ve_var 0)) ve_int) (ve_var 2))))))))
theorem ok_left_by_turns (T : Txt K mg) : FnOk P w K mg base (L2.CX P w) 4 (adOf K).left_by_turns (fdOf K ("left_by_turns", none)) ["n", "q"] (spL K 2 (fs_left_by_turns (adOf K))) :=
  fn_rule2 (k := 3) T.F_left_by_turns sc_left_by_turns rfl (p_left_by_turns (adOf K) T.ok) fun cdv Aa outer s H E hr tk hp nd =>
  (vss_cons (vs_expr (ve_fn (ok_check_count T) (hr.mono (by decide)) tk rfl T.g_check_count T.F_check_count.kp T.b_check_count (va_cons (ve_var 0) (va_cons ve_int (va_cons ve_int va_nil)))))
  (vss_cons (vs_expr (ve_fn (ok_check_count T) (hr.mono (by decide)) tk rfl T.g_check_count T.F_check_count.kp T.b_check_count (va_cons (ve_var 1) (va_cons ve_int (va_cons ve_int va_nil)))))
  (vss_cons (vs_set (i := 2) ve_int nd rfl (by first | exact .inl rfl | exact .inr rfl))
  (vss_cons (vs_for hp rfl (vi_rg2 false rfl T.m_range ve_int (ve_add (ve_var 0) ve_int)) (vg_name 3 nd) (vss_one (vs_set (i := 2) (ve_mod (ve_add (ve_var 2) (ve_var 1)) (ve_var 3)) nd rfl (by first | exact .inl rfl | exact .inr rfl))))
  (vss_one (vs_ret (ve_add (ve_var 2) ve_int)))))))
theorem ok_z_law_state (T : Txt K mg) : FnOk P w K mg base (L2.CX P w) 1 (adOf K).z_law_state (fdOf K ("_law_state", none)) ["script"] (spL K 1 (fs_z_law_state (adOf K))) :=
  fn_rule2 (k := 0) T.F_z_law_state sc_z_law_state rfl (p_z_law_state (adOf K) T.ok) fun cdv Aa outer s H E hr tk hp nd =>
  (vss_cons (vs_set (i := 1) ve_int nd rfl (by first | exact .inl rfl | exact .inr rfl))
  (vss_cons (vs_set (i := 2) ve_int nd rfl (by first | exact .inl rfl | exact .inr rfl))
  (vss_cons (vs_for hp rfl (vi_seq false (ve_slice (ve_var 0) vp_none (vp_some ve_int))) (vg_name 3 nd) (vss_cons (vs_set (i := 1) (ve_add (ve_mul (ve_var 1) ve_int) (ve_callB call_abs cv_abs rfl T.m_abs (by decide +kernel) (va_cons (ve_var 3) va_nil))) nd rfl (by first | exact .inl rfl | exact .inr rfl))
  (vss_one (vs_set (i := 2) (ve_mod (ve_callTy call_int1 cv_int rfl T.m_int (by decide +kernel) (va_cons (ve_add (ve_mul (ve_var 2) ve_int) (ve_var 3)) va_nil)) ve_int) nd rfl (by first | exact .inl rfl | exact .inr rfl)))))
  (vss_one (vs_ret (ve_lst (va_cons (ve_var 1) (va_cons (ve_ifE (vt_cmp (op_neD hr.units) ov_ne (ve_var 2) ve_int (nobehind _ (by decide) (by decide))) (ve_var 2) ve_int) va_nil))))))))
theorem ok_z_law_take (T : Txt K mg) : FnOk P w K mg base (L2.CX P w) 1 (adOf K).z_law_take (fdOf K ("_law_take", none)) ["state", "m"] (spL K 2 (fs_z_law_take (adOf K))) :=
  fn_rule2 (k := 0) T.F_z_law_take sc_z_law_take rfl (p_z_law_take (adOf K) T.ok) fun cdv Aa outer s H E hr tk hp nd =>
  (vss_cons (vs_if (vt_cmp op_gt ov_cmp (ve_st0 (i := 0) rfl (by first | exact Or.inl rfl | exact Or.inr (Or.inl rfl)) (fun _ _ => rfl)) ve_int (nobehind _ (by decide) (by decide))) (vss_cons (vs_set (i := 2) (ve_mod (ve_callTy call_int1 cv_int rfl T.m_int (by decide +kernel) (va_cons (ve_st0 (i := 0) rfl (by first | exact Or.inl rfl | exact Or.inr (Or.inl rfl)) (fun _ _ => rfl)) va_nil)) (ve_var 1)) nd rfl (by first | exact .inl rfl | exact .inr rfl))
  (vss_cons (vs_st0 (i := 0) rfl (by first | exact Or.inl rfl | exact Or.inr (Or.inl rfl)) (ve_div (ve_st0 (i := 0) rfl (by first | exact Or.inl rfl | exact Or.inr (Or.inl rfl)) (fun _ _ => rfl)) (ve_var 1)))
  (vss_one (vs_ret (ve_var 2))))) vss_nil)
  (vss_cons (vs_st1 (i := 0) rfl (by first | exact Or.inl rfl | exact Or.inr (Or.inl rfl)) (ve_mod (ve_callTy call_int1 cv_int rfl T.m_int (by decide +kernel) (va_cons (ve_add (ve_mul (ve_st1 (i := 0) rfl (by first | exact Or.inl rfl | exact Or.inr (Or.inl rfl)) (fun _ _ => rfl)) ve_int) ve_int) va_nil)) ve_int))
  (vss_one (vs_ret (ve_mod (ve_callTy call_int1 cv_int rfl T.m_int (by decide +kernel) (va_cons (ve_div (ve_st1 (i := 0) rfl (by first | exact Or.inl rfl | exact Or.inr (Or.inl rfl)) (fun _ _ => rfl)) ve_int) va_nil)) (ve_var 1))))))
theorem ok_z_law_is_whole (T : Txt K mg) : FnOk P w K mg base (L2.CX P w) 1 (adOf K).z_law_is_whole (fdOf K ("_law_is_whole", none)) ["value"] (spL K 1 (fs_z_law_is_whole (adOf K))) :=
  fn_rule2 (k := 0) T.F_z_law_is_whole sc_z_law_is_whole rfl (p_z_law_is_whole (adOf K) T.ok) fun cdv Aa outer s H E hr tk hp nd =>
  (vss_one (vs_ret (ve_and (ve_isT (owns (adOf K)) T.m_isinstance T.m_int (ve_var 0) (by decide +kernel) T.own_int (by decide +kernel)) (ve_one (ve_not (ve_isT (owns (adOf K)) T.m_isinstance T.m_bool (ve_var 0) (by decide +kernel) T.own_bool (by decide +kernel)))))))
theorem step_z_law_same (T : Txt K mg) (n : Nat) (rec : FS) (fs : FS) (hp : ∀ qs Q R, qs.length = 2 → fs qs Q R → w_z_law_same (adOf K) rec (fnEnds Q R) (startP 3 qs)) (ih : FnOk P w K mg base (L2.CX P w) (n + 3) (adOf K).z_law_same (fdOf K ("_law_same", none)) ["one", "two"] (spL K 2 rec)) : FnOk P w K mg base (L2.CX P w) (n + 3 + 1) (adOf K).z_law_same (fdOf K ("_law_same", none)) ["one", "two"] (spL K 2 fs) :=
  fn_rule2 T.F_z_law_same sc_z_law_same rfl hp fun cdv Aa outer s H E hr tk hp nd =>
  (vss_cons (vs_if (vt_val (ve_isT (owns (adOf K)) T.m_isinstance T.m_bool (ve_var 1) (by decide +kernel) T.own_bool (by decide +kernel))) (vss_one (vs_ret (ve_and (ve_isT (owns (adOf K)) T.m_isinstance T.m_bool (ve_var 0) (by decide +kernel) T.own_bool (by decide +kernel)) (ve_one (ve_cmp (op_eqD hr.units) ov_eq (ve_var 0) (ve_var 1) (nobehind _ (by decide) (by decide))))))) vss_nil)
  (vss_cons (vs_if (vt_val (ve_isT (owns (adOf K)) T.m_isinstance T.m_tuple (ve_var 1) (by decide +kernel) T.own_tuple (by decide +kernel))) (vss_one (vs_ret (ve_and (ve_isT (owns (adOf K)) T.m_isinstance T.m_tuple (ve_var 0) (by decide +kernel) T.own_tuple (by decide +kernel)) (ve_and (ve_cmp (op_eqD hr.units) ov_eq (ve_callB cr_lenV cv_len rfl T.m_len (by decide +kernel) (va_cons (ve_var 0) va_nil)) (ve_callB cr_lenV cv_len rfl T.m_len (by decide +kernel) (va_cons (ve_var 1) va_nil)) (nobehind _ (by decide) (by decide))) (ve_one (ve_callB (cr_all rfl) cv_all rfl T.m_all (by decide +kernel) (va_cons (ve_comp (own := [("k", 2)]) rfl nd (vi_rg1 true rfl T.m_range (ve_callB cr_lenV cv_len rfl T.m_len (by decide +kernel) (va_cons (ve_var 1) va_nil))) (blkOk_by rfl) (by decide) (fun _ _ _ _ _ => (vg_name 2 nd)) (fun _ _ _ _ _ => vifs_nil) (fun _ _ _ _ _ => (ve_fn ih (hr.mono (by first | decide | omega)) takes0 rfl T.g_z_law_same T.F_z_law_same.kp T.b_z_law_same (va_cons (ve_ix (ve_var 0) (ve_var 2) (fun _ _ => rfl)) (va_cons (ve_ix (ve_var 1) (ve_var 2) (fun _ _ => rfl)) va_nil))))) va_nil))))))) vss_nil)
  (vss_cons (vs_if (vt_val (ve_isT (owns (adOf K)) T.m_isinstance T.m_list (ve_var 1) (by decide +kernel) T.own_list (by decide +kernel))) (vss_one (vs_ret (ve_and (ve_isT (owns (adOf K)) T.m_isinstance T.m_tuple (ve_var 0) (by decide +kernel) T.own_tuple (by decide +kernel)) (ve_one (ve_fn ih (hr.mono (by first | decide | omega)) tk rfl T.g_z_law_same T.F_z_law_same.kp T.b_z_law_same (va_cons (ve_var 0) (va_cons (ve_callTy call_tuple_of cv_tuple rfl T.m_tuple (by decide +kernel) (va_cons (ve_var 1) va_nil)) va_nil))))))) vss_nil)
  (vss_cons (vs_if (vt_val (ve_isT (owns (adOf K)) T.m_isinstance T.m_str (ve_var 1) (by decide +kernel) T.own_str (by decide +kernel))) (vss_one (vs_ret (ve_and (ve_isT (owns (adOf K)) T.m_isinstance T.m_str (ve_var 0) (by decide +kernel) T.own_str (by decide +kernel)) (ve_one (ve_cmp (op_eqD hr.units) ov_eq (ve_var 0) (ve_var 1) (nobehind _ (by decide) (by decide))))))) vss_nil)
  (vss_cons (vs_if (vt_isN (ve_var 1)) (vss_one (vs_ret (ve_isN (ve_var 0)))) vss_nil)
  (vss_one (vs_ret (ve_and (ve_fn (ok_z_law_is_whole T) (hr.mono (by first | decide | omega)) tk rfl T.g_z_law_is_whole T.F_z_law_is_whole.kp T.b_z_law_is_whole (va_cons (ve_var 0) va_nil)) (ve_one (ve_cmp (op_eqD hr.units) ov_eq (ve_var 0) (ve_var 1) (nobehind _ (by decide) (by decide))))))))))))
theorem okN_z_law_same (T : Txt K mg) : ∀ n, FnOk P w K mg base (L2.CX P w) (n + 3) (adOf K).z_law_same (fdOf K ("_law_same", none)) ["one", "two"] (spL K 2 (fsN_z_law_same (adOf K) n))
  | 0 => fnOk_none rfl
  | n + 1 => step_z_law_same T n _ _ (p_z_law_same (adOf K) T.ok n) (okN_z_law_same T n)
theorem ok_z_law_same (T : Txt K mg) : FnOk P w K mg base (L2.CX P w) 6 (adOf K).z_law_same (fdOf K ("_law_same", none)) ["one", "two"] (spL K 2 (fs_z_law_same (adOf K))) := okN_z_law_same T 3
theorem hA (T : Txt K mg) : ∀ f n fs, acts (adOf K) f = some (n, fs) → HeldF P w K mg base 4 f n fs := by
  intro f n fs h
  unfold acts at h
  split at h
  · rename_i e; cases h; rw [e]; exact ⟨_, _, (ok_left_over T).mono (by decide), T.F_left_over.kp, T.b_left_over⟩
  split at h
  · rename_i e; cases h; rw [e]; exact ⟨_, _, (ok_left_by_turns T).mono (by decide), T.F_left_by_turns.kp, T.b_left_by_turns⟩
  cases h
theorem ok_z_law_told (T : Txt K mg) : FnOk P w K mg base (L2.CX P w) 5 (adOf K).z_law_told (fdOf K ("_law_told", none)) ["act", "given"] (spL K 2 (fs_z_law_told (adOf K))) :=
  fn_rule2 (k := 4) T.F_z_law_told sc_z_law_told rfl (p_z_law_told (adOf K) T.ok) fun cdv Aa outer s H E hr tk hp nd =>
  (vss_one (vs_try rfl rfl tk (fun W' pn xe tk' hp' => (vss_cons (vs_if (vt_cmp op_gt ov_cmp (ve_callB cr_lenV cv_len rfl T.m_len (by decide +kernel) (va_cons (ve_var 1) va_nil)) ve_int (nobehind _ (by decide) (by decide))) (vss_one (vs_ret (ve_tup (va_cons ve_str (va_cons (ve_ifE (vt_cmp (op_eqD hr.units) ov_eq (ve_callB cr_lenV cv_len rfl T.m_len (by decide +kernel) (va_cons (ve_var 1) va_nil)) ve_int (nobehind _ (by decide) (by decide))) (ve_fnV (i := 0) (hA T) (hr.mono (by decide)) tk' rfl (by first | exact Or.inl rfl | exact Or.inr (Or.inl rfl)) (va_cons (ve_ix (ve_var 1) ve_int (fun _ _ => rfl)) (va_cons (ve_ix (ve_var 1) ve_int (fun _ _ => rfl)) (va_cons (ve_ix (ve_var 1) ve_int (fun _ _ => rfl)) (va_cons (ve_ix (ve_var 1) ve_int (fun _ _ => rfl)) va_nil))))) (ve_fnV (i := 0) (hA T) (hr.mono (by decide)) tk' rfl (by first | exact Or.inl rfl | exact Or.inr (Or.inl rfl)) (va_cons (ve_ix (ve_var 1) ve_int (fun _ _ => rfl)) (va_cons (ve_ix (ve_var 1) ve_int (fun _ _ => rfl)) (va_cons (ve_ix (ve_var 1) ve_int (fun _ _ => rfl)) (va_cons (ve_ix (ve_var 1) ve_int (fun _ _ => rfl)) (va_cons (ve_ix (ve_var 1) ve_int (fun _ _ => rfl)) va_nil))))))) va_nil))))) vss_nil)
  (vss_one (vs_ret (ve_tup (va_cons ve_str (va_cons (ve_ifE (vt_cmp (op_eqD hr.units) ov_eq (ve_callB cr_lenV cv_len rfl T.m_len (by decide +kernel) (va_cons (ve_var 1) va_nil)) ve_int (nobehind _ (by decide) (by decide))) (ve_fnV (i := 0) (hA T) (hr.mono (by decide)) tk' rfl (by first | exact Or.inl rfl | exact Or.inr (Or.inl rfl)) (va_cons (ve_ix (ve_var 1) ve_int (fun _ _ => rfl)) va_nil)) (ve_ifE (vt_cmp (op_eqD hr.units) ov_eq (ve_callB cr_lenV cv_len rfl T.m_len (by decide +kernel) (va_cons (ve_var 1) va_nil)) ve_int (nobehind _ (by decide) (by decide))) (ve_fnV (i := 0) (hA T) (hr.mono (by decide)) tk' rfl (by first | exact Or.inl rfl | exact Or.inr (Or.inl rfl)) (va_cons (ve_ix (ve_var 1) ve_int (fun _ _ => rfl)) (va_cons (ve_ix (ve_var 1) ve_int (fun _ _ => rfl)) va_nil))) (ve_fnV (i := 0) (hA T) (hr.mono (by decide)) tk' rfl (by first | exact Or.inl rfl | exact Or.inr (Or.inl rfl)) (va_cons (ve_ix (ve_var 1) ve_int (fun _ _ => rfl)) (va_cons (ve_ix (ve_var 1) ve_int (fun _ _ => rfl)) (va_cons (ve_ix (ve_var 1) ve_int (fun _ _ => rfl)) va_nil)))))) va_nil))))))) (vh_only (ansM (adOf K)) ⟨rfl, by decide, .inl T.gM⟩ T.eM (fun a pn => (vss_one (vs_ret (ve_tup (va_cons ve_str (va_cons ve_non va_nil)))))) (vh_ret (i := 2) (ansR (adOf K)) ⟨rfl, by decide, .inl T.gR⟩ T.eR nd rfl rfl T.yR T.nR (.inl rfl) vh_nil))))
theorem ok_z_law_all_malformed (T : Txt K mg) : FnOk P w K mg base (L2.CX P w) 6 (adOf K).z_law_all_malformed (fdOf K ("_law_all_malformed", none)) ["tried"] (spL K 1 (fs_z_law_all_malformed (adOf K))) :=
  fn_rule2 (k := 5) T.F_z_law_all_malformed sc_z_law_all_malformed rfl (p_z_law_all_malformed (adOf K) T.ok) fun cdv Aa outer s H E hr tk hp nd =>
  (vss_one (vs_ret (ve_callB (cr_all rfl) cv_all rfl T.m_all (by decide +kernel) (va_cons (ve_comp (own := [("act", 1), ("given", 2)]) rfl nd (vi_seq true (ve_var 0)) (blkOk_by rfl) (by decide) (fun _ _ _ _ _ => (vg_tup rfl (vgs_cons (vg_name 1 nd) (vgs_cons (vg_name 2 nd) vgs_nil)))) (fun _ _ _ _ _ => vifs_nil) (fun _ _ _ _ _ => (ve_cmp (op_eqD hr.units) ov_eq (ve_fn (ok_z_law_told T) (hr.mono (by decide)) takes0 rfl T.g_z_law_told T.F_z_law_told.kp T.b_z_law_told (va_cons (ve_var 1) (va_cons (ve_var 2) va_nil))) (ve_tup (va_cons ve_str (va_cons ve_non va_nil))) (nobehind _ (by decide) (by decide))))) va_nil))))
theorem ok_z_law_great (T : Txt K mg) : FnOk P w K mg base (L2.CX P w) 2 (adOf K).z_law_great (fdOf K ("_law_great", none)) ["state"] (spL K 1 (fs_z_law_great (adOf K))) :=
  fn_rule2 (k := 1) T.F_z_law_great sc_z_law_great rfl (p_z_law_great (adOf K) T.ok) fun cdv Aa outer s H E hr tk hp nd =>
  (vss_cons (vs_set (i := 1) (ve_fn (ok_z_law_take T) (hr.mono (by decide)) tk rfl T.g_z_law_take T.F_z_law_take.kp T.b_z_law_take (va_cons (ve_var 0) (va_cons ve_int va_nil))) nd rfl (by first | exact .inl rfl | exact .inr rfl))
  (vss_cons (vs_set (i := 2) (ve_fn (ok_z_law_take T) (hr.mono (by decide)) tk rfl T.g_z_law_take T.F_z_law_take.kp T.b_z_law_take (va_cons (ve_var 0) (va_cons ve_int va_nil))) nd rfl (by first | exact .inl rfl | exact .inr rfl))
  (vss_cons (vs_if (vt_cmp op_gt ov_cmp (ve_var 1) ve_int (nobehind _ (by decide) (by decide))) (vss_one (vs_set (i := 2) (ve_add (ve_mul (ve_var 2) ve_int) (ve_fn (ok_z_law_take T) (hr.mono (by decide)) tk rfl T.g_z_law_take T.F_z_law_take.kp T.b_z_law_take (va_cons (ve_var 0) (va_cons ve_int va_nil)))) nd rfl (by first | exact .inl rfl | exact .inr rfl))) vss_nil)
  (vss_cons (vs_if (vt_cmp (op_eqD hr.units) ov_eq (ve_var 1) ve_int (nobehind _ (by decide) (by decide))) (vss_one (vs_set (i := 2) (ve_add (ve_mul (ve_var 2) ve_int) (ve_mul (ve_fn (ok_z_law_take T) (hr.mono (by decide)) tk rfl T.g_z_law_take T.F_z_law_take.kp T.b_z_law_take (va_cons (ve_var 0) (va_cons ve_int va_nil))) ve_int)) nd rfl (by first | exact .inl rfl | exact .inr rfl))) vss_nil)
  (vss_one (vs_ret (ve_var 2)))))))
theorem ok_z_law_left (T : Txt K mg) : FnOk P w K mg base (L2.CX P w) 1 (adOf K).z_law_left (fdOf K ("_law_left", none)) ["n", "q"] (spL K 2 (fs_z_law_left (adOf K))) :=
  fn_rule2 (k := 0) T.F_z_law_left sc_z_law_left rfl (p_z_law_left (adOf K) T.ok) fun cdv Aa outer s H E hr tk hp nd =>
  (vss_cons (vs_par false false rfl nd rfl rfl (by decide) rfl rfl (ve_lrg2 rfl rfl T.m_list rfl T.m_range ve_int (ve_add (ve_var 0) ve_int)) ve_int rfl)
  (vss_cons (vs_while hp (vt_cmp op_gt ov_cmp (ve_callB cr_lenV cv_len rfl T.m_len (by decide +kernel) (va_cons (ve_var 2) va_nil)) ve_int (nobehind _ (by decide) (by decide))) (vss_cons (vs_set (i := 3) (ve_mod (ve_callTy call_int1 cv_int rfl T.m_int (by decide +kernel) (va_cons (ve_sub (ve_add (ve_var 3) (ve_var 1)) ve_int) va_nil)) (ve_callB cr_lenV cv_len rfl T.m_len (by decide +kernel) (va_cons (ve_var 2) va_nil))) nd rfl (by first | exact .inl rfl | exact .inr rfl))
  (vss_one (vs_set (i := 2) (ve_add (ve_slice (ve_var 2) vp_none (vp_some (ve_var 3))) (ve_slice (ve_var 2) (vp_some (ve_add (ve_var 3) ve_int)) vp_none)) nd rfl (by first | exact .inl rfl | exact .inr rfl)))))
  (vss_one (vs_ret (ve_ix (ve_var 2) ve_int (fun _ _ => rfl))))))
theorem ok_z_law_turns (T : Txt K mg) : FnOk P w K mg base (L2.CX P w) 1 (adOf K).z_law_turns (fdOf K ("_law_turns", none)) ["n", "q"] (spL K 2 (fs_z_law_turns (adOf K))) :=
  fn_rule2 (k := 0) T.F_z_law_turns sc_z_law_turns rfl (p_z_law_turns (adOf K) T.ok) fun cdv Aa outer s H E hr tk hp nd =>
  (vss_cons (vs_set (i := 2) ve_int nd rfl (by first | exact .inl rfl | exact .inr rfl))
  (vss_cons (vs_for hp rfl (vi_rg2 false rfl T.m_range ve_int (ve_add (ve_var 0) ve_int)) (vg_name 3 nd) (vss_one (vs_set (i := 2) (ve_mod (ve_callTy call_int1 cv_int rfl T.m_int (by decide +kernel) (va_cons (ve_add (ve_var 2) (ve_var 1)) va_nil)) (ve_var 3)) nd rfl (by first | exact .inl rfl | exact .inr rfl))))
  (vss_one (vs_ret (ve_add (ve_var 2) ve_int)))))
theorem ok_law (T : Txt K mg) : FnOk P w K mg base (L2.CX P w) 7 (adOf K).law (fdOf K ("law", none)) ["script"] (spL K 1 (fs_law (adOf K))) :=
  fn_rule2 (k := 6) T.F_law sc_law rfl (p_law (adOf K) T.ok) fun cdv Aa outer s H E hr tk hp nd =>
  (vss_cons (vs_stS (i := 1) (ve_fn (ok_z_law_state T) (hr.mono (by decide)) tk rfl T.g_z_law_state T.F_z_law_state.kp T.b_z_law_state (va_cons (ve_var 0) va_nil)) nd rfl (by first | exact .inl rfl | exact .inr rfl))
  (vss_cons (vs_par false false rfl nd rfl rfl (by decide) rfl rfl (ve_add ve_int (ve_fn (ok_z_law_take T) (hr.mono (by decide)) tk rfl T.g_z_law_take T.F_z_law_take.kp T.b_z_law_take (va_cons (ve_var 1) (va_cons ve_int va_nil)))) (ve_add ve_int (ve_fn (ok_z_law_take T) (hr.mono (by decide)) tk rfl T.g_z_law_take T.F_z_law_take.kp T.b_z_law_take (va_cons (ve_var 1) (va_cons ve_int va_nil)))) rfl)
  (vss_cons (vs_set (i := 4) (ve_fn (ok_z_law_left T) (hr.mono (by decide)) tk rfl T.g_z_law_left T.F_z_law_left.kp T.b_z_law_left (va_cons (ve_var 2) (va_cons (ve_var 3) va_nil))) nd rfl (by first | exact .inl rfl | exact .inr rfl))
  (vss_cons (vs_if (vt_bool (vw_or (vt_not (vt_val (ve_fn (ok_z_law_same T) (hr.mono (by decide)) tk rfl T.g_z_law_same T.F_z_law_same.kp T.b_z_law_same (va_cons (ve_fn (ok_left_over T) (hr.mono (by decide)) tk rfl T.g_left_over T.F_left_over.kp T.b_left_over (va_cons (ve_var 2) (va_cons (ve_var 3) va_nil))) (va_cons (ve_var 4) va_nil))))) (vw_or1 (vt_not (vt_val (ve_fn (ok_z_law_same T) (hr.mono (by decide)) tk rfl T.g_z_law_same T.F_z_law_same.kp T.b_z_law_same (va_cons (ve_fn (ok_left_by_turns T) (hr.mono (by decide)) tk rfl T.g_left_by_turns T.F_left_by_turns.kp T.b_left_by_turns (va_cons (ve_var 2) (va_cons (ve_var 3) va_nil))) (va_cons (ve_var 4) va_nil)))))))) (vss_one (vs_ret ve_bl)) vss_nil)
  (vss_cons (vs_set (i := 5) (ve_add ve_int (ve_fn (ok_z_law_take T) (hr.mono (by decide)) tk rfl T.g_z_law_take T.F_z_law_take.kp T.b_z_law_take (va_cons (ve_var 1) (va_cons ve_int va_nil)))) nd rfl (by first | exact .inl rfl | exact .inr rfl))
  (vss_cons (vs_if (vt_bool (vw_or (vt_not (vt_val (ve_fn (ok_z_law_same T) (hr.mono (by decide)) tk rfl T.g_z_law_same T.F_z_law_same.kp T.b_z_law_same (va_cons (ve_fn (ok_left_over T) (hr.mono (by decide)) tk rfl T.g_left_over T.F_left_over.kp T.b_left_over (va_cons (ve_var 5) (va_cons (ve_var 3) va_nil))) (va_cons (ve_fn (ok_left_by_turns T) (hr.mono (by decide)) tk rfl T.g_left_by_turns T.F_left_by_turns.kp T.b_left_by_turns (va_cons (ve_var 5) (va_cons (ve_var 3) va_nil))) va_nil))))) (vw_or1 (vt_not (vt_val (ve_fn (ok_z_law_same T) (hr.mono (by decide)) tk rfl T.g_z_law_same T.F_z_law_same.kp T.b_z_law_same (va_cons (ve_fn (ok_left_over T) (hr.mono (by decide)) tk rfl T.g_left_over T.F_left_over.kp T.b_left_over (va_cons (ve_var 5) (va_cons (ve_var 3) va_nil))) (va_cons (ve_fn (ok_z_law_turns T) (hr.mono (by decide)) tk rfl T.g_z_law_turns T.F_z_law_turns.kp T.b_z_law_turns (va_cons (ve_var 5) (va_cons (ve_var 3) va_nil))) va_nil)))))))) (vss_one (vs_ret ve_bl)) vss_nil)
  (vss_cons (vs_set (i := 6) (ve_add ve_int (ve_fn (ok_z_law_great T) (hr.mono (by decide)) tk rfl T.g_z_law_great T.F_z_law_great.kp T.b_z_law_great (va_cons (ve_var 1) va_nil))) nd rfl (by first | exact .inl rfl | exact .inr rfl))
  (vss_cons (vs_set (i := 7) ve_int nd rfl (by first | exact .inl rfl | exact .inr rfl))
  (vss_cons (vs_while hp (vt_cmp op_le ov_cmp (ve_mul ve_int (ve_var 7)) (ve_var 6) (nobehind _ (by decide) (by decide))) (vss_one (vs_set (i := 7) (ve_mul ve_int (ve_var 7)) nd rfl (by first | exact .inl rfl | exact .inr rfl))))
  (vss_cons (vs_if (vt_not (vt_val (ve_fn (ok_z_law_same T) (hr.mono (by decide)) tk rfl T.g_z_law_same T.F_z_law_same.kp T.b_z_law_same (va_cons (ve_fn (ok_left_over T) (hr.mono (by decide)) tk rfl T.g_left_over T.F_left_over.kp T.b_left_over (va_cons (ve_var 6) (va_cons ve_int va_nil))) (va_cons (ve_add (ve_mul ve_int (ve_sub (ve_var 6) (ve_var 7))) ve_int) va_nil))))) (vss_one (vs_ret ve_bl)) vss_nil)
  (vss_cons (vs_par false false rfl nd rfl rfl (by decide) rfl rfl (ve_fn (ok_left_over T) (hr.mono (by decide)) tk rfl T.g_left_over T.F_left_over.kp T.b_left_over (va_cons (ve_var 6) (va_cons (ve_var 3) va_nil))) (ve_fn (ok_left_over T) (hr.mono (by decide)) tk rfl T.g_left_over T.F_left_over.kp T.b_left_over (va_cons (ve_add (ve_var 6) ve_int) (va_cons (ve_var 3) va_nil))) rfl)
  (vss_cons (vs_if (vt_bool (vw_or (vt_not (vt_val (ve_fn (ok_z_law_is_whole T) (hr.mono (by decide)) tk rfl T.g_z_law_is_whole T.F_z_law_is_whole.kp T.b_z_law_is_whole (va_cons (ve_var 8) va_nil)))) (vw_or (vt_not (vt_chain op_le op_le ov_cmp ov_cmp ve_int (ve_var 8) (ve_var 6))) (vw_or1 (vt_not (vt_val (ve_fn (ok_z_law_same T) (hr.mono (by decide)) tk rfl T.g_z_law_same T.F_z_law_same.kp T.b_z_law_same (va_cons (ve_var 9) (va_cons (ve_add (ve_mod (ve_callTy call_int1 cv_int rfl T.m_int (by decide +kernel) (va_cons (ve_add (ve_sub (ve_var 8) ve_int) (ve_var 3)) va_nil)) (ve_add (ve_var 6) ve_int)) ve_int) va_nil))))))))) (vss_one (vs_ret ve_bl)) vss_nil)
  (vss_cons (vs_set (i := 10) (ve_lst (va_cons (ve_tup (va_cons (ve_gdef rfl T.g_left_by_turns) (va_cons (ve_tup (va_cons ve_int (va_cons ve_int va_nil))) va_nil))) (va_cons (ve_tup (va_cons (ve_gdef rfl T.g_left_over) (va_cons (ve_tup (va_cons ve_int (va_cons ve_int va_nil))) va_nil))) va_nil))) nd rfl (by first | exact .inl rfl | exact .inr rfl))
  (vss_cons (vs_for hp rfl (vi_seq false (ve_lst (va_cons ve_int (va_cons (ve_neg ve_int) (va_cons ve_non (va_cons ve_bl (va_cons ve_str va_nil))))))) (vg_name 11 nd) (vss_one (vs_set (i := 10) (ve_add (ve_var 10) (ve_lst (va_cons (ve_tup (va_cons (ve_gdef rfl T.g_left_over) (va_cons (ve_tup (va_cons (ve_var 11) (va_cons ve_int va_nil))) va_nil))) (va_cons (ve_tup (va_cons (ve_gdef rfl T.g_left_by_turns) (va_cons (ve_tup (va_cons (ve_var 11) (va_cons ve_int va_nil))) va_nil))) va_nil)))) nd rfl (by first | exact .inl rfl | exact .inr rfl))))
  (vss_cons (vs_for hp rfl (vi_seq false (ve_lst (va_cons ve_int (va_cons ve_int (va_cons ve_non (va_cons ve_bl va_nil)))))) (vg_name 11 nd) (vss_one (vs_set (i := 10) (ve_add (ve_var 10) (ve_lst (va_cons (ve_tup (va_cons (ve_gdef rfl T.g_left_over) (va_cons (ve_tup (va_cons ve_int (va_cons (ve_var 11) va_nil))) va_nil))) (va_cons (ve_tup (va_cons (ve_gdef rfl T.g_left_by_turns) (va_cons (ve_tup (va_cons ve_int (va_cons (ve_var 11) va_nil))) va_nil))) va_nil)))) nd rfl (by first | exact .inl rfl | exact .inr rfl))))
  (vss_one (vs_ret (ve_fn (ok_z_law_all_malformed T) (hr.mono (by decide)) tk rfl T.g_z_law_all_malformed T.F_z_law_all_malformed.kp T.b_z_law_all_malformed (va_cons (ve_var 10) va_nil)))))))))))))))))))
end
/-! ### the head -/
def nms0 : List Str := ["is_integer", "is_count", "check_count", "left_over", "left_by_turns", "_law_state", "_law_take", "_law_is_whole", "_law_same", "_law_told", "_law_all_malformed", "_law_great", "_law_left", "_law_turns", "Fault", "Malformed", "Refused", "MOST_NUMBER"]
def nms : List Str := nms0
abbrev Rw : PySem.W.OpenRow := PySem.W.OpenLaw.row PySem.Challenge.rw_radixroads_k41_whole_people_in_a_ring
abbrev hk : PySem.W.Hook := hookL 5 fa fn
def ob (s : PySem.W.SharedT) : He.AlD := obsLG 5 fa fn (HandSHeadRun.getT s)
theorem ob_eq (s : PySem.W.SharedT) : ob s = hk.obs s.abs := obsLG_eq (HandSHeadRun.getT_eq s)
theorem run (w : World) : HandSHeadRun.RunEq Rw (PySem.W.view Rw.prog [22]) hk ob 3000 nms w := by
  intro os
  kernel_rfl
theorem nm_law : (HandSHeadRun.topDef Rw.prog 22).name = ("law" : Str) := by kernel_rfl
theorem at_law {w : World} {K : PySem.W.Frag} {mg : Str → Option Value} {fa' : Addr} {h : Heap} (X : K.In h) (G : h.Ns mainGlobals mg) (hfa : mg ("law" : Str) = some (.ref fa')) (c : SaysL fa fn K) : LamX.LawAtS PySem.Challenge.rw_radixroads_k41_whole_people_in_a_ring w K (L2.CX PySem.Challenge.rw_radixroads_k41_whole_people_in_a_ring.prog w) 7 63 "script" mg fa' h := by
  have T : Txt K mg := ⟨c, fun x u e => PySem.W.mg_of X G e, fun x e => PySem.W.mg_none_of X G e⟩
  have e := hfa.symm.trans T.g_law
  cases e
  have b := T.b_law
  refine ⟨_, [], _, fun p z => (nomatch z), fun p z => (nomatch z), fun p z => (nomatch z), fun s u => law_binds T.F_law (fun _ _ _ _ _ _ _ => rfl) s u, fun H a ns hl hbits _ hS => law_sp (scr_of hl hbits) hS, fun base hb hn _ => ok_law T⟩
end K41
open PySem PySem.W PySem.Calls PyProof.Rows
set_option maxHeartbeats 0 in
theorem PySem.Challenge.cw_radixroads_k41_whole_people_in_a_ring_holds : PySem.Challenge.rw_radixroads_k41_whole_people_in_a_ring.Holds := by
  w_on; o_law
  refine HandSHeadRun.head_any (r := OpenLaw.row PySem.Challenge.rw_radixroads_k41_whole_people_in_a_ring) (q := view (OpenLaw.row PySem.Challenge.rw_radixroads_k41_whole_people_in_a_ring).prog [22]) (H := K41.hk) (ob := K41.ob) (M := 3000) (loose := K41.nms) (d := HandSHeadRun.topDef (OpenLaw.row PySem.Challenge.rw_radixroads_k41_whole_people_in_a_ring).prog 22) (kwd := []) K41.ob_eq
    (by kernel_rfl) (fun s => by kernel_rfl) K41.run (by kernel_rfl) (by kernel_rfl) (by kernel_rfl) (by rfl) (by first | assumption | decide +kernel) (by decide +kernel) ⟨rfl, rfl, rfl, rfl, rfl, by decide +kernel⟩ ?hw ?hc
  case hw => w_witness2
  case hc =>
    refine LamX.walk_ofTsE (l := PySem.Challenge.rw_radixroads_k41_whole_people_in_a_ring) (n := 63) (k := 7) (x := "script") (CX := fun w => L2.CX (PySem.Challenge.rw_radixroads_k41_whole_people_in_a_ring).prog w) rfl (by decide) (by kernel_rfl) ⟨rfl, by decide, by decide⟩ ?F (fun w H s e s' h => L3.law_cx h)
    intro w mg fa h Y G hmg0
    obtain ⟨K, KX, c⟩ := Y
    have hmg : mg ("law" : PySem.Str) = some (.ref fa) := by
      rw [← K41.nm_law]
      exact hmg0
    exact ⟨K, KX, K41.at_law KX G hmg c⟩
#print axioms PySem.Challenge.cw_radixroads_k41_whole_people_in_a_ring_holds
