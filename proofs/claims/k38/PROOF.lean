import PyProof.Rows.All
import Wide.All
import OpenK.AllK
import Wide.FinOn
import HandS.ForMost
import HandS.ForExc
import HandS.Wide
import HandS.TryMany
import HandS.IsInst
import HandS.Conv
import HandS.Style
import HandS.TupAny
import HandS.CallLocal
import HandS.ExcInit
import HandS.ExcField
import HandS.TupMul
import HandS.WideBits
import HandS.Defaults
import HandS.Head0
import HandS.Head1
import HandS.Head2
import HandS.HeadEnd
import HandS.HeadHook1
import HandS.HeadHook2
import HandS.HeadWalk
import KE.GoesMore
import HandS.Zip
import HandS.Deep
import HandS.SortInts
import PyProof.P3In
import HandS.SlotsOwn
import KE.SortData
import KE.KDictZip
import KE.KFmtOwn
import HandS.TupLen
import HandS.SetFor
import HandS.Dict
import PySem.Challenge.RW_radixroads_k38_whole_fractions_in_bases
set_option Elab.async false
set_option linter.all false
set_option maxRecDepth 100000
/-! Values without the heap. -/
namespace L3
open PySem PySem.Spec L2

inductive PV where
  | non | bl (b : Bool) | int (i : Int) | str (x : Str) | ty (n : String) | adr (a : Addr)
  | tup (xs : List PV) | lst (xs : List PV)
  | obj (C : Addr) (ns : List Str) (xs : List PV)
  | dk (ks : List Key) (xs : List PV) | dt (ks : List (List Key)) (xs : List PV)
  | own (p : PV) | new (p : PV) | st | scr (xs : List PV)
structure EX where
  C : Addr
  fs : Option (Str × PV)
abbrev PEnv := List (Option PV)
abbrev PQ := PV → Prop
abbrev XQ := EX → Prop
abbrev WEx := PEnv → PQ → XQ → Prop
abbrev WTs := PEnv → (Bool → Prop) → XQ → Prop
abbrev WAs := PEnv → (List PV → Prop) → XQ → Prop
structure PEnds where
  nx : PEnv → Prop
  rt : PV → Prop
  bk : PEnv → Prop
  ct : PEnv → Prop
  ex : EX → PEnv → Prop
abbrev WSt := PEnds → PEnv → Prop
abbrev FS := List PV → PQ → XQ → Prop

/-! ### what a value stands for -/
section
variable (K : PySem.W.Frag) (H : Hp)
mutual
inductive Rep : PV → V → Prop
  | non : Rep .non .non
  | bl (b : Bool) : Rep (.bl b) (.bl b)
  | int (i : Int) : Rep (.int i) (.int i)
  | str (x : Str) : Rep (.str x) (.str x)
  | ty (n : String) : Rep (.ty n) (.ty n)
  | adr (a : Addr) : Rep (.adr a) (.ref a)
  | tup {a : Addr} {xs : List V} {ps : List PV} : H a = some (.tup xs) → Reps ps xs → Rep (.tup ps) (.ref a)
  | lst {a : Addr} {xs : List V} {ps : List PV} : H a = some (.lst xs) → Reps ps xs → Rep (.lst ps) (.ref a)
  | scr {a : Addr} {xs : List V} {ps : List PV} : SqL K H a xs → Reps ps xs → Rep (.scr ps) (.ref a)
  | obj {a C dx : Addr} {ns : List Str} {xs : List V} {ps : List PV} : H a = some (.ins C dx (ns.zip xs)) → ns.length = xs.length → Reps ps xs → Rep (.obj C ns ps) (.ref a)
  | dk {a : Addr} {ks : List Key} {xs : List V} {ps : List PV} : H a = some (.dK (ks.zip xs)) → ks.length = xs.length → Reps ps xs → Rep (.dk ks ps) (.ref a)
  | dt {a : Addr} {ks : List (List Key)} {xs : List V} {ps : List PV} : H a = some (.dT (ks.zip xs)) → ks.length = xs.length → Reps ps xs → Rep (.dt ks ps) (.ref a)
inductive Reps : List PV → List V → Prop
  | nil : Reps [] []
  | cons {p : PV} {v : V} {ps : List PV} {vs : List V} : Rep p v → Reps ps vs → Reps (p :: ps) (v :: vs)
end
end
theorem rd_mono {H H' : Hp} {a : Addr} {u : HO} (s : Same H H') (h : Rd H a u) : Rd H' a u := by
  rcases h with h | ⟨o, h⟩
  · exact .inl (s _ _ h)
  · exact .inr ⟨o, s _ _ h⟩
theorem sqT_mono {K : PySem.W.Frag} {H H' : Hp} {a : Addr} {xs : List V} (s : Same H H') (h : SqT K H a xs) : SqT K H' a xs := by
  rcases h with h | h
  · exact .inl (rd_mono s h)
  · exact .inr h
mutual
theorem Rep.mono {K : PySem.W.Frag} {H H' : Hp} (s : Same H H') : ∀ {p : PV} {v : V}, Rep K H p v → Rep K H' p v
  | _, _, .non => .non
  | _, _, .bl _ => .bl _
  | _, _, .int _ => .int _
  | _, _, .str _ => .str _
  | _, _, .ty _ => .ty _
  | _, _, .adr _ => .adr _
  | _, _, .tup h r => .tup (s _ _ h) (Reps.mono s r)
  | _, _, .lst h r => .lst (s _ _ h) (Reps.mono s r)
  | _, _, .scr h r => .scr (s.seq h) (Reps.mono s r)
  | _, _, .obj h l r => .obj (s _ _ h) l (Reps.mono s r)
  | _, _, .dk h l r => .dk (s _ _ h) l (Reps.mono s r)
  | _, _, .dt h l r => .dt (s _ _ h) l (Reps.mono s r)
theorem Reps.mono {K : PySem.W.Frag} {H H' : Hp} (s : Same H H') : ∀ {ps : List PV} {vs : List V}, Reps K H ps vs → Reps K H' ps vs
  | _, _, .nil => .nil
  | _, _, .cons h r => .cons (Rep.mono s h) (Reps.mono s r)
end
section
variable {K : PySem.W.Frag} {H H' : Hp}
theorem Reps.length : ∀ {ps : List PV} {vs : List V}, Reps K H ps vs → ps.length = vs.length
  | _, _, .nil => rfl
  | _, _, .cons _ r => by rw [List.length_cons, List.length_cons, Reps.length r]
theorem Reps.get : ∀ {ps : List PV} {vs : List V} {i : Nat} {p : PV}, Reps K H ps vs → ps[i]? = some p → ∃ v, vs[i]? = some v ∧ Rep K H p v
  | _, _, _, _, .nil, h => by simp at h
  | _, _, 0, _, .cons r _, h => by simp at h; subst h; exact ⟨_, rfl, r⟩
  | _, _, i + 1, p, .cons _ t, h => by
    obtain ⟨v, h1, h2⟩ := Reps.get (i := i) (p := p) t (by simpa using h)
    exact ⟨v, by simpa using h1, h2⟩
theorem Reps.append : ∀ {ps qs : List PV} {vs us : List V}, Reps K H ps vs → Reps K H qs us → Reps K H (ps ++ qs) (vs ++ us)
  | _, _, _, _, .nil, s => s
  | _, _, _, _, .cons r t, s => .cons r (Reps.append t s)
theorem Reps.take : ∀ {ps : List PV} {vs : List V} (n : Nat), Reps K H ps vs → Reps K H (ps.take n) (vs.take n)
  | _, _, 0, _ => .nil
  | _, _, _ + 1, .nil => .nil
  | _, _, n + 1, .cons r t => .cons r (Reps.take n t)
theorem Reps.drop : ∀ {ps : List PV} {vs : List V} (n : Nat), Reps K H ps vs → Reps K H (ps.drop n) (vs.drop n)
  | _, _, 0, r => r
  | _, _, _ + 1, .nil => .nil
  | _, _, n + 1, .cons _ t => Reps.drop n t
theorem Reps.reverse : ∀ {ps : List PV} {vs : List V}, Reps K H ps vs → Reps K H ps.reverse vs.reverse
  | _, _, .nil => .nil
  | _, _, .cons r t => by
    rw [List.reverse_cons, List.reverse_cons]
    exact Reps.append (Reps.reverse t) (.cons r .nil)
theorem Reps.set {p : PV} {v : V} (q : Rep K H p v) : ∀ {ps : List PV} {vs : List V} (i : Nat), Reps K H ps vs → Reps K H (ps.set i p) (vs.set i v)
  | _, _, _, .nil => .nil
  | _, _, 0, .cons _ t => .cons q t
  | _, _, i + 1, .cons r t => .cons r (Reps.set q i t)
theorem Reps.snoc {p : PV} {v : V} {ps : List PV} {vs : List V} (t : Reps K H ps vs) (q : Rep K H p v) : Reps K H (ps ++ [p]) (vs ++ [v]) := t.append (.cons q .nil)
theorem Reps.replicate {p : PV} {v : V} (q : Rep K H p v) : ∀ n : Nat, Reps K H (List.replicate n p) (List.replicate n v)
  | 0 => .nil
  | n + 1 => .cons q (Reps.replicate q n)
theorem Reps.ints : ∀ {ns : List Int} {vs : List V}, Reps K H (ns.map PV.int) vs → vs = ns.map V.int
  | [], _, .nil => rfl
  | n :: ns, _, .cons (.int _) t => by rw [Reps.ints t]; rfl
theorem Reps.of_ints : ∀ (ns : List Int), Reps K H (ns.map PV.int) (ns.map V.int)
  | [] => .nil
  | n :: ns => .cons (.int _) (Reps.of_ints ns)
theorem Reps.bls : ∀ {ns : List Bool} {vs : List V}, Reps K H (ns.map PV.bl) vs → vs = ns.map V.bl
  | [], _, .nil => rfl
  | n :: ns, _, .cons (.bl _) t => by rw [Reps.bls t]; rfl
end

/-! ### what stands at an address that is changed -/
open Classical in
noncomputable def hide (M : Addr → Prop) (H : Hp) : Hp := fun b => if M b then none else H b
theorem hide_some {M : Addr → Prop} {H : Hp} {b : Addr} {o : HO} : hide M H b = some o ↔ (¬ M b ∧ H b = some o) := by
  unfold hide
  by_cases h : M b
  · rw [if_pos h]
    exact Iff.intro (fun z => by cases z) (fun z => absurd h z.1)
  · rw [if_neg h]
    exact Iff.intro (fun z => And.intro h z) (fun z => z.2)
theorem hide_sub {M : Addr → Prop} {H : Hp} : Same (hide M H) H := fun b o h => (hide_some.mp h).2
theorem hide_step {M : Addr → Prop} {H H' : Hp} (s : ∀ b o, ¬ M b → H b = some o → H' b = some o) : Same (hide M H) (hide M H') := fun b o h => by
  obtain ⟨h1, h2⟩ := hide_some.mp h
  exact hide_some.mpr ⟨h1, s b o h1 h2⟩
theorem hide_anti {M M' : Addr → Prop} {H : Hp} (s : ∀ b, M' b → M b) : Same (hide M H) (hide M' H) := fun b o h => by
  obtain ⟨h1, h2⟩ := hide_some.mp h
  exact hide_some.mpr ⟨fun z => h1 (s b z), h2⟩

section
variable (K : PySem.W.Frag) (H : Hp)
inductive Top : PV → HO → Prop
  | lst {ps : List PV} {xs : List V} : Reps K H ps xs → Top (.lst ps) (.lst xs)
  | dk {ks : List Key} {ps : List PV} {xs : List V} : ks.length = xs.length → Reps K H ps xs → Top (.dk ks ps) (.dK (ks.zip xs))
  | dt {ks : List (List Key)} {ps : List PV} {xs : List V} : ks.length = xs.length → Reps K H ps xs → Top (.dt ks ps) (.dT (ks.zip xs))
end
theorem Top.mono {K : PySem.W.Frag} {H H' : Hp} (s : Same H H') {p : PV} {o : HO} : Top K H p o → Top K H' p o
  | .lst r => .lst (r.mono s)
  | .dk l r => .dk l (r.mono s)
  | .dt l r => .dt l (r.mono s)
theorem Top.rep {K : PySem.W.Frag} {H : Hp} {p : PV} {o : HO} {a : Addr} (t : Top K H p o) (h : H a = some o) : Rep K H p (.ref a) := by
  cases t with
  | lst r => exact .lst h r
  | dk l r => exact .dk h l r
  | dt l r => exact .dt h l r

def StOk (H : Hp) (a : Addr) : Prop := ∃ x y : Int, H a = some (.lst [.int x, .int y]) ∧ 0 ≤ x ∧ 0 ≤ y ∧ y < 2147483647

structure Gd where
  N : Addr → Prop
  S : Addr → Prop
  H0 : Hp
def isMut : PV → Bool
  | .own _ => true
  | .st => true
  | _ => false
/-- what may change -/
def MA (G : Gd) (ρ : PEnv) (σ : St) (a : Addr) : Prop := G.N a ∨ G.S a ∨ ∃ (i : Nat) (p : PV), ρ[i]? = some (some p) ∧ isMut p = true ∧ σ[i]? = some (some (.ref a))
/-- the drawn state -/
def SA (G : Gd) (ρ : PEnv) (σ : St) (a : Addr) : Prop := G.S a ∨ ∃ i : Nat, ρ[i]? = some (some .st) ∧ σ[i]? = some (some (.ref a))
theorem SA.ma {G : Gd} {ρ : PEnv} {σ : St} {a : Addr} (h : SA G ρ σ a) : MA G ρ σ a := by
  rcases h with h | ⟨i, h1, h2⟩
  · exact .inr (.inl h)
  · exact .inr (.inr ⟨i, _, h1, rfl, h2⟩)
section
variable (K : PySem.W.Frag) (Sa M : Addr → Prop) (H0 : Hp)
inductive SRep (H : Hp) : PV → V → Prop
  | plain {p : PV} {v : V} : Rep K (hide M H) p v → SRep H p v
  | own {p : PV} {a : Addr} {o : HO} : M a → ¬ Sa a → H0 a = none → H a = some o → Top K (hide M H) p o → SRep H (.own p) (.ref a)
  | st {a : Addr} : Sa a → SRep H .st (.ref a)
/-- new: laid since Hb -/
inductive ERep (Hb H : Hp) : PV → V → Prop
  | s {p : PV} {v : V} : SRep K Sa M H0 H p v → ERep Hb H p v
  | new {p : PV} {a : Addr} {o : HO} : ¬ M a → Hb a = none → H a = some o → Top K (hide (fun b => M b ∨ b = a) H) p o → ERep Hb H (.new p) (.ref a)
end
structure Good (K : PySem.W.Frag) (G : Gd) (ρ : PEnv) (σ : St) (H : Hp) : Prop where
  len : ρ.length = σ.length
  fr : ∀ b o, ¬ G.S b → G.H0 b = some o → H b = some o
  nn : ∀ b, G.N b → ¬ G.S b ∧ ∃ o, G.H0 b = some o
  sa : ∀ a, SA G ρ σ a → StOk H a
  sl : ∀ a, SA G ρ σ a → G.S a ∨ G.H0 a = none
  slot : ∀ (i : Nat) (p : PV), ρ[i]? = some (some p) → ∃ v, σ[i]? = some (some v) ∧ SRep K (SA G ρ σ) (MA G ρ σ) G.H0 H p v
  inj : ∀ (i j : Nat) (p q : PV) (a : Addr), ρ[i]? = some (some p) → ρ[j]? = some (some q) → isMut p = true → isMut q = true → σ[i]? = some (some (.ref a)) → σ[j]? = some (some (.ref a)) → i = j
def Step (G : Gd) (ρ : PEnv) (σ : St) (H H' : Hp) : Prop := ∀ b o, ¬ SA G ρ σ b → H b = some o → H' b = some o
section
variable {K : PySem.W.Frag} {G : Gd} {ρ : PEnv} {σ : St} {H H' H'' : Hp} {a : Addr}
theorem Step.refl : Step G ρ σ H H := fun _ _ _ h => h
theorem Step.trans (s : Step G ρ σ H H') (t : Step G ρ σ H' H'') : Step G ρ σ H H'' := fun b o n h => t b o n (s b o n h)
theorem Step.of_same (s : Same H H') : Step G ρ σ H H' := fun b o _ h => s b o h
theorem same_upd {o : HO} (h : H a = none) : Same H (upd H a o) := fun b u e => by
  rw [upd_ne (ne_of_none e h)]
  exact e
theorem Step.hide (s : Step G ρ σ H H') : Same (hide (MA G ρ σ) H) (L3.hide (MA G ρ σ) H') := hide_step fun b o n h => s b o (fun z => n z.ma) h
theorem Good.ma_some (g : Good K G ρ σ H) (h : MA G ρ σ a) : ∃ o, H a = some o := by
  rcases h with h | h | ⟨i, p, h1, h2, h3⟩
  · obtain ⟨n, o, e⟩ := g.nn a h
    exact ⟨o, g.fr a o n e⟩
  · obtain ⟨x, y, e, _⟩ := g.sa a (.inl h)
    exact ⟨_, e⟩
  · obtain ⟨v, e, r⟩ := g.slot i p h1
    rw [h3] at e
    cases e
    cases r with
    | plain r => cases r <;> cases h2
    | own _ _ _ e _ => exact ⟨_, e⟩
    | st s =>
      obtain ⟨x, y, e, _⟩ := g.sa _ s
      exact ⟨_, e⟩
theorem Good.new (g : Good K G ρ σ H) (h : H a = none) : ¬ MA G ρ σ a := fun z => by
  obtain ⟨o, e⟩ := g.ma_some z
  rw [h] at e
  cases e
theorem SRep.mono (s : Step G ρ σ H H') {p : PV} {v : V} : SRep K (SA G ρ σ) (MA G ρ σ) G.H0 H p v → SRep K (SA G ρ σ) (MA G ρ σ) G.H0 H' p v
  | .plain r => .plain (r.mono s.hide)
  | .own m n h e t => .own m n h (s _ _ n e) (t.mono s.hide)
  | .st h => .st h
theorem ERep.mono (s : Step G ρ σ H H') {Hb : Hp} {p : PV} {v : V} : ERep K (SA G ρ σ) (MA G ρ σ) G.H0 Hb H p v → ERep K (SA G ρ σ) (MA G ρ σ) G.H0 Hb H' p v
  | .s r => .s (r.mono s)
  | .new n h e t => .new n h (s _ _ (fun z => n z.ma) e) (t.mono (hide_step fun b o z y => s b o (fun w => z (.inl w.ma)) y))
/-- what was tracked is tracked -/
def Gr (Hb H : Hp) : Prop := ∀ a, H a = none → Hb a = none
theorem Gr.refl : Gr H H := fun _ h => h
theorem Gr.trans (a : Gr H H') (b : Gr H' H'') : Gr H H'' := fun x h => a x (b x h)
theorem Step.gr (s : Step G ρ σ H H') (g : Good K G ρ σ H') : Gr H H' := fun x h => by
  cases e : H x with
  | none => rfl
  | some o =>
    by_cases z : SA G ρ σ x
    · obtain ⟨_, _, q, _⟩ := g.sa x z
      rw [h] at q
      cases q
    · rw [s x o z e] at h
      cases h
theorem ERep.base {Sa M : Addr → Prop} {H0 Hb Hc : Hp} (s : Gr Hc Hb) {p : PV} {v : V} : ERep K Sa M H0 Hb H p v → ERep K Sa M H0 Hc H p v
  | .s r => .s r
  | .new n h e t => .new n (s _ h) e t
theorem Good.step (g : Good K G ρ σ H) (s : Step G ρ σ H H') (t : ∀ a, SA G ρ σ a → StOk H' a) : Good K G ρ σ H' where
  len := g.len
  fr := fun b o n h => by
    by_cases z : SA G ρ σ b
    · rcases g.sl b z with y | y
      · exact absurd y n
      · rw [y] at h; cases h
    · exact s b o z (g.fr b o n h)
  nn := g.nn
  sa := t
  sl := g.sl
  slot := fun i p h => by
    obtain ⟨v, e, r⟩ := g.slot i p h
    exact ⟨v, e, r.mono s⟩
  inj := g.inj
theorem StOk.mono (s : Same H H') (h : StOk H a) : StOk H' a := by
  obtain ⟨x, y, e, r⟩ := h
  exact ⟨x, y, s _ _ e, r⟩
theorem Good.same (g : Good K G ρ σ H) (s : Same H H') : Good K G ρ σ H' := g.step (.of_same s) fun a z => (g.sa a z).mono s
theorem Good.laid (g : Good K G ρ σ H) {o : HO} (h : H a = none) : Good K G ρ σ (upd H a o) := g.same (same_upd h)

/-! ### the judgements -/
def KQ (K : PySem.W.Frag) (G : Gd) (ρ : PEnv) (σ : St) (Hb H : Hp) (Qp : PQ) (Q : VK) : Prop :=
  ∀ p v H', Step G ρ σ H H' → Good K G ρ σ H' → ERep K (SA G ρ σ) (MA G ρ σ) G.H0 Hb H' p v → Qp p → Q v H'
/-- an exception as told -/
def XRep (K : PySem.W.Frag) (M : Addr → Prop) (H : Hp) (x : EX) (cls : Value) (d : Option Addr) : Prop :=
  cls = .ref x.C ∧ ∀ f p, x.fs = some (f, p) → ∃ dd fs v, d = some dd ∧ H dd = some (.xd fs) ∧ fs.lookup f = some v ∧ Rep K (hide M H) p v
def KX (K : PySem.W.Frag) (W : WX) (G : Gd) (ρ : PEnv) (σ : St) (H : Hp) (Rp : XQ) : Prop :=
  ∀ x cls d H', Step G ρ σ H H' → Good K G ρ σ H' → XRep K (MA G ρ σ) H' x cls d → Rp x → W cls d σ H'
theorem KX.step {W : WX} {Rp : XQ} (k : KX K W G ρ σ H Rp) (s : Step G ρ σ H H') : KX K W G ρ σ H' Rp := fun x cls d H2 s2 g2 r h => k x cls d H2 (s.trans s2) g2 r h
theorem KQ.step {Hb : Hp} {Qp : PQ} {Q : VK} (k : KQ K G ρ σ Hb H Qp Q) (s : Step G ρ σ H H') : KQ K G ρ σ Hb H' Qp Q := fun p v H2 s2 g2 r h => k p v H2 (s.trans s2) g2 r h
end
def lftE (K : PySem.W.Frag) (W : WX) (w : WEx) : TE := fun σ H Q => ∃ G ρ Qp Rp, Good K G ρ σ H ∧ w ρ Qp Rp ∧ KQ K G ρ σ H H Qp Q ∧ KX K W G ρ σ H Rp
def lftT (K : PySem.W.Frag) (W : WX) (w : WTs) : TT := fun σ H Q => ∃ G ρ Qp Rp, Good K G ρ σ H ∧ w ρ Qp Rp ∧ (∀ b H', Step G ρ σ H H' → Good K G ρ σ H' → Qp b → Q b H') ∧ KX K W G ρ σ H Rp
inductive EReps (K : PySem.W.Frag) (Sa M : Addr → Prop) (H0 Hb H : Hp) : List PV → List V → Prop
  | nil : EReps K Sa M H0 Hb H [] []
  | cons {p v ps vs} : ERep K Sa M H0 Hb H p v → EReps K Sa M H0 Hb H ps vs → EReps K Sa M H0 Hb H (p :: ps) (v :: vs)
def lftA (K : PySem.W.Frag) (W : WX) (w : WAs) : TA := fun σ H Q => ∃ G ρ Qp Rp, Good K G ρ σ H ∧ w ρ Qp Rp ∧
  (∀ ps vs H', Step G ρ σ H H' → Good K G ρ σ H' → EReps K (SA G ρ σ) (MA G ρ σ) G.H0 H H' ps vs → Qp ps → Q vs H') ∧ KX K W G ρ σ H Rp
structure VE (X : Cx) (W : WX) (e : Expr) (w : WEx) : Prop where
  pe : PE X e (lftE X.K W w)
structure VT (X : Cx) (W : WX) (e : Expr) (w : WTs) : Prop where
  pt : PT X e (lftT X.K W w)
structure VA (X : Cx) (W : WX) (es : List Expr) (w : WAs) : Prop where
  pa : PA X es (lftA X.K W w)
section
variable {X : Cx} {W : WX} {e : Expr} {es : List Expr} {K : PySem.W.Frag} {G : Gd} {ρ : PEnv} {σ : St} {H H' Hb : Hp}
theorem PE.imp {t t' : TE} (h : PE X e t) (i : ∀ σ H Q, t' σ H Q → t σ H Q) : PE X e t' := ⟨fun pins s σ H Q I q => h.run pins s σ H Q I (i σ H Q q)⟩
theorem PT.imp {t t' : TT} (h : PT X e t) (i : ∀ σ H Q, t' σ H Q → t σ H Q) : PT X e t' := ⟨fun pins s σ H Q I q => h.run pins s σ H Q I (i σ H Q q)⟩
theorem PA.imp {t t' : TA} (h : PA X es t) (i : ∀ σ H Q, t' σ H Q → t σ H Q) : PA X es t' := ⟨fun pos pins s σ H Q I q => h.run pos pins s σ H Q I (i σ H Q q)⟩
theorem PS.imp {st : Stmt} {t t' : TS} (h : PS X st t) (i : ∀ D σ H, t' D σ H → t D σ H) : PS X st t' := ⟨fun pins s σ H D I q => h.run pins s σ H D I (i D σ H q)⟩
theorem PSs.imp {st : List Stmt} {t t' : TS} (h : PSs X st t) (i : ∀ D σ H, t' D σ H → t D σ H) : PSs X st t' := ⟨fun pins s σ H D I q => h.run pins s σ H D I (i D σ H q)⟩
theorem EReps.mono (s : Step G ρ σ H H') : ∀ {ps : List PV} {vs : List V}, EReps K (SA G ρ σ) (MA G ρ σ) G.H0 Hb H ps vs → EReps K (SA G ρ σ) (MA G ρ σ) G.H0 Hb H' ps vs
  | _, _, .nil => .nil
  | _, _, .cons r t => .cons (r.mono s) (EReps.mono s t)
theorem EReps.base {Sa M : Addr → Prop} {H0 Hc : Hp} (s : Gr Hc Hb) : ∀ {ps : List PV} {vs : List V}, EReps K Sa M H0 Hb H ps vs → EReps K Sa M H0 Hc H ps vs
  | _, _, .nil => .nil
  | _, _, .cons r t => .cons (r.base s) (EReps.base s t)
theorem EReps.length {Sa M : Addr → Prop} {H0 : Hp} : ∀ {ps : List PV} {vs : List V}, EReps K Sa M H0 Hb H ps vs → ps.length = vs.length
  | _, _, .nil => rfl
  | _, _, .cons _ r => by rw [List.length_cons, List.length_cons, EReps.length r]
end

/-! ### names and constants -/
def wVar (i : Nat) : WEx := fun ρ Q _ => ∃ p, ρ[i]? = some (some p) ∧ Q p
def wC (p : PV) : WEx := fun _ Q _ => Q p
section
variable {X : Cx} {W : WX} {pos : Pos}
theorem ve_var (i : Nat) {x : Str} (hN : X.N[i]? = some x := by rfl) (hv : Vis X.env.scope x := by first | exact Or.inl rfl | exact Or.inr (Or.inl rfl) | exact Or.inr (Or.inr rfl)) (hd : (x == ("__debug__" : Str)) = false := by decide)
    (hcd : (x == ("__classdict__" : Str)) = false := by decide) : VE X W (.Name x pos) (wVar i) :=
  ⟨PE.imp (pe_var hN hv hd hcd) fun σ H Q ⟨G, ρ, Qp, Rp, g, ⟨p, e, q⟩, kq, _⟩ => by
    obtain ⟨v, e2, r⟩ := g.slot i p e
    exact ⟨v, e2, kq p v H .refl g (.s r) q⟩⟩
theorem ve_of_c {e : Expr} {v : V} {p : PV} (h : PE X e (tC v)) (r : ∀ H, Rep X.K H p v) : VE X W e (wC p) :=
  ⟨PE.imp h fun σ H Q ⟨G, ρ, Qp, Rp, g, q, kq, _⟩ => kq p v H .refl g (.s (.plain (r _))) q⟩
theorem ve_int {i j} : VE X W (.Constant (.int i) j pos) (wC (.int i)) := ve_of_c pe_int fun _ => .int i
theorem ve_bl {b j} : VE X W (.Constant (.bool b) j pos) (wC (.bl b)) := ve_of_c pe_bl fun _ => .bl b
theorem ve_non {j} : VE X W (.Constant .none j pos) (wC .non) := ve_of_c pe_non fun _ => .non
theorem ve_str {x j} : VE X W (.Constant (.str x) j pos) (wC (.str x)) := ve_of_c pe_str fun _ => .str x
end

/-! ### operators -/
/-- an operator by values -/
def OpV (X : Cx) (W : WX) (r : R2) (o : PV → PV → PQ → XQ → Prop) : Prop := ∀ {G ρ σ Hb H Qp Rp Q x y v u}, Good X.K G ρ σ H → Gr Hb H → ERep X.K (SA G ρ σ) (MA G ρ σ) G.H0 Hb H x v → ERep X.K (SA G ρ σ) (MA G ρ σ) G.H0 Hb H y u →
  o x y Qp Rp → KQ X.K G ρ σ Hb H Qp Q → KX X.K W G ρ σ H Rp → r v u H Q
def wOp (o : PV → PV → PQ → XQ → Prop) (a b : WEx) : WEx := fun ρ Q R => a ρ (fun x => b ρ (fun y => o x y Q R) R) R
section
variable {X : Cx} {W : WX} {pos : Pos} {a b : Expr} {wa wb : WEx} {r : R2} {o : PV → PV → PQ → XQ → Prop}
theorem lft_op (ho : OpV X W r o) {σ : St} {H : Hp} {Q : VK} (h : lftE X.K W (wOp o wa wb) σ H Q) : tOp r (lftE X.K W wa) (lftE X.K W wb) σ H Q := by
  obtain ⟨G, ρ, Qp, Rp, g, hw, kq, kx⟩ := h
  refine ⟨G, ρ, _, Rp, g, hw, fun p v H1 s1 g1 r1 hw1 => ?_, kx⟩
  refine ⟨G, ρ, _, Rp, g1, hw1, fun q u H2 s2 g2 r2 hw2 => ?_, kx.step s1⟩
  exact ho g2 ((s1.trans s2).gr g2) (r1.mono s2) (r2.base (s1.gr g1)) hw2 (kq.step (s1.trans s2)) (kx.step (s1.trans s2))
theorem ve_op {op : Operator} (ho : OpR X (binaryOp op) r) (hv : OpV X W r o) (ha : VE X W a wa) (hb : VE X W b wb) : VE X W (.BinOp a op b pos) (wOp o wa wb) :=
  ⟨PE.imp (pe_op ho ha.pe hb.pe) fun _ _ _ h => lft_op hv h⟩
end
end L3

/-! Values without the heap: operators, comparisons, tests. -/
namespace L3
open PySem PySem.Spec L2

def PV.items : PV → Option (List PV)
  | .lst ps => some ps
  | .own (.lst ps) => some ps
  | .new (.lst ps) => some ps
  | _ => none
def PV.asTup : PV → Option (List PV)
  | .tup ps => some ps
  | _ => none
/-- a list's or tuple's items -/
def PV.seq : PV → Option (List PV)
  | .tup ps => some ps
  | .scr ps => some ps
  | p => p.items
section
variable {K : PySem.W.Frag} {Sa M : Addr → Prop} {H0 Hb H : Hp} {p : PV} {v : V}
theorem ERep.items (r : ERep K Sa M H0 Hb H p v) {ps : List PV} (h : p.items = some ps) : ∃ a xs, v = .ref a ∧ H a = some (.lst xs) ∧ Reps K (hide M H) ps xs := by
  cases r with
  | s r =>
    cases r with
    | plain r =>
      cases r with
      | lst e q => cases h; exact ⟨_, _, rfl, hide_sub _ _ e, q⟩
      | _ => cases h
    | own m n e f t =>
      cases t with
      | lst q => cases h; exact ⟨_, _, rfl, f, q⟩
      | _ => cases h
    | st => cases h
  | new n e f t =>
    cases t with
    | lst q => cases h; exact ⟨_, _, rfl, f, q.mono (hide_anti fun _ z => .inl z)⟩
    | _ => cases h
theorem ERep.tup {ps : List PV} (r : ERep K Sa M H0 Hb H (.tup ps) v) : ∃ a xs, v = .ref a ∧ SqT K H a xs ∧ hide M H a = some (.tup xs) ∧ Reps K (hide M H) ps xs := by
  cases r with
  | s r =>
    cases r with
    | plain r =>
      cases r with
      | tup e q => exact ⟨_, _, rfl, .inl (.inl (hide_sub _ _ e)), e, q⟩
theorem ERep.scr {ps : List PV} (r : ERep K Sa M H0 Hb H (.scr ps) v) : ∃ a xs, v = .ref a ∧ SqL K H a xs ∧ Reps K (hide M H) ps xs := by
  cases r with
  | s r =>
    cases r with
    | plain r =>
      cases r with
      | scr e q => exact ⟨_, _, rfl, hide_sub.seq e, q⟩
theorem ERep.seq (r : ERep K Sa M H0 Hb H p v) {ps : List PV} (h : p.seq = some ps) : ∃ a xs, v = .ref a ∧ (SqL K H a xs ∨ SqT K H a xs) ∧ Reps K (hide M H) ps xs := by
  cases p with
  | tup qs =>
    obtain ⟨a, xs, e, t, _, q⟩ := r.tup
    cases h
    exact ⟨a, xs, e, .inr t, q⟩
  | scr qs =>
    obtain ⟨a, xs, e, t, q⟩ := r.scr
    cases h
    exact ⟨a, xs, e, .inl t, q⟩
  | _ =>
    obtain ⟨a, xs, e, t, q⟩ := r.items h
    exact ⟨a, xs, e, .inl (.of t), q⟩
theorem ERep.int {i : Int} (r : ERep K Sa M H0 Hb H (.int i) v) : v = .int i := by
  cases r with
  | s r => cases r with
    | plain r => cases r; rfl
theorem ERep.bl {b : Bool} (r : ERep K Sa M H0 Hb H (.bl b) v) : v = .bl b := by
  cases r with
  | s r => cases r with
    | plain r => cases r; rfl
theorem ERep.str {x : Str} (r : ERep K Sa M H0 Hb H (.str x) v) : v = .str x := by
  cases r with
  | s r => cases r with
    | plain r => cases r; rfl
theorem ERep.non (r : ERep K Sa M H0 Hb H .non v) : v = .non := by
  cases r with
  | s r => cases r with
    | plain r => cases r; rfl
theorem ERep.pint (i : Int) : ERep K Sa M H0 Hb H (.int i) (.int i) := .s (.plain (.int i))
theorem ERep.pbl (i : Bool) : ERep K Sa M H0 Hb H (.bl i) (.bl i) := .s (.plain (.bl i))
theorem ERep.pstr (i : Str) : ERep K Sa M H0 Hb H (.str i) (.str i) := .s (.plain (.str i))
end
section
variable {K : PySem.W.Frag} {G : Gd} {ρ : PEnv} {σ : St} {Hb H : Hp} {Qp : PQ} {Q : VK}
/-- a new list's end -/
theorem KQ.list (k : KQ K G ρ σ Hb H Qp Q) (g : Good K G ρ σ H) (gr : Gr Hb H) {ps : List PV} {xs : List V} (r : Reps K (hide (MA G ρ σ) H) ps xs) (h : Qp (.new (.lst ps))) {p : Addr} (hp : H p = none) : Q (.ref p) (upd H p (.lst xs)) :=
  k _ _ _ (.of_same (same_upd hp)) (g.laid hp) (.new (g.new hp) (gr _ hp) upd_same (.lst (r.mono fun b o z => by
    obtain ⟨z1, z2⟩ := hide_some.mp z
    have z3 := ne_of_none z2 hp
    exact hide_some.mpr ⟨fun y => y.elim z1 z3, by rw [upd_ne z3]; exact z2⟩))) h
theorem hide_upd {M : Addr → Prop} {p : Addr} {o : HO} (n : ¬ M p) : hide M (upd H p o) p = some o := hide_some.mpr ⟨n, upd_same⟩
/-- a new tuple's end -/
theorem KQ.tup (k : KQ K G ρ σ Hb H Qp Q) (g : Good K G ρ σ H) {ps : List PV} {xs : List V} (r : Reps K (hide (MA G ρ σ) H) ps xs) (h : Qp (.tup ps)) {p : Addr} (hp : H p = none) : Q (.ref p) (upd H p (.tup xs)) :=
  k _ _ _ (.of_same (same_upd hp)) (g.laid hp) (.s (.plain (.tup (hide_upd (g.new hp)) (r.mono (Step.hide (.of_same (same_upd hp))))))) h
theorem KQ.int (k : KQ K G ρ σ Hb H Qp Q) (g : Good K G ρ σ H) {i : Int} (h : Qp (.int i)) : Q (.int i) H := k _ _ _ .refl g (.pint i) h
theorem KQ.bl (k : KQ K G ρ σ Hb H Qp Q) (g : Good K G ρ σ H) {i : Bool} (h : Qp (.bl i)) : Q (.bl i) H := k _ _ _ .refl g (.pbl i) h
theorem KQ.str (k : KQ K G ρ σ Hb H Qp Q) (g : Good K G ρ σ H) {i : Str} (h : Qp (.str i)) : Q (.str i) H := k _ _ _ .refl g (.pstr i) h
theorem KQ.at (k : KQ K G ρ σ Hb H Qp Q) (g : Good K G ρ σ H) {p : PV} {v : V} (r : Rep K (hide (MA G ρ σ) H) p v) (h : Qp p) : Q v H := k _ _ _ .refl g (.s (.plain r)) h
end

/-! ### + -/
def oAdd : PV → PV → PQ → XQ → Prop := fun x y Q _ => match x, y with
  | .int i, .int j => Q (.int (i + j))
  | .str a, .str b => a.length + b.length ≤ sizeLine ∧ Q (.str (a ++ b))
  | .tup ps, .tup qs => ps.length + qs.length ≤ sizeLine ∧ Q (.tup (ps ++ qs))
  | x, y => ∃ ps qs, x.items = some ps ∧ y.items = some qs ∧ ps.length + qs.length ≤ sizeLine ∧ Q (.new (.lst (ps ++ qs)))
def mulOk (i j : Int) : Prop := ∃ a b : Nat, i.natAbs < 2 ^ a ∧ j.natAbs < 2 ^ b ∧ a + b ≤ 134217728
def divOk (j : Int) : Prop := j ≠ 0 ∧ j.natAbs.log2 < 9000
def oSub : PV → PV → PQ → XQ → Prop := fun x y Q _ => match x, y with
  | .int i, .int j => Q (.int (i - j))
  | _, _ => False
def oMul : PV → PV → PQ → XQ → Prop := fun x y Q _ => match x, y with
  | .int i, .int j => mulOk i j ∧ Q (.int (i * j))
  | .tup ps, .int k => k ≤ 100000 ∧ ps.length * k.toNat ≤ sizeLine ∧ ps.length ≤ 100000 ∧ Q (.tup (List.replicate k.toNat ps).flatten)
  | x, .int k => ∃ ps, x.items = some ps ∧ -(2 ^ 63) ≤ k ∧ k < 2 ^ 63 ∧ ps.length * k.toNat ≤ sizeLine ∧ Q (.new (.lst (List.replicate k.toNat ps).flatten))
  | _, _ => False
def oDiv : PV → PV → PQ → XQ → Prop := fun x y Q _ => match x, y with
  | .int i, .int j => divOk j ∧ Q (.int (i.fdiv j))
  | _, _ => False
def oMod : PV → PV → PQ → XQ → Prop := fun x y Q _ => match x, y with
  | .int i, .int j => j ≠ 0 ∧ Q (.int (i.fmod j))
  | _, _ => False
def rAddV (K : PySem.W.Frag) : R2 := fun x y H Q => (rI0 (fun i j => .int (i + j)) x y H Q ∨ (∃ i j, x = .str i ∧ y = .str j ∧ i.length + j.length ≤ sizeLine ∧ Q (.str (i ++ j)) H)) ∨ (rCatA K x y H Q ∨ rCat x y H Q)
section
variable {X : Cx} {W : WX}
theorem or_add : OpR X (binaryOp .Add) (rAddV X.K) := (op_add.or op_add_str).or (op_catA.or op_cat)
theorem Reps.nil_of {K : PySem.W.Frag} {H : Hp} {ps : List PV} (r : Reps K H ps []) : ps = [] := by cases r; rfl
theorem ov_add : OpV X W (rAddV X.K) oAdd := by
  intro G ρ σ Hb H Qp Rp Q x y v u g gr rx ry h kq kx
  unfold oAdd at h
  split at h
  · cases rx.int; cases ry.int
    exact .inl (.inl ⟨_, _, rfl, rfl, kq.int g h⟩)
  · cases rx.str; cases ry.str
    exact .inl (.inr ⟨_, _, rfl, rfl, h.1, kq.str g h.2⟩)
  · obtain ⟨a, xs, rfl, ha, ha', qa⟩ := rx.tup
    obtain ⟨b, ys, rfl, hb, hb', qb⟩ := ry.tup
    refine .inr (.inl ⟨a, b, xs, ys, rfl, rfl, ha, hb, by rw [← qa.length, ← qb.length]; exact h.1, fun e => ?_, fun _ e => ?_, fun _ _ p hp => kq.tup g (qa.append qb) h.2 hp⟩)
    · subst e
      have e2 := qa.nil_of
      subst e2
      exact kq.at g (.tup hb' qb) h.2
    · subst e
      have e2 := qb.nil_of
      subst e2
      have h2 := h.2
      rw [List.append_nil] at h2
      exact kq.at g (.tup ha' qa) h2
  · obtain ⟨ps, qs, e1, e2, hz, h⟩ := h
    obtain ⟨a, xs, rfl, ha, qa⟩ := rx.items e1
    obtain ⟨b, ys, rfl, hb, qb⟩ := ry.items e2
    exact .inr (.inr ⟨a, b, xs, ys, rfl, rfl, ha, hb, by rw [← qa.length, ← qb.length]; exact hz, fun p hp => kq.list g gr (qa.append qb) h hp⟩)
theorem ov_sub : OpV X W (rI0 fun i j => .int (i - j)) oSub := by
  intro G ρ σ Hb H Qp Rp Q x y v u g gr rx ry h kq kx
  unfold oSub at h
  split at h
  · cases rx.int; cases ry.int
    exact ⟨_, _, rfl, rfl, kq.int g h⟩
  · exact h.elim
theorem or_div : OpR X (binaryOp .FloorDiv) (rI (fun _ j => divOk j) fun i j => .int (i.fdiv j)) := opI fun i j _ _ _ _ _ hc q => PyProof.Rows.floordiv_int hc.1 q (.inl (PyProof.noPylong_of_log2 hc.2))
theorem ov_div : OpV X W (rI (fun _ j => divOk j) fun i j => .int (i.fdiv j)) oDiv := by
  intro G ρ σ Hb H Qp Rp Q x y v u g gr rx ry h kq kx
  unfold oDiv at h
  split at h
  · cases rx.int; cases ry.int
    exact ⟨_, _, rfl, rfl, h.1, kq.int g h.2⟩
  · exact h.elim
theorem ov_mod : OpV X W (rI (fun _ j => j ≠ 0) fun i j => .int (i.fmod j)) oMod := by
  intro G ρ σ Hb H Qp Rp Q x y v u g gr rx ry h kq kx
  unfold oMod at h
  split at h
  · cases rx.int; cases ry.int
    exact ⟨_, _, rfl, rfl, h.1, kq.int g h.2⟩
  · exact h.elim
variable {pos : Pos} {a b : Expr} {wa wb : WEx}
theorem ve_add (ha : VE X W a wa) (hb : VE X W b wb) : VE X W (.BinOp a .Add b pos) (wOp oAdd wa wb) := ve_op or_add ov_add ha hb
theorem ve_sub (ha : VE X W a wa) (hb : VE X W b wb) : VE X W (.BinOp a .Sub b pos) (wOp oSub wa wb) := ve_op op_sub ov_sub ha hb
theorem ve_div (ha : VE X W a wa) (hb : VE X W b wb) : VE X W (.BinOp a .FloorDiv b pos) (wOp oDiv wa wb) := ve_op or_div ov_div ha hb
theorem ve_mod (ha : VE X W a wa) (hb : VE X W b wb) : VE X W (.BinOp a .Mod b pos) (wOp oMod wa wb) := ve_op op_modN ov_mod ha hb
/-- - x -/
def wNeg (a : WEx) : WEx := fun ρ Q R => a ρ (fun x => match x with | .int i => Q (.int (-i)) | _ => False) R
theorem ve_neg (ha : VE X W a wa) : VE X W (.UnaryOp .USub a pos) (wNeg wa) :=
  ⟨PE.imp (pe_un un_neg ha.pe) fun σ H Q ⟨G, ρ, Qp, Rp, g, hw, kq, kx⟩ => ⟨G, ρ, _, Rp, g, hw, fun p v H1 s1 g1 r1 h1 => by
    dsimp only at h1
    split at h1
    · cases r1.int
      exact ⟨_, rfl, (kq.step s1).int g1 h1⟩
    · exact h1.elim, kx⟩⟩
end

/-! ### comparisons -/
mutual
/-- a value as data -/
def PV.toD : PV → Option PyData
  | .non => some .none
  | .bl b => some (.bool b)
  | .int i => some (.int i)
  | .str x => some (.str x)
  | .tup ps => (toDs ps).map .tuple
  | .lst ps => (toDs ps).map .list
  | .own (.lst ps) => (toDs ps).map .list
  | .new (.lst ps) => (toDs ps).map .list
  | _ => none
def toDs : List PV → Option (List PyData)
  | [] => some []
  | p :: ps => match p.toD, toDs ps with
    | some d, some ds => some (d :: ds)
    | _, _ => none
end
theorem toDs_cons {p : PV} {ps : List PV} {ds : List PyData} (h : toDs (p :: ps) = some ds) : ∃ d ds', p.toD = some d ∧ toDs ps = some ds' ∧ ds = d :: ds' := by
  simp only [toDs] at h
  split at h
  · rename_i d ds' e1 e2
    cases h
    exact ⟨d, ds', e1, e2, rfl⟩
  · cases h
mutual
theorem Rep.dp {K : PySem.W.Frag} {H : Hp} : ∀ {p : PV} {v : V} {d : PyData}, Rep K H p v → p.toD = some d → Dp K H v d
  | _, _, _, .non, h => by simp only [PV.toD] at h; cases h; exact .non
  | _, _, _, .bl _, h => by simp only [PV.toD] at h; cases h; exact .bl _
  | _, _, _, .int _, h => by simp only [PV.toD] at h; cases h; exact .int _
  | _, _, _, .str _, h => by simp only [PV.toD] at h; cases h; exact .str _
  | _, _, _, .ty _, h => by simp only [PV.toD] at h; cases h
  | _, _, _, .adr _, h => by simp only [PV.toD] at h; cases h
  | _, _, d, .tup (ps := ps) e r, h => by
    simp only [PV.toD] at h
    cases q : toDs ps with
    | none => rw [q] at h; cases h
    | some ds => rw [q] at h; cases h; exact .tup (.inl (.inl e)) (Reps.dps r q)
  | _, _, d, .lst (ps := ps) e r, h => by
    simp only [PV.toD] at h
    cases q : toDs ps with
    | none => rw [q] at h; cases h
    | some ds => rw [q] at h; cases h; exact .lst (.of e) (Reps.dps r q)
  | _, _, _, .scr _ _, h => by simp only [PV.toD] at h; cases h
  | _, _, _, .obj _ _ _, h => by simp only [PV.toD] at h; cases h
  | _, _, _, .dk _ _ _, h => by simp only [PV.toD] at h; cases h
  | _, _, _, .dt _ _ _, h => by simp only [PV.toD] at h; cases h
theorem Reps.dps {K : PySem.W.Frag} {H : Hp} : ∀ {ps : List PV} {vs : List V} {ds : List PyData}, Reps K H ps vs → toDs ps = some ds → DpAll K H vs ds
  | _, _, _, .nil, h => by simp only [toDs] at h; cases h; exact .nil
  | _, _, _, .cons r t, h => by
    obtain ⟨d, ds', e1, e2, rfl⟩ := toDs_cons h
    exact .cons (Rep.dp r e1) (Reps.dps t e2)
end
mutual
theorem Dp.mono {K : PySem.W.Frag} {H H' : Hp} (s : Same H H') : ∀ {v : V} {d : PyData}, Dp K H v d → Dp K H' v d
  | _, _, .non => .non
  | _, _, .bl _ => .bl _
  | _, _, .int _ => .int _
  | _, _, .str _ => .str _
  | _, _, .lst h r => .lst (s.seq h) (DpAll.mono s r)
  | _, _, .tup h r => .tup (sqT_mono s h) (DpAll.mono s r)
theorem DpAll.mono {K : PySem.W.Frag} {H H' : Hp} (s : Same H H') : ∀ {v : List V} {d : List PyData}, DpAll K H v d → DpAll K H' v d
  | _, _, .nil => .nil
  | _, _, .cons h r => .cons (Dp.mono s h) (DpAll.mono s r)
end
theorem ERep.dp {K : PySem.W.Frag} {Sa M : Addr → Prop} {H0 Hb H : Hp} {p : PV} {v : V} {d : PyData} (r : ERep K Sa M H0 Hb H p v) (h : p.toD = some d) : Dp K H v d := by
  cases r with
  | s r =>
    cases r with
    | plain r => exact Dp.mono hide_sub (r.dp h)
    | own m n e f t =>
      cases t with
      | @lst ps _ q =>
        simp only [PV.toD] at h
        cases z : toDs ps with
        | none => rw [z] at h; cases h
        | some ds => rw [z] at h; cases h; exact (Dp.lst (.of f) (DpAll.mono hide_sub (q.dps z)))
      | dk => simp only [PV.toD] at h; cases h
      | dt => simp only [PV.toD] at h; cases h
    | st => simp only [PV.toD] at h; cases h
  | new n e f t =>
    cases t with
    | @lst ps _ q =>
      simp only [PV.toD] at h
      cases z : toDs ps with
      | none => rw [z] at h; cases h
      | some ds => rw [z] at h; cases h; exact (Dp.lst (.of f) (DpAll.mono hide_sub (q.dps z)))
    | dk => simp only [PV.toD] at h; cases h
    | dt => simp only [PV.toD] at h; cases h
/-- == of data -/
def oEq : PV → PV → PQ → XQ → Prop := fun x y Q _ => ∃ d e, x.toD = some d ∧ y.toD = some e ∧ SeqAt.shaped d = true ∧ SeqAt.shaped e = true ∧ Q (.bl (PyData.eqv d e))
def oNe : PV → PV → PQ → XQ → Prop := fun x y Q _ => ∃ d e, x.toD = some d ∧ y.toD = some e ∧ SeqAt.shaped d = true ∧ SeqAt.shaped e = true ∧ Q (.bl (!PyData.eqv d e))
def oCmp (f : Int → Int → Bool) : PV → PV → PQ → XQ → Prop := fun x y Q _ => match x, y with
  | .int i, .int j => Q (.bl (f i j))
  | _, _ => False
abbrev oLt := oCmp fun i j => decide (i < j)
abbrev oLe := oCmp fun i j => decide (i ≤ j)
abbrev oGt := oCmp fun i j => decide (j < i)
abbrev oGe := oCmp fun i j => decide (j ≤ i)
section
variable {X : Cx} {W : WX} {pos : Pos} {a b c : Expr} {wa wb wc : WEx} {r r' : R2} {o o' : PV → PV → PQ → XQ → Prop} {op op' : CmpOp}
theorem ov_eq : OpV X W (rEqD X.K) oEq := by
  intro G ρ σ Hb H Qp Rp Q x y v u g gr rx ry ⟨d, e, h1, h2, h3, h4, h⟩ kq kx
  exact ⟨d, e, rx.dp h1, ry.dp h2, h3, h4, kq.bl g h⟩
theorem ov_ne : OpV X W (rNeD X.K) oNe := by
  intro G ρ σ Hb H Qp Rp Q x y v u g gr rx ry ⟨d, e, h1, h2, h3, h4, h⟩ kq kx
  exact ⟨d, e, rx.dp h1, ry.dp h2, h3, h4, kq.bl g h⟩
theorem ov_cmp {f : Int → Int → Bool} : OpV X W (rI0 fun i j => .bl (f i j)) (oCmp f) := by
  intro G ρ σ Hb H Qp Rp Q x y v u g gr rx ry h kq kx
  unfold oCmp at h
  split at h
  · cases rx.int; cases ry.int
    exact ⟨_, _, rfl, rfl, kq.bl g h⟩
  · exact h.elim
theorem ve_cmp (ho : OpR X (compareOp op) r) (hv : OpV X W r o) (ha : VE X W a wa) (hb : VE X W b wb) (hm : behindInMarks op b = false) : VE X W (.Compare a [op] [b] pos) (wOp o wa wb) :=
  ⟨PE.imp (pe_cmpR ho ha.pe hb.pe hm) fun _ _ _ h => lft_op hv h⟩
/-- a test from a value -/
def wT (a : WEx) : WTs := fun ρ Q R => a ρ (fun x => match x with | .bl b => Q b | _ => False) R
theorem lft_T {w : WEx} {K : PySem.W.Frag} {σ : St} {H : Hp} {Q : Bool → Hp → Prop} (h : lftT K W (wT w) σ H Q) : lftE K W w σ H (fun x H' => ∃ k, x = .bl k ∧ Q k H') := by
  obtain ⟨G, ρ, Qp, Rp, g, hw, kq, kx⟩ := h
  refine ⟨G, ρ, _, Rp, g, hw, fun p v H1 s1 g1 r1 h1 => ?_, kx⟩
  dsimp only at h1
  split at h1
  · cases r1.bl
    exact ⟨_, rfl, kq _ _ s1 g1 h1⟩
  · exact h1.elim
theorem vt_cmp (ho : OpR X (compareOp op) r) (hv : OpV X W r o) (ha : VE X W a wa) (hb : VE X W b wb) (hm : behindInMarks op b = false) : VT X W (.Compare a [op] [b] pos) (wT (wOp o wa wb)) :=
  ⟨PT.imp (pt_cmpR ho ha.pe hb.pe hm) fun σ H Q h => by
    have h2 := lft_T h
    exact lft_op hv h2⟩
theorem vt_val {e : Expr} {w : WEx} (h : VE X W e w) (he : ∀ whole, isTrue e X.env whole = (do let v ← whole; standAt e.pos; holding [v] (truthy v)) := by intro _; rfl) : VT X W e (wT w) :=
  ⟨PT.imp (pt_val h.pe he) fun _ _ _ h => lft_T h⟩
/-- a op b op' c -/
def wChain (o o' : PV → PV → PQ → XQ → Prop) (a b c : WEx) : WEx := fun ρ Q R => a ρ (fun x => b ρ (fun y => o x y (fun z => match z with | .bl k => if k = true then c ρ (fun u => o' y u Q R) R else Q (.bl false) | _ => False) R) R) R
theorem lft_chain (hv : OpV X W r o) (hv' : OpV X W r' o') {σ : St} {H : Hp} {Q : VK} (h : lftE X.K W (wChain o o' wa wb wc) σ H Q) : tChain r r' (lftE X.K W wa) (lftE X.K W wb) (lftE X.K W wc) σ H Q := by
  obtain ⟨G, ρ, Qp, Rp, g, hw, kq, kx⟩ := h
  refine ⟨G, ρ, _, Rp, g, hw, fun p v H1 s1 g1 r1 hw1 => ?_, kx⟩
  refine ⟨G, ρ, _, Rp, g1, hw1, fun q u H2 s2 g2 r2 hw2 => ?_, kx.step s1⟩
  refine hv g2 ((s1.trans s2).gr g2) (r1.mono s2) (r2.base (s1.gr g1)) hw2 (fun z t H3 s3 g3 r3 hw3 => ?_) (kx.step (s1.trans s2))
  split at hw3
  · rename_i k
    cases r3.bl
    refine ⟨k, rfl, ?_⟩
    by_cases hk : k = true
    · rw [if_pos hk] at hw3
      rw [if_pos hk]
      refine ⟨G, ρ, _, Rp, g3, hw3, fun y' u' H4 s4 g4 r4 hw4 => ?_, kx.step ((s1.trans s2).trans s3)⟩
      exact hv' g4 ((((s1.trans s2).trans s3).trans s4).gr g4) ((r2.base (s1.gr g1)).mono (s3.trans s4)) (r4.base (((s1.trans s2).trans s3).gr g3)) hw4 (kq.step (((s1.trans s2).trans s3).trans s4)) (kx.step (((s1.trans s2).trans s3).trans s4))
    · rw [if_neg hk] at hw3
      rw [if_neg hk]
      exact (kq.step ((s1.trans s2).trans s3)).bl g3 hw3
  · exact hw3.elim
theorem ve_chain (ho : OpR X (compareOp op) r) (ho' : OpR X (compareOp op') r') (hv : OpV X W r o) (hv' : OpV X W r' o') (ha : VE X W a wa) (hb : VE X W b wb) (hc : VE X W c wc) (hm : lastMarks [op, op'] [b, c] = false := by rfl) : VE X W (.Compare a [op, op'] [b, c] pos) (wChain o o' wa wb wc) :=
  ⟨PE.imp (pe_chain ho ho' ha.pe hb.pe hc.pe hm) fun _ _ _ h => lft_chain hv hv' h⟩
theorem vt_chain (ho : OpR X (compareOp op) r) (ho' : OpR X (compareOp op') r') (hv : OpV X W r o) (hv' : OpV X W r' o') (ha : VE X W a wa) (hb : VE X W b wb) (hc : VE X W c wc) (hm : lastMarks [op, op'] [b, c] = false := by rfl) : VT X W (.Compare a [op, op'] [b, c] pos) (wT (wChain o o' wa wb wc)) :=
  ⟨PT.imp (pt_chain ho ho' ha.pe hb.pe hc.pe hm) fun _ _ _ h => by
    have h2 := lft_T h
    exact lft_chain hv hv' h2⟩
/-- x is None -/
def isNonP : PV → Bool
  | .non => true
  | _ => false
theorem ERep.isNon {K : PySem.W.Frag} {Sa M : Addr → Prop} {H0 Hb H : Hp} {p : PV} {v : V} (r : ERep K Sa M H0 Hb H p v) : decide (v = .non) = isNonP p := by
  cases r with
  | s r =>
    cases r with
    | plain r => cases r <;> first | rfl | simp [isNonP]
    | own => simp [isNonP]
    | st => simp [isNonP]
  | new => simp [isNonP]
def wIsN (a : WEx) : WEx := fun ρ Q R => a ρ (fun x => Q (.bl (isNonP x))) R
def wNotN (a : WEx) : WEx := fun ρ Q R => a ρ (fun x => Q (.bl (!isNonP x))) R
theorem lft_isN {σ : St} {H : Hp} {Q : VK} (h : lftE X.K W (wIsN wa) σ H Q) : tIsN (lftE X.K W wa) σ H Q := by
  obtain ⟨G, ρ, Qp, Rp, g, hw, kq, kx⟩ := h
  refine ⟨G, ρ, _, Rp, g, hw, fun p v H1 s1 g1 r1 h1 => ?_, kx⟩
  show Q (.bl (decide (v = .non))) H1
  rw [r1.isNon]
  exact (kq.step s1).bl g1 h1
theorem lft_notN {σ : St} {H : Hp} {Q : VK} (h : lftE X.K W (wNotN wa) σ H Q) : tNotN (lftE X.K W wa) σ H Q := by
  obtain ⟨G, ρ, Qp, Rp, g, hw, kq, kx⟩ := h
  refine ⟨G, ρ, _, Rp, g, hw, fun p v H1 s1 g1 r1 h1 => ?_, kx⟩
  show Q (.bl (!decide (v = .non))) H1
  rw [r1.isNon]
  exact (kq.step s1).bl g1 h1
theorem ve_isN {j p'} (ha : VE X W a wa) : VE X W (.Compare a [.Is] [.Constant .none j p'] pos) (wIsN wa) := ⟨PE.imp (pe_cmp (pc_isN ha.pe)) fun _ _ _ h => lft_isN h⟩
theorem ve_notN {j p'} (ha : VE X W a wa) : VE X W (.Compare a [.IsNot] [.Constant .none j p'] pos) (wNotN wa) := ⟨PE.imp (pe_cmp (pc_notN ha.pe)) fun _ _ _ h => lft_notN h⟩
theorem vt_isN {j p'} (ha : VE X W a wa) : VT X W (.Compare a [.Is] [.Constant .none j p'] pos) (wT (wIsN wa)) := ⟨PT.imp (pt_cmp (pc_isN ha.pe)) fun _ _ _ h => by
  have h2 := lft_T h
  exact lft_isN h2⟩
theorem vt_notN {j p'} (ha : VE X W a wa) : VT X W (.Compare a [.IsNot] [.Constant .none j p'] pos) (wT (wNotN wa)) := ⟨PT.imp (pt_cmp (pc_notN ha.pe)) fun _ _ _ h => by
  have h2 := lft_T h
  exact lft_notN h2⟩
end

/-! ### and, or, not, if else -/
structure VW (X : Cx) (W : WX) (e : Expr) (w : WTs) : Prop where
  pw : PW X e (lftT X.K W w)
def wAnd (a b : WTs) : WTs := fun ρ Q R => a ρ (fun c => if c = true then b ρ Q R else Q false) R
def wOr (a b : WTs) : WTs := fun ρ Q R => a ρ (fun c => if c = true then Q true else b ρ Q R) R
def wNot (a : WTs) : WTs := fun ρ Q R => a ρ (fun c => Q (!c)) R
def wAndV (a b : WEx) : WEx := fun ρ Q R => a ρ (fun x => match x with | .bl c => if c = true then b ρ Q R else Q (.bl false) | _ => False) R
def wOrV (a b : WEx) : WEx := fun ρ Q R => a ρ (fun x => match x with | .bl c => if c = true then Q (.bl true) else b ρ Q R | _ => False) R
def wNotV (a : WEx) : WEx := fun ρ Q R => a ρ (fun x => match x with | .bl c => Q (.bl (!c)) | _ => False) R
def wIfE (c : WTs) (a b : WEx) : WEx := fun ρ Q R => c ρ (fun k => if k = true then a ρ Q R else b ρ Q R) R
theorem PW.imp {X : Cx} {e : Expr} {t t' : TT} (h : PW X e t) (i : ∀ σ H Q, t' σ H Q → t σ H Q) : PW X e t' := ⟨fun whole pins s σ H Q I q => h.run whole pins s σ H Q I (i σ H Q q)⟩
section
variable {X : Cx} {W : WX} {pos : Pos} {a b c : Expr} {rest : List Expr} {ta tb : WTs} {wa wb : WEx}
theorem vt_bool {e : Expr} (h : VW X W e ta) : VT X W e ta := ⟨h.pw.pt⟩
theorem vw_and1 (ha : VT X W a ta) : VW X W (.BoolOp .And [a] pos) ta := ⟨pw_and1 ha.pt⟩
theorem vw_or1 (ha : VT X W a ta) : VW X W (.BoolOp .Or [a] pos) ta := ⟨pw_or1 ha.pt⟩
theorem vw_and (ha : VT X W a ta) (hb : VW X W (.BoolOp .And (b :: rest) pos) tb) : VW X W (.BoolOp .And (a :: b :: rest) pos) (wAnd ta tb) :=
  ⟨PW.imp (pw_and ha.pt hb.pw) fun σ H Q ⟨G, ρ, Qp, Rp, g, hw, kq, kx⟩ => ⟨G, ρ, _, Rp, g, hw, fun k H1 s1 g1 h1 => by
    cases k with
    | true => exact ⟨G, ρ, _, Rp, g1, h1, fun k2 H2 s2 g2 h2 => kq _ _ (s1.trans s2) g2 h2, kx.step s1⟩
    | false => exact kq _ _ s1 g1 h1, kx⟩⟩
theorem vw_or (ha : VT X W a ta) (hb : VW X W (.BoolOp .Or (b :: rest) pos) tb) : VW X W (.BoolOp .Or (a :: b :: rest) pos) (wOr ta tb) :=
  ⟨PW.imp (pw_or ha.pt hb.pw) fun σ H Q ⟨G, ρ, Qp, Rp, g, hw, kq, kx⟩ => ⟨G, ρ, _, Rp, g, hw, fun k H1 s1 g1 h1 => by
    cases k with
    | false => exact ⟨G, ρ, _, Rp, g1, h1, fun k2 H2 s2 g2 h2 => kq _ _ (s1.trans s2) g2 h2, kx.step s1⟩
    | true => exact kq _ _ s1 g1 h1, kx⟩⟩
theorem vt_not (ha : VT X W a ta) : VT X W (.UnaryOp .Not a pos) (wNot ta) :=
  ⟨PT.imp (pt_not ha.pt) fun σ H Q ⟨G, ρ, Qp, Rp, g, hw, kq, kx⟩ => ⟨G, ρ, _, Rp, g, hw, fun k H1 s1 g1 h1 => kq _ _ s1 g1 h1, kx⟩⟩
theorem ve_one {op} (h : VE X W a wa) : VE X W (.BoolOp op [a] pos) wa := ⟨pe_one h.pe⟩
theorem ve_and (ha : VE X W a wa) (hb : VE X W (.BoolOp .And (b :: rest) pos) wb) : VE X W (.BoolOp .And (a :: b :: rest) pos) (wAndV wa wb) :=
  ⟨PE.imp (pe_and ha.pe hb.pe) fun σ H Q ⟨G, ρ, Qp, Rp, g, hw, kq, kx⟩ => ⟨G, ρ, _, Rp, g, hw, fun p v H1 s1 g1 r1 h1 => by
    dsimp only at h1
    split at h1
    · rename_i k
      cases r1.bl
      refine ⟨k, rfl, ?_⟩
      cases k with
      | true => exact ⟨G, ρ, _, Rp, g1, h1, fun k2 v2 H2 s2 g2 r2 h2 => kq _ _ _ (s1.trans s2) g2 (r2.base (s1.gr g1)) h2, kx.step s1⟩
      | false => exact (kq.step s1).bl g1 h1
    · exact h1.elim, kx⟩⟩
theorem ve_or (ha : VE X W a wa) (hb : VE X W (.BoolOp .Or (b :: rest) pos) wb) : VE X W (.BoolOp .Or (a :: b :: rest) pos) (wOrV wa wb) :=
  ⟨PE.imp (pe_or ha.pe hb.pe) fun σ H Q ⟨G, ρ, Qp, Rp, g, hw, kq, kx⟩ => ⟨G, ρ, _, Rp, g, hw, fun p v H1 s1 g1 r1 h1 => by
    dsimp only at h1
    split at h1
    · rename_i k
      cases r1.bl
      refine ⟨k, rfl, ?_⟩
      cases k with
      | false => exact ⟨G, ρ, _, Rp, g1, h1, fun k2 v2 H2 s2 g2 r2 h2 => kq _ _ _ (s1.trans s2) g2 (r2.base (s1.gr g1)) h2, kx.step s1⟩
      | true => exact (kq.step s1).bl g1 h1
    · exact h1.elim, kx⟩⟩
theorem ve_not (ha : VE X W a wa) : VE X W (.UnaryOp .Not a pos) (wNotV wa) :=
  ⟨PE.imp (pe_not ha.pe) fun σ H Q ⟨G, ρ, Qp, Rp, g, hw, kq, kx⟩ => ⟨G, ρ, _, Rp, g, hw, fun p v H1 s1 g1 r1 h1 => by
    dsimp only at h1
    split at h1
    · rename_i k
      cases r1.bl
      exact ⟨k, rfl, (kq.step s1).bl g1 h1⟩
    · exact h1.elim, kx⟩⟩
theorem ve_ifE (hc : VT X W c ta) (ha : VE X W a wa) (hb : VE X W b wb) : VE X W (.IfExp c a b pos) (wIfE ta wa wb) :=
  ⟨PE.imp (pe_ifExp hc.pt ha.pe hb.pe) fun σ H Q ⟨G, ρ, Qp, Rp, g, hw, kq, kx⟩ => ⟨G, ρ, _, Rp, g, hw, fun k H1 s1 g1 h1 => by
    cases k with
    | true => exact ⟨G, ρ, _, Rp, g1, h1, fun k2 v2 H2 s2 g2 r2 h2 => kq _ _ _ (s1.trans s2) g2 (r2.base (s1.gr g1)) h2, kx.step s1⟩
    | false => exact ⟨G, ρ, _, Rp, g1, h1, fun k2 v2 H2 s2 g2 r2 h2 => kq _ _ _ (s1.trans s2) g2 (r2.base (s1.gr g1)) h2, kx.step s1⟩, kx⟩⟩

/-! ### arguments, displays -/
def wNil : WAs := fun _ Q _ => Q []
def wCons (a : WEx) (r : WAs) : WAs := fun ρ Q R => a ρ (fun x => r ρ (fun xs => Q (x :: xs)) R) R
theorem va_nil : VA X W [] wNil := ⟨PA.imp pa_nil fun σ H Q ⟨G, ρ, Qp, Rp, g, hw, kq, kx⟩ => kq _ _ _ .refl g .nil hw⟩
theorem va_cons {wr : WAs} {es : List Expr} (ha : VE X W a wa) (hr : VA X W es wr) (hs : starEach (a :: es) X.env = (false, eval a X.env) :: starEach es X.env := by rfl) : VA X W (a :: es) (wCons wa wr) :=
  ⟨PA.imp (pa_cons ha.pe hr.pa hs) fun σ H Q ⟨G, ρ, Qp, Rp, g, hw, kq, kx⟩ => ⟨G, ρ, _, Rp, g, hw, fun p v H1 s1 g1 r1 h1 =>
    ⟨G, ρ, _, Rp, g1, h1, fun ps vs H2 s2 g2 r2 h2 => kq _ _ _ (s1.trans s2) g2 (.cons (r1.mono s2) (r2.base (s1.gr g1))) h2, kx.step s1⟩, kx⟩⟩
/-- what may be put into a tuple, a list, a slot -/
def PV.thaw : PV → PV
  | .new p => p
  | p => p
def PV.plain : PV → Bool
  | .own _ => false
  | .st => false
  | .new _ => false
  | _ => true
def PV.gives (p : PV) : Bool := p.thaw.plain
end
section
variable {K : PySem.W.Frag} {G : Gd} {ρ : PEnv} {σ : St} {Hb H : Hp}
theorem ERep.rep {p : PV} {v : V} (r : ERep K (SA G ρ σ) (MA G ρ σ) G.H0 Hb H p v) (h : p.gives = true) : Rep K (hide (MA G ρ σ) H) p.thaw v := by
  cases r with
  | s r =>
    cases r with
    | @plain p v r => cases r <;> (constructor <;> assumption)
    | own => cases h
    | st => cases h
  | new n e f t => exact (t.mono (hide_anti fun _ z => .inl z)).rep (hide_some.mpr ⟨n, f⟩)
theorem EReps.reps : ∀ {ps : List PV} {vs : List V}, EReps K (SA G ρ σ) (MA G ρ σ) G.H0 Hb H ps vs → ps.all PV.gives = true → Reps K (hide (MA G ρ σ) H) (ps.map PV.thaw) vs
  | _, _, .nil, _ => .nil
  | _, _, .cons r t, h => by
    rw [List.all_cons, Bool.and_eq_true] at h
    exact .cons (r.rep h.1) (EReps.reps t h.2)
end
def wTup (r : WAs) : WEx := fun ρ Q R => r ρ (fun ps => ps.length ≤ sizeLine ∧ ps.all PV.gives = true ∧ Q (.tup (ps.map PV.thaw))) R
def wLst (r : WAs) : WEx := fun ρ Q R => r ρ (fun ps => ps.length ≤ sizeLine ∧ ps.all PV.gives = true ∧ Q (.new (.lst (ps.map PV.thaw)))) R
section
variable {X : Cx} {W : WX} {pos : Pos} {es : List Expr} {wr : WAs}
theorem ve_tup {x1} (h : VA X W es wr) : VE X W (.Tuple es x1 pos) (wTup wr) :=
  ⟨PE.imp (pe_tup h.pa) fun σ H Q ⟨G, ρ, Qp, Rp, g, hw, kq, kx⟩ => ⟨G, ρ, _, Rp, g, hw, fun ps vs H1 s1 g1 r1 ⟨h1, h2, h3⟩ =>
    ⟨by rw [← r1.length]; exact h1, fun p hp => (kq.step s1).tup g1 (r1.reps h2) h3 hp⟩, kx⟩⟩
theorem ve_lst (h : VA X W es wr) : VE X W (.List es pos) (wLst wr) :=
  ⟨PE.imp (pe_lst h.pa) fun σ H Q ⟨G, ρ, Qp, Rp, g, hw, kq, kx⟩ => ⟨G, ρ, _, Rp, g, hw, fun ps vs H1 s1 g1 r1 ⟨h1, h2, h3⟩ =>
    ⟨by rw [← r1.length]; exact h1, fun p hp => (kq.step s1).list g1 (s1.gr g1) (r1.reps h2) h3 hp⟩, kx⟩⟩
end
end L3

/-! Values without the heap: built-in functions, subscripts. -/
namespace L3
open PySem PySem.Spec L2

/-! ### a call by values -/
def CaV (X : Cx) (W : WX) (r : List V → Hp → VK → Prop) (o : List PV → PQ → XQ → Prop) : Prop := ∀ {G ρ σ Hb H Qp Rp Q ps vs}, Good X.K G ρ σ H → Gr Hb H → EReps X.K (SA G ρ σ) (MA G ρ σ) G.H0 Hb H ps vs →
  o ps Qp Rp → KQ X.K G ρ σ Hb H Qp Q → KX X.K W G ρ σ H Rp → r vs H Q
def wCall (o : List PV → PQ → XQ → Prop) (a : WAs) : WEx := fun ρ Q R => a ρ (fun ps => o ps Q R) R
section
variable {X : Cx} {W : WX} {pos p : Pos} {e : Expr} {es : List Expr} {wa : WAs} {r : List V → Hp → VK → Prop} {o : List PV → PQ → XQ → Prop} {x : Str} {id T : String}
theorem lft_call (hv : CaV X W r o) {σ : St} {H : Hp} {Q : VK} (h : lftE X.K W (wCall o wa) σ H Q) : tCB r (lftA X.K W wa) σ H Q := by
  obtain ⟨G, ρ, Qp, Rp, g, hw, kq, kx⟩ := h
  exact ⟨G, ρ, _, Rp, g, hw, fun ps vs H1 s1 g1 r1 h1 => hv g1 (s1.gr g1) r1 h1 (kq.step s1) (kx.step s1), kx⟩
theorem ve_callB (hc : CallR X (.builtin id) r) (hcv : CaV X W r o) (hg : Gl X x) (hm : X.mg x = none) (hv : bootBuiltins x = some (.builtin id)) (ha : VA X W (e :: es) wa) (hn : x ≠ "__name__" := by decide) (hdb : (x == ("__debug__" : Str)) = false := by decide)
    (he : starEach (e :: es) X.env = (false, eval e X.env) :: starEach es X.env := by rfl) (hpl : (backTo pos (starEach es X.env)).any (·.1) = false := by rfl) : VE X W (.Call (.Name x p) (e :: es) [] pos) (wCall o wa) :=
  ⟨PE.imp (pe_callB hc hg hm hv ha.pa hn hdb he hpl) fun _ _ _ h => lft_call hcv h⟩
theorem ve_callTy (hc : CallR X (.type T) r) (hcv : CaV X W r o) (hg : Gl X x) (hm : X.mg x = none) (hv : bootBuiltins x = some (.type T)) (ha : VA X W (e :: es) wa) (hn : x ≠ "__name__" := by decide) (hdb : (x == ("__debug__" : Str)) = false := by decide)
    (he : starEach (e :: es) X.env = (false, eval e X.env) :: starEach es X.env := by rfl) (hpl : (backTo pos (starEach es X.env)).any (·.1) = false := by rfl) : VE X W (.Call (.Name x p) (e :: es) [] pos) (wCall o wa) :=
  ⟨PE.imp (pe_callTy hc hg hm hv ha.pa hn hdb he hpl) fun _ _ _ h => lft_call hcv h⟩
end
section
variable {K : PySem.W.Frag} {Sa M : Addr → Prop} {H0 Hb H : Hp}
theorem EReps.one {p : PV} {vs : List V} (r : EReps K Sa M H0 Hb H [p] vs) : ∃ v, vs = [v] ∧ ERep K Sa M H0 Hb H p v := by
  cases r with
  | cons r t => cases t; exact ⟨_, rfl, r⟩
theorem EReps.two {p q : PV} {vs : List V} (r : EReps K Sa M H0 Hb H [p, q] vs) : ∃ v u, vs = [v, u] ∧ ERep K Sa M H0 Hb H p v ∧ ERep K Sa M H0 Hb H q u := by
  cases r with
  | cons r t =>
    obtain ⟨u, rfl, r2⟩ := t.one
    exact ⟨_, _, rfl, r, r2⟩
end

/-! ### len, abs, int, min, max, sum, all, any -/
def cLen : List PV → PQ → XQ → Prop := fun ps Q _ => match ps with
  | [.str x] => x.length ≤ sizeLine ∧ Q (.int x.length)
  | [.own (.dk ks _)] => Q (.int ks.length)
  | [.dk ks _] => Q (.int ks.length)
  | [p] => ∃ xs, p.seq = some xs ∧ Q (.int xs.length)
  | _ => False
def rLenV (K : PySem.W.Frag) : List V → Hp → VK → Prop := fun xs H Q => (∃ p ys, xs = [.ref p] ∧ (SqL K H p ys ∨ SqT K H p ys) ∧ Q (.int ys.length) H) ∨ ((∃ z, xs = [.str z] ∧ z.length ≤ sizeLine ∧ Q (.int z.length) H) ∨ (∃ a kvs, xs = [V.ref a] ∧ H a = some (.dK kvs) ∧ Q (.int kvs.length) H))
def cAbs : List PV → PQ → XQ → Prop := fun ps Q _ => match ps with
  | [.int i] => Q (.int i.natAbs)
  | _ => False
def cInt : List PV → PQ → XQ → Prop := fun ps Q _ => match ps with
  | [.int i] => Q (.int i)
  | [.bl b] => Q (.int (if b then 1 else 0))
  | _ => False
def cMin2 : List PV → PQ → XQ → Prop := fun ps Q _ => match ps with
  | [.int i, .int j] => Q (.int (if j < i then j else i))
  | _ => False
def cMax2 : List PV → PQ → XQ → Prop := fun ps Q _ => match ps with
  | [.int i, .int j] => Q (.int (if j > i then j else i))
  | _ => False
def cMax : List PV → PQ → XQ → Prop := fun ps Q _ => ∃ (p : PV) (ns : List Int), ps = [p] ∧ p.items = some (ns.map PV.int) ∧ 0 < ns.length ∧ ∀ m, m ∈ ns → (∀ y, y ∈ ns → y ≤ m) → Q (.int m)
def cMin : List PV → PQ → XQ → Prop := fun ps Q _ => ∃ (p : PV) (ns : List Int), ps = [p] ∧ p.items = some (ns.map PV.int) ∧ 0 < ns.length ∧ ∀ m, m ∈ ns → (∀ y, y ∈ ns → m ≤ y) → Q (.int m)
def cSum : List PV → PQ → XQ → Prop := fun ps Q _ => ∃ (p : PV) (ns : List Int), ps = [p] ∧ p.items = some (ns.map PV.int) ∧ Q (.int ns.sum)
def cAll : List PV → PQ → XQ → Prop := fun ps Q _ => ∃ (p : PV) (bs : List Bool), ps = [p] ∧ p.items = some (bs.map PV.bl) ∧ Q (.bl (bs.all id))
def cAny : List PV → PQ → XQ → Prop := fun ps Q _ => ∃ (p : PV) (bs : List Bool), ps = [p] ∧ p.items = some (bs.map PV.bl) ∧ Q (.bl (bs.any id))
def cTuple : List PV → PQ → XQ → Prop := fun ps Q _ => ∃ (p : PV) (xs : List PV), ps = [p] ∧ p.seq = some xs ∧ Q (.tup xs)
def cList : List PV → PQ → XQ → Prop := fun ps Q _ => ∃ (p : PV) (xs : List PV), ps = [p] ∧ p.seq = some xs ∧ Q (.new (.lst xs))
section
variable {X : Cx} {W : WX}
theorem cr_lenV : CallR X (.builtin "len") (rLenV X.K) := call_len_seq.or (call_len_str.or call_lenD)
theorem cv_len : CaV X W (rLenV X.K) cLen := by
  intro G ρ σ Hb H Qp Rp Q ps vs g gr r h kq kx
  unfold cLen at h
  split at h
  · replace r := r.one; obtain ⟨v, rfl, r⟩ := r
    cases r.str
    exact .inr (.inl ⟨_, rfl, h.1, kq.int g h.2⟩)
  · replace r := r.one; obtain ⟨v, rfl, r⟩ := r
    cases r with
    | s r => cases r with
      | plain r => cases r
      | own m n e f t => cases t with
        | dk l q => exact .inr (.inr ⟨_, _, rfl, f, by rw [List.length_zip, ← l, Nat.min_self]; exact kq.int g h⟩)
  · replace r := r.one; obtain ⟨v, rfl, r⟩ := r
    cases r with
    | s r => cases r with
      | plain r => cases r with
        | dk e l q =>
          rename_i a ks xs ps
          exact .inr (.inr ⟨_, _, rfl, hide_sub _ _ e, by rw [List.length_zip, ← l, Nat.min_self]; exact kq.int g h⟩)
  · replace r := r.one; obtain ⟨v, rfl, r⟩ := r
    obtain ⟨xs, e, h⟩ := h
    obtain ⟨a, ys, rfl, t, q⟩ := r.seq e
    exact .inl ⟨a, ys, rfl, t, by rw [← q.length]; exact kq.int g h⟩
  · exact h.elim
theorem cv_abs : CaV X W (fun xs H Q => ∃ i, xs = [.int i] ∧ Q (.int (if i < 0 then -i else i)) H) cAbs := by
  intro G ρ σ Hb H Qp Rp Q ps vs g gr r h kq kx
  unfold cAbs at h
  split at h
  · replace r := r.one; obtain ⟨v, rfl, r⟩ := r
    cases r.int
    refine ⟨_, rfl, ?_⟩
    rename_i i
    have e : (if i < 0 then -i else i) = (i.natAbs : Int) := by
      split <;> omega
    rw [e]
    exact kq.int g h
  · exact h.elim
theorem cv_int : CaV X W (fun xs H Q => (∃ i, xs = [.int i] ∧ Q (.int i) H) ∨ ∃ k, xs = [.bl k] ∧ Q (.int (if k then 1 else 0)) H) cInt := by
  intro G ρ σ Hb H Qp Rp Q ps vs g gr r h kq kx
  unfold cInt at h
  split at h
  · replace r := r.one; obtain ⟨v, rfl, r⟩ := r
    cases r.int
    exact .inl ⟨_, rfl, kq.int g h⟩
  · replace r := r.one; obtain ⟨v, rfl, r⟩ := r
    cases r.bl
    exact .inr ⟨_, rfl, kq.int g h⟩
  · exact h.elim
theorem cv_min2 : CaV X W (fun xs H Q => ∃ i j, xs = [.int i, .int j] ∧ Q (.int (if j < i then j else i)) H) cMin2 := by
  intro G ρ σ Hb H Qp Rp Q ps vs g gr r h kq kx
  unfold cMin2 at h
  split at h
  · replace r := r.two; obtain ⟨v, u, rfl, r, r2⟩ := r
    cases r.int; cases r2.int
    exact ⟨_, _, rfl, kq.int g h⟩
  · exact h.elim
theorem cv_max2 : CaV X W (fun xs H Q => ∃ i j, xs = [.int i, .int j] ∧ Q (.int (if j > i then j else i)) H) cMax2 := by
  intro G ρ σ Hb H Qp Rp Q ps vs g gr r h kq kx
  unfold cMax2 at h
  split at h
  · replace r := r.two; obtain ⟨v, u, rfl, r, r2⟩ := r
    cases r.int; cases r2.int
    exact ⟨_, _, rfl, kq.int g h⟩
  · exact h.elim
theorem cv_max : CaV X W (rMax X.K) cMax := by
  intro G ρ σ Hb H Qp Rp Q ps vs g gr r ⟨p, ns, e, h1, h2, h⟩ kq kx
  subst e
  replace r := r.one; obtain ⟨v, rfl, r⟩ := r
  obtain ⟨a, xs, rfl, t, q⟩ := r.items h1
  cases q.ints
  exact ⟨a, ns, rfl, .of t, h2, fun m h3 h4 => kq.int g (h m h3 h4)⟩
theorem cv_min : CaV X W (rMin X.K) cMin := by
  intro G ρ σ Hb H Qp Rp Q ps vs g gr r ⟨p, ns, e, h1, h2, h⟩ kq kx
  subst e
  replace r := r.one; obtain ⟨v, rfl, r⟩ := r
  obtain ⟨a, xs, rfl, t, q⟩ := r.items h1
  cases q.ints
  exact ⟨a, ns, rfl, .of t, h2, fun m h3 h4 => kq.int g (h m h3 h4)⟩
theorem cv_sum : CaV X W (rSum X.K) cSum := by
  intro G ρ σ Hb H Qp Rp Q ps vs g gr r ⟨p, ns, e, h1, h⟩ kq kx
  subst e
  replace r := r.one; obtain ⟨v, rfl, r⟩ := r
  obtain ⟨a, xs, rfl, t, q⟩ := r.items h1
  cases q.ints
  exact ⟨a, ns, rfl, .of t, kq.int g h⟩
theorem cv_all : CaV X W (rAll X.K) cAll := by
  intro G ρ σ Hb H Qp Rp Q ps vs g gr r ⟨p, ns, e, h1, h⟩ kq kx
  subst e
  replace r := r.one; obtain ⟨v, rfl, r⟩ := r
  obtain ⟨a, xs, rfl, t, q⟩ := r.items h1
  cases q.bls
  exact ⟨a, ns, rfl, .of t, kq.bl g h⟩
theorem cv_any : CaV X W (rAny X.K) cAny := by
  intro G ρ σ Hb H Qp Rp Q ps vs g gr r ⟨p, ns, e, h1, h⟩ kq kx
  subst e
  replace r := r.one; obtain ⟨v, rfl, r⟩ := r
  obtain ⟨a, xs, rfl, t, q⟩ := r.items h1
  cases q.bls
  exact ⟨a, ns, rfl, .of t, kq.bl g h⟩
theorem cv_tuple : CaV X W (fun xs H Q => ∃ p ys, xs = [.ref p] ∧ ((SqL X.K H p ys ∧ ∀ l, H l = none → Q (.ref l) (upd H l (.tup ys))) ∨ (SqT X.K H p ys ∧ Q (.ref p) H))) cTuple := by
  intro G ρ σ Hb H Qp Rp Q ps vs g gr r ⟨p, xs, e, h1, h⟩ kq kx
  subst e
  replace r := r.one; obtain ⟨v, rfl, r⟩ := r
  cases p with
  | tup qs =>
    cases h1
    obtain ⟨a, ys, rfl, t, t', q⟩ := r.tup
    exact ⟨a, ys, rfl, .inr ⟨t, kq.at g (.tup t' q) h⟩⟩
  | scr qs =>
    cases h1
    obtain ⟨a, ys, rfl, t, q⟩ := r.scr
    exact ⟨a, ys, rfl, .inl ⟨t, fun l hl => kq.tup g q h hl⟩⟩
  | _ =>
    obtain ⟨a, ys, rfl, t, q⟩ := r.items h1
    exact ⟨a, ys, rfl, .inl ⟨.of t, fun l hl => kq.tup g q h hl⟩⟩
theorem cv_list : CaV X W (fun xs H Q => ∃ p ys, xs = [.ref p] ∧ (SqL X.K H p ys ∨ SqT X.K H p ys) ∧ ∀ l, H l = none → Q (.ref l) (upd H l (.lst ys))) cList := by
  intro G ρ σ Hb H Qp Rp Q ps vs g gr r ⟨p, xs, e, h1, h⟩ kq kx
  subst e
  replace r := r.one; obtain ⟨v, rfl, r⟩ := r
  obtain ⟨a, ys, rfl, t, q⟩ := r.seq h1
  exact ⟨a, ys, rfl, t, fun l hl => kq.list g gr q h hl⟩
end

/-! ### isinstance -/
/-- what a value is: a built-in type by name, or an own class -/
def PV.kind : PV → Option (Sum String Addr)
  | .non => some (.inl "NoneType")
  | .bl _ => some (.inl "bool")
  | .int _ => some (.inl "int")
  | .str _ => some (.inl "str")
  | .tup _ => some (.inl "tuple")
  | .lst _ => some (.inl "list")
  | .new (.lst _) => some (.inl "list")
  | .own (.lst _) => some (.inl "list")
  | .obj C _ _ => some (.inr C)
  | _ => none
def kindV : Sum String Addr → Value
  | .inl n => .type n
  | .inr C => .ref C
/-- a class whose instances are told by their type -/
structure ObjC (K : PySem.W.Frag) (C : Addr) : Prop where
  ty : ∀ (H : Hp) (a dx : Addr) (fs : List (Str × V)), H a = some (.ins C dx fs) → TyX K H (.ref a) (.ref C)
theorem ERep.tyx {K : PySem.W.Frag} {Sa M : Addr → Prop} {H0 Hb H : Hp} {p : PV} {v : V} {k : Sum String Addr} (r : ERep K Sa M H0 Hb H p v) (h : p.kind = some k) (hC : ∀ C, k = .inr C → ObjC K C) : TyX K H v (kindV k) := by
  cases r with
  | s r =>
    cases r with
    | plain r =>
      cases r with
      | non => cases h; exact .base .non
      | bl => cases h; exact .base (.bl _)
      | int => cases h; exact .base (.int _)
      | str => cases h; exact .base (.str _)
      | tup e q =>
        cases h
        exact .base (.tup (hide_sub _ _ e))
      | lst e q => cases h; exact .base (.lst (hide_sub _ _ e))
      | obj e l q => cases h; exact (hC _ rfl).ty _ _ _ _ (hide_sub _ _ e)
      | _ => cases h
    | own m n e f t => cases t with
      | lst q => cases h; exact .base (.lst f)
      | _ => cases h
    | st => cases h
  | new n e f t => cases t with
    | lst q => cases h; exact .base (.lst f)
    | _ => cases h
/-- isinstance(x, T): the answer by the kind -/
def wIsi (ans : Sum String Addr → Option Bool) (a : WEx) : WEx := fun ρ Q R => a ρ (fun p => ∃ k b, p.kind = some k ∧ ans k = some b ∧ Q (.bl b)) R
def ansTy (own : List Addr) (T : String) : Sum String Addr → Option Bool
  | .inl n => if n = T then some true else some (n == "bool" && T == "int")
  | .inr C => if C ∈ own then some false else none
def ansCls (own : List Addr) (C : Addr) : Sum String Addr → Option Bool
  | .inl _ => some false
  | .inr D => if D = C then some true else if D ∈ own then some false else none
/-- the built-in types a value may have -/
def kinds : List String := ["NoneType", "bool", "int", "str", "tuple", "list"]
theorem kind_in {p : PV} {n : String} (h : p.kind = some (.inl n)) : n ∈ kinds := by
  unfold PV.kind at h
  split at h <;> first | (cases h; decide) | cases h
section
variable {X : Cx} {W : WX} {pos p : Pos} {e c : Expr} {wa : WEx}
theorem ve_isi {ans : Sum String Addr → Option Bool} {vc : V} {u : Value} (hg : Gl X "isinstance") (hm : X.mg "isinstance" = none) (ha : VE X W e wa) (hc : PE X c (tC vc)) (hcl : ClsV vc u)
    (hC : ∀ C b, ans (.inr C) = some b → ObjC X.K C ∧ PySem.W.kitOne X.K (.ref C) u = some b) (hk : ∀ n b, n ∈ kinds → ans (.inl n) = some b → PySem.W.kitOne X.K (.type n) u = some b)
    (hs : starEach [e, c] X.env = (false, eval e X.env) :: starEach [c] X.env := by rfl) (hs2 : starEach [c] X.env = (false, eval c X.env) :: starEach [] X.env := by rfl) (hpl : (backTo pos (starEach [c] X.env)).any (·.1) = false := by rfl) : VE X W (.Call (.Name "isinstance" p) [e, c] [] pos) (wIsi ans wa) := by
  refine ⟨PE.imp (pe_callB (id := "isinstance") (r := rIsi X.K) call_isi hg hm (by decide +kernel) (pa_cons ha.pe (pa_cons hc pa_nil hs2) hs) (by decide) (by decide) hs hpl) fun σ H Q h => ?_⟩
  obtain ⟨G, ρ, Qp, Rp, g, hw, kq, kx⟩ := h
  refine ⟨G, ρ, _, Rp, g, hw, fun q v H1 s1 g1 r1 h1 => ?_, kx⟩
  obtain ⟨k, b, e1, e2, h2⟩ := h1
  show rIsi X.K [v, vc] H1 Q
  refine ⟨v, vc, kindV k, u, b, rfl, hcl, r1.tyx e1 (fun C z => ?_), ?_, (kq.step s1).bl g1 h2⟩
  · subst z
    exact (hC C b e2).1
  · cases k with
    | inl n => exact hk n b (kind_in e1) e2
    | inr C => exact (hC C b e2).2
/-- isinstance(x, T), T a built-in type -/
theorem ve_isiT (own : List Addr) {T : Str} {Ts : String} {pt : Pos} (hg : Gl X "isinstance") (hm : X.mg "isinstance" = none) (ha : VE X W e wa) (hgT : Gl X T) (hmT : X.mg T = none) (hvT : bootBuiltins T = some (.type Ts))
    (hC : ∀ C ∈ own, ObjC X.K C ∧ PySem.W.kitOne X.K (.ref C) (.type Ts) = some false) (hk : kinds.all (fun n => decide (PySem.W.kitOne X.K (.type n) (.type Ts) = if n = Ts then some true else some (n == "bool" && Ts == "int"))) = true)
    (hn : T ≠ "__name__" := by decide) (hdb : (T == ("__debug__" : Str)) = false := by decide)
    (hs : starEach [e, .Name T pt] X.env = (false, eval e X.env) :: starEach [.Name T pt] X.env := by rfl) (hs2 : starEach [.Name T pt] X.env = (false, eval (.Name T pt) X.env) :: starEach [] X.env := by rfl) (hpl : (backTo pos (starEach [.Name T pt] X.env)).any (·.1) = false := by rfl) : VE X W (.Call (.Name "isinstance" p) [e, .Name T pt] [] pos) (wIsi (ansTy own Ts) wa) := by
  refine ve_isi (vc := .ty Ts) (u := .type Ts) hg hm ha (pe_bltn hgT hmT hvT rfl hn hdb) (.ty Ts) (fun C b h => ?_) (fun n b hn h => ?_) hs hs2 hpl
  · unfold ansTy at h
    dsimp only at h
    split at h
    · rename_i hm
      cases h
      exact hC C hm
    · cases h
  · have q := of_decide_eq_true (List.all_eq_true.mp hk n hn)
    rw [q]
    exact h
/-- isinstance(x, C), C an own class -/
theorem ve_isiC (own : List Addr) {T : Str} {C : Addr} {pt : Pos} (hg : Gl X "isinstance") (hm : X.mg "isinstance" = none) (ha : VE X W e wa) (hgT : Gl X T) (hmT : X.mg T = some (.ref C)) (hO : ObjC X.K C) (hself : PySem.W.kitOne X.K (.ref C) (.ref C) = some true)
    (hC : ∀ D ∈ own, ObjC X.K D ∧ PySem.W.kitOne X.K (.ref D) (.ref C) = some false) (hk : kinds.all (fun n => decide (PySem.W.kitOne X.K (.type n) (.ref C) = some false)) = true)
    (hdb : (T == ("__debug__" : Str)) = false := by decide)
    (hs : starEach [e, .Name T pt] X.env = (false, eval e X.env) :: starEach [.Name T pt] X.env := by rfl) (hs2 : starEach [.Name T pt] X.env = (false, eval (.Name T pt) X.env) :: starEach [] X.env := by rfl) (hpl : (backTo pos (starEach [.Name T pt] X.env)).any (·.1) = false := by rfl) : VE X W (.Call (.Name "isinstance" p) [e, .Name T pt] [] pos) (wIsi (ansCls own C) wa) := by
  refine ve_isi (vc := .ref C) (u := .ref C) hg hm ha (pe_glob hgT hmT rfl hdb) (.own C) (fun D b h => ?_) (fun n b hn h => ?_) hs hs2 hpl
  · unfold ansCls at h
    dsimp only at h
    split at h
    · rename_i hm
      cases h
      subst hm
      exact ⟨hO, hself⟩
    · split at h
      · rename_i hm
        cases h
        exact hC D hm
      · cases h
  · have q := of_decide_eq_true (List.all_eq_true.mp hk n hn)
    cases h
    exact q
end

/-! ### subscripts -/
def oIx : PV → PV → PQ → XQ → Prop := fun x y Q _ => match x, y with
  | .str z, .int i => z.length ≤ sizeLine ∧ ∃ c, atI z.cps.toList i = some c ∧ Q (.str ⟨#[c]⟩)
  | x, .int i => ∃ ps p, x.seq = some ps ∧ atI ps i = some p ∧ Q p
  | _, _ => False
theorem ixN_lt {n : Nat} {i : Int} {j : Nat} (h : ixN n i = some j) : j < n := (ixN_seq h).2.1
theorem Reps.atI {K : PySem.W.Frag} {H : Hp} {ps : List PV} {vs : List V} {i : Int} {p : PV} (r : Reps K H ps vs) (h : atI ps i = some p) : ∃ v, L2.atI vs i = some v ∧ Rep K H p v := by
  unfold L2.atI at h ⊢
  rw [← r.length]
  cases e : ixN ps.length i with
  | none => rw [e] at h; cases h
  | some j =>
    rw [e] at h
    exact r.get h
section
variable {X : Cx} {W : WX} {pos : Pos} {a b : Expr} {wa wb : WEx}
theorem ov_ix : OpV X W (rIx X.K) oIx := by
  intro G ρ σ Hb H Qp Rp Q x y v u g gr rx ry h kq kx
  unfold oIx at h
  split at h
  · obtain ⟨h1, c, h2, h⟩ := h
    cases rx.str; cases ry.int
    exact .inr (.inr ⟨_, _, c, rfl, rfl, h1, h2, kq.str g h⟩)
  · obtain ⟨ps, p, e1, e2, h⟩ := h
    cases ry.int
    obtain ⟨a, ys, rfl, t, q⟩ := rx.seq e1
    obtain ⟨w, e3, r⟩ := q.atI e2
    rcases t with t | t
    · exact .inl ⟨a, ys, _, w, rfl, rfl, t, e3, kq.at g r h⟩
    · exact .inr (.inl ⟨a, ys, _, w, rfl, rfl, t, e3, kq.at g r h⟩)
  · exact h.elim
theorem ve_ix (ha : VE X W a wa) (hb : VE X W b wb) (hs : PlainIx b) : VE X W (.Subscript a b pos) (wOp oIx wa wb) := ⟨PE.imp (pe_ix ix_seq ha.pe hb.pe hs) fun _ _ _ h => lft_op ov_ix h⟩
end
def cutP (xs : List PV) (lo hi : Option Int) : List PV := (xs.drop (HT.sIx xs.length 0 lo)).take (HT.sIx xs.length xs.length hi - HT.sIx xs.length 0 lo)
theorem Reps.cut {K : PySem.W.Frag} {H : Hp} {ps : List PV} {vs : List V} (r : Reps K H ps vs) (lo hi : Option Int) : Reps K H (cutP ps lo hi) (cutV vs lo hi) := by
  unfold cutP cutV
  rw [← r.length]
  exact (r.drop _).take _
abbrev WPt := PEnv → (Option Int → Prop) → XQ → Prop
def wPn : WPt := fun _ Q _ => Q none
def wPs (a : WEx) : WPt := fun ρ Q R => a ρ (fun x => match x with | .int i => Q (some i) | _ => False) R
structure VP (X : Cx) (W : WX) (e : Option Expr) (w : WPt) : Prop where
  po : PO X e fun σ H Q => ∃ G ρ Qp Rp, Good X.K G ρ σ H ∧ w ρ Qp Rp ∧ (∀ b H', Step G ρ σ H H' → Good X.K G ρ σ H' → Qp b → Q b H') ∧ KX X.K W G ρ σ H Rp
theorem PO.imp {X : Cx} {e : Option Expr} {t t' : TO} (h : PO X e t) (i : ∀ σ H Q, t' σ H Q → t σ H Q) : PO X e t' := ⟨fun pins s σ H Q I q => h.run pins s σ H Q I (i σ H Q q)⟩
def oSl : PV → Option Int → Option Int → PQ → Prop := fun x lo hi Q => match x with
  | .str z => z.length ≤ sizeLine ∧ Q (.str (cutS z lo hi))
  | .tup ps => Q (.tup (cutP ps lo hi))
  | .scr ps => Q (.new (.lst (cutP ps lo hi)))
  | x => ∃ ps, x.items = some ps ∧ Q (.new (.lst (cutP ps lo hi)))
def wSl (a : WEx) (l h : WPt) : WEx := fun ρ Q R => a ρ (fun x => l ρ (fun lo => h ρ (fun hi => oSl x lo hi Q) R) R) R
def rSlV (K : PySem.W.Frag) : V → Option Int → Option Int → Hp → VK → Prop := fun x lo hi H Q => rSlA K x lo hi H Q ∨ (rSlL K x lo hi H Q ∨ rSlS x lo hi H Q)
theorem cutP_whole {xs : List PV} {lo hi : Option Int} (h : HT.sIx xs.length 0 lo = 0 ∧ HT.sIx xs.length xs.length hi = xs.length) : cutP xs lo hi = xs := by
  unfold cutP
  rw [h.1, h.2, List.drop_zero, Nat.sub_zero, List.take_length]
section
variable {X : Cx} {W : WX} {pos p2 : Pos} {a : Expr} {lo hi : Option Expr} {wa wb : WEx} {wl wh : WPt}
theorem vp_none : VP X W none wPn := ⟨PO.imp po_none fun σ H Q ⟨G, ρ, Qp, Rp, g, hw, kq, kx⟩ => kq _ _ .refl g hw⟩
theorem vp_some {e : Expr} (h : VE X W e wa) : VP X W (some e) (wPs wa) := ⟨PO.imp (po_some h.pe) fun σ H Q ⟨G, ρ, Qp, Rp, g, hw, kq, kx⟩ => ⟨G, ρ, _, Rp, g, hw, fun p v H1 s1 g1 r1 h1 => by
  dsimp only at h1
  split at h1
  · cases r1.int
    exact ⟨_, rfl, kq _ _ s1 g1 h1⟩
  · exact h1.elim, kx⟩⟩
theorem ve_slice (ha : VE X W a wa) (hl : VP X W lo wl) (hh : VP X W hi wh) : VE X W (.Subscript a (.Slice lo hi none p2) pos) (wSl wa wl wh) := by
  refine ⟨PE.imp (pe_slice (r := rSlV X.K) (sl_tupA.or (sl_list.or sl_str)) ha.pe hl.po hh.po) fun σ H Q ⟨G, ρ, Qp, Rp, g, hw, kq, kx⟩ => ?_⟩
  refine ⟨G, ρ, _, Rp, g, hw, fun x v H1 s1 g1 r1 h1 => ?_, kx⟩
  refine ⟨G, ρ, _, Rp, g1, h1, fun l H2 s2 g2 h2 => ?_, kx.step s1⟩
  refine ⟨G, ρ, _, Rp, g2, h2, fun u H3 s3 g3 h3 => ?_, kx.step (s1.trans s2)⟩
  have s12 := s1.trans s2
  have s13 := s12.trans s3
  have r3 := r1.mono (s2.trans s3)
  unfold oSl at h3
  split at h3
  · cases r3.str
    exact .inr (.inr ⟨_, rfl, h3.1, (kq.step s13).str g3 h3.2⟩)
  · obtain ⟨a, xs, rfl, t, t', q⟩ := r3.tup
    refine .inl ⟨a, xs, rfl, t, fun e => ?_, fun e p hp => (kq.step s13).tup g3 (q.cut l u) h3 hp⟩
    rw [← q.length] at e
    rw [cutP_whole e] at h3
    exact (kq.step s13).at g3 (.tup t' q) h3
  · obtain ⟨a, xs, rfl, t, q⟩ := r3.scr
    exact .inr (.inl ⟨a, xs, rfl, t, fun p hp => (kq.step s13).list g3 (s13.gr g3) (q.cut l u) h3 hp⟩)
  · obtain ⟨ps, e, h⟩ := h3
    obtain ⟨a, xs, rfl, t, q⟩ := r3.items e
    exact .inr (.inl ⟨a, xs, rfl, .of t, fun p hp => (kq.step s13).list g3 (s13.gr g3) (q.cut l u) h hp⟩)
end
end L3

/-! Values without the heap: defs, statements. -/
namespace L3
open PySem PySem.Spec L2

/-! ### what a def promises -/
inductive Args (K : PySem.W.Frag) (S : Addr → Prop) (H : Hp) : List PV → List V → Prop
  | nil : Args K S H [] []
  | cons {p : PV} {v : V} {ps : List PV} {vs : List V} : Rep K H p v → Args K S H ps vs → Args K S H (p :: ps) (v :: vs)
  | st {a : Addr} {ps : List PV} {vs : List V} : S a → Args K S H ps vs → Args K S H (.st :: ps) (.ref a :: vs)
def isSt : PV → Bool
  | .st => true
  | _ => false
def noSt : List PV → Bool
  | [] => true
  | p :: r => !isSt p && noSt r
def stOnce : List PV → Bool
  | [] => true
  | p :: r => if isSt p then noSt r else stOnce r
theorem noSt_get : ∀ {ps : List PV} {i : Nat}, noSt ps = true → ps[i]? = some .st → False
  | [], _, _, h => by simp at h
  | p :: r, 0, h, e => by
    simp at e
    subst e
    simp [noSt, isSt] at h
  | p :: r, i + 1, h, e => by
    simp [noSt] at h
    exact noSt_get (i := i) h.2 (by simpa using e)
theorem stOnce_get : ∀ {ps : List PV} {i j : Nat}, stOnce ps = true → ps[i]? = some .st → ps[j]? = some .st → i = j
  | [], _, _, _, h, _ => by simp at h
  | p :: r, 0, 0, _, _, _ => rfl
  | p :: r, 0, j + 1, h, e1, e2 => by
    simp at e1
    subst e1
    exact (noSt_get (ps := r) (i := j) (by simpa [stOnce, isSt] using h) (by simpa using e2)).elim
  | p :: r, i + 1, 0, h, e1, e2 => by
    simp at e2
    subst e2
    exact (noSt_get (ps := r) (i := i) (by simpa [stOnce, isSt] using h) (by simpa using e1)).elim
  | p :: r, i + 1, j + 1, h, e1, e2 => by
    have h2 : stOnce r = true := by
      unfold stOnce at h
      split at h
      · exact (noSt_get (ps := r) (i := i) h (by simpa using e1)).elim
      · exact h
    rw [stOnce_get (ps := r) (i := i) (j := j) h2 (by simpa using e1) (by simpa using e2)]
inductive RetRep (K : PySem.W.Frag) (M : Addr → Prop) (H0 H : Hp) : PV → V → Prop
  | plain {p : PV} {v : V} : Rep K (hide M H) p v → RetRep K M H0 H p v
  | new {p : PV} {a : Addr} {o : HO} : ¬ M a → H0 a = none → H a = some o → Top K (hide (fun b => M b ∨ b = a) H) p o → RetRep K M H0 H (.new p) (.ref a)
def NS (N S : Addr → Prop) : Addr → Prop := fun b => N b ∨ S b
structure RetOk (K : PySem.W.Frag) (G : Gd) (H : Hp) (p : PV) (v : V) : Prop where
  fr : ∀ b o, ¬ G.S b → G.H0 b = some o → H b = some o
  st : ∀ b, G.S b → StOk H b
  rep : RetRep K (NS G.N G.S) G.H0 H p v
structure ExOk (K : PySem.W.Frag) (G : Gd) (H : Hp) (x : EX) (cls : Value) (d : Option Addr) : Prop where
  fr : ∀ b o, ¬ G.S b → G.H0 b = some o → H b = some o
  st : ∀ b, G.S b → StOk H b
  rep : XRep K (NS G.N G.S) H x cls d
def spL (K : PySem.W.Frag) (n : Nat) (fs : FS) : Sp := fun vs H Q E => vs.length = n ∧ ∃ (N S : Addr → Prop) (ps : List PV) (Qp : PQ) (Rp : XQ), (∀ b, N b → ¬ S b ∧ ∃ o, H b = some o) ∧ (∀ b, S b → StOk H b) ∧
  Args K S (hide (NS N S) H) ps vs ∧ (∀ i j : Nat, ps[i]? = some .st → ps[j]? = some .st → i = j) ∧ fs ps Qp Rp ∧ (∀ p v H', RetOk K ⟨N, S, H⟩ H' p v → Qp p → Q v H') ∧ (∀ x cls d H', ExOk K ⟨N, S, H⟩ H' x cls d → Rp x → E cls d H')
/-- what an argument is for the def called -/
def argP : PV → Option PV
  | .new p => some p
  | .own _ => none
  | p => some p
def argPs : List PV → Option (List PV)
  | [] => some []
  | p :: r => match argP p, argPs r with
    | some q, some qs => some (q :: qs)
    | _, _ => none
theorem argPs_cons {p : PV} {r qs : List PV} (h : argPs (p :: r) = some qs) : ∃ q qs', argP p = some q ∧ argPs r = some qs' ∧ qs = q :: qs' := by
  simp only [argPs] at h
  split at h
  · rename_i q qs' e1 e2
    cases h
    exact ⟨q, qs', e1, e2, rfl⟩
  · cases h
section
variable {K : PySem.W.Frag} {G : Gd} {ρ : PEnv} {σ : St} {Hb H H' : Hp}
/-- the drawn states among the arguments -/
def stA (ps : List PV) (vs : List V) (a : Addr) : Prop := ∃ i : Nat, ps[i]? = some .st ∧ vs[i]? = some (.ref a)
theorem ERep.arg {p q : PV} {v : V} (r : ERep K (SA G ρ σ) (MA G ρ σ) G.H0 Hb H p v) (h : argP p = some q) : (q = .st ∧ p = .st ∧ ∃ a, v = .ref a) ∨ Rep K (hide (MA G ρ σ) H) q v := by
  cases r with
  | s r =>
    cases r with
    | @plain p v r => cases r <;> (cases h; refine .inr ?_; constructor <;> assumption)
    | own => cases h
    | st => cases h; exact .inl ⟨rfl, rfl, _, rfl⟩
  | new n e f t => cases h; exact .inr ((t.mono (hide_anti fun _ z => .inl z)).rep (hide_some.mpr ⟨n, f⟩))
theorem EReps.stA_sa : ∀ {ps qs : List PV} {vs : List V}, EReps K (SA G ρ σ) (MA G ρ σ) G.H0 Hb H ps vs → argPs ps = some qs → ∀ {a : Addr}, stA qs vs a → SA G ρ σ a
  | _, _, _, .nil, h, a, ⟨i, h1, _⟩ => by
    simp only [argPs] at h
    cases h
    simp at h1
  | _, _, _, .cons r t, h, a, ⟨i, h1, h2⟩ => by
    obtain ⟨q, qs', e1, e2, rfl⟩ := argPs_cons h
    cases i with
    | zero =>
      simp at h1 h2
      subst h1
      subst h2
      cases r with
      | s r =>
        cases r with
        | plain r => cases r <;> cases e1
        | own => cases e1
        | st h => exact h
      | new n e f t => cases e1; cases t
    | succ i => exact EReps.stA_sa t e2 ⟨i, by simpa using h1, by simpa using h2⟩
theorem EReps.args {S : Addr → Prop} {H2 : Hp} (s : Same (hide (MA G ρ σ) H) H2) : ∀ {ps qs : List PV} {vs : List V}, EReps K (SA G ρ σ) (MA G ρ σ) G.H0 Hb H ps vs → argPs ps = some qs → (∀ a, stA qs vs a → S a) → Args K S H2 qs vs
  | _, _, _, .nil, h, _ => by simp only [argPs] at h; cases h; exact .nil
  | _, _, _, .cons r t, h, hS => by
    obtain ⟨q, qs', e1, e2, rfl⟩ := argPs_cons h
    have ih := EReps.args s t e2 fun a ⟨i, z1, z2⟩ => hS a ⟨i + 1, by simpa using z1, by simpa using z2⟩
    rcases r.arg e1 with ⟨rfl, rfl, a, rfl⟩ | q
    · exact .st (hS a ⟨0, rfl, rfl⟩) ih
    · exact .cons (q.mono s) ih
theorem argPs_len : ∀ {ps qs : List PV}, argPs ps = some qs → qs.length = ps.length
  | [], _, h => by simp only [argPs] at h; cases h; rfl
  | p :: r, _, h => by
    obtain ⟨q, qs', e1, e2, rfl⟩ := argPs_cons h
    rw [List.length_cons, List.length_cons, argPs_len e2]
/-- a call of a def -/
def oFn (n : Nat) (fs : FS) : List PV → PQ → XQ → Prop := fun ps Q R => ps.length = n ∧ ∃ qs, argPs ps = some qs ∧ stOnce qs = true ∧ fs qs Q R
theorem lft_fn {W : WX} {n : Nat} {fs : FS} {Qp : PQ} {Rp : XQ} {Q : VK} {ps : List PV} {vs : List V} (g : Good K G ρ σ H) (gr : Gr Hb H) (r : EReps K (SA G ρ σ) (MA G ρ σ) G.H0 Hb H ps vs) (h : oFn n fs ps Qp Rp) (kq : KQ K G ρ σ Hb H Qp Q) (kx : KX K W G ρ σ H Rp) :
    spL K n fs vs H Q fun cls d H' => W cls d σ H' := by
  obtain ⟨hn, qs, e, ho, h⟩ := h
  have hsa : ∀ {a : Addr}, stA qs vs a → SA G ρ σ a := fun {a} z => r.stA_sa e z
  have hma : ∀ b, NS (fun b => MA G ρ σ b ∧ ¬ stA qs vs b) (stA qs vs) b → MA G ρ σ b := fun b z => z.elim (·.1) fun y => (hsa y).ma
  have ham : ∀ b, MA G ρ σ b → NS (fun b => MA G ρ σ b ∧ ¬ stA qs vs b) (stA qs vs) b := fun b z => by
    by_cases y : stA qs vs b
    · exact .inr y
    · exact .inl ⟨z, y⟩
  have hst : ∀ {H'}, (∀ b o, ¬ stA qs vs b → H b = some o → H' b = some o) → Step G ρ σ H H' := fun {H'} f b o z y => f b o (fun w => z (hsa w)) y
  have hg : ∀ {H'}, (∀ b o, ¬ stA qs vs b → H b = some o → H' b = some o) → (∀ b, stA qs vs b → StOk H' b) → Good K G ρ σ H' := fun {H'} f s => g.step (hst f) fun a z => by
    by_cases y : stA qs vs a
    · exact s a y
    · obtain ⟨i, j, e1, e2⟩ := g.sa a z
      exact ⟨i, j, f _ _ y e1, e2⟩
  refine ⟨by rw [← r.length]; exact hn, fun b => MA G ρ σ b ∧ ¬ stA qs vs b, stA qs vs, qs, Qp, Rp, fun b z => ⟨z.2, g.ma_some z.1⟩, fun b z => g.sa b (hsa z), r.args (hide_anti hma) e fun a z => z, fun i j e1 e2 => stOnce_get ho e1 e2, h, fun p v H' ⟨f, s, rr⟩ hq => ?_, fun x cls d H' ⟨f, s, rr⟩ hq => ?_⟩
  · refine kq p v H' (hst f) (hg f s) ?_ hq
    cases rr with
    | plain rr => exact .s (.plain (rr.mono (hide_anti ham)))
    | new _ e1 e2 t => exact .new (g.new e1) (gr _ e1) e2 (t.mono (hide_anti fun b z => z.elim (fun y => .inl (ham b y)) .inr))
  · refine kx x cls d H' (hst f) (hg f s) ⟨rr.1, fun f p e => ?_⟩ hq
    obtain ⟨dd, fs, v, e1, e2, e3, rp⟩ := rr.2 f p e
    exact ⟨dd, fs, v, e1, e2, e3, rp.mono (hide_anti ham)⟩
end
section
variable {X : Cx} {W : WX} {pos p : Pos} {e o : Expr} {es : List Expr} {wa : WAs} {wo : WEx} {x m : Str} {k i n : Nat} {f C : Addr} {fd : FuncData} {ps : List Str} {fs : FS}
theorem ve_fn (F : FnOk X.prog X.w X.K X.mg X.base (L2.CX X.prog X.w) k f fd ps (spL X.K n fs)) (hr : Room k X.A) (tk : Takes X W) (hg : Gl X x) (hm : X.mg x = some (.ref f)) (hk : PySem.W.keepIn X.K (.ref f) = true) (hb : Binds X.K fd ps []) (ha : VA X W (e :: es) wa)
    (hdb : (x == ("__debug__" : Str)) = false := by decide) (he : starEach (e :: es) X.env = (false, eval e X.env) :: starEach es X.env := by rfl) (hpl : (backTo pos (starEach es X.env)).any (·.1) = false := by rfl) : VE X W (.Call (.Name x p) (e :: es) [] pos) (wCall (oFn n fs) wa) :=
  ⟨PE.imp (pe_callS F hr hg hm hk hb (fun σ => passAt tk σ) ha.pa hdb he hpl) fun σ H Q ⟨G, ρ, Qp, Rp, g, hw, kq, kx⟩ => ⟨G, ρ, _, Rp, g, hw, fun ps vs H1 s1 g1 r1 h1 => lft_fn g1 (s1.gr g1) r1 h1 (kq.step s1) (kx.step s1), kx⟩⟩
/-- a def that a slot may hold -/
structure HeldF (P : Program) (w : World) (K : PySem.W.Frag) (mg : Str → Option Value) (base : Heap) (k : Nat) (f : Addr) (n : Nat) (fs : FS) : Prop where
  ex : ∃ (fd : FuncData) (ps : List Str), FnOk P w K mg base (L2.CX P w) k f fd ps (spL K n fs) ∧ PySem.W.keepIn K (.ref f) = true ∧ Binds K fd ps []
def wCallV (i : Nat) (S : Addr → Option (Nat × FS)) (a : WAs) : WEx := fun ρ Q R => ∃ f n fs, ρ[i]? = some (some (.adr f)) ∧ S f = some (n, fs) ∧ wCall (oFn n fs) a ρ Q R
theorem ve_fnV {S : Addr → Option (Nat × FS)} (A : ∀ f n fs, S f = some (n, fs) → HeldF X.prog X.w X.K X.mg X.base k f n fs) (hr : Room k X.A) (tk : Takes X W) (hN : X.N[i]? = some x) (hv : Vis X.env.scope x) (ha : VA X W (e :: es) wa)
    (hdb : (x == ("__debug__" : Str)) = false := by decide) (hcd : (x == ("__classdict__" : Str)) = false := by decide)
    (he : starEach (e :: es) X.env = (false, eval e X.env) :: starEach es X.env := by rfl) (hpl : (backTo pos (starEach es X.env)).any (·.1) = false := by rfl) : VE X W (.Call (.Name x p) (e :: es) [] pos) (wCallV i S wa) := by
  refine ⟨⟨fun pins s σ H Q I h => ?_⟩⟩
  obtain ⟨G, ρ, Qp, Rp, g, ⟨f, n, fs, e1, e2, hw⟩, kq, kx⟩ := h
  obtain ⟨fd, ps, F, hk, hb⟩ := (A f n fs e2).ex
  obtain ⟨v, e3, r⟩ := g.slot i _ e1
  cases r with
  | plain r =>
    cases r
    refine wpAny_Call_Name_kw (thn ((pe_var (pos := p) hN hv hdb hcd).run pins s σ H (fun v H1 => v = .ref f ∧ H1 = H) I ⟨.ref f, e3, rfl, rfl⟩) fun u s1 ⟨v, H1, I1, r1, q1⟩ => ?_)
    obtain ⟨rfl, rfl⟩ := q1
    cases r1
    refine PySem.W.callWith_K (h₀ := X.base) I.ok.mod.kin hk (thn (ha.pa.run pos pins s1 σ _ (fun vs H1 => spL X.K n fs vs H1 Q fun cls d H' => W cls d σ H') I1 ⟨G, ρ, _, Rp, g, hw, fun ps vs H1 s1 g1 r1 h1 => lft_fn g1 (s1.gr g1) r1 h1 (kq.step s1) (kx.step s1), kx⟩) fun us s2 ⟨vs, H2, I2, r, q⟩ => ⟨I2.kIn, ?_⟩) he hpl
    exact run_fnS (E := fun σ cls d H' => W cls d σ H') F hr hb (passAt tk σ) I2 r q
end

/-! ### statements -/
structure DE (K : PySem.W.Frag) (W : WX) (G : Gd) (Dp : PEnds) (D : Ends) : Prop where
  nx : ∀ ρ σ H, Good K G ρ σ H → Dp.nx ρ → D.nx σ H
  bk : ∀ ρ σ H, Good K G ρ σ H → Dp.bk ρ → D.bk σ H
  ct : ∀ ρ σ H, Good K G ρ σ H → Dp.ct ρ → D.ct σ H
  rt : ∀ p v H, RetOk K G H p v → Dp.rt p → D.rt v H
  ex : ∀ x cls d ρ σ H, Good K G ρ σ H → XRep K (MA G ρ σ) H x cls d → Dp.ex x ρ → W cls d σ H
def lftS (K : PySem.W.Frag) (W : WX) (w : WSt) : TS := fun D σ H => ∃ G ρ Dp, Good K G ρ σ H ∧ w Dp ρ ∧ DE K W G Dp D
structure VS (X : Cx) (W : WX) (st : Stmt) (w : WSt) : Prop where
  ps : PS X st (lftS X.K W w)
structure VSs (X : Cx) (W : WX) (st : List Stmt) (w : WSt) : Prop where
  pss : PSs X st (lftS X.K W w)
def wNext : WSt := fun D ρ => D.nx ρ
def wSeq (a b : WSt) : WSt := fun D ρ => a ⟨fun ρ' => b D ρ', D.rt, D.bk, D.ct, D.ex⟩ ρ
def wExpr (a : WEx) : WSt := fun D ρ => a ρ (fun _ => D.nx ρ) fun x => D.ex x ρ
def wIf (c : WTs) (a b : WSt) : WSt := fun D ρ => c ρ (fun k => if k = true then a D ρ else b D ρ) fun x => D.ex x ρ
/-- slot i holds what e gives -/
def wSet (i : Nat) (a : WEx) : WSt := fun D ρ => a ρ (fun p => p.gives = true ∧ D.nx (ρ.set i (some p.thaw))) fun x => D.ex x ρ
/-- .. a new list of its own -/
def wOwn (i : Nat) (a : WEx) : WSt := fun D ρ => a ρ (fun p => ∃ q, p = .new q ∧ D.nx (ρ.set i (some (.own q)))) fun x => D.ex x ρ
/-- .. the drawn state -/
def wStS (i : Nat) (a : WEx) : WSt := fun D ρ => a ρ (fun p => ∃ x y : Int, p = .new (.lst [.int x, .int y]) ∧ 0 ≤ x ∧ 0 ≤ y ∧ y < 2147483647 ∧ D.nx (ρ.set i (some .st))) fun x => D.ex x ρ
/-- what a def hands back -/
def retP : PV → Option PV
  | .own q => some (.new q)
  | .st => none
  | p => some p
def wRet (a : WEx) : WSt := fun D ρ => a ρ (fun p => ∃ q, retP p = some q ∧ D.rt q) fun x => D.ex x ρ
def wRetN : WSt := fun D _ => D.rt .non
def wBreak : WSt := fun D ρ => D.bk ρ
def wCont : WSt := fun D ρ => D.ct ρ
section
variable {K : PySem.W.Frag} {W : WX} {G : Gd} {ρ : PEnv} {σ : St} {Hb H H' : Hp} {Dp : PEnds} {D : Ends}
theorem DE.kx (d : DE K W G Dp D) : KX K W G ρ σ H fun x => Dp.ex x ρ := fun x cls dd H' _ g r h => d.ex x cls dd ρ σ H' g r h
theorem get_set_eq {α : Type} {l : List α} {i : Nat} {x y : α} (h : (l.set i x)[i]? = some y) : x = y := by
  by_cases hi : i < l.length
  · rw [List.getElem?_set_self hi] at h
    exact Option.some.inj h
  · rw [List.getElem?_eq_none (by rw [List.length_set]; omega)] at h
    cases h
theorem get_set_ne {α : Type} {l : List α} {i j : Nat} {x : α} (h : i ≠ j) : (l.set i x)[j]? = l[j]? := List.getElem?_set_ne h
theorem SRep.weak {Sa M Sa' M' : Addr → Prop} {H0 : Hp} (hS : ∀ a, Sa' a → Sa a) (hM : ∀ a, M' a → M a) {p : PV} {v : V} (hst : p = .st → ∀ a, v = .ref a → Sa' a) (hown : ∀ q, p = .own q → ∀ a, v = .ref a → M' a) : SRep K Sa M H0 H p v → SRep K Sa' M' H0 H p v
  | .plain r => .plain (r.mono (hide_anti hM))
  | .own m n h e t => .own (hown _ rfl _ rfl) (fun z => n (hS _ z)) h e (t.mono (hide_anti hM))
  | .st h => .st (hst rfl _ rfl)
theorem Good.sl_len (g : Good K G ρ σ H) {i : Nat} {p : PV} (h : ρ[i]? = some (some p)) : i < σ.length := by
  obtain ⟨h1, _⟩ := List.getElem?_eq_some_iff.mp h
  rw [← g.len]
  exact h1
/-- a plain value is stored -/
theorem Good.put (g : Good K G ρ σ H) {p : PV} {v : V} (r : Rep K (hide (MA G ρ σ) H) p v) (i : Nat) : Good K G (ρ.set i (some p)) (σ.set i (some v)) H := by
  have hp : isMut p = false := by cases r <;> rfl
  have back : ∀ {j : Nat} {q : PV}, (ρ.set i (some p))[j]? = some (some q) → isMut q = true → j ≠ i ∧ ρ[j]? = some (some q) := fun {j q} e m => by
    by_cases hj : j = i
    · subst hj
      have := get_set_eq e
      cases this
      rw [hp] at m; cases m
    · rw [get_set_ne (Ne.symm hj)] at e
      exact ⟨hj, e⟩
  have hSA : ∀ a, SA G (ρ.set i (some p)) (σ.set i (some v)) a → SA G ρ σ a := fun a z => by
    rcases z with z | ⟨j, e1, e2⟩
    · exact .inl z
    · obtain ⟨hj, e⟩ := back e1 rfl
      rw [get_set_ne (Ne.symm hj)] at e2
      exact .inr ⟨j, e, e2⟩
  have hMA : ∀ a, MA G (ρ.set i (some p)) (σ.set i (some v)) a → MA G ρ σ a := fun a z => by
    rcases z with z | z | ⟨j, q, e1, m, e2⟩
    · exact .inl z
    · exact .inr (.inl z)
    · obtain ⟨hj, e⟩ := back e1 m
      rw [get_set_ne (Ne.symm hj)] at e2
      exact .inr (.inr ⟨j, q, e, m, e2⟩)
  refine ⟨by rw [List.length_set, List.length_set]; exact g.len, g.fr, g.nn, fun a z => g.sa a (hSA a z), fun a z => g.sl a (hSA a z), fun j q e => ?_, fun j k q q' a e1 e2 m1 m2 f1 f2 => ?_⟩
  · by_cases hj : j = i
    · subst hj
      have h2 := get_set_eq e
      cases h2
      have hl : j < σ.length := by
        obtain ⟨h1, _⟩ := List.getElem?_eq_some_iff.mp e
        rw [List.length_set] at h1
        rw [← g.len]; exact h1
      exact ⟨v, List.getElem?_set_self hl, .plain (r.mono (hide_anti hMA))⟩
    · rw [get_set_ne (Ne.symm hj)] at e
      obtain ⟨u, e2, r2⟩ := g.slot j q e
      refine ⟨u, by rw [get_set_ne (Ne.symm hj)]; exact e2, r2.weak hSA hMA (fun z a y => ?_) fun q' z a y => ?_⟩
      · subst z; subst y
        exact .inr ⟨j, by rw [get_set_ne (Ne.symm hj)]; exact e, by rw [get_set_ne (Ne.symm hj)]; exact e2⟩
      · subst z; subst y
        exact .inr (.inr ⟨j, _, by rw [get_set_ne (Ne.symm hj)]; exact e, rfl, by rw [get_set_ne (Ne.symm hj)]; exact e2⟩)
  · obtain ⟨h1, e1⟩ := back e1 m1
    obtain ⟨h2, e2⟩ := back e2 m2
    rw [get_set_ne (Ne.symm h1)] at f1
    rw [get_set_ne (Ne.symm h2)] at f2
    exact g.inj j k q q' a e1 e2 m1 m2 f1 f2
theorem Good.h0_none (g : Good K G ρ σ H) {a : Addr} (h : H a = none) : G.H0 a = none := by
  cases e : G.H0 a with
  | none => rfl
  | some o =>
    by_cases z : G.S a
    · obtain ⟨_, _, q, _⟩ := g.sa a (.inl z)
      rw [h] at q; cases q
    · rw [g.fr a o z e] at h; cases h
/-- a new object is stored, to be changed: p is own q, or the drawn state -/
theorem Good.putNew (g : Good K G ρ σ H) (s : Step G ρ σ H H') (g' : Good K G ρ σ H') {p : PV} {a : Addr} (n : H a = none) (na : ¬ MA G ρ σ a) (i : Nat) (hi : i < ρ.length)
    (hp : (∃ q o, p = .own q ∧ H' a = some o ∧ Top K (hide (fun b => MA G ρ σ b ∨ b = a) H') q o) ∨ (p = .st ∧ StOk H' a)) : Good K G (ρ.set i (some p)) (σ.set i (some (.ref a))) H' := by
  have hil : i < σ.length := by rw [← g.len]; exact hi
  have hm : isMut p = true := by
    rcases hp with ⟨q, o, rfl, _⟩ | ⟨rfl, _⟩ <;> rfl
  have h0 := g.h0_none n
  have nS : ¬ G.S a := fun z => na (.inr (.inl z))
  have hSA : ∀ b, SA G (ρ.set i (some p)) (σ.set i (some (.ref a))) b → SA G ρ σ b ∨ (p = .st ∧ b = a) := fun b z => by
    rcases z with z | ⟨j, e1, e2⟩
    · exact .inl (.inl z)
    · by_cases hj : j = i
      · subst hj
        have h1 := get_set_eq e1
        have h2 := get_set_eq e2
        cases h1; cases h2
        exact .inr ⟨rfl, rfl⟩
      · rw [get_set_ne (Ne.symm hj)] at e1 e2
        exact .inl (.inr ⟨j, e1, e2⟩)
  have hMA : ∀ b, MA G (ρ.set i (some p)) (σ.set i (some (.ref a))) b → MA G ρ σ b ∨ b = a := fun b z => by
    rcases z with z | z | ⟨j, q, e1, m, e2⟩
    · exact .inl (.inl z)
    · exact .inl (.inr (.inl z))
    · by_cases hj : j = i
      · subst hj
        have h2 := get_set_eq e2
        cases h2
        exact .inr rfl
      · rw [get_set_ne (Ne.symm hj)] at e1 e2
        exact .inl (.inr (.inr ⟨j, q, e1, m, e2⟩))
  -- what stood in the slots does not touch a
  have old : Same (hide (MA G ρ σ) H) (hide (MA G (ρ.set i (some p)) (σ.set i (some (.ref a)))) H') := fun b o z => by
    obtain ⟨z1, z2⟩ := hide_some.mp z
    refine hide_some.mpr ⟨fun y => ?_, s b o (fun y => z1 y.ma) z2⟩
    rcases hMA b y with y | y
    · exact z1 y
    · rw [y, n] at z2; cases z2
  have new : Same (hide (fun b => MA G ρ σ b ∨ b = a) H') (hide (MA G (ρ.set i (some p)) (σ.set i (some (.ref a)))) H') := hide_anti hMA
  have at_ : MA G (ρ.set i (some p)) (σ.set i (some (.ref a))) a := .inr (.inr ⟨i, p, List.getElem?_set_self hi, hm, List.getElem?_set_self hil⟩)
  refine ⟨by rw [List.length_set, List.length_set]; exact g.len, g'.fr, g.nn, fun b z => ?_, fun b z => ?_, fun j q e => ?_, fun j k q q' b e1 e2 m1 m2 f1 f2 => ?_⟩
  · rcases hSA b z with z | ⟨z1, z2⟩
    · exact g'.sa b z
    · subst z2
      rcases hp with ⟨q, o, y, _⟩ | ⟨_, y⟩
      · rw [z1] at y; cases y
      · exact y
  · rcases hSA b z with z | ⟨z1, z2⟩
    · exact g.sl b z
    · subst z2; exact .inr h0
  · by_cases hj : j = i
    · subst hj
      have h1 := get_set_eq e
      cases h1
      refine ⟨.ref a, List.getElem?_set_self hil, ?_⟩
      rcases hp with ⟨q', o, rfl, e3, t⟩ | ⟨rfl, y⟩
      · refine .own at_ (fun z => ?_) h0 e3 (t.mono new)
        rcases hSA a z with z | ⟨z1, _⟩
        · exact na z.ma
        · cases z1
      · exact .st (.inr ⟨j, List.getElem?_set_self hi, List.getElem?_set_self hil⟩)
    · rw [get_set_ne (Ne.symm hj)] at e
      obtain ⟨u, e2, r2⟩ := g.slot j q e
      refine ⟨u, by rw [get_set_ne (Ne.symm hj)]; exact e2, ?_⟩
      cases r2 with
      | plain r => exact .plain (r.mono old)
      | own m z1 z2 z3 t =>
        refine .own (.inr (.inr ⟨j, _, by rw [get_set_ne (Ne.symm hj)]; exact e, rfl, by rw [get_set_ne (Ne.symm hj)]; exact e2⟩)) (fun z => ?_) z2 (s _ _ z1 z3) (t.mono old)
        rcases hSA _ z with z | ⟨_, z⟩
        · exact z1 z
        · rw [z, n] at z3; cases z3
      | st z => exact .st (.inr ⟨j, by rw [get_set_ne (Ne.symm hj)]; exact e, by rw [get_set_ne (Ne.symm hj)]; exact e2⟩)
  · have dis : ∀ {j : Nat} {q : PV} {b : Addr}, j ≠ i → (ρ.set i (some p))[j]? = some (some q) → isMut q = true → (σ.set i (some (.ref a)))[j]? = some (some (.ref b)) → b ≠ a := fun {j q b} hj e m f z => by
      rw [get_set_ne (Ne.symm hj)] at e f
      exact na (by rw [← z]; exact .inr (.inr ⟨j, q, e, m, f⟩))
    by_cases hj : j = i
    · by_cases hk : k = i
      · rw [hj, hk]
      · subst hj
        have h2 := get_set_eq f1
        cases h2
        exact absurd rfl (dis hk e2 m2 f2)
    · by_cases hk : k = i
      · subst hk
        have h2 := get_set_eq f2
        cases h2
        exact absurd rfl (dis hj e1 m1 f1)
      · rw [get_set_ne (Ne.symm hj)] at e1 f1
        rw [get_set_ne (Ne.symm hk)] at e2 f2
        exact g.inj j k q q' b e1 e2 m1 m2 f1 f2
theorem hide_upd_in {M : Addr → Prop} {a : Addr} {o : HO} (m : M a) : hide M (upd H a o) = hide M H := by
  funext b
  unfold hide
  by_cases h : M b
  · rw [if_pos h, if_pos h]
  · rw [if_neg h, if_neg h, upd_ne (fun e => h (by rw [e]; exact m))]
/-- the object of slot i is changed -/
theorem Good.change (g : Good K G ρ σ H) {i : Nat} {q q' : PV} {a : Addr} {o : HO} (hi : ρ[i]? = some (some (.own q))) (hs : σ[i]? = some (some (.ref a))) (t : Top K (hide (MA G ρ σ) H) q' o) : Good K G (ρ.set i (some (.own q'))) σ (upd H a o) := by
  have hl : i < ρ.length := (List.getElem?_eq_some_iff.mp hi).1
  have ma : MA G ρ σ a := .inr (.inr ⟨i, _, hi, rfl, hs⟩)
  have na : ¬ SA G ρ σ a ∧ G.H0 a = none := by
    obtain ⟨v, e, r⟩ := g.slot i _ hi
    rw [hs] at e; cases e
    cases r with
    | plain r => cases r
    | own m n h e t => exact ⟨n, h⟩
  have get : ∀ {j : Nat} {p : PV}, (ρ.set i (some (.own q')))[j]? = some (some p) → (j = i ∧ p = .own q') ∨ (j ≠ i ∧ ρ[j]? = some (some p)) := fun {j p} e => by
    by_cases hj : j = i
    · subst hj
      have := get_set_eq e
      cases this
      exact .inl ⟨rfl, rfl⟩
    · rw [get_set_ne (Ne.symm hj)] at e
      exact .inr ⟨hj, e⟩
  have hSA : ∀ b, SA G (ρ.set i (some (.own q'))) σ b ↔ SA G ρ σ b := fun b => ⟨fun z => by
    rcases z with z | ⟨j, e1, e2⟩
    · exact .inl z
    · rcases get e1 with ⟨_, y⟩ | ⟨_, y⟩
      · cases y
      · exact .inr ⟨j, y, e2⟩, fun z => by
    rcases z with z | ⟨j, e1, e2⟩
    · exact .inl z
    · have hj : i ≠ j := fun y => by rw [← y, hi] at e1; cases e1
      exact .inr ⟨j, by rw [get_set_ne hj]; exact e1, e2⟩⟩
  have hMA : ∀ b, MA G (ρ.set i (some (.own q'))) σ b ↔ MA G ρ σ b := fun b => ⟨fun z => by
    rcases z with z | z | ⟨j, p, e1, m, e2⟩
    · exact .inl z
    · exact .inr (.inl z)
    · rcases get e1 with ⟨y, _⟩ | ⟨_, y⟩
      · subst y; exact .inr (.inr ⟨j, _, hi, rfl, e2⟩)
      · exact .inr (.inr ⟨j, p, y, m, e2⟩), fun z => by
    rcases z with z | z | ⟨j, p, e1, m, e2⟩
    · exact .inl z
    · exact .inr (.inl z)
    · by_cases hj : i = j
      · subst hj; exact .inr (.inr ⟨i, .own q', List.getElem?_set_self hl, rfl, e2⟩)
      · exact .inr (.inr ⟨j, p, by rw [get_set_ne hj]; exact e1, m, e2⟩)⟩
  have hh : Same (hide (MA G ρ σ) H) (hide (MA G (ρ.set i (some (.own q'))) σ) (upd H a o)) := fun b u z => by
    rw [← hide_upd_in (o := o) ma] at z
    exact hide_anti (fun b y => (hMA b).mp y) b u z
  have keep : ∀ {b : Addr} {u : HO}, b ≠ a → H b = some u → upd H a o b = some u := fun {b u} e z => by rw [upd_ne e]; exact z
  have sne : ∀ {b : Addr}, SA G ρ σ b → b ≠ a := fun {b} z e => na.1 (by rw [← e]; exact z)
  refine ⟨by rw [List.length_set]; exact g.len, fun b u n e => keep (fun z => by rw [z, na.2] at e; cases e) (g.fr b u n e), g.nn, fun b z => ?_, fun b z => g.sl b ((hSA b).mp z), fun j p e => ?_, fun j k p p' b e1 e2 m1 m2 f1 f2 => ?_⟩
  · obtain ⟨x, y, e1, e2⟩ := g.sa b ((hSA b).mp z)
    exact ⟨x, y, keep (sne ((hSA b).mp z)) e1, e2⟩
  · rcases get e with ⟨rfl, rfl⟩ | ⟨hj, e⟩
    · exact ⟨_, hs, .own ((hMA a).mpr ma) (fun z => na.1 ((hSA a).mp z)) na.2 upd_same (t.mono hh)⟩
    · obtain ⟨u, e2, r2⟩ := g.slot j p e
      refine ⟨u, e2, ?_⟩
      cases r2 with
      | plain r => exact .plain (r.mono hh)
      | own m z1 z2 z3 t2 =>
        refine .own ((hMA _).mpr m) (fun z => z1 ((hSA _).mp z)) z2 (keep (fun z => ?_) z3) (t2.mono hh)
        rw [z] at e2
        exact hj (g.inj j i _ _ a e hi rfl rfl e2 hs)
      | st z => exact .st ((hSA _).mpr z)
  · have up : ∀ {j : Nat} {p : PV}, (ρ.set i (some (.own q')))[j]? = some (some p) → isMut p = true → ∃ p', ρ[j]? = some (some p') ∧ isMut p' = true := fun {j p} e m => by
      rcases get e with ⟨rfl, _⟩ | ⟨_, e⟩
      · exact ⟨_, hi, rfl⟩
      · exact ⟨p, e, m⟩
    obtain ⟨p1, e1, m1⟩ := up e1 m1
    obtain ⟨p2, e2, m2⟩ := up e2 m2
    exact g.inj j k p1 p2 b e1 e2 m1 m2 f1 f2
end
end L3

/-! Values without the heap: statements. -/
namespace L3
open PySem PySem.Spec L2

section
variable {X : Cx} {W : WX} {pos : Pos} {e : Expr} {st : Stmt} {rest sts sts2 : List Stmt} {wa wb : WEx} {w w1 w2 : WSt} {wt : WTs} {K : PySem.W.Frag} {G : Gd} {ρ : PEnv} {σ : St} {Hb H H' : Hp} {Dp : PEnds} {D : Ends}
theorem vss_nil : VSs X W [] wNext := ⟨PSs.imp pss_nil fun D σ H ⟨G, ρ, Dp, g, hw, de⟩ => de.nx ρ σ H g hw⟩
theorem vss_cons (h1 : VS X W st w1) (h2 : VSs X W rest w2) : VSs X W (st :: rest) (wSeq w1 w2) :=
  ⟨PSs.imp (pss_cons h1.ps h2.pss) fun D σ H ⟨G, ρ, Dp, g, hw, de⟩ => ⟨G, ρ, ⟨fun ρ' => w2 Dp ρ', Dp.rt, Dp.bk, Dp.ct, Dp.ex⟩, g, hw, ⟨fun ρ' σ' H' g' h' => ⟨G, ρ', Dp, g', h', de⟩, de.bk, de.ct, de.rt, de.ex⟩⟩⟩
theorem vss_one (h1 : VS X W st w1) : VSs X W [st] w1 := ⟨PSs.imp (pss_one h1.ps) fun _ _ _ h => h⟩
theorem vs_pass : VS X W (.Pass pos) wNext := ⟨PS.imp ps_pass fun D σ H ⟨G, ρ, Dp, g, hw, de⟩ => de.nx ρ σ H g hw⟩
theorem vs_break : VS X W (.Break pos) wBreak := ⟨PS.imp ps_break fun D σ H ⟨G, ρ, Dp, g, hw, de⟩ => de.bk ρ σ H g hw⟩
theorem vs_continue : VS X W (.Continue pos) wCont := ⟨PS.imp ps_continue fun D σ H ⟨G, ρ, Dp, g, hw, de⟩ => de.ct ρ σ H g hw⟩
theorem vs_expr (he : VE X W e wa) (hs : swapsWith e none pos.line X.env = pure false := by rfl) : VS X W (.Expr e pos) (wExpr wa) :=
  ⟨PS.imp (ps_expr he.pe hs) fun D σ H ⟨G, ρ, Dp, g, hw, de⟩ => ⟨G, ρ, _, _, g, hw, fun p v H' s g' r h => de.nx ρ σ H' g' h, de.kx⟩⟩
theorem vs_if {c : Expr} (hc : VT X W c wt) (ha : VSs X W sts w1) (hb : VSs X W sts2 w2) : VS X W (.If c sts sts2 pos) (wIf wt w1 w2) :=
  ⟨PS.imp (ps_if hc.pt ha.pss hb.pss) fun D σ H ⟨G, ρ, Dp, g, hw, de⟩ => ⟨G, ρ, _, _, g, hw, fun b H' s g' h => by
    cases b with
    | true => exact ⟨G, ρ, Dp, g', h, de⟩
    | false => exact ⟨G, ρ, Dp, g', h, de⟩, de.kx⟩⟩
theorem ERep.ret {p q : PV} {v : V} (g : Good K G ρ σ H) (r : ERep K (SA G ρ σ) (MA G ρ σ) G.H0 Hb H p v) (hb : ∀ a, Hb a = none → G.H0 a = none) (h : retP p = some q) : RetOk K G H q v := by
  have hN : ∀ b, NS G.N G.S b → MA G ρ σ b := fun b z => z.elim .inl fun y => .inr (.inl y)
  refine ⟨g.fr, fun b z => g.sa b (.inl z), ?_⟩
  cases r with
  | s r =>
    cases r with
    | @plain p v r => cases r <;> (cases h; refine .plain (Rep.mono (hide_anti hN) ?_); constructor <;> assumption)
    | own m n e f t =>
      cases h
      refine .new (fun z => z.elim (fun y => by
        obtain ⟨_, o', q⟩ := g.nn _ y
        rw [e] at q; cases q) fun y => n (.inl y)) e f (t.mono (hide_anti fun b z => z.elim (hN b) fun y => ?_))
      rw [y]; exact m
    | st => cases h
  | new n e f t =>
    cases h
    exact .new (fun z => n (hN _ z)) (hb _ e) f (t.mono (hide_anti fun b z => z.elim (fun y => .inl (hN b y)) .inr))
theorem vs_ret (he : VE X W e wa) : VS X W (.Return (some e) pos) (wRet wa) :=
  ⟨PS.imp (ps_ret he.pe) fun D σ H ⟨G, ρ, Dp, g, hw, de⟩ => ⟨G, ρ, _, _, g, hw, fun p v H' s g' r ⟨q, h1, h2⟩ => de.rt q v H' (r.ret g' (fun a z => g.h0_none z) h1) h2, de.kx⟩⟩
theorem vs_retN : VS X W (.Return none pos) wRetN :=
  ⟨PS.imp ps_retN fun D σ H ⟨G, ρ, Dp, g, hw, de⟩ => de.rt .non .non H ⟨g.fr, fun b z => g.sa b (.inl z), .plain .non⟩ hw⟩
variable {i : Nat} {x : Str} {pos' : Pos}
theorem vs_set (he : VE X W e wa) (hN : X.N.Nodup) (hi : X.N[i]? = some x) (hx : Loc X.env.scope x) (hs : swapsWith e (some (.Name x pos')) pos.line X.env = pure false := by rfl) (hf : X.fn x = true ∨ X.env.scope.names.lookup x = some .local := by first | exact .inl rfl | exact .inr rfl | assumption) : VS X W (.Assign [.Name x pos'] e pos) (wSet i wa) :=
  ⟨PS.imp (ps_set hN hi hx he.pe hs hf) fun D σ H ⟨G, ρ, Dp, g, hw, de⟩ => ⟨G, ρ, _, _, g, hw, fun p v H' s g' r ⟨h1, h2⟩ => de.nx _ _ _ (g'.put (r.rep h1) i) h2, de.kx⟩⟩
theorem vs_own (he : VE X W e wa) (hN : X.N.Nodup) (hi : X.N[i]? = some x) (hx : Loc X.env.scope x) (hs : swapsWith e (some (.Name x pos')) pos.line X.env = pure false := by rfl) (hf : X.fn x = true ∨ X.env.scope.names.lookup x = some .local := by first | exact .inl rfl | exact .inr rfl | assumption) : VS X W (.Assign [.Name x pos'] e pos) (fun D ρ => i < ρ.length ∧ wOwn i wa D ρ) :=
  ⟨PS.imp (ps_set hN hi hx he.pe hs hf) fun D σ H ⟨G, ρ, Dp, g, ⟨hil, hw⟩, de⟩ => ⟨G, ρ, _, _, g, hw, fun p v H' s g' r ⟨q, h1, h2⟩ => by
    subst h1
    cases r with
    | s r => cases r with
      | plain r => cases r
    | new n e f t => exact de.nx _ _ _ (g.putNew s g' e n i hil (.inl ⟨q, _, rfl, f, t⟩)) h2, de.kx⟩⟩
theorem vs_stS (he : VE X W e wa) (hN : X.N.Nodup) (hi : X.N[i]? = some x) (hx : Loc X.env.scope x) (hs : swapsWith e (some (.Name x pos')) pos.line X.env = pure false := by rfl) (hf : X.fn x = true ∨ X.env.scope.names.lookup x = some .local := by first | exact .inl rfl | exact .inr rfl | assumption) : VS X W (.Assign [.Name x pos'] e pos) (fun D ρ => i < ρ.length ∧ wStS i wa D ρ) :=
  ⟨PS.imp (ps_set hN hi hx he.pe hs hf) fun D σ H ⟨G, ρ, Dp, g, ⟨hil, hw⟩, de⟩ => ⟨G, ρ, _, _, g, hw, fun p v H' s g' r ⟨j, k, h1, h0, h3, h4, h2⟩ => by
    subst h1
    cases r with
    | s r => cases r with
      | plain r => cases r
    | new n e f t =>
      cases t with
      | lst q =>
        cases q with
        | cons q1 q2 =>
          cases q2 with
          | cons q2 q3 =>
            cases q1; cases q2; cases q3
            exact de.nx _ _ _ (g.putNew s g' e n i hil (.inr ⟨rfl, _, _, f, h0, h3, h4⟩)) h2, de.kx⟩⟩

/-! ### targets -/
end
abbrev WTg := PV → PEnv → (PEnv → Prop) → Prop
abbrev WTgs := List PV → PEnv → (PEnv → Prop) → Prop
/-! a target: a name's slot, a tuple of targets -/
mutual
inductive TD where
  | name (i : Nat)
  | tup (n : Nat) (l : TDs)
inductive TDs where
  | nil
  | cons (a : TD) (l : TDs)
end
mutual
def tgT (K : PySem.W.Frag) : TD → TG
  | .name i => gName i
  | .tup n l => gTup K n (tgTs K l)
def tgTs (K : PySem.W.Frag) : TDs → TGs
  | .nil => gNil
  | .cons a l => gCons (tgT K a) (tgTs K l)
end
mutual
def tgW : TD → WTg
  | .name i => fun p ρ Q => Q (ρ.set i (some p))
  | .tup n l => fun p ρ Q => ∃ ps, p = .tup ps ∧ ps.length = n ∧ tgWs l ps ρ Q
def tgWs : TDs → WTgs
  | .nil => fun ps ρ Q => ps = [] ∧ Q ρ
  | .cons a l => fun ps ρ Q => ∃ p qs, ps = p :: qs ∧ tgW a p ρ fun ρ' => tgWs l qs ρ' Q
end
mutual
def tgS : TD → List Nat
  | .name i => [i]
  | .tup _ l => tgSs l
def tgSs : TDs → List Nat
  | .nil => []
  | .cons a l => tgS a ++ tgSs l
end
structure VG (X : Cx) (tg : Expr) (td : TD) : Prop where
  pg : PG X tg (tgT X.K td)
structure VGs (X : Cx) (tg : List Expr) (td : TDs) : Prop where
  pgs : PGs X tg (tgTs X.K td)
section
variable {K : PySem.W.Frag} {W : WX} {G : Gd} {ρ : PEnv} {σ : St} {Hb H H' : Hp} {Dp : PEnds} {D : Ends}
theorem MA.put {p : PV} {v : V} (hp : isMut p = false) {i : Nat} {a : Addr} (z : MA G (ρ.set i (some p)) (σ.set i (some v)) a) : MA G ρ σ a := by
  rcases z with z | z | ⟨j, q, e1, m, e2⟩
  · exact .inl z
  · exact .inr (.inl z)
  · by_cases hj : j = i
    · subst hj
      have := get_set_eq e1
      cases this
      rw [hp] at m; cases m
    · rw [get_set_ne (Ne.symm hj)] at e1 e2
      exact .inr (.inr ⟨j, q, e1, m, e2⟩)
theorem SA.put1 {p : PV} {v : V} (hp : isMut p = false) {i : Nat} {a : Addr} (z : SA G (ρ.set i (some p)) (σ.set i (some v)) a) : SA G ρ σ a := by
  rcases z with z | ⟨j, e1, e2⟩
  · exact .inl z
  · by_cases hj : j = i
    · subst hj
      have := get_set_eq e1
      cases this
      cases hp
    · rw [get_set_ne (Ne.symm hj)] at e1 e2
      exact .inr ⟨j, e1, e2⟩
theorem Rep.notMut {p : PV} {v : V} (r : Rep K H p v) : isMut p = false := by cases r <;> rfl
theorem wipe_set {σ : St} {i : Nat} {v : Option V} : ∀ {vs : List Nat}, i ∈ vs → wipe (σ.set i v) vs = wipe σ vs
  | [], h => by cases h
  | j :: vs, h => by
    show (wipe (σ.set i v) vs).set j none = (wipe σ vs).set j none
    by_cases hj : i ∈ vs
    · rw [wipe_set hj]
    · have e : i = j := by
        rcases List.mem_cons.mp h with h | h
        · exact h
        · exact absurd h hj
      subst e
      apply List.ext_getElem?
      intro k
      by_cases hk : k = i
      · subst hk
        by_cases hl : k < σ.length
        · rw [List.getElem?_set_self (by rw [wipe_length, List.length_set]; exact hl), List.getElem?_set_self (by rw [wipe_length]; exact hl)]
        · rw [List.getElem?_eq_none (by rw [List.length_set, wipe_length, List.length_set]; omega), List.getElem?_eq_none (by rw [List.length_set, wipe_length]; omega)]
      · rw [List.getElem?_set_ne (Ne.symm hk), List.getElem?_set_ne (Ne.symm hk)]
        -- the slot k is not i
        have gen : ∀ {vs : List Nat} {τ : St}, (wipe (τ.set i v) vs)[k]? = (wipe τ vs)[k]? := by
          intro vs
          induction vs with
          | nil => intro τ; exact List.getElem?_set_ne (Ne.symm hk)
          | cons j vs ih =>
            intro τ
            show ((wipe (τ.set i v) vs).set j none)[k]? = ((wipe τ vs).set j none)[k]?
            by_cases hjk : j = k
            · subst hjk
              by_cases hl : j < τ.length
              · rw [List.getElem?_set_self (by rw [wipe_length, List.length_set]; exact hl), List.getElem?_set_self (by rw [wipe_length]; exact hl)]
              · rw [List.getElem?_eq_none (by rw [List.length_set, wipe_length, List.length_set]; omega), List.getElem?_eq_none (by rw [List.length_set, wipe_length]; omega)]
            · rw [List.getElem?_set_ne hjk, List.getElem?_set_ne hjk]
              exact ih
        exact gen
/-- what a store to targets leaves -/
structure Left (G : Gd) (M0 : Addr → Prop) (ws : List Nat) (ρ : PEnv) (σ : St) (ρ' : PEnv) (σ' : St) : Prop where
  ma : ∀ b, MA G ρ' σ' b → M0 b
  sa : ∀ b, SA G ρ' σ' b → SA G ρ σ b
  wipe : ∀ vs : List Nat, (∀ i ∈ ws, i ∈ vs) → L2.wipe σ' vs = L2.wipe σ vs
  mu : ∀ (j : Nat) (p : PV), ρ'[j]? = some (some p) → isMut p = true → ρ[j]? = some (some p)
  ma2 : (∀ i ∈ ws, ∀ p, ρ[i]? = some (some p) → isMut p = false) → ∀ b, MA G ρ σ b → MA G ρ' σ' b
mutual
theorem tg_ok : ∀ (td : TD) {ρ : PEnv} {σ : St} {p : PV} {v : V} {Qp : PEnv → Prop} {M0 : Addr → Prop} {Q : St → Hp → Prop}, Good K G ρ σ H → (∀ b, MA G ρ σ b → M0 b) → Rep K (hide M0 H) p v → tgW td p ρ Qp →
    (∀ ρ' σ', Good K G ρ' σ' H → Left G M0 (tgS td) ρ σ ρ' σ' → Qp ρ' → Q σ' H) → tgT K td v σ H Q
  | .name i, ρ, σ, p, v, Qp, M0, Q, g, hM, r, hw, k => by
    simp only [tgW] at hw
    simp only [tgT]
    exact k _ _ (g.put (r.mono (hide_anti hM)) i) ⟨fun b z => hM b (MA.put r.notMut z), fun b z => SA.put1 r.notMut z, fun vs h => wipe_set (h i (by simp [tgS])), fun j p' e m => by
      by_cases hj : j = i
      · subst hj
        have := get_set_eq e
        cases this
        rw [r.notMut] at m; cases m
      · rw [get_set_ne (Ne.symm hj)] at e
        exact e, fun h b z => by
      rcases z with z | z | ⟨j, q, e1, m, e2⟩
      · exact .inl z
      · exact .inr (.inl z)
      · have hj : i ≠ j := fun y => by
          rw [h i (by simp [tgS]) q (by rw [y]; exact e1)] at m
          cases m
        exact .inr (.inr ⟨j, q, by rw [get_set_ne hj]; exact e1, m, by rw [get_set_ne hj]; exact e2⟩)⟩ hw
  | .tup n l, ρ, σ, p, v, Qp, M0, Q, g, hM, r, hw, k => by
    simp only [tgW] at hw
    obtain ⟨ps, e, hl, hw⟩ := hw
    subst e
    simp only [tgT]
    cases r with
    | tup t rr => exact ⟨_, _, rfl, .inl (.inl (hide_sub _ _ t)), by rw [← rr.length]; exact hl, tgs_ok l g hM rr hw fun ρ' σ' g' le h => k ρ' σ' g' ⟨le.ma, le.sa, fun vs h => le.wipe vs (by simpa [tgS] using h), le.mu, fun h => le.ma2 (by simpa [tgS] using h)⟩ h⟩
theorem tgs_ok : ∀ (td : TDs) {ρ : PEnv} {σ : St} {ps : List PV} {vs : List V} {Qp : PEnv → Prop} {M0 : Addr → Prop} {Q : St → Hp → Prop}, Good K G ρ σ H → (∀ b, MA G ρ σ b → M0 b) → Reps K (hide M0 H) ps vs → tgWs td ps ρ Qp →
    (∀ ρ' σ', Good K G ρ' σ' H → Left G M0 (tgSs td) ρ σ ρ' σ' → Qp ρ' → Q σ' H) → tgTs K td vs σ H Q
  | .nil, ρ, σ, ps, vs, Qp, M0, Q, g, hM, r, hw, k => by
    simp only [tgWs] at hw
    obtain ⟨e, hw⟩ := hw
    subst e
    cases r
    simp only [tgTs]
    exact ⟨rfl, k _ _ g ⟨hM, fun _ z => z, fun _ _ => rfl, fun _ _ e _ => e, fun _ _ z => z⟩ hw⟩
  | .cons a l, ρ, σ, ps, vs, Qp, M0, Q, g, hM, r, hw, k => by
    simp only [tgWs] at hw
    obtain ⟨p, qs, e, hw⟩ := hw
    subst e
    simp only [tgTs]
    cases r with
    | cons r rr => exact ⟨_, _, rfl, tg_ok a g hM r hw fun ρ' σ' g' le h => tgs_ok l g' le.ma rr h fun ρ2 σ2 g2 le2 h2 => k ρ2 σ2 g2 ⟨le2.ma, fun b z => le.sa b (le2.sa b z), fun vs hv => by
        simp only [tgSs, List.mem_append] at hv
        rw [le2.wipe vs fun i hi => hv i (.inr hi), le.wipe vs fun i hi => hv i (.inl hi)], fun j p e m => le.mu j p (le2.mu j p e m) m, fun h b z => by
        simp only [tgSs, List.mem_append] at h
        refine le2.ma2 (fun i hi p e => ?_) b (le.ma2 (fun i hi => h i (.inl hi)) b z)
        cases m : isMut p with
        | false => rfl
        | true => rw [h i (.inr hi) p (le.mu i p e m)] at m; cases m⟩ h2⟩
end
end
section
variable {X : Cx} {W : WX} {pos : Pos} {e : Expr} {es : List Expr} {i : Nat} {x : Str} {td : TD} {tds : TDs} {wa : WEx}
theorem vg_name (i : Nat) (hN : X.N.Nodup) (hi : X.N[i]? = some x := by rfl) (hx : Loc X.env.scope x := by first | exact .inl rfl | exact .inr rfl) (hf : X.fn x = true ∨ X.env.scope.names.lookup x = some .local := by first | exact .inl rfl | exact .inr rfl | assumption) : VG X (.Name x pos) (.name i) :=
  ⟨by simp only [tgT]; exact pg_name hN hi hx hf⟩
theorem vgs_nil : VGs X [] .nil := ⟨by simp only [tgTs]; exact pgs_nil⟩
theorem vgs_cons (h1 : VG X e td) (h2 : VGs X es tds) (hs : (assignEach (e :: es) X.env).map (·.2) = assign e X.env :: (assignEach es X.env).map (·.2) := by rfl) : VGs X (e :: es) (.cons td tds) :=
  ⟨by simp only [tgTs]; exact pgs_cons h1.pg h2.pgs hs⟩
theorem vg_tup {k n : Nat} (hc : X.calm = true) (h : VGs X es tds) (hn : (assignEach es X.env).length = n := by rfl) (hst : (assignEach es X.env).findIdx? (·.1) = none := by rfl) : VG X (.Tuple es k pos) (.tup n tds) :=
  ⟨by simp only [tgT]; exact pg_tup hc h.pgs hn hst⟩
def wAsg (a : WEx) (td : TD) : WSt := fun D ρ => a ρ (fun p => p.gives = true ∧ tgW td p.thaw ρ D.nx) fun x => D.ex x ρ
theorem vs_asg {tg : Expr} (he : VE X W e wa) (hg : VG X tg td) (hs : swapsWithSole [tg] e pos.line X.env = pure false := by rfl) (hw : swappedStores [tg] e X.env = pure none := by rfl) (h1 : (assignEach [tg] X.env).map (·.2) = [assign tg X.env] := by rfl) : VS X W (.Assign [tg] e pos) (wAsg wa td) :=
  ⟨PS.imp (ps_asg he.pe hg.pg hs hw h1) fun D σ H ⟨G, ρ, Dp, g, hw, de⟩ => ⟨G, ρ, _, _, g, hw, fun q v H' s g' r ⟨h1, h2⟩ => tg_ok td g' (fun _ z => z) (r.rep h1) h2 fun ρ' σ' g2 _ h3 => de.nx _ _ _ g2 h3, de.kx⟩⟩
end

/-! ### a, b = e, f -/
/-- values that hang on no heap -/
def PV.clean : PV → Bool
  | .non => true
  | .bl _ => true
  | .int _ => true
  | .str _ => true
  | .new (.lst []) => true
  | .new (.dk [] []) => true
  | .new (.dt [] []) => true
  | _ => false
def stored (m : Bool) (p : PV) : Option PV := match m, p with
  | true, .new q => some (.own q)
  | true, _ => none
  | false, p => if p.gives then some p.thaw else none
def noStAt (ρ : PEnv) (i : Nat) : Prop := ρ[i]? ≠ some (some .st)
section
variable {K : PySem.W.Frag} {W : WX} {G : Gd} {ρ : PEnv} {σ : St} {Hb H H' H1 H2 : Hp}
theorem Good.store (g : Good K G ρ σ H) (s : Step G ρ σ H H') (g' : Good K G ρ σ H') {m : Bool} {p q : PV} {v : V} (r : ERep K (SA G ρ σ) (MA G ρ σ) G.H0 H H' p v) (h : stored m p = some q) (i : Nat) (hi : i < ρ.length) :
    Good K G (ρ.set i (some q)) (σ.set i (some v)) H' := by
  unfold stored at h
  split at h
  · cases h
    cases r with
    | s r => cases r with
      | plain r => cases r
    | new n e f t => exact g.putNew s g' e n i hi (.inl ⟨_, _, rfl, f, t⟩)
  · cases h
  · split at h
    · rename_i hg
      cases h
      exact g'.put (r.rep hg) i
    · cases h
theorem stored_mut {m : Bool} {p q : PV} {v : V} (r : ERep K (SA G ρ σ) (MA G ρ σ) G.H0 H H' p v) (h : stored m p = some q) : q ≠ .st ∧ (m = false → isMut q = false) := by
  unfold stored at h
  split at h
  · cases h
    constructor
    · intro z; cases z
    · intro z; cases z
  · cases h
  · split at h
    · rename_i hg
      cases h
      have := (r.rep hg).notMut
      constructor
      · intro z
        rw [z] at this
        cases this
      · intro _
        exact this
    · cases h
theorem SA.put {q : PV} {v : V} {i : Nat} (hq : q ≠ .st) (hn : noStAt ρ i) {a : Addr} : SA G (ρ.set i (some q)) (σ.set i (some v)) a ↔ SA G ρ σ a := by
  constructor
  · intro z
    rcases z with z | ⟨j, e1, e2⟩
    · exact .inl z
    · by_cases hj : j = i
      · subst hj
        have := get_set_eq e1
        cases this
        exact absurd rfl hq
      · rw [get_set_ne (Ne.symm hj)] at e1 e2
        exact .inr ⟨j, e1, e2⟩
  · intro z
    rcases z with z | ⟨j, e1, e2⟩
    · exact .inl z
    · by_cases hj : j = i
      · subst hj
        exact absurd e1 hn
      · exact .inr ⟨j, by rw [get_set_ne (Ne.symm hj)]; exact e1, by rw [get_set_ne (Ne.symm hj)]; exact e2⟩
theorem Step.put {q : PV} {v : V} {i : Nat} (hq : q ≠ .st) (hn : noStAt ρ i) (s : Step G ρ σ H H') : Step G (ρ.set i (some q)) (σ.set i (some v)) H H' := fun b o n e => s b o (fun z => n ((SA.put hq hn).mpr z)) e
theorem Good.later (g1 : Good K G ρ σ H) {q : PV} {v : V} {i : Nat} (hq : q ≠ .st) (hn : noStAt ρ i) (g : Good K G (ρ.set i (some q)) (σ.set i (some v)) H) (s : Step G ρ σ H H') (g' : Good K G ρ σ H') : Good K G (ρ.set i (some q)) (σ.set i (some v)) H' :=
  g.step (s.put hq hn) fun a z => g'.sa a ((SA.put hq hn).mp z)
/-- the value of the next part, seen from behind the store -/
theorem ERep.put {m : Bool} {q p2 : PV} {v v2 : V} {i : Nat} (hq : q ≠ .st) (hn : noStAt ρ i) (hm : m = false → isMut q = false) (hc : m = true → p2.clean = true) (g1 : Good K G (ρ.set i (some q)) (σ.set i (some v)) H1)
    (h2 : (stored false p2).isSome = true ∨ (stored true p2).isSome = true) (r : ERep K (SA G ρ σ) (MA G ρ σ) G.H0 H1 H2 p2 v2) : ERep K (SA G (ρ.set i (some q)) (σ.set i (some v))) (MA G (ρ.set i (some q)) (σ.set i (some v))) G.H0 H1 H2 p2 v2 := by
  cases m with
  | false =>
    have hM : ∀ b, MA G (ρ.set i (some q)) (σ.set i (some v)) b → MA G ρ σ b := fun b z => MA.put (hm rfl) z
    cases r with
    | s r =>
      cases r with
      | plain r => exact .s (.plain (r.mono (hide_anti hM)))
      | own => simp [stored, PV.gives, PV.thaw, PV.plain] at h2
      | st => simp [stored, PV.gives, PV.thaw, PV.plain] at h2
    | new n e f t => exact .new (fun z => n (hM _ z)) e f (t.mono (hide_anti fun b z => z.elim (fun y => .inl (hM b y)) .inr))
  | true =>
    have h := hc rfl
    cases r with
    | s r =>
      cases r with
      | plain r =>
        cases r with
        | non => exact .s (.plain .non)
        | bl => exact .s (.plain (.bl _))
        | int => exact .s (.plain (.int _))
        | str => exact .s (.plain (.str _))
        | _ => cases h
      | own => cases h
      | st => cases h
    | new n e f t =>
      refine .new (g1.new e) e f ?_
      cases t with
      | lst q => cases q with
        | nil => exact .lst .nil
        | cons => cases h
      | @dk ks ps xs l q =>
        cases ks with
        | nil => cases q with
          | nil => exact .dk rfl .nil
          | cons => cases h
        | cons => cases h
      | @dt ks ps xs l q =>
        cases ks with
        | nil => cases q with
          | nil => exact .dt rfl .nil
          | cons => cases h
        | cons => cases h
end
def wPar (i j : Nat) (m1 m2 : Bool) (a b : WEx) : WSt := fun D ρ => a ρ (fun p => b ρ (fun q => ∃ p' q', stored m1 p = some p' ∧ stored m2 q = some q' ∧ (m1 = true → q.clean = true) ∧ noStAt ρ i ∧ i < ρ.length ∧ j < ρ.length ∧ D.nx ((ρ.set i (some p')).set j (some q'))) fun x => D.ex x ρ) fun x => D.ex x ρ
theorem stored_some {m : Bool} {p q : PV} (h : stored m p = some q) : (stored false p).isSome = true ∨ (stored true p).isSome = true := by
  cases m with
  | true => exact .inr (by rw [h]; rfl)
  | false => exact .inl (by rw [h]; rfl)
section
variable {X : Cx} {W : WX} {pos : Pos} {a b c : Expr} {i j l : Nat} {x y z : Str} {wa wb wc : WEx} {px py pz pt : Pos} {kt k2 : Nat} {pt2 : Pos}
theorem vs_par (m1 m2 : Bool) (hc : X.calm = true) (hN : X.N.Nodup) (hi : X.N[i]? = some x) (hj : X.N[j]? = some y) (hij : i ≠ j) (hx : X.env.scope.names.lookup x = some .local) (hy : X.env.scope.names.lookup y = some .local) (ha : VE X W a wa) (hb : VE X W b wb)
    (hw : swappedStores [.Tuple [.Name x px, .Name y py] kt pt] (.Tuple [a, b] k2 pt2) X.env = pure (some [x, y])) (hs1 : starEach [a, b] X.env = (false, eval a X.env) :: starEach [b] X.env := by rfl) (hs2 : starEach [b] X.env = (false, eval b X.env) :: starEach [] X.env := by rfl)
    (hs : swapsWithSole [.Tuple [.Name x px, .Name y py] kt pt] (.Tuple [a, b] k2 pt2) pos.line X.env = pure false := by rfl) :
    VS X W (.Assign [.Tuple [.Name x px, .Name y py] kt pt] (.Tuple [a, b] k2 pt2) pos) (wPar i j m1 m2 wa wb) :=
  ⟨PS.imp (ps_par hc hN hi hj hij hx hy (pa_cons ha.pe (pa_cons hb.pe pa_nil hs2) hs1) hw hs) fun D σ H ⟨G, ρ, Dp, g, hw, de⟩ => ⟨G, ρ, _, _, g, hw, fun p v H1 s1 g1 r1 h1 => ⟨G, ρ, _, _, g1, h1, fun q u H2 s2 g2 r2 ⟨p', q', e1, e2, h3, h4, h5, h6, h7⟩ => by
    refine ⟨v, u, rfl, de.nx _ _ _ ?_ h7⟩
    have z1 := g.store s1 g1 r1 e1 i h5
    obtain ⟨n1, n2⟩ := stored_mut r1 e1
    have z2 := g1.later n1 h4 z1 s2 g2
    exact z1.store (s2.put n1 h4) z2 (r2.put n1 h4 n2 h3 z1 (stored_some e2)) e2 j (by rw [List.length_set]; exact h6), de.kx⟩, de.kx⟩⟩
def wPar3 (i j l : Nat) (m1 m2 m3 : Bool) (a b c : WEx) : WSt := fun D ρ => a ρ (fun p => b ρ (fun q => c ρ (fun r => ∃ p' q' r', stored m1 p = some p' ∧ stored m2 q = some q' ∧ stored m3 r = some r' ∧ (m1 = true → q.clean = true ∧ r.clean = true) ∧ (m2 = true → r.clean = true) ∧
  noStAt ρ i ∧ noStAt ρ j ∧ i < ρ.length ∧ j < ρ.length ∧ l < ρ.length ∧ D.nx (((ρ.set i (some p')).set j (some q')).set l (some r'))) fun x => D.ex x ρ) fun x => D.ex x ρ) fun x => D.ex x ρ
theorem vs_par3 (m1 m2 m3 : Bool) (hc : X.calm = true) (hN : X.N.Nodup) (hi : X.N[i]? = some x) (hj : X.N[j]? = some y) (hl : X.N[l]? = some z) (hij : i ≠ j) (hil : i ≠ l) (hjl : j ≠ l) (hx : X.env.scope.names.lookup x = some .local) (hy : X.env.scope.names.lookup y = some .local) (hz : X.env.scope.names.lookup z = some .local)
    (ha : VE X W a wa) (hb : VE X W b wb) (hcc : VE X W c wc)
    (hw : swappedStores [.Tuple [.Name x px, .Name y py, .Name z pz] kt pt] (.Tuple [a, b, c] k2 pt2) X.env = pure (some [x, y, z])) (hs1 : starEach [a, b, c] X.env = (false, eval a X.env) :: starEach [b, c] X.env := by rfl) (hs2 : starEach [b, c] X.env = (false, eval b X.env) :: starEach [c] X.env := by rfl)
    (hs3 : starEach [c] X.env = (false, eval c X.env) :: starEach [] X.env := by rfl) (hs : swapsWithSole [.Tuple [.Name x px, .Name y py, .Name z pz] kt pt] (.Tuple [a, b, c] k2 pt2) pos.line X.env = pure false := by rfl) :
    VS X W (.Assign [.Tuple [.Name x px, .Name y py, .Name z pz] kt pt] (.Tuple [a, b, c] k2 pt2) pos) (wPar3 i j l m1 m2 m3 wa wb wc) :=
  ⟨PS.imp (ps_par3 hc hN hi hj hl hij hil hjl hx hy hz (pa_cons ha.pe (pa_cons hb.pe (pa_cons hcc.pe pa_nil hs3) hs2) hs1) hw hs) fun D σ H ⟨G, ρ, Dp, g, hw, de⟩ => ⟨G, ρ, _, _, g, hw, fun p v H1 s1 g1 r1 h1 => ⟨G, ρ, _, _, g1, h1, fun q u H2 s2 g2 r2 h2 => ⟨G, ρ, _, _, g2, h2, fun r t H3 s3 g3 r3 ⟨p', q', r', e1, e2, e3, c1, c2, n1, n2, l1, l2, l3, h3⟩ => by
    refine ⟨v, u, t, rfl, de.nx _ _ _ ?_ h3⟩
    have z1 := g.store s1 g1 r1 e1 i l1
    obtain ⟨k1, m1'⟩ := stored_mut r1 e1
    have z2 := g1.later k1 n1 z1 s2 g2
    have n2' : noStAt (ρ.set i (some p')) j := fun w => by
      unfold noStAt at n2
      rw [get_set_ne hij] at w
      exact n2 w
    have q2 := r2.put k1 n1 m1' (fun w => (c1 w).1) z1 (stored_some e2)
    have z3 := z1.store (s2.put k1 n1) z2 q2 e2 j (by rw [List.length_set]; exact l2)
    obtain ⟨k2, m2'⟩ := stored_mut q2 e2
    have s3' := s3.put (v := v) k1 n1
    have g3' := g2.later k1 n1 z2 s3 g3
    have z4 := z2.later k2 n2' z3 s3' g3'
    have q3 := (r3.put k1 n1 m1' (fun w => (c1 w).2) z2 (stored_some e3)).put k2 n2' m2' c2 z3 (stored_some e3)
    exact z3.store (s3'.put k2 n2') z4 q3 e3 l (by rw [List.length_set, List.length_set]; exact l3), de.kx⟩, de.kx⟩, de.kx⟩⟩
end

/-! ### a list that is changed -/
section
variable {X : Cx} {W : WX} {pos p1 p2 p3 : Pos} {a b c : Expr} {i j l : Nat} {x y z : Str} {wa wb wc : WEx}
/-- what stands in a slot of its own -/
theorem Good.own_at {K : PySem.W.Frag} {G : Gd} {ρ : PEnv} {σ : St} {H : Hp} (g : Good K G ρ σ H) {i : Nat} {q : PV} (h : ρ[i]? = some (some (.own q))) : ∃ a o, σ[i]? = some (some (.ref a)) ∧ H a = some o ∧ Top K (hide (MA G ρ σ) H) q o := by
  obtain ⟨v, e, r⟩ := g.slot i _ h
  cases r with
  | plain r => cases r
  | own m n e2 f t => exact ⟨_, _, e, f, t⟩
theorem pv_own {K : PySem.W.Frag} {G : Gd} {ρ : PEnv} {σ : St} {H : Hp} (g : Good K G ρ σ H) {i : Nat} {q : PV} (h : ρ[i]? = some (some (.own q))) {Q : VK} (k : ∀ a o, σ[i]? = some (some (.ref a)) → H a = some o → Top K (hide (MA G ρ σ) H) q o → Q (.ref a) H) : tVar i σ H Q := by
  obtain ⟨a, o, e1, e2, t⟩ := g.own_at h
  exact ⟨_, e1, k a o e1 e2 t⟩
/-- x.append(e) -/
def wApp (i : Nat) (a : WEx) : WSt := fun D ρ => ∃ q, ρ[i]? = some (some (.own (.lst q))) ∧ a ρ (fun p => p.gives = true ∧ q.length < sizeLine ∧ D.nx (ρ.set i (some (.own (.lst (q ++ [p.thaw])))))) fun x => D.ex x ρ
theorem vs_app (hi : X.N[i]? = some x) (hv : Vis X.env.scope x) (ha : VE X W a wa)
    (hd : (x == ("__debug__" : Str)) = false := by decide) (hcd : (x == ("__classdict__" : Str)) = false := by decide)
    (hbase : attributeBase (.Name x p1) "append" X.env (eval (.Name x p1) X.env) = eval (.Name x p1) X.env := by rfl)
    (hfew : ((backTo p3 (starEach [a] X.env)).all (fun x => !x.1) && (backToKw p3 (keywordEach [] X.env)).all (fun x => x.1.isSome) && decide (([a] : List Expr).length + ([] : List Keyword).length + (if ([] : List Keyword).isEmpty then 0 else 1) < 30)) = true := by rfl)
    (hline : (p2.endLine == p3.line) = true := by rfl) (hs1 : starEach [a] X.env = (false, eval a X.env) :: starEach [] X.env := by rfl) (hpl : (backTo p3 (starEach [] X.env)).any (·.1) = false := by rfl)
    (hs : swapsWith (.Call (.Attribute (.Name x p1) "append" p2) [a] [] p3) none pos.line X.env = pure false := by rfl) : VS X W (.Expr (.Call (.Attribute (.Name x p1) "append" p2) [a] [] p3) pos) (wApp i wa) :=
  ⟨PS.imp (ps_expr (pe_bm PySem.F.plainAttrs_list PySem.F.slot_list_append PySem.F.type_list_append mt_append (pe_var hi hv hd hcd) (pa_cons ha.pe pa_nil hs1) hbase hfew hline hs1 hpl) hs) fun D σ H ⟨G, ρ, Dp, g, ⟨q, h1, hw⟩, de⟩ => by
    obtain ⟨ad, o, e1, e2, t⟩ := g.own_at h1
    cases t with
    | @lst ps xs tt =>
      refine ⟨.ref ad, e1, .inl ⟨rfl, xs, .of e2⟩, G, ρ, _, _, g, hw, fun p v H' s g' r ⟨hg, hz, hq⟩ => ?_, de.kx⟩
      obtain ⟨ad', o', e1', e2', t'⟩ := g'.own_at h1
      rw [e1] at e1'
      cases e1'
      cases t' with
      | @lst ps xs' tt' => exact ⟨ad, xs', v, rfl, rfl, e2', by rw [← tt'.length]; exact hz, de.nx _ _ _ (g'.change h1 e1 (.lst (tt'.snoc (r.rep hg)))) hq⟩⟩
/-- x[i] = e, x a list of its own -/
def wPutL (i : Nat) (ix a : WEx) : WSt := fun D ρ => a ρ (fun p => ix ρ (fun k => ∃ q n j, ρ[i]? = some (some (.own (.lst q))) ∧ k = .int n ∧ ixN q.length n = some j ∧ p.gives = true ∧ D.nx (ρ.set i (some (.own (.lst (q.set j p.thaw)))))) fun x => D.ex x ρ) fun x => D.ex x ρ
end
end L3

/-! Values without the heap: loops, comprehensions, the rule for a def. -/
namespace L3
open PySem PySem.Spec L2

/-! ### while -/
def wWhile (c : WTs) (b : WSt) : WSt := fun D ρ => ∃ I : Nat → PEnv → Prop, (∃ m, I m ρ) ∧ ∀ m ρ, I m ρ → c ρ (fun k => if k = true then b ⟨fun ρ' => ∃ m', m' < m ∧ I m' ρ', D.rt, D.nx, fun ρ' => ∃ m', m' < m ∧ I m' ρ', D.ex⟩ ρ else D.nx ρ) fun x => D.ex x ρ
section
variable {X : Cx} {W : WX} {pos : Pos} {c : Expr} {body : List Stmt} {wc : WTs} {wb : WSt}
theorem vs_while (hp : PassesOwn (model X.prog X.w) X.A X.env X.xe) (hc : VT X W c wc) (hb : VSs X W body wb) : VS X W (.While c body [] pos) (wWhile wc wb) :=
  ⟨PS.imp (ps_while hp hc.pt hb.pss) fun D σ H ⟨G, ρ, Dp, g, ⟨I, ⟨m0, i0⟩, hw⟩, de⟩ => by
    refine ⟨fun m σ H => ∃ ρ, Good X.K G ρ σ H ∧ I m ρ, ⟨m0, ρ, g, i0⟩, fun m σ1 H1 ⟨ρ1, g1, i1⟩ => ⟨G, ρ1, _, _, g1, hw m ρ1 i1, fun b H2 s2 g2 h2 => ?_, de.kx⟩⟩
    cases b with
    | false => exact de.nx _ _ _ g2 h2
    | true =>
      refine ⟨fun σ' H' => ∃ ρ', Good X.K G ρ' σ' H' ∧ ∃ m', m' < m ∧ I m' ρ', fun σ' H' ⟨ρ', g', m', l, i'⟩ => ⟨m', l, ρ', g', i'⟩, G, ρ1, _, g2, h2, ⟨fun ρ' σ' H' g' h' => ⟨ρ', g', h'⟩, de.nx, fun ρ' σ' H' g' h' => ⟨ρ', g', h'⟩, de.rt, de.ex⟩⟩⟩
end

/-! ### the ground of a loop -/
def LM (G : Gd) (ρ : PEnv) (σ : St) (b : Addr) : Prop := G.S b ∨ ∃ (i : Nat) (p : PV), ρ[i]? = some (some p) ∧ isMut p = true ∧ σ[i]? = some (some (.ref b))
noncomputable def Gd.re (G : Gd) (ρ : PEnv) (σ : St) (H : Hp) : Gd := ⟨G.N, G.S, hide (LM G ρ σ) H⟩
section
variable {K : PySem.W.Frag} {W : WX} {G : Gd} {ρ ρ0 : PEnv} {σ σ0 : St} {Hb H H1 H' : Hp} {Dp : PEnds} {D : Ends}
theorem Good.own_h0 (g : Good K G ρ σ H) {i : Nat} {p : PV} {b : Addr} (h : ρ[i]? = some (some p)) (m : isMut p = true) (e : σ[i]? = some (some (.ref b))) : G.S b ∨ G.H0 b = none := by
  obtain ⟨v, e2, r⟩ := g.slot i p h
  rw [e] at e2; cases e2
  cases r with
  | plain r => rw [r.notMut] at m; cases m
  | own _ _ z _ _ => exact .inr z
  | st z => exact g.sl _ z
theorem Good.not_lm (g : Good K G ρ σ H) {b : Addr} {o : HO} (n : ¬ G.S b) (e : G.H0 b = some o) : ¬ LM G ρ σ b := fun z => by
  rcases z with z | ⟨i, p, h1, h2, h3⟩
  · exact n z
  · rcases g.own_h0 h1 h2 h3 with y | y
    · exact n y
    · rw [e] at y; cases y
theorem SA.lm {a : Addr} (z : SA G ρ σ a) : LM G ρ σ a := by
  rcases z with z | ⟨i, h1, h2⟩
  · exact .inl z
  · exact .inr ⟨i, _, h1, rfl, h2⟩
theorem Good.re (g : Good K G ρ σ H) : Good K (G.re ρ σ H) ρ σ H where
  len := g.len
  fr := fun b o _ h => hide_sub b o h
  nn := fun b h => by
    obtain ⟨n, o, e⟩ := g.nn b h
    exact ⟨n, o, hide_some.mpr ⟨g.not_lm n e, g.fr b o n e⟩⟩
  sa := g.sa
  sl := fun a z => by
    refine .inr ?_
    cases e : (G.re ρ σ H).H0 a with
    | none => rfl
    | some o => exact absurd z.lm (hide_some.mp e).1
  slot := fun i p h => by
    obtain ⟨v, e, r⟩ := g.slot i p h
    refine ⟨v, e, ?_⟩
    cases r with
    | plain r => exact .plain r
    | @own q a o m n h0 f t =>
      refine .own m n ?_ f t
      cases e2 : (G.re ρ σ H).H0 a with
      | none => rfl
      | some u => exact absurd (.inr ⟨i, _, h, rfl, e⟩) (hide_some.mp e2).1
    | st z => exact .st z
  inj := g.inj
theorem Good.h0_re (g : Good K G ρ σ H) {b : Addr} {o : HO} (n : ¬ G.S b) (e : G.H0 b = some o) : (G.re ρ σ H).H0 b = some o := hide_some.mpr ⟨g.not_lm n e, g.fr b o n e⟩
theorem Good.none_re (g : Good K G ρ σ H) {b : Addr} (n : ¬ G.S b) (e : (G.re ρ σ H).H0 b = none) : G.H0 b = none := by
  cases h : G.H0 b with
  | none => rfl
  | some o => rw [g.h0_re n h] at e; cases e
theorem Good.back (g0 : Good K G ρ0 σ0 H1) (g : Good K (G.re ρ0 σ0 H1) ρ σ H) : Good K G ρ σ H where
  len := g.len
  fr := fun b o n h => g.fr b o n (g0.h0_re n h)
  nn := g0.nn
  sa := g.sa
  sl := fun a z => by
    by_cases y : G.S a
    · exact .inl y
    · rcases g.sl a z with w | w
      · exact absurd w y
      · exact .inr (g0.none_re y w)
  slot := fun i p h => by
    obtain ⟨v, e, r⟩ := g.slot i p h
    refine ⟨v, e, ?_⟩
    cases r with
    | plain r => exact .plain r
    | own m n h0 f t => exact .own m n (g0.none_re (fun z => n (.inl z)) h0) f t
    | st z => exact .st z
  inj := g.inj
theorem DE.re (g0 : Good K G ρ0 σ0 H1) (d : DE K W G Dp D) : DE K W (G.re ρ0 σ0 H1) Dp D where
  nx := fun ρ σ H g h => d.nx ρ σ H (g0.back g) h
  bk := fun ρ σ H g h => d.bk ρ σ H (g0.back g) h
  ct := fun ρ σ H g h => d.ct ρ σ H (g0.back g) h
  rt := fun p v H ⟨f, s, r⟩ h => d.rt p v H ⟨fun b o n e => f b o n (g0.h0_re n e), s, by
    cases r with
    | plain r => exact .plain r
    | new n e1 e2 t => exact .new n (g0.none_re (fun z => n (.inr z)) e1) e2 t⟩ h
  ex := fun x cls dd ρ σ H g r h => d.ex x cls dd ρ σ H (g0.back g) r h
end

/-! ### what is walked -/
structure IterOk (K : PySem.W.Frag) (Hx Hr : Hp) (J : It) (xs : List PV) : Prop where
  go : ∀ i H, Same Hx H → i < xs.length → J.go i H
  stop : ∀ i H, Same Hx H → xs.length ≤ i → J.stop i H
  yld : ∀ i H v H', Same Hx H → J.yld i H v H' → Same H H' ∧ ∀ p, xs[i]? = some p → ∀ H'', Same Hr H'' → (∀ b o, H b = none → H' b = some o → H'' b = some o) → Rep K H'' p v
theorem IterOk.mono {K : PySem.W.Frag} {Hx Hy Hr : Hp} {J : It} {xs : List PV} (s : Same Hx Hy) (i : IterOk K Hx Hr J xs) : IterOk K Hy Hr J xs :=
  ⟨fun n H h => i.go n H (s.trans h), fun n H h => i.stop n H (s.trans h), fun n H v H' h y => by
    obtain ⟨a, b⟩ := i.yld n H v H' (s.trans h) y
    exact ⟨a, b⟩⟩
abbrev WIt := PEnv → (List PV → Prop) → XQ → Prop
def itB (own : Bool) (G : Gd) (ρ : PEnv) (σ : St) : Addr → Prop := if own then SA G ρ σ else MA G ρ σ
def ItOk (X : Cx) (W : WX) (own : Bool) (t : TI) (w : WIt) : Prop := ∀ {G ρ σ H Qp Rp} {R : It → Hp → Prop}, Good X.K G ρ σ H → w ρ Qp Rp →
  (∀ xs J H1, Step G ρ σ H H1 → Good X.K G ρ σ H1 → IterOk X.K (hide (itB own G ρ σ) H1) (hide (MA G ρ σ) H1) J xs → Qp xs → R J H1) → KX X.K W G ρ σ H Rp → t σ H R
structure VI (X : Cx) (W : WX) (own : Bool) (tg iter : Expr) (w : WIt) : Prop where
  ex : ∃ t, PI X tg iter t ∧ ItOk X W own t w
/-- a list, a tuple -/
def PV.walks (own : Bool) : PV → Option (List PV)
  | .tup ps => some ps
  | .scr ps => some ps
  | .lst ps => some ps
  | .new (.lst ps) => some ps
  | .own (.lst ps) => if own then some ps else none
  | _ => none
def wiSeq (own : Bool) (a : WEx) : WIt := fun ρ Q R => a ρ (fun p => ∃ xs, p.walks own = some xs ∧ Q xs) R
theorem PI.or {X : Cx} {tg iter : Expr} {t u : TI} (h : PI X tg iter t) (h' : PI X tg iter u) : PI X tg iter (fun σ H R => t σ H R ∨ u σ H R) := ⟨fun pins s σ H R I q => q.elim (h.run pins s σ H R I) (h'.run pins s σ H R I)⟩
theorem PI.imp {X : Cx} {tg iter : Expr} {t t' : TI} (h : PI X tg iter t) (i : ∀ σ H R, t' σ H R → t σ H R) : PI X tg iter t' := ⟨fun pins s σ H R I q => h.run pins s σ H R I (i σ H R q)⟩
section
variable {K : PySem.W.Frag} {Hx Hr : Hp} {a : Addr} {ps : List PV} {xs : List V}
theorem iter_list (h : SqL K Hx a xs) (hr : Reps K Hr ps xs) : IterOk K Hx Hr (Itl K a) ps := by
  refine ⟨fun i H s l => ?_, fun i H s l => ⟨xs, s.seq h, by rw [← hr.length]; exact l⟩, fun i H v H' s y => ?_⟩
  · obtain ⟨v, e, _⟩ := hr.get (List.getElem?_eq_getElem l)
    exact ⟨xs, v, s.seq h, e⟩
  · obtain ⟨e, y⟩ := y
    subst e
    refine ⟨.refl _, fun p e H'' s2 _ => ?_⟩
    obtain ⟨u, e2, r⟩ := hr.get e
    rw [y xs (s.seq h)] at e2
    cases e2
    exact r.mono s2
theorem iter_tup (h : SqT K Hx a xs) (hr : Reps K Hr ps xs) : IterOk K Hx Hr (Itt K a) ps := by
  refine ⟨fun i H s l => ?_, fun i H s l => ⟨xs, sqT_mono s h, by rw [← hr.length]; exact l⟩, fun i H v H' s y => ?_⟩
  · obtain ⟨v, e, _⟩ := hr.get (List.getElem?_eq_getElem l)
    exact ⟨xs, v, sqT_mono s h, e⟩
  · obtain ⟨e, y⟩ := y
    subst e
    refine ⟨.refl _, fun p e H'' s2 _ => ?_⟩
    obtain ⟨u, e2, r⟩ := hr.get e
    rw [y xs (sqT_mono s h)] at e2
    cases e2
    exact r.mono s2
def rgP (lo : Int) (n : Nat) : List PV := (List.range n).map fun (k : Nat) => .int (lo + (k : Int))
theorem rgP_len (lo : Int) (n : Nat) : (rgP lo n).length = n := by simp [rgP]
theorem rgP_get {lo : Int} {n i : Nat} {p : PV} (h : (rgP lo n)[i]? = some p) : p = .int (lo + i) ∧ i < n := by
  have hl : i < n := by
    have := (List.getElem?_eq_some_iff.mp h).1
    rw [rgP_len] at this
    exact this
  unfold rgP at h
  rw [List.getElem?_map, List.getElem?_range hl] at h
  cases h
  exact ⟨rfl, hl⟩
theorem iter_rng (lo : Int) (n : Nat) : IterOk K Hx Hr (Itr lo n) (rgP lo n) := by
  refine ⟨fun i H s l => by rw [rgP_len] at l; exact l, fun i H s l => by rw [rgP_len] at l; exact l, fun i H v H' s y => ?_⟩
  obtain ⟨e, y⟩ := y
  subst e
  refine ⟨.refl _, fun p e H'' s2 _ => ?_⟩
  obtain ⟨rfl, _⟩ := rgP_get e
  rw [y]
  exact .int _
end
section
variable {X : Cx} {W : WX} {pos p : Pos} {e a b tg : Expr} {wa wb : WEx} {own : Bool}
theorem itB_ma {G : Gd} {ρ : PEnv} {σ : St} {b : Addr} (h : itB own G ρ σ b) : MA G ρ σ b := by
  unfold itB at h
  cases own with
  | true => exact SA.ma h
  | false => exact h
/-- the iterator of a list, of a tuple -/
theorem iter_of_list {X : Cx} {tg : Expr} {pins : List (Addr × Obj)} {σ : St} {H : Hp} {s : Shared} {R : It → Hp → Prop} {a : Addr} {xs : List V} (I : Inv X pins σ H s) (h : SqL X.K H a xs) (q : R (Itl X.K a) H) : wpAny (model X.prog X.w) X.A (pyIter (.ref a)) (PIE X pins σ tg R) X.xe s := by
  obtain ⟨its, _, pl, _⟩ := I.list h
  refine wpAny_pyIter_list pl.isList ⟨s.heap.objs.size, [s.heap.objs.size], _, _, H, rfl, I.kept (t' := s.toks) fun b o e => Heap.get?_push_of_some _ e, turn_list a _, ⟨_, Heap.get?_push_size _ rfl, rfl, rfl⟩, ?_, q⟩
  intro b hb
  cases List.mem_singleton.mp hb
  exact I.fpOk (Nat.le_refl _) (I.hok.fresh (Nat.le_refl _))
theorem iter_of_tup {X : Cx} {tg : Expr} {pins : List (Addr × Obj)} {σ : St} {H : Hp} {s : Shared} {R : It → Hp → Prop} {a : Addr} {xs : List V} (I : Inv X pins σ H s) (h : SqT X.K H a xs) (q : R (Itt X.K a) H) : wpAny (model X.prog X.w) X.A (pyIter (.ref a)) (PIE X pins σ tg R) X.xe s := by
  obtain ⟨its, _, pl, _⟩ := I.tuple h
  refine wpAny_pyIter_tuple (show s.heap.IsTuple a its.toArray from pl) ⟨s.heap.objs.size, [s.heap.objs.size], _, _, H, rfl, I.kept (t' := s.toks) fun b o e => Heap.get?_push_of_some _ e, turn_tuple a _, ⟨_, Heap.get?_push_size _ rfl, rfl, rfl⟩, ?_, q⟩
  intro b hb
  cases List.mem_singleton.mp hb
  exact I.fpOk (Nat.le_refl _) (I.hok.fresh (Nat.le_refl _))
def iSeq (K : PySem.W.Frag) (t : TE) : TI := fun σ H R => t σ H fun x H1 => ∃ a, x = .ref a ∧ ((∃ xs, SqL K H1 a xs ∧ R (Itl K a) H1) ∨ ∃ xs, SqT K H1 a xs ∧ R (Itt K a) H1)
theorem pi_seq {X : Cx} {tg l : Expr} {t : TE} (h : PE X l t) : PI X tg l (iSeq X.K t) := by
  refine ⟨fun pins s σ H R I q => thn (h.run pins s σ H _ I q) fun v s1 ⟨x, H1, I1, r1, a, e, q1⟩ => ?_⟩
  subst e
  cases r1
  rcases q1 with ⟨xs, z, q1⟩ | ⟨xs, z, q1⟩
  · exact iter_of_list I1 z q1
  · exact iter_of_tup I1 z q1
theorem vi_seq (own : Bool) (h : VE X W e wa) : VI X W own tg e (wiSeq own wa) := by
  refine ⟨_, pi_seq h.pe, fun {G ρ σ H Qp Rp R} g hw k kx => ⟨G, ρ, _, Rp, g, hw, fun p v H1 s g1 r h1 => ?_, kx⟩⟩
  obtain ⟨xs, e, hq⟩ := h1
  have hB : Same (hide (MA G ρ σ) H1) (hide (itB own G ρ σ) H1) := hide_anti fun _ z => itB_ma z
  cases r with
  | s r =>
    cases r with
    | plain r =>
      cases r with
      | tup t q => cases e; exact ⟨_, rfl, .inr ⟨_, .inl (.inl (hide_sub _ _ t)), k xs _ H1 s g1 (iter_tup (.inl (.inl (hB _ _ t))) q) hq⟩⟩
      | lst t q => cases e; exact ⟨_, rfl, .inl ⟨_, .of (hide_sub _ _ t), k xs _ H1 s g1 (iter_list (.of (hB _ _ t)) q) hq⟩⟩
      | scr t q => cases e; exact ⟨_, rfl, .inl ⟨_, hide_sub.seq t, k xs _ H1 s g1 (iter_list (hB.seq t) q) hq⟩⟩
      | _ => cases e
    | own m n h0 f t =>
      cases t with
      | lst q =>
        cases own with
        | false => cases e
        | true => cases e; exact ⟨_, rfl, .inl ⟨_, .of f, k xs _ H1 s g1 (iter_list (.of (hide_some.mpr ⟨n, f⟩)) q) hq⟩⟩
      | _ => cases e
    | st => cases e
  | new n h0 f t =>
    cases t with
    | lst q => cases e; exact ⟨_, rfl, .inl ⟨_, .of f, k xs _ H1 s g1 (iter_list (.of (hide_some.mpr ⟨fun z => n (itB_ma z), f⟩)) (q.mono (hide_anti fun _ z => .inl z))) hq⟩⟩
    | _ => cases e
def rgOk (j : Int) : Prop := -(2 ^ 62) ≤ j ∧ j < 2 ^ 62
def wiRg1 (a : WEx) : WIt := fun ρ Q R => a ρ (fun x => match x with | .int j => rgOk j ∧ Q (rgP 0 j.toNat) | _ => False) R
def wiRg2 (a b : WEx) : WIt := fun ρ Q R => a ρ (fun x => b ρ (fun y => match x, y with | .int i, .int j => rgOk i ∧ rgOk j ∧ Q (rgP i (j - i).toNat) | _, _ => False) R) R
theorem vi_rg1 (own : Bool) (hg : Gl X "range") (hm : X.mg "range" = none) (ha : VE X W a wa) (hs1 : starEach [a] X.env = (false, eval a X.env) :: starEach [] X.env := by rfl) (hs : starEach [a] X.env = [(false, eval a X.env)] := by rfl) : VI X W own tg (.Call (.Name "range" p) [a] [] pos) (wiRg1 wa) := by
  refine ⟨_, pi_range1 hg hm (pa_cons ha.pe pa_nil hs1) hs, fun {G ρ σ H Qp Rp R} g hw k kx => ⟨G, ρ, _, Rp, g, hw, fun p v H1 s g1 r h1 => ?_, kx⟩⟩
  dsimp only at h1
  split at h1
  · cases r.int
    exact ⟨_, rfl, h1.1.1, h1.1.2, k _ _ H1 s g1 (iter_rng 0 _) h1.2⟩
  · exact h1.elim
theorem vi_rg2 (own : Bool) (hg : Gl X "range") (hm : X.mg "range" = none) (ha : VE X W a wa) (hb : VE X W b wb) (hs1 : starEach [a, b] X.env = (false, eval a X.env) :: starEach [b] X.env := by rfl) (hs2 : starEach [b] X.env = (false, eval b X.env) :: starEach [] X.env := by rfl)
    (hs : starEach [a, b] X.env = [(false, eval a X.env), (false, eval b X.env)] := by rfl) (hs3 : starEach [b] X.env = [(false, eval b X.env)] := by rfl) : VI X W own tg (.Call (.Name "range" p) [a, b] [] pos) (wiRg2 wa wb) := by
  refine ⟨_, pi_range2 hg hm (pa_cons ha.pe (pa_cons hb.pe pa_nil hs2) hs1) hs hs3, fun {G ρ σ H Qp Rp R} g hw k kx => ⟨G, ρ, _, Rp, g, hw, fun p v H1 s g1 r h1 => ⟨G, ρ, _, Rp, g1, h1, fun q u H2 s2 g2 r2 h2 => ?_, kx.step s⟩, kx⟩⟩
  dsimp only at h2
  split at h2
  · cases r.int
    cases r2.int
    exact ⟨_, _, rfl, ⟨h2.1.1, h2.1.2, h2.2.1.1, h2.2.1.2⟩, k _ _ H2 (s.trans s2) g2 (iter_rng _ _) h2.2.2⟩
  · exact h2.elim
end

/-! ### for -/
def wFor (wi : WIt) (td : TD) (b : WSt) : WSt := fun D ρ => wi ρ (fun xs => ∃ I : Nat → PEnv → Prop, I 0 ρ ∧ (∀ i ρ p, I i ρ → xs[i]? = some p → tgW td p ρ fun ρ' => b ⟨I (i + 1), D.rt, D.nx, I (i + 1), D.ex⟩ ρ') ∧ ∀ ρ, I xs.length ρ → D.nx ρ) fun x => D.ex x ρ
section
variable {X : Cx} {W : WX} {pos : Pos} {tg iter : Expr} {body : List Stmt} {wi : WIt} {td : TD} {wb : WSt}
theorem hide_re {K : PySem.W.Frag} {G : Gd} {ρ0 ρ : PEnv} {σ0 σ : St} {H1 H : Hp} (g0 : Good K G ρ0 σ0 H1) (g : Good K (G.re ρ0 σ0 H1) ρ σ H) : Same (hide (MA G ρ0 σ0) H1) (hide (MA (G.re ρ0 σ0 H1) ρ σ) H) := fun b o z => by
  obtain ⟨z1, z2⟩ := hide_some.mp z
  have nS : ¬ G.S b := fun y => z1 (.inr (.inl y))
  have h0 : (G.re ρ0 σ0 H1).H0 b = some o := hide_some.mpr ⟨fun y => z1 (y.elim (fun w => .inr (.inl w)) fun w => .inr (.inr w)), z2⟩
  refine hide_some.mpr ⟨fun y => ?_, g.fr b o nS h0⟩
  rcases y with y | y | ⟨i, p, e1, m, e2⟩
  · exact z1 (.inl y)
  · exact nS y
  · rcases g.own_h0 e1 m e2 with w | w
    · exact nS w
    · rw [h0] at w; cases w
theorem vs_for (hp : PassesOwn (model X.prog X.w) X.A X.env X.xe) (hc : X.calm = true) (hi : VI X W false tg iter wi) (hg : VG X tg td) (hb : VSs X W body wb) (hs : ∀ x, foldedSetIterable iter X.env x = pure x := by intro _; rfl) : VS X W (.For tg iter body [] pos) (wFor wi td wb) := by
  obtain ⟨t, pi, io⟩ := hi.ex
  refine ⟨PS.imp (ps_for hp hc pi hg.pg hb.pss hs) fun D σ H ⟨G, ρ, Dp, g, hw, de⟩ => io g hw (fun xs J H1 s g1 it ⟨I, i0, turn, fin⟩ => ?_) de.kx⟩
  have g1' := g1.re
  have hx : ∀ {ρ2 σ2 H2}, Good X.K (G.re ρ σ H1) ρ2 σ2 H2 → Same (hide (MA G ρ σ) H1) H2 := fun {ρ2 σ2 H2} g2 b o z => (hide_some.mp (hide_re g1 g2 b o z)).2
  refine ⟨fun i m σ2 H2 => m = xs.length - i ∧ i ≤ xs.length ∧ ∃ ρ2, Good X.K (G.re ρ σ H1) ρ2 σ2 H2 ∧ I i ρ2, ⟨_, rfl, Nat.zero_le _, ρ, g1', i0⟩, ?_⟩
  rintro i m σ2 H2 ⟨rfl, hi, ρ2, g2, i2⟩
  by_cases hl : i < xs.length
  · refine .inr ⟨it.go i H2 (hx g2) hl, fun σ' H' => ∃ ρ', Good X.K (G.re ρ σ H1) ρ' σ' H' ∧ I (i + 1) ρ', fun σ' H' ⟨ρ', g', i'⟩ => ⟨_, by omega, rfl, hl, ρ', g', i'⟩, fun v H' y => ?_⟩
    obtain ⟨sm, rep⟩ := it.yld i H2 v H' (hx g2) y
    have g3 := g2.same sm
    have e := List.getElem?_eq_getElem hl
    refine tg_ok td g3 (fun _ z => z) (rep _ e _ (hide_re g1 g3) fun b o n y => hide_some.mpr ⟨g2.new n, y⟩) (turn i ρ2 _ i2 e) fun ρ' σ' g' _ h' => ?_
    exact ⟨G.re ρ σ H1, ρ', _, g', h', ⟨fun ρ3 σ3 H3 g3 h3 => ⟨ρ3, g3, h3⟩, (de.re g1).nx, fun ρ3 σ3 H3 g3 h3 => ⟨ρ3, g3, h3⟩, (de.re g1).rt, (de.re g1).ex⟩⟩
  · have e : i = xs.length := by omega
    subst e
    exact .inl ⟨it.stop _ H2 (hx g2) (Nat.le_refl _), de.nx _ _ _ (g1.back g2) (fin _ i2)⟩
end
end L3

/-! Values without the heap: comprehensions. -/
namespace L3
open PySem PySem.Spec L2

def wipeP (ρ : PEnv) : List Nat → PEnv
  | [] => ρ
  | v :: vs => (wipeP ρ vs).set v none
section
variable {K : PySem.W.Frag} {G : Gd} {ρ : PEnv} {σ : St} {H H' : Hp}
theorem SRep.weak' {Sa M Sa' M' : Addr → Prop} {H0 : Hp} (hS : ∀ a, Sa' a → Sa a) (hM : ∀ a, M' a → M a) {p : PV} {v : V} (hst : p = .st → ∀ a, v = .ref a → Sa' a) (hown : ∀ q, p = .own q → ∀ a, v = .ref a → M' a) (r : SRep K Sa M H0 H p v) : SRep K Sa' M' H0 H p v := r.weak hS hM hst hown
theorem none_back {ρ : PEnv} {j i : Nat} {q : PV} (e : (ρ.set i none)[j]? = some (some q)) : j ≠ i ∧ ρ[j]? = some (some q) := by
  by_cases hj : j = i
  · subst hj
    have := get_set_eq e
    cases this
  · rw [get_set_ne (Ne.symm hj)] at e
    exact ⟨hj, e⟩
theorem SA.none {i : Nat} {a : Addr} (z : SA G (ρ.set i none) (σ.set i none) a) : SA G ρ σ a := by
  rcases z with z | ⟨j, e1, e2⟩
  · exact .inl z
  · obtain ⟨hj, e⟩ := none_back e1
    rw [get_set_ne (Ne.symm hj)] at e2
    exact .inr ⟨j, e, e2⟩
theorem MA.none {i : Nat} {a : Addr} (z : MA G (ρ.set i none) (σ.set i none) a) : MA G ρ σ a := by
  rcases z with z | z | ⟨j, q, e1, m, e2⟩
  · exact .inl z
  · exact .inr (.inl z)
  · obtain ⟨hj, e⟩ := none_back e1
    rw [get_set_ne (Ne.symm hj)] at e2
    exact .inr (.inr ⟨j, q, e, m, e2⟩)
theorem Good.forget (g : Good K G ρ σ H) (i : Nat) : Good K G (ρ.set i none) (σ.set i none) H := by
  refine ⟨by rw [List.length_set, List.length_set]; exact g.len, g.fr, g.nn, fun a z => g.sa a z.none, fun a z => g.sl a z.none, fun j q e => ?_, fun j k q q' a e1 e2 m1 m2 f1 f2 => ?_⟩
  · obtain ⟨hj, e'⟩ := none_back e
    obtain ⟨u, e2, r⟩ := g.slot j q e'
    have e3 : (σ.set i none)[j]? = some (some u) := by rw [get_set_ne (Ne.symm hj)]; exact e2
    exact ⟨u, e3, r.weak (fun a z => z.none) (fun a z => z.none) (fun z a y => .inr ⟨j, by rw [← z]; exact e, by rw [← y]; exact e3⟩) fun q' z a y => .inr (.inr ⟨j, q, e, by rw [z]; rfl, by rw [← y]; exact e3⟩)⟩
  · obtain ⟨h1, e1'⟩ := none_back e1
    obtain ⟨h2, e2'⟩ := none_back e2
    rw [get_set_ne (Ne.symm h1)] at f1
    rw [get_set_ne (Ne.symm h2)] at f2
    exact g.inj j k q q' a e1' e2' m1 m2 f1 f2
theorem Good.wipe (g : Good K G ρ σ H) : ∀ vs : List Nat, Good K G (wipeP ρ vs) (L2.wipe σ vs) H ∧ (∀ a, SA G (wipeP ρ vs) (L2.wipe σ vs) a → SA G ρ σ a) ∧ ∀ a, MA G (wipeP ρ vs) (L2.wipe σ vs) a → MA G ρ σ a
  | [] => ⟨g, fun _ z => z, fun _ z => z⟩
  | v :: vs => by
    obtain ⟨g1, s1, m1⟩ := g.wipe vs
    exact ⟨g1.forget v, fun a z => s1 a z.none, fun a z => m1 a z.none⟩
/-- a new object D is hidden from what is reckoned beside it -/
noncomputable def Gd.beside (G : Gd) (D : Addr) (ρ : PEnv) (σ : St) (H : Hp) : Gd := ⟨fun b => G.N b ∨ b = D, G.S, hide (LM G ρ σ) H⟩
theorem MA.beside {D : Addr} {ρ' : PEnv} {σ' : St} {H1 : Hp} {b : Addr} : MA (G.beside D ρ σ H1) ρ' σ' b ↔ (MA G ρ' σ' b ∨ b = D) := by
  constructor
  · rintro ((z | z) | z | z)
    · exact .inl (.inl z)
    · exact .inr z
    · exact .inl (.inr (.inl z))
    · exact .inl (.inr (.inr z))
  · rintro ((z | z | z) | z)
    · exact .inl (.inl z)
    · exact .inr (.inl z)
    · exact .inr (.inr z)
    · exact .inl (.inr z)
/-- D was laid behind H -/
theorem Good.beside (g : Good K G ρ σ H) {D : Addr} {o : HO} (n : H D = none) : Good K (G.beside D ρ σ (upd H D o)) ρ σ (upd H D o) := by
  have gu := g.laid (o := o) n
  have nD := g.new n
  have old : Same (hide (MA G ρ σ) H) (hide (MA (G.beside D ρ σ (upd H D o)) ρ σ) (upd H D o)) := fun b u z => by
    obtain ⟨z1, z2⟩ := hide_some.mp z
    have hb := ne_of_none z2 n
    exact hide_some.mpr ⟨fun y => (MA.beside.mp y).elim z1 hb, by rw [upd_ne hb]; exact z2⟩
  refine ⟨g.len, fun b u _ h => hide_sub b u h, fun b h => ?_, gu.sa, fun a z => .inr ?_, fun i p h => ?_, g.inj⟩
  · rcases h with h | h
    · obtain ⟨x, u, e⟩ := g.nn b h
      exact ⟨x, u, hide_some.mpr ⟨g.not_lm x e, gu.fr b u x e⟩⟩
    · subst h
      refine ⟨fun z => nD (.inr (.inl z)), o, hide_some.mpr ⟨fun z => nD ?_, upd_same⟩⟩
      exact z.elim (fun y => .inr (.inl y)) fun y => .inr (.inr y)
  · cases e : (G.beside D ρ σ (upd H D o)).H0 a with
    | none => rfl
    | some u => exact absurd (SA.lm z) (hide_some.mp e).1
  · obtain ⟨v, e, r⟩ := g.slot i p h
    refine ⟨v, e, ?_⟩
    cases r with
    | plain r => exact .plain (r.mono old)
    | @own q a u m n2 h0 f t =>
      refine .own (MA.beside.mpr (.inl m)) n2 ?_ (by rw [upd_ne (ne_of_none f n)]; exact f) (t.mono old)
      cases e2 : (G.beside D ρ σ (upd H D o)).H0 a with
      | none => rfl
      | some w => exact absurd (.inr ⟨i, _, h, rfl, e⟩) (hide_some.mp e2).1
    | st z => exact .st z
/-- D has been changed, all else as it is -/
theorem Good.besideAgain {D : Addr} {Hx : Hp} (g : Good K (G.beside D ρ σ Hx) ρ σ H) {o : HO} : Good K (G.beside D ρ σ (upd H D o)) ρ σ (upd H D o) := by
  have mD : MA (G.beside D ρ σ Hx) ρ σ D := .inl (.inr rfl)
  obtain ⟨nS, w0, hw0⟩ := g.nn D (.inr rfl)
  have nLM : ¬ LM G ρ σ D := g.not_lm nS hw0
  have eM : ∀ b, MA (G.beside D ρ σ (upd H D o)) ρ σ b ↔ MA (G.beside D ρ σ Hx) ρ σ b := fun b => by rw [MA.beside, MA.beside]
  have same : Same (hide (MA (G.beside D ρ σ Hx) ρ σ) H) (hide (MA (G.beside D ρ σ (upd H D o)) ρ σ) (upd H D o)) := fun b u z => by
    rw [← hide_upd_in (o := o) mD] at z
    exact hide_anti (fun b y => (eM b).mp y) b u z
  have sne : ∀ {a : Addr}, SA G ρ σ a → a ≠ D := fun {a} z e => nLM (by rw [← e]; exact z.lm)
  refine ⟨g.len, fun b u _ h => hide_sub b u h, fun b h => ?_, fun a z => ?_, fun a z => .inr ?_, fun i p h => ?_, g.inj⟩
  · obtain ⟨x, u, e⟩ := g.nn b h
    have l := g.not_lm x e
    by_cases hb : b = D
    · subst hb
      exact ⟨x, o, hide_some.mpr ⟨l, upd_same⟩⟩
    · exact ⟨x, u, hide_some.mpr ⟨l, by rw [upd_ne hb]; exact g.fr b u x e⟩⟩
  · obtain ⟨x, y, e, r⟩ := g.sa a z
    exact ⟨x, y, by rw [upd_ne (sne z)]; exact e, r⟩
  · cases e : (G.beside D ρ σ (upd H D o)).H0 a with
    | none => rfl
    | some u => exact absurd (SA.lm z) (hide_some.mp e).1
  · obtain ⟨v, e, r⟩ := g.slot i p h
    refine ⟨v, e, ?_⟩
    cases r with
    | plain r => exact .plain (r.mono same)
    | @own q a u m n2 h0 f t =>
      have hne : a ≠ D := fun z => nLM (by rw [← z]; exact .inr ⟨i, _, h, rfl, e⟩)
      refine .own ((eM a).mpr m) n2 ?_ (by rw [upd_ne hne]; exact f) (t.mono same)
      cases e2 : (G.beside D ρ σ (upd H D o)).H0 a with
      | none => rfl
      | some w => exact absurd (.inr ⟨i, _, h, rfl, e⟩) (hide_some.mp e2).1
    | st z => exact .st z
/-- all else is looked at anew -/
theorem Good.besideNow {D : Addr} {Hx : Hp} (g : Good K (G.beside D ρ σ Hx) ρ σ H) : Good K (G.beside D ρ σ H) ρ σ H := by
  have eM : ∀ b, MA (G.beside D ρ σ H) ρ σ b ↔ MA (G.beside D ρ σ Hx) ρ σ b := fun b => by rw [MA.beside, MA.beside]
  refine ⟨g.len, fun b u _ h => hide_sub b u h, fun b h => ?_, g.sa, fun a z => .inr ?_, fun i p h => ?_, g.inj⟩
  · obtain ⟨x, u, e⟩ := g.nn b h
    exact ⟨x, u, hide_some.mpr ⟨g.not_lm x e, g.fr b u x e⟩⟩
  · cases e : (G.beside D ρ σ H).H0 a with
    | none => rfl
    | some u => exact absurd (SA.lm z) (hide_some.mp e).1
  · obtain ⟨v, e, r⟩ := g.slot i p h
    refine ⟨v, e, ?_⟩
    cases r with
    | plain r => exact .plain r
    | @own q a u m n2 h0 f t =>
      refine .own m n2 ?_ f t
      cases e2 : (G.beside D ρ σ H).H0 a with
      | none => rfl
      | some w => exact absurd (.inr ⟨i, _, h, rfl, e⟩) (hide_some.mp e2).1
    | st z => exact .st z
end

/-! ### [e for x in xs if t] -/
structure VIfs (X : Cx) (W : WX) (ifs : List Expr) (w : WTs) : Prop where
  pts : PTs X ifs (lftT X.K W w)
def wYes : WTs := fun _ Q _ => Q true
abbrev W0 : WX := fun _ _ _ _ => False
def noMut (ρ : PEnv) (vs : List Nat) : Bool := vs.all fun i => match ρ[i]? with
  | some (some p) => !isMut p
  | _ => true
theorem noMut_at {ρ : PEnv} {vs : List Nat} (h : noMut ρ vs = true) {i : Nat} (hi : i ∈ vs) {p : PV} (e : ρ[i]? = some (some p)) : isMut p = false := by
  have := List.all_eq_true.mp h i hi
  rw [e] at this
  simpa using this
theorem Good.n_not_sa {K : PySem.W.Frag} {G : Gd} {ρ : PEnv} {σ : St} {H : Hp} (g : Good K G ρ σ H) {b : Addr} (h : G.N b) : ¬ SA G ρ σ b := fun z => by
  obtain ⟨n, o, e⟩ := g.nn b h
  rcases g.sl b z with y | y
  · exact n y
  · rw [e] at y; cases y
theorem wipe_get_some {σ : St} {i : Nat} {x : V} {vs : List Nat} (h : σ[i]? = some (some x)) (hi : i ∉ vs) : (wipe σ vs)[i]? = some (some x) := by
  induction vs with
  | nil => exact h
  | cons v vs ih =>
    have h1 : v ≠ i := fun e => hi (by rw [e]; exact List.mem_cons_self)
    show ((wipe σ vs).set v none)[i]? = _
    rw [get_set_ne h1]
    exact ih fun z => hi (List.mem_cons_of_mem _ z)
theorem wipeP_get_some {ρ : PEnv} {i : Nat} {x : PV} {vs : List Nat} (h : ρ[i]? = some (some x)) (hi : i ∉ vs) : (wipeP ρ vs)[i]? = some (some x) := by
  induction vs with
  | nil => exact h
  | cons v vs ih =>
    have h1 : v ≠ i := fun e => hi (by rw [e]; exact List.mem_cons_self)
    show ((wipeP ρ vs).set v none)[i]? = _
    rw [get_set_ne h1]
    exact ih fun z => hi (List.mem_cons_of_mem _ z)
theorem wipeP_not {ρ : PEnv} {i : Nat} {x : PV} {vs : List Nat} (h : (wipeP ρ vs)[i]? = some (some x)) : i ∉ vs := by
  induction vs with
  | nil => exact List.not_mem_nil
  | cons v vs ih =>
    have h' : ((wipeP ρ vs).set v none)[i]? = some (some x) := h
    obtain ⟨h1, h2⟩ := none_back h'
    intro z
    rcases List.mem_cons.mp z with z | z
    · exact h1 z
    · exact ih h2 z
theorem MA.wiped {G : Gd} {ρ : PEnv} {σ : St} {vs : List Nat} (h : noMut ρ vs = true) {b : Addr} (z : MA G ρ σ b) : MA G (wipeP ρ vs) (wipe σ vs) b := by
  rcases z with z | z | ⟨j, q, e1, m, e2⟩
  · exact .inl z
  · exact .inr (.inl z)
  · have hj : j ∉ vs := fun y => by
      rw [noMut_at h y e1] at m; cases m
    exact .inr (.inr ⟨j, q, wipeP_get_some e1 hj, m, wipe_get_some e2 hj⟩)
theorem wipe_wipe (σ : St) (vs : List Nat) : wipe (wipe σ vs) vs = wipe σ vs := by
  have gen : ∀ {us : List Nat} {τ : St}, (∀ i ∈ us, ∀ x, τ[i]? = some x → x = none) → wipe τ us = τ := by
    intro us
    induction us with
    | nil => intro τ _; rfl
    | cons u us ih =>
      intro τ h
      show (wipe τ us).set u none = τ
      rw [ih fun i hi => h i (List.mem_cons_of_mem _ hi)]
      apply List.ext_getElem?
      intro k
      by_cases hk : u = k
      · subst hk
        by_cases hl : u < τ.length
        · rw [List.getElem?_set_self hl, List.getElem?_eq_getElem hl, h u List.mem_cons_self _ (List.getElem?_eq_getElem hl)]
        · rw [List.getElem?_eq_none (by rw [List.length_set]; omega), List.getElem?_eq_none (by omega)]
      · rw [get_set_ne hk]
  refine gen fun i hi x e => ?_
  cases x with
  | none => rfl
  | some y => exact absurd hi (wipe_some e).2
def wComp (wi : WIt) (td : TD) (t : WTs) (e : WEx) (vs : List Nat) : WEx := fun ρ Q R => wi ρ (fun xs => noMut ρ vs = true ∧ ∃ I : Nat → List PV → Prop, I 0 [] ∧
  (∀ i acc p, I i acc → xs[i]? = some p → tgW td p (wipeP ρ vs) fun ρ2 => t ρ2 (fun b => if b = true then e ρ2 (fun q => q.gives = true ∧ acc.length < sizeLine ∧ I (i + 1) (acc ++ [q.thaw])) (fun _ => False) else I (i + 1) acc) fun _ => False) ∧
  ∀ acc, I xs.length acc → Q (.new (.lst acc))) R
section
variable {X : Cx} {W : WX} {pos : Pos} {elt tg iter c : Expr} {ifs : List Expr} {wi : WIt} {td : TD} {wt : WTs} {we : WEx} {scope : Scope} {own : List (Str × Nat)} {b : Bool}
theorem vifs_nil : VIfs X W [] wYes := ⟨⟨fun pins s σ H Q I h => by
  obtain ⟨G, ρ, Qp, Rp, g, hw, kq, kx⟩ := h
  exact pts_nil.run pins s σ H Q I (kq _ _ .refl g hw)⟩⟩
theorem vifs_one (h : VT X W c wt) : VIfs X W [c] wt := ⟨pts_one h.pt⟩
theorem lft_comp {t : TI} (io : ItOk X W b t wi) (hS : (tgS td).all (fun i => (own.map (·.2)).contains i) = true) (σ : L2.St) (H : Hp) (Q : VK) (h : lftE X.K W (wComp wi td wt we (own.map (·.2))) σ H Q) : tLc t (tgT X.K td) (lftT X.K W0 wt) (lftE X.K W0 we) (own.map (·.2)) σ H Q := by
  obtain ⟨G, ρ, Qp, Rp, g, hw, kq, kx⟩ := h
  refine io g hw (fun xs J H1 s1 g1 it ⟨hm, I, i0, turn, fin⟩ D nD => ?_) kx
  have vsub : ∀ i ∈ tgS td, i ∈ own.map (·.2) := fun i hi => by
    have := List.all_eq_true.mp hS i hi
    simpa using this
  generalize hvs : own.map (·.2) = vs at turn vsub hm ⊢
  obtain ⟨gw, sw, mw⟩ := g1.wipe vs
  have nM := g1.new nD
  have sub : Same (hide (itB b G ρ σ) H1) (hide (SA G ρ σ) H1) := hide_anti fun a z => by
    unfold itB
    cases b with
    | true => exact z
    | false => exact SA.ma z
  have it := it.mono sub
  -- the word between two turns
  refine ⟨fun i m H2 => m = xs.length - i ∧ i ≤ xs.length ∧ ∃ acc ys, H2 D = some (.lst ys) ∧ Reps X.K (hide (MA (G.beside D (wipeP ρ vs) (wipe σ vs) H2) (wipeP ρ vs) (wipe σ vs)) H2) acc ys ∧ I i acc ∧ Good X.K (G.beside D (wipeP ρ vs) (wipe σ vs) H2) (wipeP ρ vs) (wipe σ vs) H2 ∧ Step G ρ σ H1 H2 ∧ Good X.K G ρ σ H2,
    ⟨_, rfl, Nat.zero_le _, [], [], upd_same, .nil, i0, gw.beside nD, .of_same (same_upd nD), g1.laid nD⟩, ?_⟩
  rintro i m H2 ⟨rfl, hi, acc, ys, hD, ry, ii, gb, s2, g2⟩
  have hx2 : Same (hide (SA G ρ σ) H1) H2 := fun a o z => by
    obtain ⟨z1, z2⟩ := hide_some.mp z
    exact s2 a o z1 z2
  by_cases hl : i < xs.length
  · refine .inr ⟨it.go i H2 hx2 hl, fun H' => ∃ acc ys, H' D = some (.lst ys) ∧ Reps X.K (hide (MA (G.beside D (wipeP ρ vs) (wipe σ vs) H') (wipeP ρ vs) (wipe σ vs)) H') acc ys ∧ I (i + 1) acc ∧ Good X.K (G.beside D (wipeP ρ vs) (wipe σ vs) H') (wipeP ρ vs) (wipe σ vs) H' ∧ Step G ρ σ H1 H' ∧ Good X.K G ρ σ H',
      fun H' h => ⟨_, by omega, rfl, hl, h⟩, fun v H' y => ?_⟩
    obtain ⟨sm, rep⟩ := it.yld i H2 v H' hx2 y
    have e := List.getElem?_eq_getElem hl
    have g3 := gb.same sm
    have mEq : ∀ {Hx Hy : Hp} {a : Addr}, MA (G.beside D (wipeP ρ vs) (wipe σ vs) Hx) (wipeP ρ vs) (wipe σ vs) a → MA (G.beside D (wipeP ρ vs) (wipe σ vs) Hy) (wipeP ρ vs) (wipe σ vs) a := fun {Hx Hy a} z => MA.beside.mpr (MA.beside.mp z)
    -- the item
    have rp : Rep X.K (hide (MA (G.beside D (wipeP ρ vs) (wipe σ vs) H2) (wipeP ρ vs) (wipe σ vs)) H') xs[i] v := by
      refine rep _ e _ (fun a o z => ?_) fun a o n y => hide_some.mpr ⟨gb.new n, y⟩
      obtain ⟨z1, z2⟩ := hide_some.mp z
      refine hide_some.mpr ⟨fun w => ?_, sm a o (s2 a o (fun w => z1 w.ma) z2)⟩
      rcases MA.beside.mp w with w | w
      · exact z1 (mw a w)
      · rw [w, nD] at z2; cases z2
    refine tg_ok td g3 (fun _ z => z) rp (turn i acc _ ii e) fun ρ' σ' g' le h' => ⟨by rw [le.wipe vs vsub, wipe_wipe], ?_⟩
    -- what every later heap keeps
    have later : ∀ {H4 : Hp}, Step (G.beside D (wipeP ρ vs) (wipe σ vs) H2) ρ' σ' H' H4 → Good X.K (G.beside D (wipeP ρ vs) (wipe σ vs) H2) ρ' σ' H4 → H4 D = some (.lst ys) ∧ Good X.K (G.beside D (wipeP ρ vs) (wipe σ vs) H2) (wipeP ρ vs) (wipe σ vs) H4 ∧ Step (G.beside D (wipeP ρ vs) (wipe σ vs) H2) (wipeP ρ vs) (wipe σ vs) H2 H4 ∧ (∀ a o, ¬ SA G ρ σ a → H2 a = some o → H4 a = some o) ∧ ∀ a, SA G ρ σ a → StOk H4 a := fun {H4} s4 g4 => by
      have sw4 : Step (G.beside D (wipeP ρ vs) (wipe σ vs) H2) (wipeP ρ vs) (wipe σ vs) H2 H4 := fun a o n z => s4 a o (fun w => n (le.sa a w)) (sm a o z)
      have so4 : ∀ a o, ¬ SA G ρ σ a → H2 a = some o → H4 a = some o := fun a o n z => sw4 a o (fun w => n (sw a w)) z
      have st4 : ∀ a, StOk H2 a → (SA (G.beside D (wipeP ρ vs) (wipe σ vs) H2) ρ' σ' a → StOk H4 a) → StOk H4 a := fun a z k => by
        by_cases w : SA (G.beside D (wipeP ρ vs) (wipe σ vs) H2) ρ' σ' a
        · exact k w
        · obtain ⟨x, y, e1, e2⟩ := z
          exact ⟨x, y, s4 a _ w (sm a _ e1), e2⟩
      exact ⟨s4 D _ (g'.n_not_sa (.inr rfl)) (sm D _ hD), gb.step sw4 fun a z => st4 a (gb.sa a z) (g4.sa a), sw4, so4, fun a z => st4 a (g2.sa a z) (g4.sa a)⟩
    have outer : ∀ {H4 H5 : Hp}, (∀ a o, ¬ SA G ρ σ a → H2 a = some o → H4 a = some o) → (∀ a, SA G ρ σ a → StOk H4 a) → (∀ a, a ≠ D → H5 a = H4 a) → Step G ρ σ H1 H5 ∧ Good X.K G ρ σ H5 := fun {H4 H5} so st ne => by
      have s5 : Step G ρ σ H1 H5 := fun a o n z => by
        rw [ne a (ne_of_none z nD)]
        exact so a o n (s2 a o n z)
      refine ⟨s5, g1.step s5 fun a z => ?_⟩
      have hne : a ≠ D := fun w => by
        obtain ⟨x, y, e1, _⟩ := g1.sa a z
        rw [w, nD] at e1; cases e1
      obtain ⟨x, y, e1, e2⟩ := st a z
      exact ⟨x, y, by rw [ne a hne]; exact e1, e2⟩
    refine ⟨_, ρ', _, _, g', h', fun k H3 s3 g3' h3 => ?_, fun _ _ _ _ _ _ _ z => z.elim⟩
    cases k with
    | false =>
      obtain ⟨d3, gb3, sw3, so3, st3⟩ := later s3 g3'
      obtain ⟨o1, o2⟩ := outer so3 st3 fun _ _ => rfl
      exact ⟨acc, ys, d3, (ry.mono sw3.hide).mono (hide_anti fun a z => mEq z), h3, gb3.besideNow, o1, o2⟩
    | true =>
      refine ⟨_, ρ', _, _, g3', h3, fun q u H4 s4 g4 r4 ⟨hq, hz, hi4⟩ => ?_, fun _ _ _ _ _ _ _ z => z.elim⟩
      obtain ⟨d4, gb4, sw4, so4, st4⟩ := later (s3.trans s4) g4
      have u5 : ∀ a, a ≠ D → upd H4 D (.lst (ys ++ [u])) a = H4 a := fun a z => upd_ne z
      obtain ⟨o1, o2⟩ := outer so4 st4 u5
      refine ⟨ys, d4, by rw [← ry.length]; exact hz, acc ++ [q.thaw], ys ++ [u], upd_same, ?_, hi4, gb4.besideAgain, o1, o2⟩
      have mD : MA (G.beside D (wipeP ρ vs) (wipe σ vs) (upd H4 D (.lst (ys ++ [u])))) (wipeP ρ vs) (wipe σ vs) D := .inl (.inr rfl)
      rw [hide_upd_in mD]
      refine ((ry.mono sw4.hide).mono (hide_anti fun a z => mEq z)).snoc ((r4.rep hq).mono (hide_anti fun a z => ?_))
      refine le.ma2 (fun i hi p e => ?_) a (mEq z)
      exact absurd (vsub i hi) (wipeP_not e)
  · have ei : i = xs.length := by omega
    subst ei
    refine .inl ⟨it.stop _ H2 hx2 (Nat.le_refl _), kq _ _ H2 (s1.trans s2) g2 (.new nM (s1.gr g1 _ nD) hD (.lst (ry.mono (hide_anti fun a z => MA.beside.mpr (z.elim (fun w => .inl (w.wiped hm)) .inr))))) (fin acc ii)⟩
theorem ve_comp (hc : X.calm = true) (hN : X.N.Nodup) (hi : VI X W b tg iter wi) (ok : BlkOk X.N X.env.scope scope own) (hS : (tgS td).all (fun i => (own.map (·.2)).contains i) = true)
    (hg : ∀ (s : Shared) (H : Hp) (C : Addr) (cl : List (Str × Addr)) (fp : List Addr), VG (X.blk s H scope (compEnvC scope cl C X.env) fp) tg td) (ht : ∀ (s : Shared) (H : Hp) (C : Addr) (cl : List (Str × Addr)) (fp : List Addr), VIfs (X.blk s H scope (compEnvC scope cl C X.env) fp) W0 ifs wt)
    (he : ∀ (s : Shared) (H : Hp) (C : Addr) (cl : List (Str × Addr)) (fp : List Addr), VE (X.blk s H scope (compEnvC scope cl C X.env) fp) W0 elt we) (hs : ∀ x, foldedSetIterable iter X.env x = pure x := by intro _; rfl) :
    VE X W (.ListComp elt [⟨tg, iter, ifs, 0⟩] scope pos) (wComp wi td wt we (own.map (·.2))) := by
  obtain ⟨t, pi, io⟩ := hi.ex
  exact ⟨PE.imp (pe_lc (g := tgT X.K td) (tt := lftT X.K W0 wt) (te := lftE X.K W0 we) hc hN pi ok (fun s H C cl fp => (hg s H C cl fp).pg) (fun s H C cl fp => (ht s H C cl fp).pts) (fun s H C cl fp => (he s H C cl fp).pe) hs) (lft_comp io hS)⟩
/-- y = [..], y a local name that is no cell -/
theorem vs_setLc {i : Nat} {y : Str} {py spos : Pos} (hc : X.calm = true) (hN : X.N.Nodup) (hy : X.N[i]? = some y) (hyl : X.env.scope.names.lookup y = some .local) (hsw : swapsWith (.ListComp elt [⟨tg, iter, ifs, 0⟩] scope pos) (some (.Name y py)) spos.line X.env = pure true)
    (hi : VI X W b tg iter wi) (ok : BlkOk X.N X.env.scope scope own) (hS : (tgS td).all (fun i => (own.map (·.2)).contains i) = true)
    (hg : ∀ (s : Shared) (H : Hp) (C : Addr) (cl : List (Str × Addr)) (fp : List Addr), VG (X.blk s H scope (compEnvC scope cl C X.env) fp) tg td) (ht : ∀ (s : Shared) (H : Hp) (C : Addr) (cl : List (Str × Addr)) (fp : List Addr), VIfs (X.blk s H scope (compEnvC scope cl C X.env) fp) W0 ifs wt)
    (he : ∀ (s : Shared) (H : Hp) (C : Addr) (cl : List (Str × Addr)) (fp : List Addr), VE (X.blk s H scope (compEnvC scope cl C X.env) fp) W0 elt we) (hs : ∀ x, foldedSetIterable iter X.env x = pure x := by intro _; rfl) :
    VS X W (.Assign [.Name y py] (.ListComp elt [⟨tg, iter, ifs, 0⟩] scope pos) spos) (wSet i (wComp wi td wt we (own.map (·.2)))) := by
  obtain ⟨t, pi, io⟩ := hi.ex
  refine ⟨PS.imp (ps_setLc (g := tgT X.K td) (tt := lftT X.K W0 wt) (te := lftE X.K W0 we) hc hN hy hyl hsw pi ok (fun s H C cl fp => (hg s H C cl fp).pg) (fun s H C cl fp => (ht s H C cl fp).pts) (fun s H C cl fp => (he s H C cl fp).pe) hs) fun D σ H h => ?_⟩
  obtain ⟨G, ρ, Dp, g, hw, de⟩ := h
  exact lft_comp io hS σ H _ ⟨G, ρ, _, _, g, hw, fun p v H' s g' r ⟨h1, h2⟩ => de.nx _ _ _ (g'.put (r.rep h1) i) h2, de.kx⟩
/-- .. a list of its own -/
theorem vs_ownLc {i : Nat} {y : Str} {py spos : Pos} (hc : X.calm = true) (hN : X.N.Nodup) (hy : X.N[i]? = some y) (hyl : X.env.scope.names.lookup y = some .local) (hsw : swapsWith (.ListComp elt [⟨tg, iter, ifs, 0⟩] scope pos) (some (.Name y py)) spos.line X.env = pure true)
    (hi : VI X W b tg iter wi) (ok : BlkOk X.N X.env.scope scope own) (hS : (tgS td).all (fun i => (own.map (·.2)).contains i) = true)
    (hg : ∀ (s : Shared) (H : Hp) (C : Addr) (cl : List (Str × Addr)) (fp : List Addr), VG (X.blk s H scope (compEnvC scope cl C X.env) fp) tg td) (ht : ∀ (s : Shared) (H : Hp) (C : Addr) (cl : List (Str × Addr)) (fp : List Addr), VIfs (X.blk s H scope (compEnvC scope cl C X.env) fp) W0 ifs wt)
    (he : ∀ (s : Shared) (H : Hp) (C : Addr) (cl : List (Str × Addr)) (fp : List Addr), VE (X.blk s H scope (compEnvC scope cl C X.env) fp) W0 elt we) (hs : ∀ x, foldedSetIterable iter X.env x = pure x := by intro _; rfl) :
    VS X W (.Assign [.Name y py] (.ListComp elt [⟨tg, iter, ifs, 0⟩] scope pos) spos) (fun D ρ => i < ρ.length ∧ wOwn i (wComp wi td wt we (own.map (·.2))) D ρ) := by
  obtain ⟨t, pi, io⟩ := hi.ex
  refine ⟨PS.imp (ps_setLc (g := tgT X.K td) (tt := lftT X.K W0 wt) (te := lftE X.K W0 we) hc hN hy hyl hsw pi ok (fun s H C cl fp => (hg s H C cl fp).pg) (fun s H C cl fp => (ht s H C cl fp).pts) (fun s H C cl fp => (he s H C cl fp).pe) hs) fun D σ H h => ?_⟩
  obtain ⟨G, ρ, Dp, g, ⟨hil, hw⟩, de⟩ := h
  refine lft_comp io hS σ H _ ⟨G, ρ, _, _, g, hw, fun p v H' s g' r ⟨q, h1, h2⟩ => ?_, de.kx⟩
  subst h1
  cases r with
  | s r => cases r with
    | plain r => cases r
  | new n e f t => exact de.nx _ _ _ (g.putNew s g' e n i hil (.inl ⟨q, _, rfl, f, t⟩)) h2
end
end L3

/-! Values without the heap: the rule for a def; errors raised and caught. -/
namespace L3
open PySem PySem.Spec PyProof.Rows L2

/-! ### several except clauses, with a name or without -/
/-- the error at a has come down in the frame of X: sI is the state without it -/
structure Air (X : Cx) (pins : List (Addr × Obj)) (σ : L2.St) (H : Hp) (cls : Value) (d : Option Addr) (a : Addr) (B : Heap) (sI s : Shared) : Prop where
  inv : Inv X pins σ H sI
  nb : ∀ b o, sI.heap.get? b = some o → b ∉ frs X.stack → B.get? b = some o
  fly : HandSPX.FlyingZ B (X.env :: X.outer) a (Zc cls d) s.heap
  up : sI.heap.UpToSlots s.heap
  na : H a = none
  os : s.os = sI.os
  ag : AllBare s.gens
theorem Air.now {X : Cx} {pins : List (Addr × Obj)} {σ : L2.St} {H : Hp} {cls : Value} {d : Option Addr} {a : Addr} {B : Heap} {sI s : Shared} (r : Air X pins σ H cls d a B sI s) : Inv X pins σ H s := r.inv.landed r.nb r.fly.1 r.up r.os r.ag
/-- it is none of the frames -/
theorem Air.apart {X : Cx} {pins : List (Addr × Obj)} {σ : L2.St} {H : Hp} {cls : Value} {d : Option Addr} {a : Addr} {B : Heap} {sI s : Shared} (r : Air X pins σ H cls d a B sI s) (hf : X.env.frame = some X.env.locals) : a ≠ X.env.locals ∧ a ∉ X.fs := by
  obtain ⟨oe, vs, he, _, hd⟩ := r.fly.there
  have key : a ∉ frs (X.env :: X.outer) := fun hm => by
    obtain ⟨_, o, e, n⟩ := (r.fly.2.2.1).mem hm
    rw [he] at e
    cases e
    exact n _ hd
  refine ⟨fun z => key (List.mem_filterMap.mpr ⟨X.env, List.mem_cons_self, by rw [hf, z]⟩), fun hm => ?_⟩
  obtain ⟨e, h1, h2⟩ := List.mem_filterMap.mp hm
  exact key (List.mem_filterMap.mpr ⟨e, List.mem_cons_of_mem _ h1, h2⟩)
abbrev TSx := Addr → Value → Option Addr → TS
inductive HdL (X : Cx) : List ExceptHandler → (WX → Ends → WX) → Prop
  | nil : HdL X [] (fun Wout _ => Wout)
  | only {x : Str} {c : Value} {ts : TSx} {b₀ : Stmt} {suite : List Stmt} {np pos' : Pos} {hds : List ExceptHandler} {w : WX → Ends → WX} (hc : Names X x c)
      (hsu : ∀ (a : Addr) (oe : Obj) (cls : Value) (d : Option Addr) (pn : List (Addr × Obj)), Zc cls d oe → (∃ vs, oe.data = .fields vs) → PSs (X.suite a ((a, oe) :: pn)) (b₀ :: suite) (ts a cls d)) (r : HdL X hds w) :
      HdL X (.ExceptHandler (some (.Name x np)) none (b₀ :: suite) pos' :: hds) (fun Wout D cls d σ H => ∃ b, PySem.W.exmOne X.K cls c = some b ∧ (b = true → ∀ a, H a = none → ts a cls d D σ H) ∧ (b = false → w Wout D cls d σ H))
  | as_ {x n : Str} {i : Nat} {c : Value} {ts : TSx} {b₀ : Stmt} {suite : List Stmt} {np pos' : Pos} {hds : List ExceptHandler} {w : WX → Ends → WX} (hc : Names X x c) (hN : X.N.Nodup) (hi : X.N[i]? = some n) (hln : X.env.kindOf n = some .local)
      (hsu : ∀ (a : Addr) (oe : Obj) (cls : Value) (d : Option Addr) (pn : List (Addr × Obj)), Zc cls d oe → (∃ vs, oe.data = .fields vs) → PSs (X.suite a ((a, oe) :: pn)) (b₀ :: suite) (ts a cls d)) (r : HdL X hds w) :
      HdL X (.ExceptHandler (some (.Name x np)) (some n) (b₀ :: suite) pos' :: hds) (fun Wout D cls d σ H => ∃ b, PySem.W.exmOne X.K cls c = some b ∧
        (b = true → ∀ a, H a = none → ts a cls d { nx := fun σ' H' => D.nx (σ'.set i none) H', rt := D.rt, bk := fun σ' H' => D.bk (σ'.set i none) H', ct := fun σ' H' => D.ct (σ'.set i none) H' } (σ.set i (some (.ref a))) H) ∧ (b = false → w Wout D cls d σ H))
section
variable {X : Cx} {pins : List (Addr × Obj)} {σ : L2.St} {H : Hp} {cls : Value} {d : Option Addr} {a : Addr} {B : Heap} {sI s : Shared} {Wout : WX} {D : Ends}
/-- the class that a clause names is looked at -/
theorem Air.test (r : Air X pins σ H cls d a B sI s) (hf : X.env.frame = some X.env.locals) {x : Str} {c : Value} {np : Pos} (hc : Names X x c) {Q E : Value → Shared → Prop} (q : Q c s) : wpAny (model X.prog X.w) (X.A.mark (some (.ref a))) (eval (.Name x np) X.env) Q E s := by
  obtain ⟨oe, vs, he, _, hd⟩ := r.fly.there
  obtain ⟨n1, n2⟩ := r.apart hf
  have S := r.now.suite he hd r.na n1 n2
  rcases hc with ⟨hg, hdbg, hm | ⟨hm, hv, hnn⟩⟩
  · exact ld_glob (X := X.suite a ((a, oe) :: (X.pn ++ pins))) S hg hm q hdbg
  · exact ld_blt (X := X.suite a ((a, oe) :: (X.pn ++ pins))) S hg hm hv q hnn hdbg
theorem Air.looks (r : Air X pins σ H cls d a B sI s) : PySem.W.Looks (model X.prog X.w) s.heap (typeOf (.ref a)) cls := by
  obtain ⟨oe, vs, he, hz, _⟩ := r.fly.there
  exact fun A Q E s' k q => wpAny_typeOf_ref (k _ _ he) (by rw [hz.1]; exact q)
theorem Air.pass (r : Air X pins σ H cls d a B sI s) (hs : X.stack = X.env :: X.outer) (hf : X.env.frame = some X.env.locals) (tk : Takes X Wout) (w : Wout cls d σ H) : wpAny (model X.prog X.w) X.A (handleBy (.ref a) X.env []) (SP X pins D) X.xe s := by
  refine wpAny_handleBy_nil ?_
  have fly := r.fly
  obtain ⟨_, _, _, oe, vs, T, oT, ts', he, _, hd, h1, _⟩ := id fly
  unfold PySem.passOn
  refine wpAny_bind (wpAny_field he hd h1 ?_)
  rw [if_neg (show ¬ ((Value.ref T == Value.none) = true) by simp)]
  have fin : wpAny (model X.prog X.w) X.A (setFlight (.ref a) X.env.frame) (fun _ s4 => wpAny (model X.prog X.w) X.A (throw (.ref a) : Sem Flow) (SP X pins D) X.xe s4) X.xe s := by
    rw [hf]
    refine HandSPX.setFlight_upZ fly fun h4 hh up => wpAny_throw (tk _ _ ⟨a, B, sI, pins, σ, H, cls, d, rfl, r.inv, r.nb, r.up.trans up, .inr (.inr ?_), r.na, r.os, r.ag, w⟩)
    rw [hs]
    exact hh
  first
    | exact wpAny_bind (wpAny_pure (wpAny_bind fin))
    | exact wpAny_bind fin
theorem HdL.go (hs : X.stack = X.env :: X.outer) (hf : X.env.frame = some X.env.locals) (tk : Takes X Wout) {hds : List ExceptHandler} {w : WX → Ends → WX} (hk : HdL X hds w) : ∀ {s : Shared}, Air X pins σ H cls d a B sI s → w Wout D cls d σ H →
    wpAny (model X.prog X.w) X.A (handleBy (.ref a) X.env hds) (SP X pins D) X.xe s := by
  induction hk with
  | nil => exact fun r w => r.pass hs hf tk w
  | @only x c ts b₀ suite np pos' hds w hc hsu _ ih =>
    intro s r ⟨b, hb, hyes, hno⟩
    refine wpAny_handleBy_cons (codeAny_handlers_test (r.test hf hc ((PySem.W.exm_one (M := model X.prog X.w) r.now.kIn r.looks hb).here ?_))) (by intro q; cases q)
    cases b with
    | false => exact ih r (hno rfl)
    | true =>
      refine codeAny_handlers_suite (HandSPX.lands_againZ r.fly fun h2 fl2 up2 => ?_)
      have r2 : Air X pins σ H cls d a B sI { s with heap := h2 } := ⟨r.inv, r.nb, fl2, r.up.trans up2, r.na, r.os, r.ag⟩
      obtain ⟨oe, vs, he, hz, hd⟩ := fl2.there
      obtain ⟨n1, n2⟩ := r2.apart hf
      refine wpAny_mono ((hsu a oe cls d (X.pn ++ pins) hz ⟨_, hd⟩).run [] _ σ H D (r2.now.suite he hd r.na n1 n2) (hyes rfl a r.na)) (fun f s3 hsp => ?_) (fun _ _ z => False.elim z)
      cases f with
      | ret u =>
        obtain ⟨v, σ3, H3, S3, r3, q3⟩ := hsp
        exact ⟨v, σ3, H3, S3.unsuite r.inv.ok, r3, q3⟩
      | _ =>
        obtain ⟨σ3, H3, S3, q3⟩ := hsp
        exact ⟨σ3, H3, S3.unsuite r.inv.ok, q3⟩
  | @as_ x n i c ts b₀ suite np pos' hds w hc hN hi hln hsu _ ih =>
    intro s r ⟨b, hb, hyes, hno⟩
    refine wpAny_handleBy_cons (codeAny_handlers_test (r.test hf hc ((PySem.W.exm_one (M := model X.prog X.w) r.now.kIn r.looks hb).here ?_))) (by intro q; cases q)
    cases b with
    | false => exact ih r (hno rfl)
    | true =>
      refine codeAny_handlers_suite_as (HandSPX.lands_againZ r.fly fun h2 fl2 up2 => ?_)
      have r2 : Air X pins σ H cls d a B sI { s with heap := h2 } := ⟨r.inv, r.nb, fl2, r.up.trans up2, r.na, r.os, r.ag⟩
      obtain ⟨oe, vs, he, hz, hd⟩ := fl2.there
      obtain ⟨n1, n2⟩ := r2.apart hf
      refine store_ok (X := X.suite a ((a, oe) :: (X.pn ++ pins))) (v := .ref a) (r2.now.suite he hd r.na n1 n2) hN hi (.inl hln) rfl (fun s5 S5 => ?_) (.inr hln)
      refine wpAny_mono ((hsu a oe cls d (X.pn ++ pins) hz ⟨_, hd⟩).run [] s5 _ H _ S5 (hyes rfl a r.na)) (fun f s6 hsp => ?_) (fun _ _ z => False.elim z)
      cases f with
      | ret u =>
        obtain ⟨v, σ6, H6, S6, r6, q6⟩ := hsp
        exact gone_ok (S6.unsuite r.inv.ok) hN hi hln fun s7 J7 => ⟨v, _, _, J7, r6, q6⟩
      | next =>
        obtain ⟨σ6, H6, S6, q6⟩ := hsp
        exact gone_ok (S6.unsuite r.inv.ok) hN hi hln fun s7 J7 => ⟨_, _, J7, q6⟩
      | brk =>
        obtain ⟨σ6, H6, S6, q6⟩ := hsp
        exact gone_ok (S6.unsuite r.inv.ok) hN hi hln fun s7 J7 => ⟨_, _, J7, q6⟩
      | cont =>
        obtain ⟨σ6, H6, S6, q6⟩ := hsp
        exact gone_ok (S6.unsuite r.inv.ok) hN hi hln fun s7 J7 => ⟨_, _, J7, q6⟩
theorem ps_tryL {body : List Stmt} {h₀ : ExceptHandler} {hds : List ExceptHandler} {pos : Pos} {tb : WX → TS} {w : WX → Ends → WX} (hs : X.stack = X.env :: X.outer) (hf : X.env.frame = some X.env.locals) (tk : Takes X Wout)
    (hb : ∀ (W : WX) (pn : List (Addr × Obj)) (xe : Value → Shared → Prop), Takes (X.tr pn xe) W → PassesOwn (model X.prog X.w) X.A X.env xe → PSs (X.tr pn xe) body (tb W)) (hh : HdL X (h₀ :: hds) w) :
    PS X (.Try body (h₀ :: hds) [] [] pos) (fun D σ H => tb (w Wout D) D σ H) := by
  refine ⟨fun pins s σ H D I h => wpAny_Try_except ?_⟩
  refine wpAny_mono ((hb (w Wout D) (X.pn ++ pins) _ (fun u s' xx => ?_) PassesOwn.looking).run [] s σ H D (I.toTry _) h) (fun f s1 hsp => ?_) (fun e s1 he => he)
  · obtain ⟨a, B, sI, pins', σ', H', cls, d, e, J, nb, up, sky, na, os, ag, q⟩ := xx
    subst e
    have sky' : Sky B (X.env :: X.outer) a (Zc cls d) X.env.locals s'.heap := by rw [← hs]; exact sky
    refine Sky.land Zc.steady (by rw [I.ok.frames, hs]) hf sky' fun h3 fl3 up3 => ?_
    exact hh.go hs hf tk (B := B) (sI := sI) ⟨J.ofTry I.ok, nb, fl3, up.trans up3, na, os, ag⟩ q
  · cases f with
    | next =>
      obtain ⟨σ', H', J, q⟩ := hsp
      exact wpAny_execs_nil ⟨σ', H', J.ofTry I.ok, q⟩
    | ret u =>
      obtain ⟨v, σ', H', J, r, q⟩ := hsp
      exact ⟨v, σ', H', J.ofTry I.ok, r, q⟩
    | _ =>
      obtain ⟨σ', H', J, q⟩ := hsp
      exact ⟨σ', H', J.ofTry I.ok, q⟩
end
end L3

/-! Values without the heap: raise, try, the rule for a def. -/
namespace L3
open PySem PySem.Spec L2

/-! ### raise -/
def wRaise (x : EX) : WSt := fun D ρ => D.ex x ρ
section
variable {X : Cx} {W : WX} {pos p p2 pos' : Pos} {x m : Str} {C : Addr} {j : Nat}
theorem vs_raise {B newId initId : String} {bmB : List Value} (hc : X.calm = true) (tk : Takes X W) (F : PySem.ExcBaseFacts B newId initId bmB) (q : PySem.W.excIn X.K C bmB newId = true) (gC : X.mg x = some (.ref C)) (kC : PySem.W.keepIn X.K (.ref C) = true) (r : Raises X (.ref C)) (hg : Gl X x)
    (hdb : (x == ("__debug__" : Str)) = false := by decide) : VS X W (.Raise (some (.Call (.Name x p) [.Constant (.str m) j p2] [] pos)) none pos') (wRaise ⟨C, none⟩) :=
  ⟨PS.imp (ps_raise hc tk (pmk_own F q gC kC r hg hdb)) fun D σ H ⟨G, ρ, Dp, g, hw, de⟩ => de.ex ⟨C, none⟩ (.ref C) none ρ σ H g ⟨rfl, fun _ _ z => nomatch z⟩ hw⟩
/-- Base.__init__(self, ..), Base an own class over ValueError -/
theorem pe_bInit {pl : Sem Bool} {F : Str} {CF : Addr} {e : Expr} {es : List Expr} {ta : TA} {p1 : Pos} (hg : Gl X F) (hm : X.mg F = some (.ref CF)) (h1 : PySem.W.specialIn X.K (.ref CF) "__getattribute__" = some (some (.builtin "type.__getattribute__"))) (h2 : PySem.W.readsIn X.K CF (.type "type") = true)
    (h3 : PySem.W.findCls X.K (.ref CF) (.type "type") "__init__" = some (.val (.builtin "ValueError.__init__"))) (ha : PA X (e :: es) ta)
    (hc : eval (.Call (.Attribute (.Name F p1) "__init__" p2) (e :: es) [] pos) X.env = (do
      let ov ← eval (.Name F p1) X.env
      standAt p2.atName
      let (f, first) ← holding [ov] (getMethod ov "__init__" pl)
      callWith pos f first (backTo pos (starEach (e :: es) X.env)) (backToKw pos (keywordEach [] X.env))) := by rfl)
    (hdb : (F == ("__debug__" : Str)) = false := by decide)
    (he : starEach (e :: es) X.env = (false, eval e X.env) :: starEach es X.env := by rfl) (hpl : (backTo pos (starEach es X.env)).any (·.1) = false := by rfl) :
    PE X (.Call (.Attribute (.Name F p1) "__init__" p2) (e :: es) [] pos) (tVeI X.K ta) := by
  refine ⟨fun pins s σ H Q I h => ?_⟩
  refine PySem.W.methodCall_KW (ld_glob I hg hm ?_ hdb) hc
  refine PySem.W.method_cls I.kIn h1 (PySem.W.cls_value I.kIn h2 h3 (by decide +kernel) ?_)
  show wpAny _ _ (callWith pos (Value.builtin "ValueError.__init__") [] (backTo pos (starEach (e :: es) X.env)) []) _ _ _
  refine PyProof.Rows.callWith_method1 (thn (ha.run pos pins _ σ H _ (I.tok _) h) fun us s1 ⟨vs, H1, I1, r1, a, C, ws, ev, hl, T, ea, q⟩ => ?_) he hpl
  subst ev
  cases r1 with
  | @cons _ u0 _ ur ra rw' =>
    obtain rfl : u0 = Value.ref a := ra
    refine oinit_ok T I1 ea ?_ fun s' J => ⟨.non, H1, J, rfl, q⟩
    rw [← Paired.length rw', sizeLine_eq]
    omega
/-- __init__ of an error with one field -/
def spErr (K : PySem.W.Frag) (C : Addr) (f : Str) : Sp := fun vs H Q _ => ∃ (a : Addr) (x : V), vs = [.ref a, x] ∧ H a = some (exo a C none) ∧ OexC K C ∧ PySem.W.findIn K (.ref C) f = some none ∧
  ∀ d, H d = none → d ≠ a → Q .non (upd (upd H d (exd d [(f, x)])) a (exo a C (some d)))
def wRaiseF (C : Addr) (f : Str) (a : WEx) : WSt := fun D ρ => a ρ (fun p => p.gives = true ∧ D.ex ⟨C, some (f, p.thaw)⟩ ρ) fun x => D.ex x ρ
theorem vs_raiseF {CX : CXT} {f : Str} {fI : Addr} {k : Nat} {fd : FuncData} {ps : List Str} {e : Expr} {wa : WEx} (hc : X.calm = true) (tk : Takes X W) (T : OexC X.K C) (iC : PySem.W.findIn X.K (.ref C) "__init__" = some (some (.ref fI))) (tI : PySem.W.typeIn X.K (.ref fI) = some (.type "function"))
    (nf : PySem.W.findIn X.K (.ref C) f = some none) (F1 : FnOk X.prog X.w X.K X.mg X.base CX k fI fd ps (spErr X.K C f)) (hr : Room (k + 1) X.A) (hb : Binds X.K fd ps []) (hx : Passes CX X (fun _ _ _ => False)) (hg : Gl X x) (hm : X.mg x = some (.ref C)) (ha : VE X W e wa)
    (hdb : (x == ("__debug__" : Str)) = false := by decide) (he : starEach [e] X.env = (false, eval e X.env) :: starEach [] X.env := by rfl) (hpl : (backTo pos (starEach [] X.env)).any (·.1) = false := by rfl) : VS X W (.Raise (some (.Call (.Name x p) [e] [] pos)) none pos') (wRaiseF C f wa) := by
  refine ⟨PS.imp (ps_raise hc tk (pmk_oex (dvs := []) T iC tI F1 hr hb .nil hx hg hm (pa_cons ha.pe pa_nil he) hdb he hpl)) fun D σ H ⟨G, ρ, Dp, g, hw, de⟩ => ⟨G, ρ, _, _, g, hw, fun q v H1 s1 g1 r1 ⟨h1, h2⟩ => ?_, de.kx⟩⟩
  refine ⟨by show 1 ≤ 1000; decide, fun a na => ⟨a, v, rfl, upd_same, T, nf, fun d nd hda => ?_⟩⟩
  have nd1 : H1 d = none := by rw [upd_ne hda] at nd; exact nd
  have e2 : (upd (upd (upd H1 a (exo a C none)) d (exd d [(f, v)])) a (exo a C (some d))) d = some (exd d [(f, v)]) := by rw [upd_ne hda, upd_same]
  refine ⟨rfl, d, [(f, v)], upd_same, e2, nd1, ?_⟩
  have eH : upd (del (upd (upd (upd H1 a (exo a C none)) d (exd d [(f, v)])) a (exo a C (some d))) a) d (.xd [(f, v)]) = upd H1 d (.xd [(f, v)]) := by
    funext b
    by_cases hb : b = d
    · subst hb; rw [upd_same, upd_same]
    · rw [upd_ne hb, upd_ne hb]
      by_cases hba : b = a
      · subst hba; rw [del_same, na]
      · rw [del_ne hba, upd_ne hba, upd_ne hb, upd_ne hba]
  rw [eH]
  refine de.ex ⟨C, some (f, q.thaw)⟩ (.ref C) (some d) ρ σ _ (g1.laid nd1) ⟨rfl, fun f' p' z => ?_⟩ h2
  cases z
  exact ⟨d, [(f, v)], v, rfl, upd_same, by simp [List.lookup], (r1.rep h1).mono (Step.hide (.of_same (same_upd nd1)))⟩
end

/-! ### try -/
structure VHd (X : Cx) (W : WX) (hds : List ExceptHandler) (h : PEnds → EX → PEnv → Prop) : Prop where
  ex : ∃ wish, HdL X hds wish ∧ ∀ {G Dp D}, DE X.K W G Dp D → ∀ x cls d ρ σ H, Good X.K G ρ σ H → XRep X.K (MA G ρ σ) H x cls d → h Dp x ρ → wish W D cls d σ H
def wTry (b : WSt) (h : PEnds → EX → PEnv → Prop) : WSt := fun D ρ => b ⟨D.nx, D.rt, D.bk, D.ct, fun x ρ' => h D x ρ'⟩ ρ
def whOnly (ans : Addr → Option Bool) (ws : WSt) (wh : PEnds → EX → PEnv → Prop) : PEnds → EX → PEnv → Prop := fun D y ρ => ∃ b, ans y.C = some b ∧ (b = true → ws ⟨D.nx, D.rt, D.bk, D.ct, fun _ _ => False⟩ ρ) ∧ (b = false → wh D y ρ)
def whRet (i : Nat) (ans : Addr → Option Bool) (c : Addr) (f s : Str) (wh : PEnds → EX → PEnv → Prop) : PEnds → EX → PEnv → Prop := fun D y ρ => ∃ b, ans y.C = some b ∧ (b = true → i < ρ.length ∧ y.C = c ∧ ∃ p, y.fs = some (f, p) ∧ D.rt (.tup [.str s, p])) ∧ (b = false → wh D y ρ)
section
variable {X : Cx} {W : WX} {pos np pos' : Pos} {x n : Str} {c : Addr} {i : Nat} {b₀ : Stmt} {suite body : List Stmt} {h₀ : ExceptHandler} {hds : List ExceptHandler} {wh : PEnds → EX → PEnv → Prop} {wb ws : WSt}
theorem vh_nil : VHd X W [] (fun D x ρ => D.ex x ρ) := ⟨_, .nil, fun de x cls d ρ σ H g r h => de.ex x cls d ρ σ H g r h⟩
/-- except C: suite -/
theorem vh_only (ans : Addr → Option Bool) (hc : Names X x (.ref c)) (ha : ∀ a b, ans a = some b → PySem.W.exmOne X.K (.ref a) (.ref c) = some b) (hsu : ∀ (a : Addr) (pn : List (Addr × Obj)), VSs (X.suite a pn) W0 (b₀ :: suite) ws) (r : VHd X W hds wh) :
    VHd X W (.ExceptHandler (some (.Name x np)) none (b₀ :: suite) pos' :: hds) (whOnly ans ws wh) := by
  obtain ⟨wish, r1, r2⟩ := r.ex
  refine ⟨_, .only (ts := fun _ _ _ => lftS X.K W0 ws) hc (fun a oe cls d pn _ _ => (hsu a _).pss) r1, fun {G Dp D} de y cls d ρ σ H g rx ⟨b, e, h1, h2⟩ => ?_⟩
  obtain ⟨rfl, rf⟩ := rx
  exact ⟨b, ha _ _ e, fun hb a na => ⟨G, ρ, _, g, h1 hb, ⟨de.nx, de.bk, de.ct, de.rt, fun _ _ _ _ _ _ _ _ z => z⟩⟩, fun hb => r2 de y _ d ρ σ H g ⟨rfl, rf⟩ (h2 hb)⟩
/-- except C as n: return (s, n.f) -/
theorem vh_ret {f s : Str} {j k : Nat} {p1 p2 p3 p4 p5 : Pos} (ans : Addr → Option Bool) (hc : Names X x (.ref c)) (ha : ∀ a b, ans a = some b → PySem.W.exmOne X.K (.ref a) (.ref c) = some b) (hN : X.N.Nodup) (hi : X.N[i]? = some n) (hln : X.env.kindOf n = some .local) (T : XfC X.K c) (hno : PySem.W.findIn X.K (.ref c) f = some none)
    (hv : Vis X.env.scope n) (r : VHd X W hds wh) (hd : (n == ("__debug__" : Str)) = false := by decide) (hcd : (n == ("__classdict__" : Str)) = false := by decide) (hab : attributeBase (.Name n p3) f X.env (eval (.Name n p3) X.env) = eval (.Name n p3) X.env := by rfl)
    (hs1 : starEach [.Constant (.str s) j p2, .Attribute (.Name n p3) f p4] X.env = (false, eval (.Constant (.str s) j p2) X.env) :: starEach [.Attribute (.Name n p3) f p4] X.env := by rfl)
    (hs2 : starEach [.Attribute (.Name n p3) f p4] X.env = (false, eval (.Attribute (.Name n p3) f p4) X.env) :: starEach [] X.env := by rfl) :
    VHd X W (.ExceptHandler (some (.Name x np)) (some n) [.Return (some (.Tuple [.Constant (.str s) j p2, .Attribute (.Name n p3) f p4] k p1)) p5] pos' :: hds) (whRet i ans c f s wh) := by
  obtain ⟨wish, r1, r2⟩ := r.ex
  refine ⟨_, .as_ hc hN hi hln (fun a oe cls d pn hz hf => pss_one (ps_ret (pe_tup (pa_cons pe_str (pa_cons (pe_xf T hno hz hf (pe_var (X := X.suite a ((a, oe) :: pn)) hi hv hd hcd) hab) pa_nil hs2) hs1)))) r1, fun {G Dp D} de y cls d ρ σ H g rx ⟨b, e, h1, h2⟩ => ?_⟩
  obtain ⟨rfl, rf⟩ := rx
  refine ⟨b, ha _ _ e, fun hb a na => ?_, fun hb => r2 de y _ d ρ σ H g ⟨rfl, rf⟩ (h2 hb)⟩
  obtain ⟨hil, ec, p, ef, hr⟩ := h1 hb
  obtain ⟨dd, fs, v, e1, e2, e3, rp⟩ := rf f p ef
  refine ⟨.ref a, List.getElem?_set_self (by rw [← g.len]; exact hil), rfl, by rw [ec], dd, fs, v, e1, e2, e3, by show 2 ≤ sizeLine; decide, fun q nq => ?_⟩
  refine de.rt (.tup [.str s, p]) _ _ ⟨(g.laid nq).fr, fun z y => (g.laid nq).sa z (.inl y), .plain (.tup (hide_upd fun z => ?_) (.cons (.str s) (.cons (rp.mono ?_) .nil)))⟩ hr
  · exact g.new nq (z.elim .inl fun y => .inr (.inl y))
  · exact (Step.hide (.of_same (same_upd nq))).trans (hide_anti fun z y => y.elim .inl fun w => .inr (.inl w))
theorem vs_try (hs : X.stack = X.env :: X.outer) (hf : X.env.frame = some X.env.locals) (tk : Takes X W)
    (hb : ∀ (W' : WX) (pn : List (Addr × Obj)) (xe : Value → Shared → Prop), Takes (X.tr pn xe) W' → PassesOwn (model X.prog X.w) X.A X.env xe → VSs (X.tr pn xe) W' body wb) (hh : VHd X W (h₀ :: hds) wh) : VS X W (.Try body (h₀ :: hds) [] [] pos) (wTry wb wh) := by
  obtain ⟨wish, r1, r2⟩ := hh.ex
  exact ⟨PS.imp (ps_tryL (tb := fun W' => lftS X.K W' wb) hs hf tk (fun W' pn xe tk' hp => (hb W' pn xe tk' hp).pss) r1) fun D σ H ⟨G, ρ, Dp, g, hw, de⟩ => ⟨G, ρ, _, g, hw, ⟨de.nx, de.bk, de.ct, de.rt, fun x cls d ρ' σ' H' g' r h => r2 de x cls d ρ' σ' H' g' r h⟩⟩⟩
end

/-! ### the rule for a def -/
section
variable {K : PySem.W.Frag} {N S : Addr → Prop} {H : Hp}
theorem Args.length : ∀ {ps : List PV} {vs : List V}, Args K S H ps vs → ps.length = vs.length
  | _, _, .nil => rfl
  | _, _, .cons _ r => by rw [List.length_cons, List.length_cons, Args.length r]
  | _, _, .st _ r => by rw [List.length_cons, List.length_cons, Args.length r]
theorem Args.get : ∀ {ps : List PV} {vs : List V} {i : Nat} {p : PV}, Args K S H ps vs → ps[i]? = some p → ∃ v, vs[i]? = some v ∧ ((p = .st ∧ ∃ a, v = .ref a ∧ S a) ∨ Rep K H p v)
  | _, _, _, _, .nil, h => by simp at h
  | _, _, 0, _, .cons r _, h => by simp at h; subst h; exact ⟨_, rfl, .inr r⟩
  | _, _, 0, _, .st s _, h => by simp at h; subst h; exact ⟨_, rfl, .inl ⟨rfl, _, rfl, s⟩⟩
  | _, _, i + 1, p, .cons _ t, h => by
    obtain ⟨v, h1, h2⟩ := Args.get (i := i) (p := p) t (by simpa using h)
    exact ⟨v, by simpa using h1, h2⟩
  | _, _, i + 1, p, .st _ t, h => by
    obtain ⟨v, h1, h2⟩ := Args.get (i := i) (p := p) t (by simpa using h)
    exact ⟨v, by simpa using h1, h2⟩
def startP (n : Nat) (ps : List PV) : PEnv := ps.map some ++ List.replicate (n - ps.length) none
theorem startP_get {n i : Nat} {ps : List PV} {p : PV} (h : (startP n ps)[i]? = some (some p)) : ps[i]? = some p := by
  unfold startP at h
  by_cases hi : i < ps.length
  · rw [List.getElem?_append_left (by rw [List.length_map]; exact hi), List.getElem?_map] at h
    cases e : ps[i]? with
    | none => rw [e] at h; cases h
    | some q => rw [e] at h; cases h; rfl
  · rw [List.getElem?_append_right (by rw [List.length_map]; omega), List.getElem?_replicate] at h
    split at h
    · cases h
    · cases h
theorem start_get {Ns : List Str} {i : Nat} {vs : List V} {v : V} (h : vs[i]? = some v) : (L2.start Ns vs)[i]? = some (some v) := by
  unfold L2.start
  have hi : i < vs.length := (List.getElem?_eq_some_iff.mp h).1
  rw [List.getElem?_append_left (by rw [List.length_map]; exact hi), List.getElem?_map, h]
  rfl
theorem Good.start {Ns : List Str} {ps : List PV} {vs : List V} (hN : ∀ b, N b → ¬ S b ∧ ∃ o, H b = some o) (hS : ∀ b, S b → StOk H b) (ha : Args K S (hide (NS N S) H) ps vs) (h1 : ∀ i j : Nat, ps[i]? = some .st → ps[j]? = some .st → i = j) :
    Good K ⟨N, S, H⟩ (startP Ns.length ps) (L2.start Ns vs) H := by
  have hl := ha.length
  have at_ : ∀ {i : Nat} {p : PV}, (startP Ns.length ps)[i]? = some (some p) → ∃ v, (L2.start Ns vs)[i]? = some (some v) ∧ ((p = .st ∧ ∃ a, v = .ref a ∧ S a) ∨ Rep K (hide (NS N S) H) p v) := fun {i p} e => by
    obtain ⟨v, e2, r⟩ := ha.get (startP_get e)
    exact ⟨v, start_get e2, r⟩
  have stS : ∀ {i : Nat} {a : Addr}, (startP Ns.length ps)[i]? = some (some .st) → (L2.start Ns vs)[i]? = some (some (.ref a)) → S a := fun {i a} e1 e2 => by
    obtain ⟨v, e3, r⟩ := at_ e1
    rw [e2] at e3; cases e3
    rcases r with ⟨_, b, e4, s⟩ | r
    · cases e4; exact s
    · cases r
  have only : ∀ {i : Nat} {p : PV}, (startP Ns.length ps)[i]? = some (some p) → isMut p = true → p = .st := fun {i p} e m => by
    obtain ⟨v, e3, r⟩ := at_ e
    rcases r with ⟨z, _⟩ | r
    · exact z
    · rw [r.notMut] at m; cases m
  have hSA : ∀ a, SA ⟨N, S, H⟩ (startP Ns.length ps) (L2.start Ns vs) a → S a := fun a z => by
    rcases z with z | ⟨i, e1, e2⟩
    · exact z
    · exact stS e1 e2
  have hMA : ∀ a, MA ⟨N, S, H⟩ (startP Ns.length ps) (L2.start Ns vs) a → NS N S a := fun a z => by
    rcases z with z | z | ⟨i, p, e1, m, e2⟩
    · exact .inl z
    · exact .inr z
    · have := only e1 m
      subst this
      exact .inr (stS e1 e2)
  refine ⟨?_, fun _ _ _ e => e, hN, fun a z => hS a (hSA a z), fun a z => .inl (hSA a z), fun i p e => ?_, fun i j p q a e1 e2 m1 m2 _ _ => ?_⟩
  · unfold startP L2.start
    rw [List.length_append, List.length_append, List.length_map, List.length_map, List.length_replicate, List.length_replicate, hl]
  · obtain ⟨v, e2, r⟩ := at_ e
    refine ⟨v, e2, ?_⟩
    rcases r with ⟨rfl, a, rfl, s⟩ | r
    · exact .st (.inl s)
    · exact .plain (r.mono (hide_anti hMA))
  · have h2 := only e1 m1
    have h3 := only e2 m2
    subst h2; subst h3
    exact h1 i j (startP_get e1) (startP_get e2)
end
/-- what a def's reading is to give -/
def fnEnds (Q : PQ) (R : XQ) : PEnds := ⟨fun _ => Q .non, Q, fun _ => False, fun _ => False, fun x _ => R x⟩
theorem fn_rule {P : Program} {w : World} {K : PySem.W.Frag} {mg : Str → Option Value} {base : Heap} {x qual : Str} {st : Stmt} {f : Addr} {fd : FuncData} {Ns ps : List Str} {k n : Nat} {wf : WSt} {fs : FS} (F : Fun K x qual st f fd) (S : FnScope Ns ps (defScope st)) (hn : ps.length = n)
    (hb : ∀ (cdv : Value) (A : Around) (outer : List Env) (s : Shared) (H : Hp) (E : XK), Room k (A.deeper (PyProof.Rows.envOfC qual (defScope st) s.heap.objs.size f cdv)) → VSs (cxOf (L2.CX P w) P w K mg base Ns qual (defScope st) f cdv A outer s H E) (fun cls d _ H => E cls d H) (defBody st) wf)
    (hp : ∀ qs Q R, qs.length = n → fs qs Q R → wf (fnEnds Q R) (startP Ns.length qs)) : FnOk P w K mg base (L2.CX P w) (k + 1) f fd ps (spL K n fs) := by
  refine F.okX S (fun vs H Q E h => by rw [hn]; exact h.1) fun cdv A outer s H vs Q E hr h => ?_
  obtain ⟨hl, N, Sx, qs, Qp, Rp, hN, hS, ha, h1, hf, kq, kx⟩ := h
  refine ⟨_, (hb cdv A outer s H E hr).pss, ⟨N, Sx, H⟩, startP Ns.length qs, fnEnds Qp Rp, Good.start hN hS ha h1, hp qs Qp Rp (by rw [ha.length]; exact hl) hf, ⟨fun ρ σ H' g h => ?_, fun _ _ _ _ z => z.elim, fun _ _ _ _ z => z.elim, fun p v H' r h => kq p v H' r h, fun y cls d ρ σ H' g r h => ?_⟩⟩
  · exact kq .non .non H' ⟨g.fr, fun b z => g.sa b (.inl z), .plain .non⟩ h
  · refine kx y cls d H' ⟨g.fr, fun b z => g.sa b (.inl z), r.1, fun f p e => ?_⟩ h
    obtain ⟨dd, fs, v, e1, e2, e3, rp⟩ := r.2 f p e
    exact ⟨dd, fs, v, e1, e2, e3, rp.mono (hide_anti fun b z => z.elim .inl fun y => .inr (.inl y))⟩
end L3

/-! Values without the heap: products, ranges as lists, the drawn state, the law's end. -/
namespace L3
open PySem PySem.Spec L2

/-! ### * -/
def oMulI : PV → PV → PQ → XQ → Prop := fun x y Q _ => match x, y with
  | .int i, .int j => mulOk i j ∧ Q (.int (i * j))
  | x, .int k => ∃ ps, x.items = some ps ∧ -(2 ^ 63) ≤ k ∧ k < 2 ^ 63 ∧ ps.length * k.toNat ≤ sizeLine ∧ Q (.new (.lst (List.replicate k.toNat ps).flatten))
  | _, _ => False
theorem Reps.rep {K : PySem.W.Frag} {H : Hp} {ps : List PV} {vs : List V} (r : Reps K H ps vs) : ∀ n : Nat, Reps K H (List.replicate n ps).flatten (List.replicate n vs).flatten
  | 0 => .nil
  | n + 1 => by
    rw [List.replicate_succ, List.replicate_succ, List.flatten_cons, List.flatten_cons]
    exact r.append (Reps.rep r n)
section
variable {X : Cx} {W : WX} {pos p : Pos} {a b : Expr} {wa wb : WEx}
theorem ov_mulI : OpV X W (fun x y H Q => rI CMulX (fun i j => .int (i * j)) x y H Q ∨ rRep x y H Q) oMulI := by
  intro G ρ σ Hb H Qp Rp Q x y v u g gr rx ry h kq kx
  unfold oMulI at h
  split at h
  · obtain ⟨⟨m, n, h1, h2, h3⟩, h⟩ := h
    cases rx.int; cases ry.int
    exact .inl ⟨_, _, rfl, rfl, mulx_ok h1 h2 h3, kq.int g h⟩
  · obtain ⟨ps, e, h1, h2, h3, h⟩ := h
    cases ry.int
    obtain ⟨l, xs, rfl, t, q⟩ := rx.items e
    exact .inr ⟨l, _, xs, rfl, rfl, t, h1, h2, by rw [← q.length]; exact h3, fun p hp => kq.list g gr (q.rep _) h hp⟩
  · exact h.elim
theorem ve_mul (ha : VE X W a wa) (hb : VE X W b wb) : VE X W (.BinOp a .Mult b pos) (wOp oMulI wa wb) := ve_op (op_mulX.or op_rep) ov_mulI ha hb

/-! ### list(range(..)) -/
def rgLOk (a b : Int) : Prop := rgOk a ∧ rgOk b ∧ (b - a).toNat ≤ 2 ^ 24
def wLRg1 (a : WEx) : WEx := fun ρ Q R => a ρ (fun x => match x with | .int j => rgLOk 0 j ∧ Q (.new (.lst (rgP 0 j.toNat))) | _ => False) R
def wLRg2 (a b : WEx) : WEx := fun ρ Q R => a ρ (fun x => b ρ (fun y => match x, y with | .int i, .int j => rgLOk i j ∧ Q (.new (.lst (rgP i (j - i).toNat))) | _, _ => False) R) R
theorem reps_rg {K : PySem.W.Frag} {H : Hp} (i j : Int) : Reps K H (rgP i (j - i).toNat) (rgV i j) := by
  have e : rgP i (j - i).toNat = ((List.range (j - i).toNat).map fun (k : Nat) => (i + (k : Int))).map PV.int := by
    unfold rgP
    rw [List.map_map]
    rfl
  have e2 : rgV i j = ((List.range (j - i).toNat).map fun (k : Nat) => (i + (k : Int))).map V.int := by
    unfold rgV
    first
      | rfl
      | (rw [List.map_map] <;> rfl)
  rw [e, e2]
  exact Reps.of_ints _
theorem ve_lrg1 {p2 pos2 : Pos} (hc : X.calm = true) (hg0 : Gl X "list") (hm0 : X.mg "list" = none) (hg : Gl X "range") (hm : X.mg "range" = none) (ha : VE X W a wa) (na : starEach [a] X.env = (false, eval a X.env) :: starEach [] X.env := by rfl)
    (nb : starEach [.Call (.Name "range" p2) [a] [] pos2] X.env = (false, eval (.Call (.Name "range" p2) [a] [] pos2) X.env) :: starEach [] X.env := by rfl) : VE X W (.Call (.Name "list" p) [.Call (.Name "range" p2) [a] [] pos2] [] pos) (wLRg1 wa) :=
  ⟨PE.imp (pe_listRg hc hg0 hm0 (prg_1 hg hm ha.pe na) nb) fun σ H Q ⟨G, ρ, Qp, Rp, g, hw, kq, kx⟩ => ⟨G, ρ, _, Rp, g, hw, fun p v H1 s1 g1 r1 h1 => by
    dsimp only at h1
    split at h1
    · obtain ⟨⟨⟨a1, a2⟩, ⟨a3, a4⟩, a5⟩, h⟩ := h1
      cases r1.int
      refine ⟨_, rfl, ⟨a1, a2, a3, a4, a5⟩, fun q hq => (kq.step s1).list g1 (s1.gr g1) ?_ h hq⟩
      have := reps_rg (K := X.K) (H := hide (MA G ρ σ) H1) 0 (by assumption)
      rw [Int.sub_zero] at this
      exact this
    · exact h1.elim, kx⟩⟩
theorem ve_lrg2 {p2 pos2 : Pos} (hc : X.calm = true) (hg0 : Gl X "list") (hm0 : X.mg "list" = none) (hg : Gl X "range") (hm : X.mg "range" = none) (ha : VE X W a wa) (hb : VE X W b wb) (na : starEach [a, b] X.env = (false, eval a X.env) :: starEach [b] X.env := by rfl)
    (nb : starEach [b] X.env = (false, eval b X.env) :: starEach [] X.env := by rfl) (hp : (backTo pos2 (starEach [b] X.env)).any (·.1) = false := by rfl)
    (nc : starEach [.Call (.Name "range" p2) [a, b] [] pos2] X.env = (false, eval (.Call (.Name "range" p2) [a, b] [] pos2) X.env) :: starEach [] X.env := by rfl) : VE X W (.Call (.Name "list" p) [.Call (.Name "range" p2) [a, b] [] pos2] [] pos) (wLRg2 wa wb) :=
  ⟨PE.imp (pe_listRg hc hg0 hm0 (prg_2 hg hm ha.pe hb.pe na nb hp) nc) fun σ H Q ⟨G, ρ, Qp, Rp, g, hw, kq, kx⟩ => ⟨G, ρ, _, Rp, g, hw, fun p v H1 s1 g1 r1 h1 => ⟨G, ρ, _, Rp, g1, h1, fun q u H2 s2 g2 r2 h2 => by
    dsimp only at h2
    split at h2
    · obtain ⟨⟨⟨a1, a2⟩, ⟨a3, a4⟩, a5⟩, h⟩ := h2
      cases r1.int
      cases r2.int
      exact ⟨_, _, rfl, rfl, ⟨a1, a2, a3, a4, a5⟩, fun q hq => (kq.step (s1.trans s2)).list g2 ((s1.trans s2).gr g2) (reps_rg _ _) h hq⟩
    · exact h2.elim, kx.step s1⟩, kx⟩⟩
end

/-! ### the drawn state -/
def wSt0 (i : Nat) : WEx := fun ρ Q _ => ρ[i]? = some (some .st) ∧ ∀ x : Int, 0 ≤ x → Q (.int x)
def wSt1 (i : Nat) : WEx := fun ρ Q _ => ρ[i]? = some (some .st) ∧ ∀ x : Int, 0 ≤ x → x < 2147483647 → Q (.int x)
def wSt0S (i : Nat) (a : WEx) : WSt := fun D ρ => ρ[i]? = some (some .st) ∧ a ρ (fun p => ∃ x : Int, p = .int x ∧ 0 ≤ x ∧ D.nx ρ) fun x => D.ex x ρ
def wSt1S (i : Nat) (a : WEx) : WSt := fun D ρ => ρ[i]? = some (some .st) ∧ a ρ (fun p => ∃ x : Int, p = .int x ∧ 0 ≤ x ∧ x < 2147483647 ∧ D.nx ρ) fun x => D.ex x ρ
theorem Good.st_at {K : PySem.W.Frag} {G : Gd} {ρ : PEnv} {σ : St} {H : Hp} (g : Good K G ρ σ H) {i : Nat} (h : ρ[i]? = some (some .st)) : ∃ a, σ[i]? = some (some (.ref a)) ∧ SA G ρ σ a ∧ StOk H a := by
  obtain ⟨v, e, r⟩ := g.slot i _ h
  cases r with
  | plain r => cases r
  | st z => exact ⟨_, e, z, g.sa _ z⟩
theorem Good.stPut {K : PySem.W.Frag} {G : Gd} {ρ : PEnv} {σ : St} {H : Hp} (g : Good K G ρ σ H) {a : Addr} (h : SA G ρ σ a) {x y : Int} (h0 : 0 ≤ x) (h1 : 0 ≤ y) (h2 : y < 2147483647) : Good K G ρ σ (upd H a (.lst [.int x, .int y])) := by
  refine g.step (fun b o n e => by rw [upd_ne (fun z => n (by rw [z]; exact h))]; exact e) fun b z => ?_
  by_cases hb : b = a
  · subst hb
    exact ⟨x, y, upd_same, h0, h1, h2⟩
  · obtain ⟨x', y', e, r⟩ := g.sa b z
    exact ⟨x', y', by rw [upd_ne hb]; exact e, r⟩
section
variable {X : Cx} {W : WX} {pos p p1 p2 : Pos} {e : Expr} {i j : Nat} {x : Str} {wa : WEx}
theorem ve_st0 (hN : X.N[i]? = some x) (hv : Vis X.env.scope x) (hs : PlainIx (.Constant (.int 0) j p2)) (hd : (x == ("__debug__" : Str)) = false := by decide) (hcd : (x == ("__classdict__" : Str)) = false := by decide) : VE X W (.Subscript (.Name x p1) (.Constant (.int 0) j p2) pos) (wSt0 i) :=
  ⟨PE.imp (pe_ix ix_list (pe_var hN hv hd hcd) pe_int hs) fun σ H Q ⟨G, ρ, Qp, Rp, g, ⟨h1, h2⟩, kq, kx⟩ => by
    obtain ⟨a, e1, _, y, z, e2, h0, _⟩ := g.st_at h1
    exact ⟨_, e1, a, _, 0, .int y, rfl, rfl, .of e2, rfl, kq.int g (h2 y h0)⟩⟩
theorem ve_st1 (hN : X.N[i]? = some x) (hv : Vis X.env.scope x) (hs : PlainIx (.Constant (.int 1) j p2)) (hd : (x == ("__debug__" : Str)) = false := by decide) (hcd : (x == ("__classdict__" : Str)) = false := by decide) : VE X W (.Subscript (.Name x p1) (.Constant (.int 1) j p2) pos) (wSt1 i) :=
  ⟨PE.imp (pe_ix ix_list (pe_var hN hv hd hcd) pe_int hs) fun σ H Q ⟨G, ρ, Qp, Rp, g, ⟨h1, h2⟩, kq, kx⟩ => by
    obtain ⟨a, e1, _, y, z, e2, h0, h3, h4⟩ := g.st_at h1
    exact ⟨_, e1, a, _, 1, .int z, rfl, rfl, .of e2, rfl, kq.int g (h2 z h3 h4)⟩⟩
theorem vs_st0 (hN : X.N[i]? = some x) (hv : Vis X.env.scope x) (ha : VE X W e wa) (hd : (x == ("__debug__" : Str)) = false := by decide) (hcd : (x == ("__classdict__" : Str)) = false := by decide)
    (hst : ∀ v, assign (.Subscript (.Name x p1) (.Constant (.int 0) j p2) p) X.env v = (do
      let ov ← holding [v] (eval (.Name x p1) X.env)
      let iv ← holding [v, ov] (eval (.Constant (.int 0) j p2) X.env)
      standAt p
      holding [v, ov, iv] (setItem ov iv v)
      release [v, ov, iv] []) := by intro _; rfl)
    (hs : swapsWithSole [.Subscript (.Name x p1) (.Constant (.int 0) j p2) p] e pos.line X.env = pure false := by rfl) (hw : swappedStores [.Subscript (.Name x p1) (.Constant (.int 0) j p2) p] e X.env = pure none := by rfl)
    (h1 : (assignEach [.Subscript (.Name x p1) (.Constant (.int 0) j p2) p] X.env).map (·.2) = [assign (.Subscript (.Name x p1) (.Constant (.int 0) j p2) p) X.env] := by rfl) : VS X W (.Assign [.Subscript (.Name x p1) (.Constant (.int 0) j p2) p] e pos) (wSt0S i wa) :=
  ⟨PS.imp (ps_asg ha.pe (pg_sub (pe_var hN hv hd hcd) pe_int set_list hst) hs hw h1) fun D σ H ⟨G, ρ, Dp, g, ⟨h1, hw⟩, de⟩ => ⟨G, ρ, _, _, g, hw, fun q v H1 s1 g1 r1 ⟨y, ey, h0, hn⟩ => by
    subst ey
    cases r1.int
    obtain ⟨a, e1, hsa, y', z, e2, _, h3, h4⟩ := g1.st_at h1
    exact ⟨_, e1, a, _, 0, 0, rfl, rfl, e2, rfl, de.nx _ _ _ (g1.stPut hsa h0 h3 h4) hn⟩, de.kx⟩⟩
theorem vs_st1 (hN : X.N[i]? = some x) (hv : Vis X.env.scope x) (ha : VE X W e wa) (hd : (x == ("__debug__" : Str)) = false := by decide) (hcd : (x == ("__classdict__" : Str)) = false := by decide)
    (hst : ∀ v, assign (.Subscript (.Name x p1) (.Constant (.int 1) j p2) p) X.env v = (do
      let ov ← holding [v] (eval (.Name x p1) X.env)
      let iv ← holding [v, ov] (eval (.Constant (.int 1) j p2) X.env)
      standAt p
      holding [v, ov, iv] (setItem ov iv v)
      release [v, ov, iv] []) := by intro _; rfl)
    (hs : swapsWithSole [.Subscript (.Name x p1) (.Constant (.int 1) j p2) p] e pos.line X.env = pure false := by rfl) (hw : swappedStores [.Subscript (.Name x p1) (.Constant (.int 1) j p2) p] e X.env = pure none := by rfl)
    (h1 : (assignEach [.Subscript (.Name x p1) (.Constant (.int 1) j p2) p] X.env).map (·.2) = [assign (.Subscript (.Name x p1) (.Constant (.int 1) j p2) p) X.env] := by rfl) : VS X W (.Assign [.Subscript (.Name x p1) (.Constant (.int 1) j p2) p] e pos) (wSt1S i wa) :=
  ⟨PS.imp (ps_asg ha.pe (pg_sub (pe_var hN hv hd hcd) pe_int set_list hst) hs hw h1) fun D σ H ⟨G, ρ, Dp, g, ⟨h1, hw⟩, de⟩ => ⟨G, ρ, _, _, g, hw, fun q v H1 s1 g1 r1 ⟨y, ey, h0, hl, hn⟩ => by
    subst ey
    cases r1.int
    obtain ⟨a, e1, hsa, y', z, e2, h3, _⟩ := g1.st_at h1
    exact ⟨_, e1, a, _, 1, 1, rfl, rfl, e2, rfl, de.nx _ _ _ (g1.stPut hsa h3 h0 hl) hn⟩, de.kx⟩⟩
end

/-! ### constants of the module; defs as values -/
section
variable {X : Cx} {W : WX} {pos : Pos} {x : Str}
theorem ve_glob {p : PV} {v : V} (hg : Gl X x) (hm : ∃ u, X.mg x = some u ∧ RelV v u) (r : ∀ H, Rep X.K H p v) (hd : (x == ("__debug__" : Str)) = false := by decide) : VE X W (.Name x pos) (wC p) := by
  obtain ⟨u, h1, h2⟩ := hm
  exact ve_of_c (pe_glob hg h1 h2 hd) r
theorem ve_gint {i : Int} (hg : Gl X x) (hm : ∃ t, X.mg x = some (.int i t)) (hd : (x == ("__debug__" : Str)) = false := by decide) : VE X W (.Name x pos) (wC (.int i)) := by
  obtain ⟨t, h⟩ := hm
  exact ve_glob (v := .int i) hg ⟨_, h, ⟨t, rfl⟩⟩ (fun _ => .int i) hd
theorem ve_gdef {a : Addr} (hg : Gl X x) (hm : X.mg x = some (.ref a)) (hd : (x == ("__debug__" : Str)) = false := by decide) : VE X W (.Name x pos) (wC (.adr a)) := ve_glob (v := .ref a) hg ⟨_, hm, rfl⟩ (fun _ => .adr a) hd
end

/-! ### the law's end -/
/-- a script: n numbers at most, of 2^20 bits at most -/
def Scr (n : Nat) (ns : List Int) : Prop := ns.length ≤ n ∧ ∀ z ∈ ns, z.natAbs < 2 ^ 1048576
def fsLaw (n : Nat) : FS := fun ps Q _ => ∃ ns : List Int, ps = [.scr (ns.map PV.int)] ∧ Scr n ns ∧ Q (.bl true)
theorem law_sp {K : PySem.W.Frag} {n : Nat} {H : Hp} {a : Addr} {ns : List Int} (hl : Scr n ns) (h : SqL K H a (ns.map V.int)) : spL K 1 (fsLaw n) [.ref a] H (fun v _ => v = .bl true) fun _ _ _ => False := by
  have s : Same H (hide (NS (fun _ => False) (fun _ => False)) H) := fun b o e => hide_some.mpr ⟨fun z => z.elim id id, e⟩
  refine ⟨rfl, fun _ => False, fun _ => False, [.scr (ns.map PV.int)], fun p => p = .bl true, fun _ => False, fun _ z => z.elim, fun _ z => z.elim, .cons (.scr (s.seq h) (Reps.of_ints ns)) .nil, fun i j e1 e2 => ?_, ⟨ns, rfl, hl, rfl⟩, fun p v H' r e => ?_, fun _ _ _ _ _ z => z⟩
  · cases i with
    | zero => cases e1
    | succ i => cases e1
  · subst e
    cases r.rep with
    | plain r => cases r; rfl
theorem law_cx {P : Program} {w : World} {H : Hp} {s : Shared} {e : Value} {s' : Shared} (h : L2.CX P w [] H s (fun _ _ _ => False) e s') : False := by
  obtain ⟨_, _, _, _, _, _, _, _, _, _, _, _, z⟩ := h
  exact z
end L3

/-! Values without the heap: short words for what is printed. -/
namespace L3
open PySem PySem.Spec L2

/-- the kinds against the built-in types -/
theorem kit_kinds (K : PySem.W.Frag) (own : List Addr) (Ts : String) (h : kinds.all (fun n => kitB n Ts == (if n = Ts then some true else some (n == "bool" && Ts == "int"))) = true) : ∀ n b, n ∈ kinds → ansTy own Ts (.inl n) = some b → PySem.W.kitOne K (.type n) (.type Ts) = some b := fun n b hn hb => by
  have q := List.all_eq_true.mp h n hn
  refine kit_ty ?_
  rw [beq_iff_eq.mp q]
  exact hb
/-- an own class whose instances are met: what isinstance tells of them -/
structure OwnC (K : PySem.W.Frag) (C : Addr) : Prop where
  obj : ObjC K C
  int : PySem.W.kitOne K (.ref C) (.type "int") = some false
  bool : PySem.W.kitOne K (.ref C) (.type "bool") = some false
  tuple : PySem.W.kitOne K (.ref C) (.type "tuple") = some false
  list : PySem.W.kitOne K (.ref C) (.type "list") = some false
  str : PySem.W.kitOne K (.ref C) (.type "str") = some false
section
variable {X : Cx} {W : WX} {pos p : Pos} {e : Expr} {wa : WEx}
theorem ve_isT (own : List Addr) {T : Str} {Ts : String} {pt : Pos} (hm : X.mg "isinstance" = none) (hmT : X.mg T = none) (ha : VE X W e wa) (hvT : bootBuiltins T = some (.type Ts)) (hC : ∀ C ∈ own, ObjC X.K C ∧ PySem.W.kitOne X.K (.ref C) (.type Ts) = some false)
    (hk : kinds.all (fun n => kitB n Ts == (if n = Ts then some true else some (n == "bool" && Ts == "int"))) = true) (hg : Gl X "isinstance" := by rfl) (hgT : Gl X T := by rfl)
    (hn : T ≠ "__name__" := by decide) (hdb : (T == ("__debug__" : Str)) = false := by decide)
    (hs : starEach [e, .Name T pt] X.env = (false, eval e X.env) :: starEach [.Name T pt] X.env := by rfl) (hs2 : starEach [.Name T pt] X.env = (false, eval (.Name T pt) X.env) :: starEach [] X.env := by rfl) (hpl : (backTo pos (starEach [.Name T pt] X.env)).any (·.1) = false := by rfl) : VE X W (.Call (.Name "isinstance" p) [e, .Name T pt] [] pos) (wIsi (ansTy own Ts) wa) := by
  refine ve_isi (vc := .ty Ts) (u := .type Ts) hg hm ha (pe_bltn hgT hmT hvT rfl hn hdb) (.ty Ts) (fun C b h => ?_) (fun n b hn h => kit_kinds X.K own Ts hk n b hn h) hs hs2 hpl
  unfold ansTy at h
  dsimp only at h
  split at h
  · rename_i hm
    cases h
    exact hC C hm
  · cases h
end
end L3

/-! Values without the heap: what the top has written, as facts looked at by the head. -/
namespace L3
open PySem PySem.Spec L2
abbrev FaL := PySem.W.Frag → Bool
abbrev veBm : List Value := [.type "ValueError", .type "Exception", .type "BaseException", .type "object"]
theorem ba {a b : Bool} (h : (a && b) = true) : a = true ∧ b = true := Bool.and_eq_true_iff.mp h
def gB (x : Str) : FaL := fun K => He.eqO (PySem.W.nsIn K mainGlobals x) (some (some (.ref (He.ga K x))))
def frB (x : Str) : FaL := fun K => He.eqO (PySem.W.nsIn K mainGlobals x) (some none)
def intB (x : Str) (i : Int) : FaL := (He.Fa.int x i).ok
/-- an own error without __init__ -/
def excB (x : Str) : FaL := fun K => PySem.W.excIn K (He.ga K x) veBm "ValueError.__new__" && (PySem.W.keepIn K (.ref (He.ga K x)) && (decide (PySem.W.subIn K (.ref (He.ga K x)) (.type "BaseException") = some true) && decide (PySem.W.typeIn K (.ref (He.ga K x)) = some (.type "type"))))
def exmB (x y : Str) (b : Bool) : FaL := fun K => decide (PySem.W.exmOne K (.ref (He.ga K x)) (.ref (He.ga K y)) = some b)
def isiB (x : Str) (t : String) (b : Bool) : FaL := fun K => decide (PySem.W.kitOne K (.ref (He.ga K x)) (.type t) = some b)
/-- an own error with one field f -/
def oexB1 (x : Str) : FaL := fun K => match K.lookup (He.ga K x) with
  | some ⟨.type "type", _, .cls cd, sl⟩ => (match cd.mro, sl.toList with
    | .ref C' :: bm, [_, _, _, _, some (.builtin n), _] => C' == He.ga K x && n == "ValueError.__new__" && !cd.hasDel && cd.hasDict && PySem.HandSPX.refsVE bm
    | _, _ => false)
  | _ => false
def oexB (x f : Str) : FaL := fun K => oexB1 x K && (
  (He.eqO (PySem.W.findIn K (.ref (He.ga K x)) "__setattr__") (some (some (.builtin "object.__setattr__"))) && (decide (PySem.W.subIn K (.ref (He.ga K x)) (.type "BaseException") = some true) &&
  (decide (PySem.W.typeIn K (.ref (He.ga K x)) = some (.type "type")) && PySem.W.keepIn K (.ref (He.ga K x))))) &&
  (He.eqO (PySem.W.findIn K (.ref (He.ga K x)) "__init__") (some (some (.ref (He.ma K (He.ga K x) "__init__")))) && (decide (PySem.W.typeIn K (.ref (He.ma K (He.ga K x) "__init__")) = some (.type "function")) &&
  (He.eqO (PySem.W.findIn K (.ref (He.ga K x)) f) (some none) && xfB K (He.ga K x)))))
/-- an own error named for its __init__ -/
def fauB (x : Str) : FaL := fun K => decide (PySem.W.specialIn K (.ref (He.ga K x)) "__getattribute__" = some (some (.builtin "type.__getattribute__"))) && (PySem.W.readsIn K (He.ga K x) (.type "type") &&
  (match PySem.W.findCls K (.ref (He.ga K x)) (.type "type") "__init__" with
    | some (.val (.builtin n)) => n == "ValueError.__init__"
    | _ => false))
section
variable {K : PySem.W.Frag} {x y f : Str}
theorem excB_ok (c : excB x K = true) : PySem.W.excIn K (He.ga K x) veBm "ValueError.__new__" = true ∧ PySem.W.keepIn K (.ref (He.ga K x)) = true ∧ PySem.W.subIn K (.ref (He.ga K x)) (.type "BaseException") = some true ∧ PySem.W.typeIn K (.ref (He.ga K x)) = some (.type "type") := by
  obtain ⟨c1, c⟩ := ba c
  obtain ⟨c2, c⟩ := ba c
  obtain ⟨c3, c4⟩ := ba c
  exact ⟨c1, c2, of_decide_eq_true c3, of_decide_eq_true c4⟩
theorem oexB1_ok (q : oexB1 x K = true) : ∃ nm q N bs bm sn sub ab col dd k0 k1 k2 k3 k5, K.lookup (He.ga K x) = some (excClassObj nm q (He.ga K x) N bs bm true sn sub ab col dd k0 k1 k2 k3 k5 "ValueError.__new__") ∧ PySem.HandSPX.refsVE bm = true := by
  unfold oexB1 at q
  split at q
  · rename_i dd cd sl ho
    split at q
    · rename_i C' bm k0 k1 k2 k3 n k5 hm hs
      simp only [Bool.and_eq_true, beq_iff_eq, Bool.not_eq_true'] at q
      obtain ⟨⟨⟨⟨e1, rfl⟩, hdel⟩, hdc⟩, hok⟩ := q
      obtain ⟨nm, bs, mro, ns, qn, hd, sn, sub, ab, col, del⟩ := cd
      dsimp only at hm hdel hok hdc
      subst hm hdel hdc
      rw [e1] at ho
      have hsl : sl = #[k0, k1, k2, k3, some (.builtin "ValueError.__new__"), k5] := by
        obtain ⟨l⟩ := sl
        simp only at hs
        rw [hs]
      subst hsl
      exact ⟨nm, qn, ns, bs, bm, sn, sub, ab, col, dd, k0, k1, k2, k3, k5, ho, hok⟩
    · cases q
  · cases q
structure OexF (K : PySem.W.Frag) (C fI : Addr) (f : Str) : Prop where
  x : OexC K C
  i : PySem.W.findIn K (.ref C) "__init__" = some (some (.ref fI))
  t : PySem.W.typeIn K (.ref fI) = some (.type "function")
  n : PySem.W.findIn K (.ref C) f = some none
  y : XfC K C
theorem oexB_ok (c : oexB x f K = true) : OexF K (He.ga K x) (He.ma K (He.ga K x) "__init__") f := by
  obtain ⟨c1, c⟩ := ba c
  obtain ⟨c2, c⟩ := ba c
  obtain ⟨s1, c2⟩ := ba c2
  obtain ⟨s2, c2⟩ := ba c2
  obtain ⟨s3, s4⟩ := ba c2
  obtain ⟨i1, c⟩ := ba c
  obtain ⟨i2, c⟩ := ba c
  obtain ⟨i3, i4⟩ := ba c
  exact ⟨⟨oexB1_ok c1, He.eqO_ok s1, of_decide_eq_true s2, of_decide_eq_true s3, s4⟩, He.eqO_ok i1, of_decide_eq_true i2, He.eqO_ok i3, xfB_ok i4⟩
theorem fauB_ok (c : fauB x K = true) : PySem.W.specialIn K (.ref (He.ga K x)) "__getattribute__" = some (some (.builtin "type.__getattribute__")) ∧ PySem.W.readsIn K (He.ga K x) (.type "type") = true ∧ PySem.W.findCls K (.ref (He.ga K x)) (.type "type") "__init__" = some (.val (.builtin "ValueError.__init__")) := by
  obtain ⟨c1, c⟩ := ba c
  obtain ⟨c2, c3⟩ := ba c
  refine ⟨of_decide_eq_true c1, c2, ?_⟩
  split at c3
  · rename_i n e
    rw [e, beq_iff_eq.mp c3]
  · cases c3
theorem exmB_ok {b : Bool} (c : exmB x y b K = true) : PySem.W.exmOne K (.ref (He.ga K x)) (.ref (He.ga K y)) = some b := of_decide_eq_true c
theorem isiB_ok {t : String} {b : Bool} (c : isiB x t b K = true) : PySem.W.kitOne K (.ref (He.ga K x)) (.type t) = some b := of_decide_eq_true c
end

/-! ### the hook -/
def fdOf (K : PySem.W.Frag) (p : Str × Option Str) : FuncData := match K.lookup (He.fAd K p) with
  | some ⟨_, _, .func fd, _⟩ => fd
  | _ => PySem.W.fnOf Str.empty Str.empty ⟨[], [], none, [], [], none, []⟩ [] ⟨.function, [], false, false, []⟩ .none .none .none .none none .none .none
def dfL (p : Str × Option Str) (x q : Str) (st : Stmt) : He.DefD := ⟨p, x, q, defArgs st, defBody st, defScope st, [], []⟩
def obsL (fa : List FaL) (fn : List He.DefD) (K : PySem.W.Frag) : He.AlD := ((fa.all fun f => f K) && fn.all fun d => d.ok K, fn.map fun d => He.fnW K d.at_)
def SaysL (fa : List FaL) (fn : List He.DefD) (K : PySem.W.Frag) : Prop := obsL fa fn K = He.valD fn
def asL (g : Addr → Option Obj) : Nat → List Addr
  | 0 => [mainGlobals, cStatics]
  | n + 1 => He.growD g (asL g n)
def obsLG (n : Nat) (fa : List FaL) (fn : List He.DefD) (g : Addr → Option Obj) : He.AlD := obsL fa fn (He.frG g (asL g n))
def hookL (n : Nat) (fa : List FaL) (fn : List He.DefD) : PySem.W.Hook where
  α := He.AlD
  obs := fun s => obsLG n fa fn s.heap.get?
  val := fun _ => He.valD fn
  says := fun _ h => ∃ K : PySem.W.Frag, K.In h ∧ SaysL fa fn K
  of := fun _ _ e => ⟨_, He.frG_in, e⟩
  keeps := fun _ _ _ ⟨K, hK, c⟩ k => ⟨K, PySem.W.Frag.In.keeps hK k, c⟩
theorem obsLG_eq {n : Nat} {fa : List FaL} {fn : List He.DefD} {g : Addr → Option Obj} {s : Shared} (h : ∀ a, g a = s.heap.get? a) : obsLG n fa fn g = (hookL n fa fn).obs s := by
  have e : g = s.heap.get? := funext h
  rw [e] <;> rfl
section
variable {fa : List FaL} {fn : List He.DefD} {K : PySem.W.Frag}
theorem SaysL.fact (c : SaysL fa fn K) (i : Nat) {f : FaL} (h : fa[i]? = some f := by rfl) : f K = true := by
  have c1 := (ba (show ((fa.all fun f => f K) && fn.all fun d => d.ok K) = true from congrArg (fun z : He.AlD => z.1) c)).1
  exact List.all_eq_true.mp c1 f (List.mem_of_getElem? h)
theorem SaysL.def_ (c : SaysL fa fn K) (i : Nat) {p : Str × Option Str} {x q : Str} {st : Stmt} (h : fn[i]? = some (dfL p x q st) := by rfl) : Fun K x q st (He.fAd K p) (fdOf K p) := by
  have c2 := (ba (show ((fa.all fun f => f K) && fn.all fun d => d.ok K) = true from congrArg (fun z : He.AlD => z.1) c)).2
  have e : fn.map (fun d => He.fnW K d.at_) = fn.map He.DefD.val := congrArg (fun z : He.AlD => z.2) c
  have e2 : (fn.map fun d => He.fnW K d.at_)[i]? = (fn.map He.DefD.val)[i]? := by rw [e]
  rw [List.getElem?_map, List.getElem?_map, h] at e2
  obtain ⟨fd, F⟩ := He.DefD.funD (Option.some.inj e2) (List.all_eq_true.mp c2 _ (List.mem_of_getElem? h))
  obtain ⟨oc, od, dV, kV, doc, pm, an, cdv, ct, osl, e3, l, cd, dv, kw⟩ := F.ex
  have hd : dV = .none := by
    rcases dv with ⟨_, z⟩ | ⟨z, _⟩
    · exact z
    · exact absurd rfl z
  subst hd
  have e4 : fdOf K p = fd := by
    unfold fdOf
    have l2 : K.lookup (He.fAd K p) = some ⟨oc, od, .func fd, osl⟩ := l
    rw [l2]
  rw [e4]
  exact ⟨⟨oc, od, kV, doc, pm, an, cdv, ct, osl, e3, l, cd⟩, F.kp⟩
end
theorem fn_rule2 {P : Program} {w : World} {K : PySem.W.Frag} {mg : Str → Option Value} {base : Heap} {x qual : Str} {st : Stmt} {f : Addr} {fd : FuncData} {Ns ps : List Str} {k n : Nat} {wf : WSt} {fs : FS} (F : Fun K x qual st f fd) (S : FnScope Ns ps (defScope st)) (hn : ps.length = n)
    (hp : ∀ qs Q R, qs.length = n → fs qs Q R → wf (fnEnds Q R) (startP Ns.length qs))
    (hb : ∀ (cdv : Value) (A : Around) (outer : List Env) (s : Shared) (H : Hp) (E : XK), Room k (A.deeper (PyProof.Rows.envOfC qual (defScope st) s.heap.objs.size f cdv)) →
      Takes (cxOf (L2.CX P w) P w K mg base Ns qual (defScope st) f cdv A outer s H E) (fun cls d _ H => E cls d H) →
      PassesOwn (model P w) (cxOf (L2.CX P w) P w K mg base Ns qual (defScope st) f cdv A outer s H E).A (cxOf (L2.CX P w) P w K mg base Ns qual (defScope st) f cdv A outer s H E).env (cxOf (L2.CX P w) P w K mg base Ns qual (defScope st) f cdv A outer s H E).xe →
      Ns.Nodup → VSs (cxOf (L2.CX P w) P w K mg base Ns qual (defScope st) f cdv A outer s H E) (fun cls d _ H => E cls d H) (defBody st) wf) : FnOk P w K mg base (L2.CX P w) (k + 1) f fd ps (spL K n fs) :=
  fn_rule F S hn (fun cdv A outer s H E hr => hb cdv A outer s H E hr (takes_of rfl rfl rfl rfl) (passes_of rfl) S.nd) hp
theorem fnOk_none {P : Program} {w : World} {K : PySem.W.Frag} {mg : Str → Option Value} {base : Heap} {k n : Nat} {f : Addr} {fd : FuncData} {ps : List Str} (hn : ps.length = n) : FnOk P w K mg base (L2.CX P w) k f fd ps (spL K n fun _ _ _ => False) :=
  ⟨fun vs H Q E h => by rw [hn]; exact h.1, fun A outer s H args us vs Q E hr he hb hv h => by
    obtain ⟨_, N, S, qs, Qp, Rp, _, _, _, _, z, _⟩ := h
    exact z.elim⟩
theorem int_of {K : PySem.W.Frag} {mg : Str → Option Value} {x : Str} {i : Int} (g : ∀ x u, PySem.W.nsIn K mainGlobals x = some (some u) → mg x = some u) (c : intB x i K = true) : ∃ t, mg x = some (.int i t) := by
  have c2 : (match PySem.W.nsIn K mainGlobals x with
    | some (some (.int j _)) => decide (j = i)
    | _ => false) = true := c
  split at c2
  · rename_i j t e
    have ej : j = i := of_decide_eq_true c2
    rw [ej] at e
    exact ⟨t, g _ _ e⟩
  · cases c2
theorem law_binds {K : PySem.W.Frag} {x qual : Str} {st : Stmt} {f : Addr} {fd : FuncData} {p : Str} (F : Fun K x qual st f fd)
    (h : ∀ (kV doc pm : Value) (an : Option Addr) (cdv ct : Value) (u : Value), bindArgs (PySem.W.fnOf x qual (defArgs st) (defBody st) (defScope st) .none kV doc pm an cdv ct) ⟨[u], []⟩ = pure [(p, u)]) (s : Shared) (u : Value) : BindsTo s fd ⟨[u], []⟩ [(p, u)] := by
  obtain ⟨oc, od, kV, doc, pm, an, cdv, ct, osl, rfl, lk, hcd⟩ := F.ex
  exact .of_eq (h kV doc pm an cdv ct u)
theorem init_rule {P : Program} {w : World} {K : PySem.W.Frag} {mg : Str → Option Value} {base : Heap} {x qual f : Str} {st : Stmt} {a : Addr} {fd : FuncData} {Ns ps : List Str} {C : Addr} (F : Fun K x qual st a fd) (S : FnScope Ns ps (defScope st)) (hn : ps.length = 2)
    (hb : ∀ (cdv : Value) (A : Around) (outer : List Env) (s : Shared) (H : Hp) (E : XK), Room 0 (A.deeper (PyProof.Rows.envOfC qual (defScope st) s.heap.objs.size a cdv)) →
      PSs (cxOf (L2.CX P w) P w K mg base Ns qual (defScope st) a cdv A outer s H E) (defBody st) (tSeq (tDrop (tVeI K (tCons (tVar 0) (tCons (tVar 1) tNil)))) (tOst K f (tVar 0) (tVar 1)))) : FnOk P w K mg base (L2.CX P w) 1 a fd ps (spErr K C f) := by
  refine F.okX S (fun vs H Q E h => ?_) fun cdv A outer s H vs Q E hr h => ⟨_, hb cdv A outer s H E hr, ?_⟩
  · obtain ⟨a, x, rfl, _⟩ := h
    rw [hn]; rfl
  · obtain ⟨a, v, rfl, ea, T, nf, hq⟩ := h
    have g0 : (L2.start Ns [.ref a, v])[0]? = some (some (.ref a)) := start_get rfl
    have g1 : (L2.start Ns [.ref a, v])[1]? = some (some v) := start_get rfl
    refine ⟨.ref a, g0, v, g1, a, C, [v], rfl, by show 1 ≤ 1000; decide, T, ea, ?_⟩
    refine ⟨v, g1, .ref a, g0, a, C, rfl, T, nf, .inl ⟨ea, fun d nd hda => ?_⟩⟩
    exact hq d nd hda
theorem scr_of {n : Nat} {ns : List Int} (hl : ns.length ≤ n) (hb : ∀ z ∈ ns, Builtin.Int.intBits z ≤ 1048576) : Scr n ns := ⟨hl, fun z hz => by
  have h := hb z hz
  unfold Builtin.Int.intBits at h
  split at h
  · rename_i e
    rw [beq_iff_eq.mp e]
    exact Nat.pow_pos (by decide)
  · rename_i e
    have e1 : z.natAbs ≠ 0 := fun q => e (beq_iff_eq.mpr (Int.natAbs_eq_zero.mp q))
    exact Nat.lt_of_lt_of_le (Nat.log2_lt (n := z.natAbs) (k := z.natAbs.log2 + 1) e1 |>.mp (Nat.lt_succ_self _)) (Nat.pow_le_pow_right (by decide) h)⟩
end L3

/-! Values without the heap: what the small defs of all laws promise; numbers. -/
namespace L3
open PySem PySem.Spec L2
def okV (own : List Addr) : PV → Bool
  | .non | .bl _ | .int _ | .str _ | .tup _ | .lst _ => true
  | .obj C _ _ => decide (C ∈ own)
  | _ => false
def isI : PV → Bool
  | .int _ => true
  | _ => false
def cnt (p : PV) (lo hi : Int) : Bool := match p with
  | .int i => decide (lo ≤ i) && decide (i ≤ hi)
  | _ => false
def fsIsInt (own : List Addr) : FS := fun ps Q _ => match ps with
  | [p] => okV own p = true ∧ Q (.bl (isI p))
  | _ => False
def fsIsCount (own : List Addr) : FS := fun ps Q _ => match ps with
  | [p, .int lo, .int hi] => okV own p = true ∧ Q (.bl (cnt p lo hi))
  | _ => False
def fsCheckCount (own : List Addr) (x : EX) : FS := fun ps Q R => match ps with
  | [p, .int lo, .int hi] => okV own p = true ∧ (if cnt p lo hi = true then Q .non else R x)
  | _ => False
def fsState : FS := fun ps Q _ => ∃ ns, ps = [.scr (ns.map PV.int)] ∧ Scr 63 ns ∧ ∀ x y : Int, 0 ≤ x → 0 ≤ y → y < 2147483647 → Q (.new (.lst [.int x, .int y]))
def fsTake : FS := fun ps Q _ => match ps with
  | [.st, .int m] => (0 < m ∧ m < 1000000000000000000000000000000000000000000) ∧ ∀ v : Int, 0 ≤ v ∧ v < m → Q (.int v)
  | _ => False
theorem divOk_of {j : Int} (h : 0 < j) (h2 : j < 1000000000000000000000000000000000000000000) : divOk j := ⟨by omega, by
  have e : j.natAbs ≠ 0 := by omega
  have h3 : j.natAbs < 2 ^ 200 := by omega
  have := (Nat.log2_lt e).mpr h3
  omega⟩
theorem mulOk_of {i j : Int} {a b : Nat} (h1 : i.natAbs < 2 ^ a) (h2 : j.natAbs < 2 ^ b) (h : a + b ≤ 134217728) : mulOk i j := ⟨a, b, h1, h2, h⟩
theorem fmod_b {i m : Int} (h : 0 < m) : 0 ≤ i.fmod m ∧ i.fmod m < m := ⟨Int.fmod_nonneg_of_pos _ h, Int.fmod_lt_of_pos _ h⟩
theorem fmod_e {i m : Int} (h : 0 ≤ m) : i.fmod m = i % m := Int.fmod_eq_emod_of_nonneg _ h
theorem fdiv_e {i m : Int} (h : 0 ≤ m) : i.fdiv m = i / m := Int.fdiv_eq_ediv_of_nonneg _ h
/-! ### readings in short -/
def isTy (T : String) : PV → Bool
  | .non => T == "NoneType"
  | .bl _ => T == "bool" || T == "int"
  | .int _ => T == "int"
  | .str _ => T == "str"
  | .tup _ => T == "tuple"
  | .lst _ => T == "list"
  | .new (.lst _) => T == "list"
  | .own (.lst _) => T == "list"
  | _ => false
def oIsi (own : List Addr) (T : String) (p : PV) (Q : PQ) : Prop := ∃ k b, p.kind = some k ∧ ansTy own T k = some b ∧ Q (.bl b)
section
variable {own : List Addr} {T : String} {p : PV} {Q : PQ} {R : XQ} {ρ : PEnv} {a : WEx}
theorem wIsi_eq : wIsi (ansTy own T) a ρ Q R = a ρ (fun p => oIsi own T p Q) R := rfl
theorem ty_case {n : String} (h : (if n = T then some true else some (n == "bool" && T == "int")) = some (isTy T p) ↔ True) : (if n = T then some true else some (n == "bool" && T == "int")) = some (isTy T p) := h.mpr trivial
theorem beq_c {x y : String} : (x == y) = decide (y = x) := by
  by_cases h : y = x
  · subst h; simp
  · rw [decide_eq_false h]
    exact beq_eq_false_iff_ne.mpr (fun z => h z.symm)
theorem kind_ok (h : okV own p = true) (hT : T ∈ ["bool", "int", "str", "tuple", "list"]) : ∃ k, p.kind = some k ∧ ansTy own T k = some (isTy T p) := by
  have hT2 : T = "bool" ∨ T = "int" ∨ T = "str" ∨ T = "tuple" ∨ T = "list" := by simpa using hT
  cases p with
  | obj C ns xs => exact ⟨_, rfl, by
    show (if C ∈ own then some false else none) = some false
    rw [if_pos (of_decide_eq_true h)]⟩
  | non => exact ⟨_, rfl, by rcases hT2 with rfl | rfl | rfl | rfl | rfl <;> rfl⟩
  | bl _ => exact ⟨_, rfl, by rcases hT2 with rfl | rfl | rfl | rfl | rfl <;> rfl⟩
  | int _ => exact ⟨_, rfl, by rcases hT2 with rfl | rfl | rfl | rfl | rfl <;> rfl⟩
  | str _ => exact ⟨_, rfl, by rcases hT2 with rfl | rfl | rfl | rfl | rfl <;> rfl⟩
  | tup _ => exact ⟨_, rfl, by rcases hT2 with rfl | rfl | rfl | rfl | rfl <;> rfl⟩
  | lst _ => exact ⟨_, rfl, by rcases hT2 with rfl | rfl | rfl | rfl | rfl <;> rfl⟩
  | _ => cases h
theorem oIsi_ok (h : okV own p = true) (hT : (["bool", "int", "str", "tuple", "list"] : List String).contains T = true := by decide) (hq : Q (.bl (isTy T p))) : oIsi own T p Q := by
  obtain ⟨k, e1, e2⟩ := kind_ok h (List.contains_iff_mem.mp hT)
  exact ⟨k, _, e1, e2, hq⟩
theorem oIsi_iff (h : okV own p = true) (hT : (["bool", "int", "str", "tuple", "list"] : List String).contains T = true) : oIsi own T p Q ↔ Q (.bl (isTy T p)) := by
  obtain ⟨k, e1, e2⟩ := kind_ok h (List.contains_iff_mem.mp hT)
  refine ⟨fun ⟨k', b, h1, h2, h3⟩ => ?_, fun hq => ⟨k, _, e1, e2, hq⟩⟩
  rw [e1] at h1
  cases h1
  rw [e2] at h2
  cases h2
  exact h3
theorem oIsi_int (h : okV own p = true) : oIsi own "int" p Q ↔ Q (.bl (isTy "int" p)) := oIsi_iff h (by decide)
theorem oIsi_bool (h : okV own p = true) : oIsi own "bool" p Q ↔ Q (.bl (isTy "bool" p)) := oIsi_iff h (by decide)
theorem oIsi_str (h : okV own p = true) : oIsi own "str" p Q ↔ Q (.bl (isTy "str" p)) := oIsi_iff h (by decide)
theorem oIsi_tuple (h : okV own p = true) : oIsi own "tuple" p Q ↔ Q (.bl (isTy "tuple" p)) := oIsi_iff h (by decide)
theorem oIsi_list (h : okV own p = true) : oIsi own "list" p Q ↔ Q (.bl (isTy "list" p)) := oIsi_iff h (by decide)
theorem okV_non : okV own .non = true := rfl
theorem okV_bl {b : Bool} : okV own (.bl b) = true := rfl
theorem okV_int {i : Int} : okV own (.int i) = true := rfl
theorem okV_stR {x : Str} : okV own (.str x) = true := rfl
theorem okV_tup {xs : List PV} : okV own (.tup xs) = true := rfl
theorem okV_lst {xs : List PV} : okV own (.lst xs) = true := rfl
theorem okV_argP (h : okV own p = true) : argP p = some p := by cases p <;> first | rfl | cases h
theorem okV_gives (h : okV own p = true) : p.gives = true := by cases p <;> first | rfl | cases h
theorem okV_thaw (h : okV own p = true) : p.thaw = p := by cases p <;> first | rfl | cases h
theorem okV_st (h : okV own p = true) : isSt p = false := by cases p <;> first | rfl | cases h
theorem okV_ret (h : okV own p = true) : retP p = some p := by cases p <;> first | rfl | cases h
theorem isI_ty : (isTy "int" p && !isTy "bool" p) = isI p := by
  cases p <;> simp [isTy, isI] <;> (rename_i q; cases q <;> simp [isTy])
theorem oEq_int {i j : Int} : oEq (.int i) (.int j) Q R ↔ Q (.bl (decide (i = j))) := by
  constructor
  · rintro ⟨d, e, h1, h2, h3, h4, h⟩
    cases h1; cases h2
    have : PyData.eqv (.int i) (.int j) = decide (i = j) := by
      by_cases z : i = j
      · subst z; simp [PyData.eqv]
      · simp [PyData.eqv, z]
    rwa [this] at h
  · intro h
    refine ⟨_, _, rfl, rfl, rfl, rfl, ?_⟩
    have : PyData.eqv (.int i) (.int j) = decide (i = j) := by
      by_cases z : i = j
      · subst z; simp [PyData.eqv]
      · simp [PyData.eqv, z]
    rwa [this]
end
/-! ### step by step: each reading at its head -/
section
def wOwnC (i : Nat) (a : WEx) : WSt := fun D ρ => i < ρ.length ∧ wOwn i a D ρ
def wStSC (i : Nat) (a : WEx) : WSt := fun D ρ => i < ρ.length ∧ wStS i a D ρ
abbrev tgP := tgW
abbrev tgPs := tgWs
def ns2 (p : PV) (k : Unit → Prop) : Prop := ∃ x y : Int, p = .new (.lst [.int x, .int y]) ∧ 0 ≤ x ∧ 0 ≤ y ∧ y < 2147483647 ∧ k ()
variable {own : List Addr} {p q : PV} {Q : PQ} {R : XQ} {ρ : PEnv} {a b c : WEx} {ta tb : WTs} {s r : WSt} {D : PEnds} {o o' : PV → PV → PQ → XQ → Prop} {i j k : Int} {ps qs xs : List PV} {x y z : Str} {co : List PV → PQ → XQ → Prop} {as : WAs} {n : Nat} {fs : FS} {ob : Option PV}
def stP (p : PV) (k : PV → Prop) : Prop := p.gives = true ∧ k p.thaw
def rtP (p : PV) (k : PV → Prop) : Prop := ∃ q, retP p = some q ∧ k q
def nwP (p : PV) (k : PV → Prop) : Prop := ∃ q, p = .new q ∧ k q
def aP1 (p : PV) (k : PV → Prop) : Prop := ∃ q, argP p = some q ∧ k q
def kB (p : PV) (k : Bool → Prop) : Prop := match p with
  | .bl b => k b
  | _ => False
def kI (p : PV) (k : Int → Prop) : Prop := match p with
  | .int b => k b
  | _ => False
def sE (ρ : PEnv) (i : Nat) (v : Option PV) (k : PEnv → Prop) : Prop := k (ρ.set i v)
def tP (ps : List PV) (Q : PQ) : Prop := ps.length ≤ sizeLine ∧ ps.all PV.gives = true ∧ Q (.tup (ps.map PV.thaw))
def lP (ps : List PV) (Q : PQ) : Prop := ps.length ≤ sizeLine ∧ ps.all PV.gives = true ∧ Q (.new (.lst (ps.map PV.thaw)))
def ixP (xs : List PV) (i : Int) (Q : PQ) : Prop := ∃ p, atI xs i = some p ∧ Q p
theorem wVar_0  : wVar 0 (some p :: ρ) Q R = Q p := propext ⟨fun ⟨q, e, h⟩ => by cases e; exact h, fun h => ⟨p, rfl, h⟩⟩
theorem wVar_s  : wVar (n + 1) (ob :: ρ) Q R = wVar n ρ Q R := rfl
theorem wC_e  : wC p ρ Q R = Q p := rfl
theorem wOp_e  : wOp o a b ρ Q R = a ρ (fun x => b ρ (fun y => o x y Q R) R) R := rfl
theorem oAdd_ii  : oAdd (.int i) (.int j) Q R = Q (.int (i + j)) := rfl
theorem oAdd_ss  : oAdd (.str x) (.str y) Q R = (x.length + y.length ≤ sizeLine ∧ Q (.str (x ++ y))) := rfl
theorem oAdd_tt  : oAdd (.tup ps) (.tup qs) Q R = (ps.length + qs.length ≤ sizeLine ∧ Q (.tup (ps ++ qs))) := rfl
theorem oAdd_ll_  : oAdd (.lst ps) (.lst qs) Q R = (ps.length + qs.length ≤ sizeLine ∧ Q (.new (.lst (ps ++ qs)))) := propext ⟨fun ⟨_, _, e1, e2, h⟩ => by cases e1; cases e2; exact h, fun h => ⟨_, _, rfl, rfl, h⟩⟩
theorem oAdd_ln_  : oAdd (.lst ps) (.new (.lst qs)) Q R = (ps.length + qs.length ≤ sizeLine ∧ Q (.new (.lst (ps ++ qs)))) := propext ⟨fun ⟨_, _, e1, e2, h⟩ => by cases e1; cases e2; exact h, fun h => ⟨_, _, rfl, rfl, h⟩⟩
theorem oAdd_lo_  : oAdd (.lst ps) (.own (.lst qs)) Q R = (ps.length + qs.length ≤ sizeLine ∧ Q (.new (.lst (ps ++ qs)))) := propext ⟨fun ⟨_, _, e1, e2, h⟩ => by cases e1; cases e2; exact h, fun h => ⟨_, _, rfl, rfl, h⟩⟩
theorem oAdd_nl_  : oAdd (.new (.lst ps)) (.lst qs) Q R = (ps.length + qs.length ≤ sizeLine ∧ Q (.new (.lst (ps ++ qs)))) := propext ⟨fun ⟨_, _, e1, e2, h⟩ => by cases e1; cases e2; exact h, fun h => ⟨_, _, rfl, rfl, h⟩⟩
theorem oAdd_nn_  : oAdd (.new (.lst ps)) (.new (.lst qs)) Q R = (ps.length + qs.length ≤ sizeLine ∧ Q (.new (.lst (ps ++ qs)))) := propext ⟨fun ⟨_, _, e1, e2, h⟩ => by cases e1; cases e2; exact h, fun h => ⟨_, _, rfl, rfl, h⟩⟩
theorem oAdd_no_  : oAdd (.new (.lst ps)) (.own (.lst qs)) Q R = (ps.length + qs.length ≤ sizeLine ∧ Q (.new (.lst (ps ++ qs)))) := propext ⟨fun ⟨_, _, e1, e2, h⟩ => by cases e1; cases e2; exact h, fun h => ⟨_, _, rfl, rfl, h⟩⟩
theorem oAdd_ol_  : oAdd (.own (.lst ps)) (.lst qs) Q R = (ps.length + qs.length ≤ sizeLine ∧ Q (.new (.lst (ps ++ qs)))) := propext ⟨fun ⟨_, _, e1, e2, h⟩ => by cases e1; cases e2; exact h, fun h => ⟨_, _, rfl, rfl, h⟩⟩
theorem oAdd_on_  : oAdd (.own (.lst ps)) (.new (.lst qs)) Q R = (ps.length + qs.length ≤ sizeLine ∧ Q (.new (.lst (ps ++ qs)))) := propext ⟨fun ⟨_, _, e1, e2, h⟩ => by cases e1; cases e2; exact h, fun h => ⟨_, _, rfl, rfl, h⟩⟩
theorem oAdd_oo_  : oAdd (.own (.lst ps)) (.own (.lst qs)) Q R = (ps.length + qs.length ≤ sizeLine ∧ Q (.new (.lst (ps ++ qs)))) := propext ⟨fun ⟨_, _, e1, e2, h⟩ => by cases e1; cases e2; exact h, fun h => ⟨_, _, rfl, rfl, h⟩⟩
theorem oSub_ii  : oSub (.int i) (.int j) Q R = Q (.int (i - j)) := rfl
theorem oMul_ii  : oMulI (.int i) (.int j) Q R = (mulOk i j ∧ Q (.int (i * j))) := rfl
theorem oMul_li  : oMulI (.lst ps) (.int k) Q R = (-(2 ^ 63) ≤ k ∧ k < 2 ^ 63 ∧ ps.length * k.toNat ≤ sizeLine ∧ Q (.new (.lst (List.replicate k.toNat ps).flatten))) := propext ⟨fun ⟨_, e1, h⟩ => by cases e1; exact h, fun h => ⟨_, rfl, h⟩⟩
theorem oMul_ni  : oMulI (.new (.lst ps)) (.int k) Q R = (-(2 ^ 63) ≤ k ∧ k < 2 ^ 63 ∧ ps.length * k.toNat ≤ sizeLine ∧ Q (.new (.lst (List.replicate k.toNat ps).flatten))) := propext ⟨fun ⟨_, e1, h⟩ => by cases e1; exact h, fun h => ⟨_, rfl, h⟩⟩
theorem oMul_oi  : oMulI (.own (.lst ps)) (.int k) Q R = (-(2 ^ 63) ≤ k ∧ k < 2 ^ 63 ∧ ps.length * k.toNat ≤ sizeLine ∧ Q (.new (.lst (List.replicate k.toNat ps).flatten))) := propext ⟨fun ⟨_, e1, h⟩ => by cases e1; exact h, fun h => ⟨_, rfl, h⟩⟩
theorem oDiv_ii  : oDiv (.int i) (.int j) Q R = (divOk j ∧ Q (.int (i.fdiv j))) := rfl
theorem oMod_ii  : oMod (.int i) (.int j) Q R = (j ≠ 0 ∧ Q (.int (i.fmod j))) := rfl
theorem oLt_ii  : oLt (.int i) (.int j) Q R = Q (.bl (decide (i < j))) := rfl
theorem oLe_ii  : oLe (.int i) (.int j) Q R = Q (.bl (decide (i ≤ j))) := rfl
theorem oGt_ii  : oGt (.int i) (.int j) Q R = Q (.bl (decide (j < i))) := rfl
theorem oGe_ii  : oGe (.int i) (.int j) Q R = Q (.bl (decide (j ≤ i))) := rfl
theorem wNeg_e  : wNeg a ρ Q R = a ρ (fun x => kI x (fun i => Q (.int (-i)))) R := by
  have e : (fun x : PV => match x with
    | .int i => Q (.int (-i))
    | _ => False) = fun x => kI x (fun i => Q (.int (-i))) := by
    funext x
    cases x <;> rfl
  show a ρ (fun x : PV => match x with
    | .int i => Q (.int (-i))
    | _ => False) R = _
  rw [e]
theorem wT_e {K : Bool → Prop}  : wT a ρ K R = a ρ (fun x => kB x K) R := by
  unfold wT
  congr 1
theorem kB_b {bb : Bool} {K : Bool → Prop}  : kB (.bl bb) K = K bb := rfl
theorem kI_i {K : Int → Prop}  : kI (.int i) K = K i := rfl
theorem wAnd_e {K : Bool → Prop}  : wAnd ta tb ρ K R = ta ρ (fun c => if c = true then tb ρ K R else K false) R := rfl
theorem wOr_e {K : Bool → Prop}  : wOr ta tb ρ K R = ta ρ (fun c => if c = true then K true else tb ρ K R) R := rfl
theorem wNot_e {K : Bool → Prop}  : wNot ta ρ K R = ta ρ (fun c => K (!c)) R := rfl
theorem wAndV_e  : wAndV a b ρ Q R = a ρ (fun x => kB x (fun c => if c = true then b ρ Q R else Q (.bl false))) R := rfl
theorem wOrV_e  : wOrV a b ρ Q R = a ρ (fun x => kB x (fun c => if c = true then Q (.bl true) else b ρ Q R)) R := rfl
theorem wNotV_e  : wNotV a ρ Q R = a ρ (fun x => kB x (fun c => Q (.bl (!c)))) R := rfl
theorem wIfE_e  : wIfE ta a b ρ Q R = ta ρ (fun k => if k = true then a ρ Q R else b ρ Q R) R := rfl
theorem wChain_e  : wChain o o' a b c ρ Q R = a ρ (fun x => b ρ (fun y => o x y (fun z => kB z (fun k => if k = true then c ρ (fun u => o' y u Q R) R else Q (.bl false))) R) R) R := rfl
theorem wIsN_e  : wIsN a ρ Q R = a ρ (fun x => Q (.bl (isNonP x))) R := rfl
theorem wNotN_e  : wNotN a ρ Q R = a ρ (fun x => Q (.bl (!isNonP x))) R := rfl
theorem wCall_e  : wCall co as ρ Q R = as ρ (fun ps => co ps Q R) R := rfl
theorem wCons_e {K : List PV → Prop}  : wCons a as ρ K R = a ρ (fun x => as ρ (fun xs => K (x :: xs)) R) R := rfl
theorem wNil_e {K : List PV → Prop}  : wNil ρ K R = K [] := rfl
theorem wTup_e  : wTup as ρ Q R = as ρ (fun ps => tP ps Q) R := rfl
theorem wLst_e  : wLst as ρ Q R = as ρ (fun ps => lP ps Q) R := rfl
theorem tP_0  : tP [] Q = (Q (.tup [])) := propext ⟨fun ⟨_, h, hq⟩ => by simpa [stP, and_assoc] using (And.intro h hq), fun h => ⟨by show 0 ≤ sizeLine; rw [sizeLine_eq]; decide, by simpa [stP, and_assoc] using h⟩⟩
theorem tP_1 {p0 : PV} : tP [p0] Q = (stP p0 fun q0 => Q (.tup [q0])) := propext ⟨fun ⟨_, h, hq⟩ => by simpa [stP, and_assoc] using (And.intro h hq), fun h => ⟨by show 1 ≤ sizeLine; rw [sizeLine_eq]; decide, by simpa [stP, and_assoc] using h⟩⟩
theorem tP_2 {p0 p1 : PV} : tP [p0, p1] Q = (stP p0 fun q0 => stP p1 fun q1 => Q (.tup [q0, q1])) := propext ⟨fun ⟨_, h, hq⟩ => by simpa [stP, and_assoc] using (And.intro h hq), fun h => ⟨by show 2 ≤ sizeLine; rw [sizeLine_eq]; decide, by simpa [stP, and_assoc] using h⟩⟩
theorem tP_3 {p0 p1 p2 : PV} : tP [p0, p1, p2] Q = (stP p0 fun q0 => stP p1 fun q1 => stP p2 fun q2 => Q (.tup [q0, q1, q2])) := propext ⟨fun ⟨_, h, hq⟩ => by simpa [stP, and_assoc] using (And.intro h hq), fun h => ⟨by show 3 ≤ sizeLine; rw [sizeLine_eq]; decide, by simpa [stP, and_assoc] using h⟩⟩
theorem tP_4 {p0 p1 p2 p3 : PV} : tP [p0, p1, p2, p3] Q = (stP p0 fun q0 => stP p1 fun q1 => stP p2 fun q2 => stP p3 fun q3 => Q (.tup [q0, q1, q2, q3])) := propext ⟨fun ⟨_, h, hq⟩ => by simpa [stP, and_assoc] using (And.intro h hq), fun h => ⟨by show 4 ≤ sizeLine; rw [sizeLine_eq]; decide, by simpa [stP, and_assoc] using h⟩⟩
theorem tP_5 {p0 p1 p2 p3 p4 : PV} : tP [p0, p1, p2, p3, p4] Q = (stP p0 fun q0 => stP p1 fun q1 => stP p2 fun q2 => stP p3 fun q3 => stP p4 fun q4 => Q (.tup [q0, q1, q2, q3, q4])) := propext ⟨fun ⟨_, h, hq⟩ => by simpa [stP, and_assoc] using (And.intro h hq), fun h => ⟨by show 5 ≤ sizeLine; rw [sizeLine_eq]; decide, by simpa [stP, and_assoc] using h⟩⟩
theorem tP_6 {p0 p1 p2 p3 p4 p5 : PV} : tP [p0, p1, p2, p3, p4, p5] Q = (stP p0 fun q0 => stP p1 fun q1 => stP p2 fun q2 => stP p3 fun q3 => stP p4 fun q4 => stP p5 fun q5 => Q (.tup [q0, q1, q2, q3, q4, q5])) := propext ⟨fun ⟨_, h, hq⟩ => by simpa [stP, and_assoc] using (And.intro h hq), fun h => ⟨by show 6 ≤ sizeLine; rw [sizeLine_eq]; decide, by simpa [stP, and_assoc] using h⟩⟩
theorem tP_7 {p0 p1 p2 p3 p4 p5 p6 : PV} : tP [p0, p1, p2, p3, p4, p5, p6] Q = (stP p0 fun q0 => stP p1 fun q1 => stP p2 fun q2 => stP p3 fun q3 => stP p4 fun q4 => stP p5 fun q5 => stP p6 fun q6 => Q (.tup [q0, q1, q2, q3, q4, q5, q6])) := propext ⟨fun ⟨_, h, hq⟩ => by simpa [stP, and_assoc] using (And.intro h hq), fun h => ⟨by show 7 ≤ sizeLine; rw [sizeLine_eq]; decide, by simpa [stP, and_assoc] using h⟩⟩
theorem tP_8 {p0 p1 p2 p3 p4 p5 p6 p7 : PV} : tP [p0, p1, p2, p3, p4, p5, p6, p7] Q = (stP p0 fun q0 => stP p1 fun q1 => stP p2 fun q2 => stP p3 fun q3 => stP p4 fun q4 => stP p5 fun q5 => stP p6 fun q6 => stP p7 fun q7 => Q (.tup [q0, q1, q2, q3, q4, q5, q6, q7])) := propext ⟨fun ⟨_, h, hq⟩ => by simpa [stP, and_assoc] using (And.intro h hq), fun h => ⟨by show 8 ≤ sizeLine; rw [sizeLine_eq]; decide, by simpa [stP, and_assoc] using h⟩⟩
theorem tP_x : tP ps Q = tP ps Q := rfl
theorem lP_0  : lP [] Q = (Q (.new (.lst []))) := propext ⟨fun ⟨_, h, hq⟩ => by simpa [stP, and_assoc] using (And.intro h hq), fun h => ⟨by show 0 ≤ sizeLine; rw [sizeLine_eq]; decide, by simpa [stP, and_assoc] using h⟩⟩
theorem lP_1 {p0 : PV} : lP [p0] Q = (stP p0 fun q0 => Q (.new (.lst [q0]))) := propext ⟨fun ⟨_, h, hq⟩ => by simpa [stP, and_assoc] using (And.intro h hq), fun h => ⟨by show 1 ≤ sizeLine; rw [sizeLine_eq]; decide, by simpa [stP, and_assoc] using h⟩⟩
theorem lP_2 {p0 p1 : PV} : lP [p0, p1] Q = (stP p0 fun q0 => stP p1 fun q1 => Q (.new (.lst [q0, q1]))) := propext ⟨fun ⟨_, h, hq⟩ => by simpa [stP, and_assoc] using (And.intro h hq), fun h => ⟨by show 2 ≤ sizeLine; rw [sizeLine_eq]; decide, by simpa [stP, and_assoc] using h⟩⟩
theorem lP_3 {p0 p1 p2 : PV} : lP [p0, p1, p2] Q = (stP p0 fun q0 => stP p1 fun q1 => stP p2 fun q2 => Q (.new (.lst [q0, q1, q2]))) := propext ⟨fun ⟨_, h, hq⟩ => by simpa [stP, and_assoc] using (And.intro h hq), fun h => ⟨by show 3 ≤ sizeLine; rw [sizeLine_eq]; decide, by simpa [stP, and_assoc] using h⟩⟩
theorem lP_4 {p0 p1 p2 p3 : PV} : lP [p0, p1, p2, p3] Q = (stP p0 fun q0 => stP p1 fun q1 => stP p2 fun q2 => stP p3 fun q3 => Q (.new (.lst [q0, q1, q2, q3]))) := propext ⟨fun ⟨_, h, hq⟩ => by simpa [stP, and_assoc] using (And.intro h hq), fun h => ⟨by show 4 ≤ sizeLine; rw [sizeLine_eq]; decide, by simpa [stP, and_assoc] using h⟩⟩
theorem lP_5 {p0 p1 p2 p3 p4 : PV} : lP [p0, p1, p2, p3, p4] Q = (stP p0 fun q0 => stP p1 fun q1 => stP p2 fun q2 => stP p3 fun q3 => stP p4 fun q4 => Q (.new (.lst [q0, q1, q2, q3, q4]))) := propext ⟨fun ⟨_, h, hq⟩ => by simpa [stP, and_assoc] using (And.intro h hq), fun h => ⟨by show 5 ≤ sizeLine; rw [sizeLine_eq]; decide, by simpa [stP, and_assoc] using h⟩⟩
theorem lP_6 {p0 p1 p2 p3 p4 p5 : PV} : lP [p0, p1, p2, p3, p4, p5] Q = (stP p0 fun q0 => stP p1 fun q1 => stP p2 fun q2 => stP p3 fun q3 => stP p4 fun q4 => stP p5 fun q5 => Q (.new (.lst [q0, q1, q2, q3, q4, q5]))) := propext ⟨fun ⟨_, h, hq⟩ => by simpa [stP, and_assoc] using (And.intro h hq), fun h => ⟨by show 6 ≤ sizeLine; rw [sizeLine_eq]; decide, by simpa [stP, and_assoc] using h⟩⟩
theorem lP_7 {p0 p1 p2 p3 p4 p5 p6 : PV} : lP [p0, p1, p2, p3, p4, p5, p6] Q = (stP p0 fun q0 => stP p1 fun q1 => stP p2 fun q2 => stP p3 fun q3 => stP p4 fun q4 => stP p5 fun q5 => stP p6 fun q6 => Q (.new (.lst [q0, q1, q2, q3, q4, q5, q6]))) := propext ⟨fun ⟨_, h, hq⟩ => by simpa [stP, and_assoc] using (And.intro h hq), fun h => ⟨by show 7 ≤ sizeLine; rw [sizeLine_eq]; decide, by simpa [stP, and_assoc] using h⟩⟩
theorem lP_8 {p0 p1 p2 p3 p4 p5 p6 p7 : PV} : lP [p0, p1, p2, p3, p4, p5, p6, p7] Q = (stP p0 fun q0 => stP p1 fun q1 => stP p2 fun q2 => stP p3 fun q3 => stP p4 fun q4 => stP p5 fun q5 => stP p6 fun q6 => stP p7 fun q7 => Q (.new (.lst [q0, q1, q2, q3, q4, q5, q6, q7]))) := propext ⟨fun ⟨_, h, hq⟩ => by simpa [stP, and_assoc] using (And.intro h hq), fun h => ⟨by show 8 ≤ sizeLine; rw [sizeLine_eq]; decide, by simpa [stP, and_assoc] using h⟩⟩
theorem lP_x : lP ps Q = lP ps Q := rfl
theorem stP_non {K : PV → Prop} : stP .non K = K .non := propext ⟨fun h => h.2, fun h => ⟨rfl, h⟩⟩
theorem rtP_non {K : PV → Prop} : rtP .non K = K .non := propext ⟨fun ⟨q, e, h⟩ => by cases e; exact h, fun h => ⟨_, rfl, h⟩⟩
theorem aP1_non {K : PV → Prop} : aP1 .non K = K .non := propext ⟨fun ⟨q, e, h⟩ => by cases e; exact h, fun h => ⟨_, rfl, h⟩⟩
theorem stP_bl {bb : Bool} {K : PV → Prop} : stP (.bl bb) K = K (.bl bb) := propext ⟨fun h => h.2, fun h => ⟨rfl, h⟩⟩
theorem rtP_bl {bb : Bool} {K : PV → Prop} : rtP (.bl bb) K = K (.bl bb) := propext ⟨fun ⟨q, e, h⟩ => by cases e; exact h, fun h => ⟨_, rfl, h⟩⟩
theorem aP1_bl {bb : Bool} {K : PV → Prop} : aP1 (.bl bb) K = K (.bl bb) := propext ⟨fun ⟨q, e, h⟩ => by cases e; exact h, fun h => ⟨_, rfl, h⟩⟩
theorem isN_bl {bb : Bool}  : isNonP (.bl bb) = false := rfl
theorem stP_int {K : PV → Prop} : stP (.int i) K = K (.int i) := propext ⟨fun h => h.2, fun h => ⟨rfl, h⟩⟩
theorem rtP_int {K : PV → Prop} : rtP (.int i) K = K (.int i) := propext ⟨fun ⟨q, e, h⟩ => by cases e; exact h, fun h => ⟨_, rfl, h⟩⟩
theorem aP1_int {K : PV → Prop} : aP1 (.int i) K = K (.int i) := propext ⟨fun ⟨q, e, h⟩ => by cases e; exact h, fun h => ⟨_, rfl, h⟩⟩
theorem isN_int  : isNonP (.int i) = false := rfl
theorem stP_str {K : PV → Prop} : stP (.str x) K = K (.str x) := propext ⟨fun h => h.2, fun h => ⟨rfl, h⟩⟩
theorem rtP_str {K : PV → Prop} : rtP (.str x) K = K (.str x) := propext ⟨fun ⟨q, e, h⟩ => by cases e; exact h, fun h => ⟨_, rfl, h⟩⟩
theorem aP1_str {K : PV → Prop} : aP1 (.str x) K = K (.str x) := propext ⟨fun ⟨q, e, h⟩ => by cases e; exact h, fun h => ⟨_, rfl, h⟩⟩
theorem isN_str  : isNonP (.str x) = false := rfl
theorem stP_adr {f : Addr} {K : PV → Prop} : stP (.adr f) K = K (.adr f) := propext ⟨fun h => h.2, fun h => ⟨rfl, h⟩⟩
theorem rtP_adr {f : Addr} {K : PV → Prop} : rtP (.adr f) K = K (.adr f) := propext ⟨fun ⟨q, e, h⟩ => by cases e; exact h, fun h => ⟨_, rfl, h⟩⟩
theorem aP1_adr {f : Addr} {K : PV → Prop} : aP1 (.adr f) K = K (.adr f) := propext ⟨fun ⟨q, e, h⟩ => by cases e; exact h, fun h => ⟨_, rfl, h⟩⟩
theorem isN_adr {f : Addr}  : isNonP (.adr f) = false := rfl
theorem stP_tup {K : PV → Prop} : stP (.tup ps) K = K (.tup ps) := propext ⟨fun h => h.2, fun h => ⟨rfl, h⟩⟩
theorem rtP_tup {K : PV → Prop} : rtP (.tup ps) K = K (.tup ps) := propext ⟨fun ⟨q, e, h⟩ => by cases e; exact h, fun h => ⟨_, rfl, h⟩⟩
theorem aP1_tup {K : PV → Prop} : aP1 (.tup ps) K = K (.tup ps) := propext ⟨fun ⟨q, e, h⟩ => by cases e; exact h, fun h => ⟨_, rfl, h⟩⟩
theorem isN_tup  : isNonP (.tup ps) = false := rfl
theorem stP_lst {K : PV → Prop} : stP (.lst ps) K = K (.lst ps) := propext ⟨fun h => h.2, fun h => ⟨rfl, h⟩⟩
theorem rtP_lst {K : PV → Prop} : rtP (.lst ps) K = K (.lst ps) := propext ⟨fun ⟨q, e, h⟩ => by cases e; exact h, fun h => ⟨_, rfl, h⟩⟩
theorem aP1_lst {K : PV → Prop} : aP1 (.lst ps) K = K (.lst ps) := propext ⟨fun ⟨q, e, h⟩ => by cases e; exact h, fun h => ⟨_, rfl, h⟩⟩
theorem isN_lst  : isNonP (.lst ps) = false := rfl
theorem stP_scr {K : PV → Prop} : stP (.scr ps) K = K (.scr ps) := propext ⟨fun h => h.2, fun h => ⟨rfl, h⟩⟩
theorem rtP_scr {K : PV → Prop} : rtP (.scr ps) K = K (.scr ps) := propext ⟨fun ⟨q, e, h⟩ => by cases e; exact h, fun h => ⟨_, rfl, h⟩⟩
theorem aP1_scr {K : PV → Prop} : aP1 (.scr ps) K = K (.scr ps) := propext ⟨fun ⟨q, e, h⟩ => by cases e; exact h, fun h => ⟨_, rfl, h⟩⟩
theorem isN_scr  : isNonP (.scr ps) = false := rfl
theorem stP_obj {f : Addr} {ns : List Str} {K : PV → Prop} : stP (.obj f ns ps) K = K (.obj f ns ps) := propext ⟨fun h => h.2, fun h => ⟨rfl, h⟩⟩
theorem rtP_obj {f : Addr} {ns : List Str} {K : PV → Prop} : rtP (.obj f ns ps) K = K (.obj f ns ps) := propext ⟨fun ⟨q, e, h⟩ => by cases e; exact h, fun h => ⟨_, rfl, h⟩⟩
theorem aP1_obj {f : Addr} {ns : List Str} {K : PV → Prop} : aP1 (.obj f ns ps) K = K (.obj f ns ps) := propext ⟨fun ⟨q, e, h⟩ => by cases e; exact h, fun h => ⟨_, rfl, h⟩⟩
theorem isN_obj {f : Addr} {ns : List Str}  : isNonP (.obj f ns ps) = false := rfl
theorem stP_dk {ks : List Key} {K : PV → Prop} : stP (.dk ks ps) K = K (.dk ks ps) := propext ⟨fun h => h.2, fun h => ⟨rfl, h⟩⟩
theorem rtP_dk {ks : List Key} {K : PV → Prop} : rtP (.dk ks ps) K = K (.dk ks ps) := propext ⟨fun ⟨q, e, h⟩ => by cases e; exact h, fun h => ⟨_, rfl, h⟩⟩
theorem aP1_dk {ks : List Key} {K : PV → Prop} : aP1 (.dk ks ps) K = K (.dk ks ps) := propext ⟨fun ⟨q, e, h⟩ => by cases e; exact h, fun h => ⟨_, rfl, h⟩⟩
theorem isN_dk {ks : List Key}  : isNonP (.dk ks ps) = false := rfl
theorem isN_non  : isNonP .non = true := rfl
theorem stP_nlst {K : PV → Prop} : stP (.new (.lst ps)) K = K (.lst ps) := propext ⟨fun h => h.2, fun h => ⟨rfl, h⟩⟩
theorem rtP_nlst {K : PV → Prop} : rtP (.new (.lst ps)) K = K (.new (.lst ps)) := propext ⟨fun ⟨q, e, h⟩ => by cases e; exact h, fun h => ⟨_, rfl, h⟩⟩
theorem rtP_olst {K : PV → Prop} : rtP (.own (.lst ps)) K = K (.new (.lst ps)) := propext ⟨fun ⟨q, e, h⟩ => by cases e; exact h, fun h => ⟨_, rfl, h⟩⟩
theorem aP1_nlst {K : PV → Prop} : aP1 (.new (.lst ps)) K = K (.lst ps) := propext ⟨fun ⟨q, e, h⟩ => by cases e; exact h, fun h => ⟨_, rfl, h⟩⟩
theorem stP_ndk {ks : List Key} {K : PV → Prop} : stP (.new (.dk ks ps)) K = K (.dk ks ps) := propext ⟨fun h => h.2, fun h => ⟨rfl, h⟩⟩
theorem rtP_ndk {ks : List Key} {K : PV → Prop} : rtP (.new (.dk ks ps)) K = K (.new (.dk ks ps)) := propext ⟨fun ⟨q, e, h⟩ => by cases e; exact h, fun h => ⟨_, rfl, h⟩⟩
theorem rtP_odk {ks : List Key} {K : PV → Prop} : rtP (.own (.dk ks ps)) K = K (.new (.dk ks ps)) := propext ⟨fun ⟨q, e, h⟩ => by cases e; exact h, fun h => ⟨_, rfl, h⟩⟩
theorem aP1_ndk {ks : List Key} {K : PV → Prop} : aP1 (.new (.dk ks ps)) K = K (.dk ks ps) := propext ⟨fun ⟨q, e, h⟩ => by cases e; exact h, fun h => ⟨_, rfl, h⟩⟩
theorem aP1_st {K : PV → Prop} : aP1 .st K = K .st := propext ⟨fun ⟨q, e, h⟩ => by cases e; exact h, fun h => ⟨_, rfl, h⟩⟩
theorem nwP_n {K : PV → Prop} : nwP (.new p) K = K p := propext ⟨fun ⟨q, e, h⟩ => by cases e; exact h, fun h => ⟨_, rfl, h⟩⟩
theorem stP_v {K : PV → Prop} (h : p.plain = true) : stP p K = K p := by
  have e : p.thaw = p := by cases p <;> first | rfl | cases h
  unfold stP PV.gives
  rw [e, h]
  exact propext ⟨fun h => h.2, fun h => ⟨rfl, h⟩⟩
theorem rtP_v {K : PV → Prop} (h : p.plain = true) : rtP p K = K p := by
  have e : retP p = some p := by cases p <;> first | rfl | cases h
  unfold rtP; rw [e]; exact propext ⟨fun ⟨q, e, h⟩ => by cases e; exact h, fun h => ⟨_, rfl, h⟩⟩
theorem aP1_v {K : PV → Prop} (h : p.plain = true) : aP1 p K = K p := by
  have e : argP p = some p := by cases p <;> first | rfl | cases h
  unfold aP1; rw [e]; exact propext ⟨fun ⟨q, e, h⟩ => by cases e; exact h, fun h => ⟨_, rfl, h⟩⟩
theorem okV_plain (h : okV own p = true) : p.plain = true := by cases p <;> first | rfl | cases h
theorem oFn_1 {p0 : PV} : oFn 1 fs [p0] Q R = (aP1 p0 fun q0 => stOnce [q0] = true ∧ fs [q0] Q R) := by
  unfold oFn aP1
  refine propext ⟨fun ⟨_, qs, e, h1, h2⟩ => ?_, fun h => ?_⟩
  · obtain ⟨q0, r0, e0, f0, rfl⟩ := argPs_cons e
    cases f0
    exact ⟨q0, e0, h1, h2⟩
  · obtain ⟨q0, e0, h1, h2⟩ := h
    exact ⟨rfl, [q0], by simp only [argPs, e0], h1, h2⟩
theorem oFn_2 {p0 p1 : PV} : oFn 2 fs [p0, p1] Q R = (aP1 p0 fun q0 => aP1 p1 fun q1 => stOnce [q0, q1] = true ∧ fs [q0, q1] Q R) := by
  unfold oFn aP1
  refine propext ⟨fun ⟨_, qs, e, h1, h2⟩ => ?_, fun h => ?_⟩
  · obtain ⟨q0, r0, e0, f0, rfl⟩ := argPs_cons e
    obtain ⟨q1, r1, e1, f1, rfl⟩ := argPs_cons f0
    cases f1
    exact ⟨q0, e0, ⟨q1, e1, h1, h2⟩⟩
  · obtain ⟨q0, e0, ⟨q1, e1, h1, h2⟩⟩ := h
    exact ⟨rfl, [q0, q1], by simp only [argPs, e0, e1], h1, h2⟩
theorem oFn_3 {p0 p1 p2 : PV} : oFn 3 fs [p0, p1, p2] Q R = (aP1 p0 fun q0 => aP1 p1 fun q1 => aP1 p2 fun q2 => stOnce [q0, q1, q2] = true ∧ fs [q0, q1, q2] Q R) := by
  unfold oFn aP1
  refine propext ⟨fun ⟨_, qs, e, h1, h2⟩ => ?_, fun h => ?_⟩
  · obtain ⟨q0, r0, e0, f0, rfl⟩ := argPs_cons e
    obtain ⟨q1, r1, e1, f1, rfl⟩ := argPs_cons f0
    obtain ⟨q2, r2, e2, f2, rfl⟩ := argPs_cons f1
    cases f2
    exact ⟨q0, e0, ⟨q1, e1, ⟨q2, e2, h1, h2⟩⟩⟩
  · obtain ⟨q0, e0, ⟨q1, e1, ⟨q2, e2, h1, h2⟩⟩⟩ := h
    exact ⟨rfl, [q0, q1, q2], by simp only [argPs, e0, e1, e2], h1, h2⟩
theorem oFn_4 {p0 p1 p2 p3 : PV} : oFn 4 fs [p0, p1, p2, p3] Q R = (aP1 p0 fun q0 => aP1 p1 fun q1 => aP1 p2 fun q2 => aP1 p3 fun q3 => stOnce [q0, q1, q2, q3] = true ∧ fs [q0, q1, q2, q3] Q R) := by
  unfold oFn aP1
  refine propext ⟨fun ⟨_, qs, e, h1, h2⟩ => ?_, fun h => ?_⟩
  · obtain ⟨q0, r0, e0, f0, rfl⟩ := argPs_cons e
    obtain ⟨q1, r1, e1, f1, rfl⟩ := argPs_cons f0
    obtain ⟨q2, r2, e2, f2, rfl⟩ := argPs_cons f1
    obtain ⟨q3, r3, e3, f3, rfl⟩ := argPs_cons f2
    cases f3
    exact ⟨q0, e0, ⟨q1, e1, ⟨q2, e2, ⟨q3, e3, h1, h2⟩⟩⟩⟩
  · obtain ⟨q0, e0, ⟨q1, e1, ⟨q2, e2, ⟨q3, e3, h1, h2⟩⟩⟩⟩ := h
    exact ⟨rfl, [q0, q1, q2, q3], by simp only [argPs, e0, e1, e2, e3], h1, h2⟩
theorem oFn_5 {p0 p1 p2 p3 p4 : PV} : oFn 5 fs [p0, p1, p2, p3, p4] Q R = (aP1 p0 fun q0 => aP1 p1 fun q1 => aP1 p2 fun q2 => aP1 p3 fun q3 => aP1 p4 fun q4 => stOnce [q0, q1, q2, q3, q4] = true ∧ fs [q0, q1, q2, q3, q4] Q R) := by
  unfold oFn aP1
  refine propext ⟨fun ⟨_, qs, e, h1, h2⟩ => ?_, fun h => ?_⟩
  · obtain ⟨q0, r0, e0, f0, rfl⟩ := argPs_cons e
    obtain ⟨q1, r1, e1, f1, rfl⟩ := argPs_cons f0
    obtain ⟨q2, r2, e2, f2, rfl⟩ := argPs_cons f1
    obtain ⟨q3, r3, e3, f3, rfl⟩ := argPs_cons f2
    obtain ⟨q4, r4, e4, f4, rfl⟩ := argPs_cons f3
    cases f4
    exact ⟨q0, e0, ⟨q1, e1, ⟨q2, e2, ⟨q3, e3, ⟨q4, e4, h1, h2⟩⟩⟩⟩⟩
  · obtain ⟨q0, e0, ⟨q1, e1, ⟨q2, e2, ⟨q3, e3, ⟨q4, e4, h1, h2⟩⟩⟩⟩⟩ := h
    exact ⟨rfl, [q0, q1, q2, q3, q4], by simp only [argPs, e0, e1, e2, e3, e4], h1, h2⟩
theorem oFn_6 {p0 p1 p2 p3 p4 p5 : PV} : oFn 6 fs [p0, p1, p2, p3, p4, p5] Q R = (aP1 p0 fun q0 => aP1 p1 fun q1 => aP1 p2 fun q2 => aP1 p3 fun q3 => aP1 p4 fun q4 => aP1 p5 fun q5 => stOnce [q0, q1, q2, q3, q4, q5] = true ∧ fs [q0, q1, q2, q3, q4, q5] Q R) := by
  unfold oFn aP1
  refine propext ⟨fun ⟨_, qs, e, h1, h2⟩ => ?_, fun h => ?_⟩
  · obtain ⟨q0, r0, e0, f0, rfl⟩ := argPs_cons e
    obtain ⟨q1, r1, e1, f1, rfl⟩ := argPs_cons f0
    obtain ⟨q2, r2, e2, f2, rfl⟩ := argPs_cons f1
    obtain ⟨q3, r3, e3, f3, rfl⟩ := argPs_cons f2
    obtain ⟨q4, r4, e4, f4, rfl⟩ := argPs_cons f3
    obtain ⟨q5, r5, e5, f5, rfl⟩ := argPs_cons f4
    cases f5
    exact ⟨q0, e0, ⟨q1, e1, ⟨q2, e2, ⟨q3, e3, ⟨q4, e4, ⟨q5, e5, h1, h2⟩⟩⟩⟩⟩⟩
  · obtain ⟨q0, e0, ⟨q1, e1, ⟨q2, e2, ⟨q3, e3, ⟨q4, e4, ⟨q5, e5, h1, h2⟩⟩⟩⟩⟩⟩ := h
    exact ⟨rfl, [q0, q1, q2, q3, q4, q5], by simp only [argPs, e0, e1, e2, e3, e4, e5], h1, h2⟩
theorem stOnce_v (h : p.plain = true) : stOnce (p :: ps) = stOnce ps := by
  have e : isSt p = false := by cases p <;> first | rfl | cases h
  show (if isSt p = true then noSt ps else stOnce ps) = stOnce ps
  rw [e] <;> rfl
theorem noSt_v (h : p.plain = true) : noSt (p :: ps) = noSt ps := by
  have e : isSt p = false := by cases p <;> first | rfl | cases h
  show (!isSt p && noSt ps) = noSt ps
  rw [e] <;> rfl
theorem sto_non  : stOnce (.non :: qs) = stOnce qs := rfl
theorem nst_non  : noSt (.non :: qs) = noSt qs := rfl
theorem sto_bl {bb : Bool}  : stOnce ((.bl bb) :: qs) = stOnce qs := rfl
theorem nst_bl {bb : Bool}  : noSt ((.bl bb) :: qs) = noSt qs := rfl
theorem sto_int  : stOnce ((.int i) :: qs) = stOnce qs := rfl
theorem nst_int  : noSt ((.int i) :: qs) = noSt qs := rfl
theorem sto_str  : stOnce ((.str x) :: qs) = stOnce qs := rfl
theorem nst_str  : noSt ((.str x) :: qs) = noSt qs := rfl
theorem sto_adr {f : Addr}  : stOnce ((.adr f) :: qs) = stOnce qs := rfl
theorem nst_adr {f : Addr}  : noSt ((.adr f) :: qs) = noSt qs := rfl
theorem sto_tup  : stOnce ((.tup ps) :: qs) = stOnce qs := rfl
theorem nst_tup  : noSt ((.tup ps) :: qs) = noSt qs := rfl
theorem sto_lst  : stOnce ((.lst ps) :: qs) = stOnce qs := rfl
theorem nst_lst  : noSt ((.lst ps) :: qs) = noSt qs := rfl
theorem sto_scr  : stOnce ((.scr ps) :: qs) = stOnce qs := rfl
theorem nst_scr  : noSt ((.scr ps) :: qs) = noSt qs := rfl
theorem sto_obj {f : Addr} {ns : List Str}  : stOnce ((.obj f ns ps) :: qs) = stOnce qs := rfl
theorem nst_obj {f : Addr} {ns : List Str}  : noSt ((.obj f ns ps) :: qs) = noSt qs := rfl
theorem sto_dk {ks : List Key}  : stOnce ((.dk ks ps) :: qs) = stOnce qs := rfl
theorem nst_dk {ks : List Key}  : noSt ((.dk ks ps) :: qs) = noSt qs := rfl
theorem sto_st  : stOnce (.st :: qs) = noSt qs := rfl
theorem sto_nil  : stOnce [] = true := rfl
theorem nst_nil  : noSt [] = true := rfl
theorem wIsi_e {T : String} : wIsi (ansTy own T) a ρ Q R = a ρ (fun p => oIsi own T p Q) R := rfl
theorem oIsi_int_non   : oIsi own "int" .non Q = Q (.bl false) := propext (oIsi_int rfl)
theorem oIsi_int_bl {bb : Bool}  : oIsi own "int" (.bl bb) Q = Q (.bl true) := propext (oIsi_int rfl)
theorem oIsi_int_int   : oIsi own "int" (.int i) Q = Q (.bl true) := propext (oIsi_int rfl)
theorem oIsi_int_str   : oIsi own "int" (.str x) Q = Q (.bl false) := propext (oIsi_int rfl)
theorem oIsi_int_tup   : oIsi own "int" (.tup ps) Q = Q (.bl false) := propext (oIsi_int rfl)
theorem oIsi_int_lst   : oIsi own "int" (.lst ps) Q = Q (.bl false) := propext (oIsi_int rfl)
theorem oIsi_bool_non   : oIsi own "bool" .non Q = Q (.bl false) := propext (oIsi_bool rfl)
theorem oIsi_bool_bl {bb : Bool}  : oIsi own "bool" (.bl bb) Q = Q (.bl true) := propext (oIsi_bool rfl)
theorem oIsi_bool_int   : oIsi own "bool" (.int i) Q = Q (.bl false) := propext (oIsi_bool rfl)
theorem oIsi_bool_str   : oIsi own "bool" (.str x) Q = Q (.bl false) := propext (oIsi_bool rfl)
theorem oIsi_bool_tup   : oIsi own "bool" (.tup ps) Q = Q (.bl false) := propext (oIsi_bool rfl)
theorem oIsi_bool_lst   : oIsi own "bool" (.lst ps) Q = Q (.bl false) := propext (oIsi_bool rfl)
theorem oIsi_str_non   : oIsi own "str" .non Q = Q (.bl false) := propext (oIsi_str rfl)
theorem oIsi_str_bl {bb : Bool}  : oIsi own "str" (.bl bb) Q = Q (.bl false) := propext (oIsi_str rfl)
theorem oIsi_str_int   : oIsi own "str" (.int i) Q = Q (.bl false) := propext (oIsi_str rfl)
theorem oIsi_str_str   : oIsi own "str" (.str x) Q = Q (.bl true) := propext (oIsi_str rfl)
theorem oIsi_str_tup   : oIsi own "str" (.tup ps) Q = Q (.bl false) := propext (oIsi_str rfl)
theorem oIsi_str_lst   : oIsi own "str" (.lst ps) Q = Q (.bl false) := propext (oIsi_str rfl)
theorem oIsi_tuple_non   : oIsi own "tuple" .non Q = Q (.bl false) := propext (oIsi_tuple rfl)
theorem oIsi_tuple_bl {bb : Bool}  : oIsi own "tuple" (.bl bb) Q = Q (.bl false) := propext (oIsi_tuple rfl)
theorem oIsi_tuple_int   : oIsi own "tuple" (.int i) Q = Q (.bl false) := propext (oIsi_tuple rfl)
theorem oIsi_tuple_str   : oIsi own "tuple" (.str x) Q = Q (.bl false) := propext (oIsi_tuple rfl)
theorem oIsi_tuple_tup   : oIsi own "tuple" (.tup ps) Q = Q (.bl true) := propext (oIsi_tuple rfl)
theorem oIsi_tuple_lst   : oIsi own "tuple" (.lst ps) Q = Q (.bl false) := propext (oIsi_tuple rfl)
theorem oIsi_list_non   : oIsi own "list" .non Q = Q (.bl false) := propext (oIsi_list rfl)
theorem oIsi_list_bl {bb : Bool}  : oIsi own "list" (.bl bb) Q = Q (.bl false) := propext (oIsi_list rfl)
theorem oIsi_list_int   : oIsi own "list" (.int i) Q = Q (.bl false) := propext (oIsi_list rfl)
theorem oIsi_list_str   : oIsi own "list" (.str x) Q = Q (.bl false) := propext (oIsi_list rfl)
theorem oIsi_list_tup   : oIsi own "list" (.tup ps) Q = Q (.bl false) := propext (oIsi_list rfl)
theorem oIsi_list_lst   : oIsi own "list" (.lst ps) Q = Q (.bl true) := propext (oIsi_list rfl)
theorem oIx_t  : oIx (.tup xs) (.int i) Q R = ixP xs i Q := propext ⟨fun ⟨_, p, e1, e2, h⟩ => by cases e1; exact ⟨p, e2, h⟩, fun ⟨p, e2, h⟩ => ⟨_, p, rfl, e2, h⟩⟩
theorem cLen_t  : cLen [(.tup xs)] Q R = Q (.int xs.length) := propext ⟨fun ⟨_, e1, h⟩ => by cases e1; exact h, fun h => ⟨_, rfl, h⟩⟩
theorem cTup_t  : cTuple [(.tup xs)] Q R = Q (.tup xs) := propext ⟨fun ⟨_, _, e1, e2, h⟩ => by cases e1; cases e2; exact h, fun h => ⟨_, _, rfl, rfl, h⟩⟩
theorem cLst_t  : cList [(.tup xs)] Q R = Q (.new (.lst xs)) := propext ⟨fun ⟨_, _, e1, e2, h⟩ => by cases e1; cases e2; exact h, fun h => ⟨_, _, rfl, rfl, h⟩⟩
theorem oIx_s  : oIx (.scr xs) (.int i) Q R = ixP xs i Q := propext ⟨fun ⟨_, p, e1, e2, h⟩ => by cases e1; exact ⟨p, e2, h⟩, fun ⟨p, e2, h⟩ => ⟨_, p, rfl, e2, h⟩⟩
theorem cLen_s  : cLen [(.scr xs)] Q R = Q (.int xs.length) := propext ⟨fun ⟨_, e1, h⟩ => by cases e1; exact h, fun h => ⟨_, rfl, h⟩⟩
theorem cTup_s  : cTuple [(.scr xs)] Q R = Q (.tup xs) := propext ⟨fun ⟨_, _, e1, e2, h⟩ => by cases e1; cases e2; exact h, fun h => ⟨_, _, rfl, rfl, h⟩⟩
theorem cLst_s  : cList [(.scr xs)] Q R = Q (.new (.lst xs)) := propext ⟨fun ⟨_, _, e1, e2, h⟩ => by cases e1; cases e2; exact h, fun h => ⟨_, _, rfl, rfl, h⟩⟩
theorem oIx_l  : oIx (.lst xs) (.int i) Q R = ixP xs i Q := propext ⟨fun ⟨_, p, e1, e2, h⟩ => by cases e1; exact ⟨p, e2, h⟩, fun ⟨p, e2, h⟩ => ⟨_, p, rfl, e2, h⟩⟩
theorem cLen_l  : cLen [(.lst xs)] Q R = Q (.int xs.length) := propext ⟨fun ⟨_, e1, h⟩ => by cases e1; exact h, fun h => ⟨_, rfl, h⟩⟩
theorem cTup_l  : cTuple [(.lst xs)] Q R = Q (.tup xs) := propext ⟨fun ⟨_, _, e1, e2, h⟩ => by cases e1; cases e2; exact h, fun h => ⟨_, _, rfl, rfl, h⟩⟩
theorem cLst_l  : cList [(.lst xs)] Q R = Q (.new (.lst xs)) := propext ⟨fun ⟨_, _, e1, e2, h⟩ => by cases e1; cases e2; exact h, fun h => ⟨_, _, rfl, rfl, h⟩⟩
theorem oIx_n  : oIx (.new (.lst xs)) (.int i) Q R = ixP xs i Q := propext ⟨fun ⟨_, p, e1, e2, h⟩ => by cases e1; exact ⟨p, e2, h⟩, fun ⟨p, e2, h⟩ => ⟨_, p, rfl, e2, h⟩⟩
theorem cLen_n  : cLen [(.new (.lst xs))] Q R = Q (.int xs.length) := propext ⟨fun ⟨_, e1, h⟩ => by cases e1; exact h, fun h => ⟨_, rfl, h⟩⟩
theorem cTup_n  : cTuple [(.new (.lst xs))] Q R = Q (.tup xs) := propext ⟨fun ⟨_, _, e1, e2, h⟩ => by cases e1; cases e2; exact h, fun h => ⟨_, _, rfl, rfl, h⟩⟩
theorem cLst_n  : cList [(.new (.lst xs))] Q R = Q (.new (.lst xs)) := propext ⟨fun ⟨_, _, e1, e2, h⟩ => by cases e1; cases e2; exact h, fun h => ⟨_, _, rfl, rfl, h⟩⟩
theorem oIx_o  : oIx (.own (.lst xs)) (.int i) Q R = ixP xs i Q := propext ⟨fun ⟨_, p, e1, e2, h⟩ => by cases e1; exact ⟨p, e2, h⟩, fun ⟨p, e2, h⟩ => ⟨_, p, rfl, e2, h⟩⟩
theorem cLen_o  : cLen [(.own (.lst xs))] Q R = Q (.int xs.length) := propext ⟨fun ⟨_, e1, h⟩ => by cases e1; exact h, fun h => ⟨_, rfl, h⟩⟩
theorem cTup_o  : cTuple [(.own (.lst xs))] Q R = Q (.tup xs) := propext ⟨fun ⟨_, _, e1, e2, h⟩ => by cases e1; cases e2; exact h, fun h => ⟨_, _, rfl, rfl, h⟩⟩
theorem cLst_o  : cList [(.own (.lst xs))] Q R = Q (.new (.lst xs)) := propext ⟨fun ⟨_, _, e1, e2, h⟩ => by cases e1; cases e2; exact h, fun h => ⟨_, _, rfl, rfl, h⟩⟩
theorem ixP_0 {p0 : PV} : ixP (p0 :: ps) 0 Q = Q p0 := propext ⟨fun ⟨p, e, h⟩ => by
    have e2 : atI (p0 :: ps) 0 = some p0 := atI_nat (j := 0) rfl
    rw [e2] at e; cases e; exact h, fun h => ⟨_, atI_nat (j := 0) rfl, h⟩⟩
theorem ixP_1 {p0 p1 : PV} : ixP (p0 :: p1 :: ps) 1 Q = Q p1 := propext ⟨fun ⟨p, e, h⟩ => by
    have e2 : atI (p0 :: p1 :: ps) 1 = some p1 := atI_nat (j := 1) rfl
    rw [e2] at e; cases e; exact h, fun h => ⟨_, atI_nat (j := 1) rfl, h⟩⟩
theorem ixP_2 {p0 p1 p2 : PV} : ixP (p0 :: p1 :: p2 :: ps) 2 Q = Q p2 := propext ⟨fun ⟨p, e, h⟩ => by
    have e2 : atI (p0 :: p1 :: p2 :: ps) 2 = some p2 := atI_nat (j := 2) rfl
    rw [e2] at e; cases e; exact h, fun h => ⟨_, atI_nat (j := 2) rfl, h⟩⟩
theorem ixP_3 {p0 p1 p2 p3 : PV} : ixP (p0 :: p1 :: p2 :: p3 :: ps) 3 Q = Q p3 := propext ⟨fun ⟨p, e, h⟩ => by
    have e2 : atI (p0 :: p1 :: p2 :: p3 :: ps) 3 = some p3 := atI_nat (j := 3) rfl
    rw [e2] at e; cases e; exact h, fun h => ⟨_, atI_nat (j := 3) rfl, h⟩⟩
theorem ixP_4 {p0 p1 p2 p3 p4 : PV} : ixP (p0 :: p1 :: p2 :: p3 :: p4 :: ps) 4 Q = Q p4 := propext ⟨fun ⟨p, e, h⟩ => by
    have e2 : atI (p0 :: p1 :: p2 :: p3 :: p4 :: ps) 4 = some p4 := atI_nat (j := 4) rfl
    rw [e2] at e; cases e; exact h, fun h => ⟨_, atI_nat (j := 4) rfl, h⟩⟩
theorem ixP_5 {p0 p1 p2 p3 p4 p5 : PV} : ixP (p0 :: p1 :: p2 :: p3 :: p4 :: p5 :: ps) 5 Q = Q p5 := propext ⟨fun ⟨p, e, h⟩ => by
    have e2 : atI (p0 :: p1 :: p2 :: p3 :: p4 :: p5 :: ps) 5 = some p5 := atI_nat (j := 5) rfl
    rw [e2] at e; cases e; exact h, fun h => ⟨_, atI_nat (j := 5) rfl, h⟩⟩
theorem wSl_e {wl wh : WPt} : wSl a wl wh ρ Q R = a ρ (fun x => wl ρ (fun lo => wh ρ (fun hi => oSl x lo hi Q) R) R) R := rfl
theorem wPn_e {K : Option Int → Prop} : wPn ρ K R = K none := rfl
theorem wPs_e {K : Option Int → Prop} : wPs a ρ K R = a ρ (fun x => kI x (fun i => K (some i))) R := by
  have e : (fun x : PV => match x with
    | .int i => K (some i)
    | _ => False) = fun x => kI x (fun i => K (some i)) := by
    funext x
    cases x <;> rfl
  show a ρ (fun x : PV => match x with
    | .int i => K (some i)
    | _ => False) R = _
  rw [e]
theorem oSl_t {lo hi : Option Int} : oSl (.tup xs) lo hi Q = Q (.tup (cutP xs lo hi)) := rfl
theorem oSl_s {lo hi : Option Int} : oSl (.scr xs) lo hi Q = Q (.new (.lst (cutP xs lo hi))) := rfl
theorem oSl_l {lo hi : Option Int} : oSl (.lst xs) lo hi Q = Q (.new (.lst (cutP xs lo hi))) := propext ⟨fun ⟨_, e1, h⟩ => by cases e1; exact h, fun h => ⟨_, rfl, h⟩⟩
theorem oSl_n {lo hi : Option Int} : oSl (.new (.lst xs)) lo hi Q = Q (.new (.lst (cutP xs lo hi))) := propext ⟨fun ⟨_, e1, h⟩ => by cases e1; exact h, fun h => ⟨_, rfl, h⟩⟩
theorem oSl_o {lo hi : Option Int} : oSl (.own (.lst xs)) lo hi Q = Q (.new (.lst (cutP xs lo hi))) := propext ⟨fun ⟨_, e1, h⟩ => by cases e1; exact h, fun h => ⟨_, rfl, h⟩⟩
theorem cAbs_i  : cAbs [.int i] Q R = Q (.int i.natAbs) := rfl
theorem cInt_i  : cInt [.int i] Q R = Q (.int i) := rfl
theorem cMin2_ii  : cMin2 [.int i, .int j] Q R = Q (.int (if j < i then j else i)) := rfl
theorem cMax2_ii  : cMax2 [.int i, .int j] Q R = Q (.int (if j > i then j else i)) := rfl
theorem wSeq_Set {t : WSt} {td : TD} {n m l : Nat} {e : EX} {b1 b2 b3 : Bool} {ad : Addr} : wSeq (wSet n a) r D ρ = (wSet n a) ⟨fun ρ' => r D ρ', D.rt, D.bk, D.ct, D.ex⟩ ρ := rfl
theorem wSeq_If {t : WSt} {td : TD} {n m l : Nat} {e : EX} {b1 b2 b3 : Bool} {ad : Addr} : wSeq (wIf ta s t) r D ρ = (wIf ta s t) ⟨fun ρ' => r D ρ', D.rt, D.bk, D.ct, D.ex⟩ ρ := rfl
theorem wSeq_Exp {t : WSt} {td : TD} {n m l : Nat} {e : EX} {b1 b2 b3 : Bool} {ad : Addr} : wSeq (wExpr a) r D ρ = (wExpr a) ⟨fun ρ' => r D ρ', D.rt, D.bk, D.ct, D.ex⟩ ρ := rfl
theorem wSeq_Asg {t : WSt} {td : TD} {n m l : Nat} {e : EX} {b1 b2 b3 : Bool} {ad : Addr} : wSeq (wAsg a td) r D ρ = (wAsg a td) ⟨fun ρ' => r D ρ', D.rt, D.bk, D.ct, D.ex⟩ ρ := rfl
theorem wSeq_Seq {t : WSt} {td : TD} {n m l : Nat} {e : EX} {b1 b2 b3 : Bool} {ad : Addr} : wSeq (wSeq s t) r D ρ = (wSeq s t) ⟨fun ρ' => r D ρ', D.rt, D.bk, D.ct, D.ex⟩ ρ := rfl
theorem wSeq_Own {t : WSt} {td : TD} {n m l : Nat} {e : EX} {b1 b2 b3 : Bool} {ad : Addr} : wSeq (wOwnC n a) r D ρ = (wOwnC n a) ⟨fun ρ' => r D ρ', D.rt, D.bk, D.ct, D.ex⟩ ρ := rfl
theorem wSeq_StS {t : WSt} {td : TD} {n m l : Nat} {e : EX} {b1 b2 b3 : Bool} {ad : Addr} : wSeq (wStSC n a) r D ρ = (wStSC n a) ⟨fun ρ' => r D ρ', D.rt, D.bk, D.ct, D.ex⟩ ρ := rfl
theorem wSeq_App {t : WSt} {td : TD} {n m l : Nat} {e : EX} {b1 b2 b3 : Bool} {ad : Addr} : wSeq (wApp n a) r D ρ = (wApp n a) ⟨fun ρ' => r D ρ', D.rt, D.bk, D.ct, D.ex⟩ ρ := rfl
theorem wSeq_Next {t : WSt} {td : TD} {n m l : Nat} {e : EX} {b1 b2 b3 : Bool} {ad : Addr} : wSeq wNext r D ρ = wNext ⟨fun ρ' => r D ρ', D.rt, D.bk, D.ct, D.ex⟩ ρ := rfl
theorem wSeq_Ret {t : WSt} {td : TD} {n m l : Nat} {e : EX} {b1 b2 b3 : Bool} {ad : Addr} : wSeq (wRet a) r D ρ = (wRet a) ⟨fun ρ' => r D ρ', D.rt, D.bk, D.ct, D.ex⟩ ρ := rfl
theorem wSeq_Rais {t : WSt} {td : TD} {n m l : Nat} {e : EX} {b1 b2 b3 : Bool} {ad : Addr} : wSeq (wRaise e) r D ρ = (wRaise e) ⟨fun ρ' => r D ρ', D.rt, D.bk, D.ct, D.ex⟩ ρ := rfl
theorem wSeq_Par {t : WSt} {td : TD} {n m l : Nat} {e : EX} {b1 b2 b3 : Bool} {ad : Addr} : wSeq (wPar n m b1 b2 a b) r D ρ = (wPar n m b1 b2 a b) ⟨fun ρ' => r D ρ', D.rt, D.bk, D.ct, D.ex⟩ ρ := rfl
theorem wSeq_Par3 {t : WSt} {td : TD} {n m l : Nat} {e : EX} {b1 b2 b3 : Bool} {ad : Addr} : wSeq (wPar3 n m l b1 b2 b3 a b c) r D ρ = (wPar3 n m l b1 b2 b3 a b c) ⟨fun ρ' => r D ρ', D.rt, D.bk, D.ct, D.ex⟩ ρ := rfl
theorem wSeq_St0 {t : WSt} {td : TD} {n m l : Nat} {e : EX} {b1 b2 b3 : Bool} {ad : Addr} : wSeq (wSt0S n a) r D ρ = (wSt0S n a) ⟨fun ρ' => r D ρ', D.rt, D.bk, D.ct, D.ex⟩ ρ := rfl
theorem wSeq_St1 {t : WSt} {td : TD} {n m l : Nat} {e : EX} {b1 b2 b3 : Bool} {ad : Addr} : wSeq (wSt1S n a) r D ρ = (wSt1S n a) ⟨fun ρ' => r D ρ', D.rt, D.bk, D.ct, D.ex⟩ ρ := rfl
theorem wSeq_Brk {t : WSt} {td : TD} {n m l : Nat} {e : EX} {b1 b2 b3 : Bool} {ad : Addr} : wSeq wBreak r D ρ = wBreak ⟨fun ρ' => r D ρ', D.rt, D.bk, D.ct, D.ex⟩ ρ := rfl
theorem wSeq_Cnt {t : WSt} {td : TD} {n m l : Nat} {e : EX} {b1 b2 b3 : Bool} {ad : Addr} : wSeq wCont r D ρ = wCont ⟨fun ρ' => r D ρ', D.rt, D.bk, D.ct, D.ex⟩ ρ := rfl
theorem wSeq_RetN {t : WSt} {td : TD} {n m l : Nat} {e : EX} {b1 b2 b3 : Bool} {ad : Addr} : wSeq wRetN r D ρ = wRetN ⟨fun ρ' => r D ρ', D.rt, D.bk, D.ct, D.ex⟩ ρ := rfl
theorem wSeq_RaiF {t : WSt} {td : TD} {n m l : Nat} {e : EX} {b1 b2 b3 : Bool} {ad : Addr} : wSeq (wRaiseF ad x a) r D ρ = (wRaiseF ad x a) ⟨fun ρ' => r D ρ', D.rt, D.bk, D.ct, D.ex⟩ ρ := rfl
theorem wSet_e  : wSet n a D ρ = a ρ (fun p => stP p fun q => sE ρ n (some q) D.nx) fun x => D.ex x ρ := rfl
theorem wOwn_e  : wOwnC n a D ρ = (n < ρ.length ∧ a ρ (fun p => nwP p fun q => sE ρ n (some (.own q)) D.nx) fun x => D.ex x ρ) := rfl
theorem sE_0 {v : Option PV} {K : PEnv → Prop} : sE (ob :: ρ) 0 v K = K (v :: ρ) := rfl
theorem sE_s {v : Option PV} {K : PEnv → Prop} : sE (ob :: ρ) (n + 1) v K = sE ρ n v (fun ρ' => K (ob :: ρ')) := rfl
theorem wIf_e  : wIf ta s r D ρ = ta ρ (fun k => if k = true then s D ρ else r D ρ) fun x => D.ex x ρ := rfl
theorem wRet_e  : wRet a D ρ = a ρ (fun p => rtP p D.rt) fun x => D.ex x ρ := rfl
theorem wRetN_e  : wRetN D ρ = D.rt .non := rfl
theorem wNext_e  : wNext D ρ = D.nx ρ := rfl
theorem wBreak_e  : wBreak D ρ = D.bk ρ := rfl
theorem wCont_e  : wCont D ρ = D.ct ρ := rfl
theorem wExpr_e  : wExpr a D ρ = a ρ (fun _ => D.nx ρ) fun x => D.ex x ρ := rfl
theorem wRaise_e {e : EX} : wRaise e D ρ = D.ex e ρ := rfl
theorem wRaiseF_e {ad : Addr} : wRaiseF ad x a D ρ = a ρ (fun p => stP p fun q => D.ex ⟨ad, some (x, q)⟩ ρ) fun x => D.ex x ρ := rfl
theorem wAsg_e {td : TD} : wAsg a td D ρ = a ρ (fun p => stP p fun q => tgP td q ρ D.nx) fun x => D.ex x ρ := rfl
theorem tgP_name {K : PEnv → Prop} : tgP (.name n) p ρ K = sE ρ n (some p) K := rfl
theorem tgP_tup {K : PEnv → Prop} {l : TDs} : tgP (.tup n l) (.tup xs) ρ K = (xs.length = n ∧ tgPs l xs ρ K) := propext ⟨fun ⟨_, e, h⟩ => by cases e; exact h, fun h => ⟨_, rfl, h⟩⟩
theorem tgPs_nil {K : PEnv → Prop} : tgPs .nil [] ρ K = K ρ := propext ⟨fun h => h.2, fun h => ⟨rfl, h⟩⟩
theorem tgPs_cons {K : PEnv → Prop} {td : TD} {l : TDs} : tgPs (.cons td l) (p :: ps) ρ K = tgP td p ρ fun ρ' => tgPs l ps ρ' K := propext ⟨fun ⟨_, _, e, h⟩ => by cases e; exact h, fun h => ⟨_, _, rfl, h⟩⟩
theorem wTry_e {h : PEnds → EX → PEnv → Prop} : wTry s h D ρ = s ⟨D.nx, D.rt, D.bk, D.ct, fun x ρ' => h D x ρ'⟩ ρ := rfl
theorem wPar_ff {n m : Nat} : wPar n m false false a b D ρ = a ρ (fun p => b ρ (fun q => stP p fun p' => stP q fun q' => (noStAt ρ n ∧ n < ρ.length ∧ m < ρ.length) ∧ sE ρ n (some p') fun ρ' => sE ρ' m (some q') D.nx) fun x => D.ex x ρ) fun x => D.ex x ρ := by
  unfold wPar
  congr 1
  funext p
  congr 1
  funext q
  refine propext ⟨fun ⟨p', q', e1, e2, _, h1, h2, h3, h⟩ => ?_, fun ⟨h1, h2, ⟨h3, h4, h5⟩, h⟩ => ⟨p.thaw, q.thaw, if_pos h1, if_pos h2, fun z => (nomatch z), h3, h4, h5, h⟩⟩
  unfold L3.stored at e1 e2
  dsimp only at e1 e2
  split at e1
  · split at e2
    · cases e1; cases e2
      exact ⟨by assumption, by assumption, ⟨h1, h2, h3⟩, h⟩
    · cases e2
  · cases e1
theorem noSt_0n  : noStAt (none :: ρ) 0 = True := eq_true fun z => by cases z
theorem noSt_0non  : noStAt (some .non :: ρ) 0 = True := eq_true fun z => by cases z
theorem noSt_0bl {bb : Bool} : noStAt (some (.bl bb) :: ρ) 0 = True := eq_true fun z => by cases z
theorem noSt_0int  : noStAt (some (.int i) :: ρ) 0 = True := eq_true fun z => by cases z
theorem noSt_0str  : noStAt (some (.str x) :: ρ) 0 = True := eq_true fun z => by cases z
theorem noSt_0tup  : noStAt (some (.tup ps) :: ρ) 0 = True := eq_true fun z => by cases z
theorem noSt_0lst  : noStAt (some (.lst ps) :: ρ) 0 = True := eq_true fun z => by cases z
theorem noSt_0ol  : noStAt (some (.own p) :: ρ) 0 = True := eq_true fun z => by cases z
theorem noSt_s  : noStAt (ob :: ρ) (n + 1) = noStAt ρ n := rfl
theorem sSt0  : wSt0 0 (some .st :: ρ) Q R = ∀ x : Int, 0 ≤ x → Q (.int x) := propext ⟨fun h => h.2, fun h => ⟨rfl, h⟩⟩
theorem sSt1  : wSt1 0 (some .st :: ρ) Q R = ∀ x : Int, 0 ≤ x ∧ x < 2147483647 → Q (.int x) := propext ⟨fun h x hx => h.2 x hx.1 hx.2, fun h => ⟨rfl, fun x h1 h2 => h x ⟨h1, h2⟩⟩⟩
theorem sSt0S  : wSt0S 0 a D (some .st :: ρ) = a (some .st :: ρ) (fun p => kI p fun x => 0 ≤ x ∧ D.nx (some .st :: ρ)) fun x => D.ex x (some .st :: ρ) := by
  have e : (fun p => ∃ x : Int, p = PV.int x ∧ 0 ≤ x ∧ D.nx (some .st :: ρ)) = fun p => kI p fun x => 0 ≤ x ∧ D.nx (some .st :: ρ) := by
    funext p
    cases p <;> simp [kI]
  rw [← e]
  exact propext ⟨fun h => h.2, fun h => ⟨rfl, h⟩⟩
theorem sSt1S  : wSt1S 0 a D (some .st :: ρ) = a (some .st :: ρ) (fun p => kI p fun x => 0 ≤ x ∧ x < 2147483647 ∧ D.nx (some .st :: ρ)) fun x => D.ex x (some .st :: ρ) := by
  have e : (fun p => ∃ x : Int, p = PV.int x ∧ 0 ≤ x ∧ x < 2147483647 ∧ D.nx (some .st :: ρ)) = fun p => kI p fun x => 0 ≤ x ∧ x < 2147483647 ∧ D.nx (some .st :: ρ) := by
    funext p
    cases p <;> simp [kI]
  rw [← e]
  exact propext ⟨fun h => h.2, fun h => ⟨rfl, h⟩⟩
theorem wOwnS_e  : wStSC n a D ρ = (n < ρ.length ∧ a ρ (fun p => ns2 p fun _ => sE ρ n (some .st) D.nx) fun x => D.ex x ρ) := rfl
theorem fnE_nx  : (fnEnds Q R).nx = fun _ => Q .non := rfl
theorem fnE_rt  : (fnEnds Q R).rt = Q := rfl
theorem fnE_ex  : (fnEnds Q R).ex = fun x _ => R x := rfl
end
end L3

/-! Values without the heap: loops. -/
namespace L3
open PySem PySem.Spec L2
section
variable {p q : PV} {Q : PQ} {R : XQ} {ρ : PEnv} {a b : WEx} {s r : WSt} {D : PEnds} {i j : Int} {ps qs xs : List PV} {K : List PV → Prop} {wi : WIt} {td : TD} {c t : WTs} {n : Nat} {ob : Option PV} {e : WEx} {vs : List Nat}
def loopP (xs : List PV) (td : TD) (b : WSt) (D : PEnds) (ρ : PEnv) : Prop := ∃ I : Nat → PEnv → Prop, I 0 ρ ∧ (∀ i ρ p, I i ρ → xs[i]? = some p → tgW td p ρ fun ρ' => b ⟨I (i + 1), D.rt, D.nx, I (i + 1), D.ex⟩ ρ') ∧ ∀ ρ, I xs.length ρ → D.nx ρ
def loopS (xs : List PV) (td : TD) (b r : WSt) (D : PEnds) (ρ : PEnv) : Prop := loopP xs td b ⟨fun ρ' => r D ρ', D.rt, D.bk, D.ct, D.ex⟩ ρ
def whileS (c : WTs) (b r : WSt) (D : PEnds) (ρ : PEnv) : Prop := wWhile c b ⟨fun ρ' => r D ρ', D.rt, D.bk, D.ct, D.ex⟩ ρ
theorem wFor_e : wFor wi td s D ρ = wi ρ (fun xs => loopP xs td s D ρ) fun x => D.ex x ρ := rfl
theorem wSeq_For : wSeq (wFor wi td s) r D ρ = wi ρ (fun xs => loopS xs td s r D ρ) fun x => D.ex x ρ := rfl
theorem wSeq_While : wSeq (wWhile c s) r D ρ = whileS c s r D ρ := rfl
def wkP (own : Bool) (p : PV) (K : List PV → Prop) : Prop := ∃ xs, p.walks own = some xs ∧ K xs
theorem wiSeq_e {own : Bool} : wiSeq own a ρ K R = a ρ (fun p => wkP own p K) R := rfl
theorem wk_t {own : Bool} : wkP own (.tup xs) K = K xs := propext ⟨fun ⟨_, e, h⟩ => by cases e; exact h, fun h => ⟨_, rfl, h⟩⟩
theorem wk_s {own : Bool} : wkP own (.scr xs) K = K xs := propext ⟨fun ⟨_, e, h⟩ => by cases e; exact h, fun h => ⟨_, rfl, h⟩⟩
theorem wk_l {own : Bool} : wkP own (.lst xs) K = K xs := propext ⟨fun ⟨_, e, h⟩ => by cases e; exact h, fun h => ⟨_, rfl, h⟩⟩
theorem wk_n {own : Bool} : wkP own (.new (.lst xs)) K = K xs := propext ⟨fun ⟨_, e, h⟩ => by cases e; exact h, fun h => ⟨_, rfl, h⟩⟩
theorem wk_o : wkP true (.own (.lst xs)) K = K xs := propext ⟨fun ⟨_, e, h⟩ => by cases e; exact h, fun h => ⟨_, rfl, h⟩⟩
theorem wiRg1_e : wiRg1 a ρ K R = a ρ (fun x => kI x fun j => rgOk j ∧ K (rgP 0 j.toNat)) R := by
  have e : (fun x : PV => match x with
    | .int j => rgOk j ∧ K (rgP 0 j.toNat)
    | _ => False) = fun x => kI x fun j => rgOk j ∧ K (rgP 0 j.toNat) := by
    funext x
    cases x <;> rfl
  show a ρ (fun x : PV => match x with
    | .int j => rgOk j ∧ K (rgP 0 j.toNat)
    | _ => False) R = _
  rw [e]
theorem wiRg2_e : wiRg2 a b ρ K R = a ρ (fun x => b ρ (fun y => kI x fun i => kI y fun j => (rgOk i ∧ rgOk j) ∧ K (rgP i (j - i).toNat)) R) R := by
  have e : ∀ x : PV, (fun y : PV => match x, y with
    | .int i, .int j => rgOk i ∧ rgOk j ∧ K (rgP i (j - i).toNat)
    | _, _ => False) = fun y => kI x fun i => kI y fun j => (rgOk i ∧ rgOk j) ∧ K (rgP i (j - i).toNat) := by
    intro x
    funext y
    cases x <;> first | rfl | (cases y <;> first | rfl | exact propext (and_assoc).symm)
  show a ρ (fun x : PV => b ρ (fun y : PV => match x, y with
    | .int i, .int j => rgOk i ∧ rgOk j ∧ K (rgP i (j - i).toNat)
    | _, _ => False) R) R = _
  exact congrArg (fun z => a ρ z R) (funext fun x => congrArg (fun z => b ρ z R) (e x))
theorem wLRg2_e : wLRg2 a b ρ Q R = a ρ (fun x => b ρ (fun y => kI x fun i => kI y fun j => rgLOk i j ∧ Q (.new (.lst (rgP i (j - i).toNat)))) R) R := by
  have e : ∀ x : PV, (fun y : PV => match x, y with
    | .int i, .int j => rgLOk i j ∧ Q (.new (.lst (rgP i (j - i).toNat)))
    | _, _ => False) = fun y => kI x fun i => kI y fun j => rgLOk i j ∧ Q (.new (.lst (rgP i (j - i).toNat))) := by
    intro x
    funext y
    cases x <;> first | rfl | (cases y <;> rfl)
  show a ρ (fun x : PV => b ρ (fun y : PV => match x, y with
    | .int i, .int j => rgLOk i j ∧ Q (.new (.lst (rgP i (j - i).toNat)))
    | _, _ => False) R) R = _
  exact congrArg (fun z => a ρ z R) (funext fun x => congrArg (fun z => b ρ z R) (e x))
theorem wLRg1_e : wLRg1 a ρ Q R = a ρ (fun x => kI x fun j => rgLOk 0 j ∧ Q (.new (.lst (rgP 0 j.toNat)))) R := by
  have e : (fun x : PV => match x with
    | .int j => rgLOk 0 j ∧ Q (.new (.lst (rgP 0 j.toNat)))
    | _ => False) = fun x => kI x fun j => rgLOk 0 j ∧ Q (.new (.lst (rgP 0 j.toNat))) := by
    funext x
    cases x <;> rfl
  show a ρ (fun x : PV => match x with
    | .int j => rgLOk 0 j ∧ Q (.new (.lst (rgP 0 j.toNat)))
    | _ => False) R = _
  rw [e]
/-! loops by a state -/
theorem loopP_st {σ : Type} (env : σ → PEnv) (J : Nat → σ → Prop) (s0 : σ) (h0 : ρ = env s0 ∧ J 0 s0)
    (hs : ∀ i s p, J i s → xs[i]? = some p → tgP td p (env s) fun ρ' => r ⟨fun ρ'' => ∃ s', ρ'' = env s' ∧ J (i + 1) s', D.rt, D.nx, fun ρ'' => ∃ s', ρ'' = env s' ∧ J (i + 1) s', D.ex⟩ ρ')
    (he : ∀ s, J xs.length s → D.nx (env s)) : loopP xs td r D ρ :=
  ⟨fun i ρ => ∃ s, ρ = env s ∧ J i s, ⟨s0, h0⟩, fun i ρ p ⟨s, e, h⟩ hp => by subst e; exact hs i s p h hp, fun ρ ⟨s, e, h⟩ => by subst e; exact he s h⟩
theorem loopS_st {σ : Type} (env : σ → PEnv) (J : Nat → σ → Prop) (s0 : σ) (h0 : ρ = env s0 ∧ J 0 s0)
    (hs : ∀ i st p, J i st → xs[i]? = some p → tgP td p (env st) fun ρ' => s ⟨fun ρ'' => ∃ s', ρ'' = env s' ∧ J (i + 1) s', D.rt, fun ρ' => r D ρ', fun ρ'' => ∃ s', ρ'' = env s' ∧ J (i + 1) s', D.ex⟩ ρ')
    (he : ∀ st, J xs.length st → r D (env st)) : loopS xs td s r D ρ := loopP_st (D := ⟨fun ρ' => r D ρ', D.rt, D.bk, D.ct, D.ex⟩) env J s0 h0 hs he
theorem while_st {σ : Type} (env : σ → PEnv) (J : σ → Prop) (m : σ → Nat) (s0 : σ) (h0 : ρ = env s0 ∧ J s0)
    (hs : ∀ st, J st → c (env st) (fun k => if k = true then s ⟨fun ρ'' => ∃ s', ρ'' = env s' ∧ J s' ∧ m s' < m st, D.rt, D.nx, fun ρ'' => ∃ s', ρ'' = env s' ∧ J s' ∧ m s' < m st, D.ex⟩ (env st) else D.nx (env st)) fun x => D.ex x (env st)) : wWhile c s D ρ := by
  refine ⟨fun n ρ => ∃ st, ρ = env st ∧ J st ∧ m st = n, ⟨m s0, s0, h0.1, h0.2, rfl⟩, fun n ρ ⟨st, e, h, en⟩ => ?_⟩
  subst e en
  have hb : (fun ρ'' => ∃ s', ρ'' = env s' ∧ J s' ∧ m s' < m st) = fun ρ' => ∃ m', m' < m st ∧ ∃ st', ρ' = env st' ∧ J st' ∧ m st' = m' := by
    funext ρ'
    exact propext ⟨fun ⟨s', h1, h2, h3⟩ => ⟨_, h3, s', h1, h2, rfl⟩, fun ⟨_, h3, s', h1, h2, h4⟩ => ⟨s', h1, h2, by rw [h4]; exact h3⟩⟩
  have := hs st h
  rw [hb] at this
  exact this
theorem whileS_st {σ : Type} (env : σ → PEnv) (J : σ → Prop) (m : σ → Nat) (s0 : σ) (h0 : ρ = env s0 ∧ J s0)
    (hs : ∀ st, J st → c (env st) (fun k => if k = true then s ⟨fun ρ'' => ∃ s', ρ'' = env s' ∧ J s' ∧ m s' < m st, D.rt, fun ρ' => r D ρ', fun ρ'' => ∃ s', ρ'' = env s' ∧ J s' ∧ m s' < m st, D.ex⟩ (env st) else r D (env st)) fun x => D.ex x (env st)) : whileS c s r D ρ :=
  while_st (D := ⟨fun ρ' => r D ρ', D.rt, D.bk, D.ct, D.ex⟩) env J m s0 h0 hs
/-! comprehensions -/
def compP (xs : List PV) (td : TD) (t : WTs) (e : WEx) (ρ : PEnv) (Q : PQ) : Prop := ∃ I : Nat → List PV → Prop, I 0 [] ∧
  (∀ i acc p, I i acc → xs[i]? = some p → tgW td p ρ fun ρ2 => t ρ2 (fun b => if b = true then e ρ2 (fun q => q.gives = true ∧ acc.length < sizeLine ∧ I (i + 1) (acc ++ [q.thaw])) (fun _ => False) else I (i + 1) acc) fun _ => False) ∧
  ∀ acc, I xs.length acc → Q (.new (.lst acc))
def wipeC (ρ : PEnv) (vs : List Nat) (K : PEnv → Prop) : Prop := K (wipeP ρ vs)
theorem wComp_e : wComp wi td t e vs ρ Q R = wi ρ (fun xs => noMut ρ vs = true ∧ wipeC ρ vs fun ρ' => compP xs td t e ρ' Q) R := rfl
def nm1 (ρ : PEnv) (i : Nat) : Bool := match ρ[i]? with
  | some (some p) => !isMut p
  | _ => true
theorem noMut_c : noMut ρ (n :: vs) = (nm1 ρ n && noMut ρ vs) := rfl
theorem noMut_n : noMut ρ [] = true := rfl
theorem nm1_0 : nm1 (none :: ρ) 0 = true := rfl
theorem nm1_int : nm1 (some (.int i) :: ρ) 0 = true := rfl
theorem nm1_tup : nm1 (some (.tup xs) :: ρ) 0 = true := rfl
theorem nm1_s : nm1 (ob :: ρ) (n + 1) = nm1 ρ n := rfl
theorem nm1_v (h : p.plain = true) : nm1 (some p :: ρ) 0 = true := by
  have e : isMut p = false := by cases p <;> first | rfl | cases h
  show (!isMut p) = true
  rw [e] <;> rfl
theorem comp_acc (ys : Nat → List PV) (h0 : ys 0 = []) (h : ∀ i p, xs[i]? = some p → tgP td p ρ fun ρ2 => t ρ2 (fun b => if b = true then e ρ2 (fun q => stP q fun q' => (ys i).length < sizeLine ∧ ys (i + 1) = ys i ++ [q']) (fun _ => False) else ys (i + 1) = ys i) fun _ => False)
    (hq : Q (.new (.lst (ys xs.length)))) : compP xs td t e ρ Q := by
  refine ⟨fun i acc => ys i = acc, h0, fun i acc p ha hp => ?_, fun acc ha => by subst ha; exact hq⟩
  subst ha
  exact h i p hp
theorem comp_yes (ys : List PV) (hl : ys.length = xs.length) (hz : xs.length ≤ sizeLine)
    (h : ∀ (i : Nat) (p y : PV), xs[i]? = some p → ys[i]? = some y → tgP td p ρ fun ρ2 => e ρ2 (fun q => stP q fun q' => q' = y) fun _ => False) (hq : Q (.new (.lst ys))) : compP xs td wYes e ρ Q := by
  refine comp_acc (fun i => ys.take i) rfl (fun i p hp => ?_) ?_
  · have hx : i < xs.length := (List.getElem?_eq_some_iff.mp hp).1
    have hy : ys[i]? = some ys[i] := List.getElem?_eq_getElem (by omega)
    have z := h i p _ hp hy
    have e1 : (fun q : PV => stP q fun q' => q' = ys[i]) = fun q => stP q fun q' => (ys.take i).length < sizeLine ∧ ys.take (i + 1) = ys.take i ++ [q'] := by
      funext q
      have e2 : ys.take (i + 1) = ys.take i ++ [ys[i]] := by rw [List.take_succ, hy]; rfl
      have e3 : (ys.take i).length < sizeLine := by rw [List.length_take]; omega
      unfold stP
      refine propext ⟨fun ⟨h1, h2⟩ => ⟨h1, e3, by rw [e2, h2]⟩, fun ⟨h1, _, h2⟩ => ⟨h1, ?_⟩⟩
      rw [e2] at h2
      have := List.append_cancel_left h2
      simpa using this.symm
    rw [e1] at z
    exact z
  · have : ys.take xs.length = ys := List.take_of_length_le (by omega)
    simp only [this]
    exact hq
theorem wYes_e {K : Bool → Prop} : wYes ρ K R = K true := rfl
theorem wipeC_n {K : PEnv → Prop} : wipeC ρ [] K = K ρ := rfl
theorem wipeC_1 {K : PEnv → Prop} : wipeC ρ [n] K = sE ρ n none K := rfl
theorem wipeC_2 {K : PEnv → Prop} {m : Nat} : wipeC ρ [n, m] K = sE ρ m none fun ρ' => sE ρ' n none K := rfl
theorem wipeC_3 {K : PEnv → Prop} {m l : Nat} : wipeC ρ [n, m, l] K = sE ρ l none fun ρ' => sE ρ' m none fun ρ' => sE ρ' n none K := rfl
theorem cAll_b {bs : List Bool} {Q : PQ} : cAll [.new (.lst (bs.map .bl))] Q R = Q (.bl (bs.all id)) := by
  refine propext ⟨fun ⟨_, cs, e1, e2, h⟩ => ?_, fun h => ⟨_, bs, rfl, rfl, h⟩⟩
  cases e1
  have e3 : bs.map PV.bl = cs.map PV.bl := Option.some.inj (show some (bs.map PV.bl) = some (cs.map PV.bl) from e2)
  have e4 : bs = cs := List.map_inj_right (fun _ _ z => by cases z; rfl) |>.mp e3
  rw [e4]; exact h
theorem cAny_b {bs : List Bool} {Q : PQ} : cAny [.new (.lst (bs.map .bl))] Q R = Q (.bl (bs.any id)) := by
  refine propext ⟨fun ⟨_, cs, e1, e2, h⟩ => ?_, fun h => ⟨_, bs, rfl, rfl, h⟩⟩
  cases e1
  have e3 : bs.map PV.bl = cs.map PV.bl := Option.some.inj (show some (bs.map PV.bl) = some (cs.map PV.bl) from e2)
  have e4 : bs = cs := List.map_inj_right (fun _ _ z => by cases z; rfl) |>.mp e3
  rw [e4]; exact h
theorem oEq_d {x y : PV} {d e : PyData} (h1 : x.toD = some d) (h2 : y.toD = some e) (h3 : SeqAt.shaped d = true) (h4 : SeqAt.shaped e = true) : oEq x y Q R = Q (.bl (PyData.eqv d e)) := by
  refine propext ⟨fun ⟨d', e', e1, e2, _, _, h⟩ => ?_, fun h => ⟨d, e, h1, h2, h3, h4, h⟩⟩
  rw [h1] at e1; rw [h2] at e2; cases e1; cases e2; exact h
theorem oNe_d {x y : PV} {d e : PyData} (h1 : x.toD = some d) (h2 : y.toD = some e) (h3 : SeqAt.shaped d = true) (h4 : SeqAt.shaped e = true) : oNe x y Q R = Q (.bl (!PyData.eqv d e)) := by
  refine propext ⟨fun ⟨d', e', e1, e2, _, _, h⟩ => ?_, fun h => ⟨d, e, h1, h2, h3, h4, h⟩⟩
  rw [h1] at e1; rw [h2] at e2; cases e1; cases e2; exact h
theorem eqv_int {i j : Int} : PyData.eqv (.int i) (.int j) = decide (i = j) := by
  by_cases z : i = j
  · subst z; simp [PyData.eqv]
  · simp [PyData.eqv, z]
theorem oNe_int : oNe (.int i) (.int j) Q R = Q (.bl (!decide (i = j))) := by rw [oNe_d rfl rfl rfl rfl, eqv_int]
theorem fdiv_nn {i m : Int} (h : 0 ≤ i) (h2 : 0 < m) : 0 ≤ i.fdiv m := Int.fdiv_nonneg h (by omega)
theorem ns2_n {x y : Int} {K : Unit → Prop} : ns2 (.new (.lst [.int x, .int y])) K = ((0 ≤ x ∧ 0 ≤ y ∧ y < 2147483647) ∧ K ()) := by
  refine propext ⟨fun ⟨x', y', e, h1, h2, h3, h⟩ => ?_, fun ⟨⟨h1, h2, h3⟩, h⟩ => ⟨x, y, rfl, h1, h2, h3, h⟩⟩
  cases e
  exact ⟨⟨h1, h2, h3⟩, h⟩
end
theorem divOk_7 : divOk 7 := ⟨by decide, by decide⟩
theorem seed_grow {a z : Int} {i : Nat} (h1 : 0 ≤ a) (h2 : a.natAbs < 2 ^ (1048577 + 22 * i)) (hz : z.natAbs < 2 ^ 1048576) : (a * 1000003 + (z.natAbs : Int)).natAbs < 2 ^ (1048577 + 22 * (i + 1)) := by
  have e : (a * 1000003 + (z.natAbs : Int)).natAbs = a.natAbs * 1000003 + z.natAbs := by omega
  rw [e]
  have p1 : 2 ^ (1048577 + 22 * (i + 1)) = 2 ^ (1048577 + 22 * i) * 4194304 := by
    rw [show 1048577 + 22 * (i + 1) = (1048577 + 22 * i) + 22 from by omega, Nat.pow_add]
  have p2 : 2 ^ 1048576 ≤ 2 ^ (1048577 + 22 * i) := Nat.pow_le_pow_right (by decide) (by omega)
  rw [p1]
  generalize 2 ^ (1048577 + 22 * i) = B at *
  generalize 2 ^ 1048576 = C at *
  omega
theorem wCallV_v {S : Addr → Option (Nat × FS)} {f : Addr} {n : Nat} {fs : FS} {as : WAs} {ρ : PEnv} {Q : PQ} {R : XQ} (h : S f = some (n, fs)) : wCallV 0 S as (some (.adr f) :: ρ) Q R = as (some (.adr f) :: ρ) (fun ps => oFn n fs ps Q R) R :=
  propext ⟨fun ⟨f', n', fs', e1, e2, h3⟩ => by
    cases e1
    rw [h] at e2
    cases e2
    exact h3, fun h3 => ⟨f, n, fs, rfl, h, h3⟩⟩
theorem oEq_mal {Q : PQ} {R : XQ} : oEq (.tup [.str "malformed", .non]) (.tup [.str "malformed", .non]) Q R = Q (.bl true) := by
  have h : SeqAt.shaped (PyData.tuple [PyData.str "malformed", PyData.none]) = true := by first | rfl | decide | decide +kernel | simp [SeqAt.shaped]
  rw [oEq_d rfl rfl h h]
  have e : PyData.eqv (PyData.tuple [PyData.str "malformed", PyData.none]) (PyData.tuple [PyData.str "malformed", PyData.none]) = true := by first | rfl | decide | decide +kernel | simp [PyData.eqv]
  rw [e]
theorem cutP_take {xs : List PV} {i : Int} (h : 0 ≤ i) : cutP xs none (some i) = xs.take i.toNat := by
  unfold cutP
  have e1 : HT.sIx xs.length 0 none = 0 := rfl
  have e2 : HT.sIx xs.length xs.length (some i) = min i.toNat xs.length := by
    show (if i < 0 then (i + (xs.length : Int)).toNat else min i.toNat xs.length) = _
    rw [if_neg (by omega)]
  rw [e1, e2, List.drop_zero, Nat.sub_zero]
  by_cases h : i.toNat ≤ xs.length
  · rw [Nat.min_eq_left h]
  · rw [Nat.min_eq_right (by omega), List.take_length, List.take_of_length_le (by omega)]
theorem cutP_drop {xs : List PV} {i : Int} (h : 0 ≤ i) : cutP xs (some i) none = xs.drop i.toNat := by
  unfold cutP
  have e1 : HT.sIx xs.length xs.length none = xs.length := rfl
  have e2 : HT.sIx xs.length 0 (some i) = min i.toNat xs.length := by
    show (if i < 0 then (i + (xs.length : Int)).toNat else min i.toNat xs.length) = _
    rw [if_neg (by omega)]
  rw [e1, e2]
  by_cases h : i.toNat ≤ xs.length
  · rw [Nat.min_eq_left h]
    exact List.take_of_length_le (by rw [List.length_drop]; exact Nat.le_refl _)
  · rw [Nat.min_eq_right (by omega), List.drop_length, List.drop_of_length_le (by omega), List.take_nil]
theorem rgP_at {lo : Int} {n i : Nat} (h : i < n) : (rgP lo n)[i]? = some (.int (lo + (i : Int))) := by
  unfold rgP
  rw [List.getElem?_map, List.getElem?_range h]
  rfl
theorem cnt_int {p : PV} {lo hi : Int} (h : cnt p lo hi = true) : ∃ i : Int, p = .int i ∧ lo ≤ i ∧ i ≤ hi := by
  cases p with
  | int i =>
    simp only [cnt, Bool.and_eq_true, decide_eq_true_eq] at h
    exact ⟨i, rfl, h.1, h.2⟩
  | _ => cases h
theorem cnt_of {i lo hi : Int} (h : lo ≤ i) (h2 : i ≤ hi) : cnt (.int i) lo hi = true := by simp [cnt, h, h2]
theorem rgOk_of {j : Int} (h : -4000000000000000000 ≤ j) (h2 : j ≤ 4000000000000000000) : rgOk j := by
  unfold rgOk
  constructor <;> omega
theorem ediv_of {a b c : Int} (hb : 0 < b) (h1 : b * c ≤ a) (h2 : a < b * c + b) : a / b = c := by
  have e : a = (a - b * c) + b * c := by omega
  rw [e, Int.add_mul_ediv_left _ _ (by omega), Int.ediv_eq_zero_of_lt (by omega) (by omega)]
  omega
theorem emod_of {a b c r : Int} (h : a = r + b * c) (h0 : 0 ≤ r) (h1 : r < b) : a % b = r := by
  rw [h, Int.add_mul_emod_self_left]
  exact Int.emod_eq_of_lt h0 h1
theorem ixP_at {xs : List PV} {i : Nat} {p : PV} {Q : PQ} (h : xs[i]? = some p) (hq : Q p) : ixP xs (i : Int) Q := ⟨p, atI_nat h, hq⟩
end L3

/-! Values without the heap: enumerate, zip, reversal, products of tuples, membership. -/
namespace L3
open PySem PySem.Spec L2 PyProof.Rows
/-! ### enumerate(tuple) -/
theorem en_newT (l : Addr) (items : Array Value) (n : Nat) (dct : Option Addr) (sl : Array (Option Value)) :
    Meets (Builtin.«enumerate.__new__» ⟨[.type "enumerate", .ref l], []⟩) (fun _ R s => s.heap.get? l = some { cls := .type "tuple", dict := dct, data := .seq items n, slots := sl } ∧
      R (.ok (.ret (.ref (s.heap.push { cls := .type "tuple_iterator", data := .fields #[.ref l, .int 0 0] }).objs.size)))
        { s with heap := (s.heap.push { cls := .type "tuple_iterator", data := .fields #[.ref l, .int 0 0] }).push { cls := .type "enumerate", data := .fields #[.none, .bool false, .ref s.heap.objs.size, rawInt 0, .none, .none] } }) :=
  .of_wp fun prog w A R s hh => by
    obtain ⟨hp, g, d, tk, os⟩ := s
    obtain ⟨hl, hh⟩ := hh
    have hsub := sub_enumerate
    have hL : Heap.IsTuple (Shared.heap ⟨hp, g, d, tk, os⟩) l items := ⟨_, hl, rfl, n, rfl⟩
    wp_walk using AutoSeq1.wpAny_loadPart' hl
    refine wpAny_stack_any fun st => wpAny_pure ?_
    split
    · rename_i c _ _ _ _ _
      cases (c == Value.type "enumerate") <;> (wp_walk using AutoSeq1.wpAny_loadPart' hl, wpAny_pyIter_tuple hL; exact ⟨_, rfl, hh⟩)
    · wp_walk using AutoSeq1.wpAny_loadPart' hl, wpAny_pyIter_tuple hL
      exact ⟨_, rfl, hh⟩
section
variable {prog : Program} {w : World} {A : Around} {E : Value → Shared → Prop} {s : Shared}
theorem en_callT {l : Addr} {items : Array Value} {Q : Value → Shared → Prop} (hL : s.heap.IsTuple l items)
    (hq : ∀ h', IsEnum h' (s.heap.objs.size + 1) s.heap.objs.size 0 .none → h'.IsTupleIter s.heap.objs.size l 0 → (∀ b o, s.heap.get? b = some o → h'.get? b = some o) → Q (.ref (s.heap.objs.size + 1)) { s with heap := h' }) :
    wpAny (model prog w) A (call (.type "enumerate") [.ref l]) Q E s := by
  obtain ⟨⟨c, dct, dt, sl⟩, hl, hc, n, hd⟩ := hL
  have e1 : c = .type "tuple" := hc
  have e2 : dt = .seq items n := hd
  subst e1 e2
  refine callType_new F.called_enumerate (by decide) (F.typeCall_enumerate_1 _) (F.newCall_enumerate_1 _) (fun obj => F.args_object_init_2 obj _) F.entry_enumerate_new (en_newT l items n dct sl) ⟨hl, ?_⟩
  generalize hI : s.heap.push { cls := .type "tuple_iterator", data := .fields #[.ref l, .int 0 0] } = h1
  have hz : h1.objs.size = s.heap.objs.size + 1 := by rw [← hI, Heap.size_push]
  have g1 := Heap.get?_push_size h1 (o := { cls := .type "enumerate", data := .fields #[.none, .bool false, .ref s.heap.objs.size, rawInt 0, .none, .none] }) rfl
  rw [hz] at g1
  have it1 : h1.get? s.heap.objs.size = some { cls := .type "tuple_iterator", data := .fields #[.ref l, .int 0 0] } := by rw [← hI]; exact Heap.get?_push_size _ rfl
  show _ ∧ _
  rw [hz]
  exact ⟨⟨_, g1, rfl⟩, hq _ g1 ⟨_, Heap.get?_push_of_some _ it1, rfl, rfl⟩ fun b o x => Heap.get?_push_of_some _ (by rw [← hI]; exact Heap.get?_push_of_some _ x)⟩
end
/-- the tuple at a as it stands at each turn, each item with its place -/
def IteT (K : PySem.W.Frag) (a : Addr) (n : Nat) : It :=
  ⟨fun i H => ∃ (xs : List V) (x : V), SqT K H a xs ∧ xs.length = n ∧ xs[i]? = some x, fun i H v H' => ∃ T x, v = .ref T ∧ H T = none ∧ H' = upd H T (.tup [.int (i : Nat), x]) ∧ ∀ xs, SqT K H a xs → xs[i]? = some x, fun i H => ∃ xs : List V, SqT K H a xs ∧ xs.length = n ∧ n ≤ i⟩
theorem turn_enT {P : Program} {w : World} {K : PySem.W.Frag} {elts : List Expr} {kk : Nat} {tpos : Pos} (a e it : Addr) (n : Nat) (hae : a ≠ e) (hai : a ≠ it) (hei : e ≠ it) :
    Turn P w K (.Tuple elts kk tpos) (IteT K a n) [e, it] e (fun i h => i ≤ n ∧ (∃ old, IsEnum h e it ((i : Nat) : Int) old) ∧ h.IsTupleIter it a i) where
  mem := List.mem_cons_self
  obj := fun i h st b hb => by
    obtain ⟨_, ⟨old, he⟩, o, ho, hc, hd⟩ := st
    rcases List.mem_cons.mp hb with rfl | hb
    · exact ⟨_, he, fun v q => nomatch q⟩
    · rw [List.mem_singleton.mp hb]
      exact ⟨o, ho, fun v q => by rw [hd] at q; cases q⟩
  keep := fun i h h' st k => by
    obtain ⟨z, ⟨old, he⟩, o, ho, r⟩ := st
    exact ⟨z, ⟨old, k e List.mem_cons_self _ he⟩, o, k it (List.mem_cons_of_mem _ List.mem_cons_self) _ ho, r⟩
  item := by
    intro X hP hw hK hc i pins s σ H E I hf st hg
    subst hP hw hK
    obtain ⟨hin, ⟨old, he⟩, hit⟩ := st
    obtain ⟨xs, x, hq, hn, hx⟩ := hg
    obtain ⟨its, rv, p, hz⟩ := I.tuple hq
    obtain ⟨u, hu, ru⟩ := rv.get hx
    have hel : e < s.heap.objs.size := Heap.lt_size he
    have hil : it < s.heap.objs.size := by
      obtain ⟨_, q, _⟩ := hit
      exact Heap.lt_size q
    have hu2 : its.toArray[i]? = some u := by simpa using hu
    have hlt : i < its.toArray.size := (Array.getElem?_eq_some_iff.mp hu2).1
    have hl := rv.length
    refine wpAny_pyNext_enum_itemD (Draws.tuple (show X.A.in1.handled = none from I.ok.hd hc) it a hai its.toArray) he ⟨hit, p⟩ hlt hei (by simp [hei, Ne.symm hae]) fun y h' tk hy ho hst hT hsz hk => ?_
    have ey : y = u := Option.some.inj (hy.symm.trans hu2)
    subst ey
    refine ⟨_, rfl, wpAny_letOwnedTupleGo_enum (s := { s with heap := h', toks := tk + 1 }) ho fun h'' he' sb => ?_⟩
    have hT2 : h''.get? s.heap.objs.size = some { cls := .type "tuple", data := .seq #[.int i tk, y] } := (sb.2 _ (Nat.ne_of_gt hel)).trans hT
    have new : ObjOk X.prog X.w (upd H s.heap.objs.size (.tup [.int (i : Nat), x])) h'' s.heap.objs.size (.tup [.int (i : Nat), x]) :=
      ⟨by show 2 ≤ sizeLine; decide, [.int i tk, y], .cons ⟨_, rfl⟩ (.cons ru .nil), ⟨_, hT2, rfl, _, rfl⟩⟩
    have far : ∀ b o, b ∉ [e, it] → s.heap.get? b = some o → h''.get? b = some o := fun b o hb q => by
      have n1 : b ≠ e := fun z => hb (by rw [z]; exact List.mem_cons_self)
      have n2 : b ≠ it := fun z => hb (by rw [z]; exact List.mem_cons_of_mem _ List.mem_cons_self)
      exact (sb.2 b n1).trans (hk b o n1 n2 q)
    have I1 : Inv X pins σ (upd H s.heap.objs.size (.tup [.int (i : Nat), x])) { s with heap := h'', toks := tk + 1 } := I.turnedNew (ch := [e, it]) far hf (Nat.le_refl _) new
    refine ⟨.ref s.heap.objs.size, _, I1, rfl, ⟨_, x, rfl, I.hok.fresh (Nat.le_refl _), rfl, fun ys hy => by rw [I.tuple_inj hy hq]; exact hx⟩, ⟨?_, ⟨y, ?_⟩, ?_⟩, fun b hb => ?_⟩
    · rw [List.size_toArray] at hlt
      omega
    · rw [show ((i + 1 : Nat) : Int) = (i : Int) + 1 by omega]
      exact he'
    · obtain ⟨o, ho', r⟩ := hst.1
      exact ⟨o, (sb.2 it (Ne.symm hei)).trans ho', r⟩
    · have hb' : b < s.heap.objs.size := by
        rcases List.mem_cons.mp hb with rfl | hb
        · exact hel
        · rw [List.mem_singleton.mp hb]; exact hil
      rw [upd_ne (Nat.ne_of_lt hb')]
      exact (hf b hb).1
  done := by
    intro X hP hw hK hc i pins s σ H E I hf st hg
    subst hP hw hK
    obtain ⟨hin, ⟨old, he⟩, hit⟩ := st
    obtain ⟨xs, hq, hn, hx⟩ := hg
    obtain ⟨its, rv, p, hz⟩ := I.tuple hq
    obtain ⟨f0, f1, f2, f3, f4, f5⟩ := hf it (List.mem_cons_of_mem _ List.mem_cons_self)
    have hl := rv.length
    have hi : i = its.toArray.size := by
      rw [List.size_toArray]
      omega
    rw [hi] at hit
    exact wpAny_pyNext_enum_endD (Draws.tuple (show X.A.in1.handled = none from I.ok.hd hc) it a hai its.toArray) he ⟨hit, p⟩ fun h' eb => ⟨rfl, I.turned (t' := s.toks) (fun b o hb q => eb b o hb q) f0 f1 f3 f4 f5⟩
  self := fun A i s Q E st h => let ⟨_, ⟨_, he⟩, _⟩ := st; wpAny_pyIter_enum he h
def iEn (K : PySem.W.Frag) (ta : TA) : TI := fun σ H R => ta σ H fun vs H1 => ∃ a, vs = [.ref a] ∧ ((∃ xs, SqL K H1 a xs ∧ R (Ite K a) H1) ∨ ∃ xs, SqT K H1 a xs ∧ R (IteT K a xs.length) H1)
theorem pi_en {X : Cx} {e : Expr} {ta : TA} {p pos tpos : Pos} {elts : List Expr} {kk : Nat} (hg : Gl X "enumerate") (hm : X.mg "enumerate" = none) (ha : PA X [e] ta) (hs : starEach [e] X.env = [(false, eval e X.env)] := by rfl) :
    PI X (.Tuple elts kk tpos) (.Call (.Name "enumerate" p) [e] [] pos) (iEn X.K ta) := by
  refine ⟨fun pins s σ H R I h => ?_⟩
  refine Call_ (ld_blt I hg hm boot_enumerate (PyProof.Rows.callWith_type1 (thn (ha.run pos pins s σ H _ I h) fun us s1 ⟨vs, H1, I1, r1, q1⟩ => ?_) hs rfl))
  obtain ⟨a, ex, q1⟩ := q1
  subst ex
  cases r1 with
  | cons r rr =>
    cases rr
    cases r
    have far : ∀ b, b ∈ [s1.heap.objs.size + 1, s1.heap.objs.size] → FpOk X pins H1 b := fun b hb => by
      have hle : s1.heap.objs.size ≤ b := by
        rcases List.mem_cons.mp hb with rfl | hb
        · exact Nat.le_succ _
        · rw [List.mem_singleton.mp hb]; exact Nat.le_refl _
      exact I1.fpOk hle (I1.hok.fresh hle)
    rcases q1 with ⟨xs, hq, q⟩ | ⟨xs, hq, q⟩
    · obtain ⟨its, rv, p', hz⟩ := I1.list hq
      refine call_enumerate_list p'.isList fun h' he hit hsz hk => wpAny_pyIter_enum he ?_
      have I2 : Inv X pins σ H1 { s1 with heap := h' } := I1.kept (t' := s1.toks) hk
      exact ⟨s1.heap.objs.size + 1, [s1.heap.objs.size + 1, s1.heap.objs.size], _, _, H1, rfl, I2, turn_enum a (s1.heap.objs.size + 1) s1.heap.objs.size, ⟨⟨.none, he⟩, hit, Nat.succ_ne_self _⟩, far, q⟩
    · obtain ⟨its, rv, p', hz⟩ := I1.tuple hq
      have hal : a < s1.heap.objs.size := by
        obtain ⟨o, ho, _⟩ := p'
        exact Heap.lt_size ho
      refine en_callT (show s1.heap.IsTuple a its.toArray from p') fun h' he hit hk => wpAny_pyIter_enum he ?_
      have I2 : Inv X pins σ H1 { s1 with heap := h' } := I1.kept (t' := s1.toks) hk
      exact ⟨s1.heap.objs.size + 1, [s1.heap.objs.size + 1, s1.heap.objs.size], _, _, H1, rfl, I2, turn_enT a (s1.heap.objs.size + 1) s1.heap.objs.size xs.length (Nat.ne_of_lt (Nat.lt_succ_of_lt hal)) (Nat.ne_of_lt hal) (Nat.succ_ne_self _), ⟨Nat.zero_le _, ⟨.none, he⟩, hit⟩, far, q⟩
/-- the items with their places -/
def enP (xs : List PV) : List PV := (List.range xs.length).map fun (i : Nat) => .tup [.int (i : Int), xs.getD i .non]
theorem enP_len (xs : List PV) : (enP xs).length = xs.length := by simp [enP]
theorem enP_get {xs : List PV} {i : Nat} {p : PV} (h : (enP xs)[i]? = some p) : ∃ q, xs[i]? = some q ∧ p = .tup [.int (i : Int), q] := by
  have hl : i < xs.length := by
    have := (List.getElem?_eq_some_iff.mp h).1
    rwa [enP_len] at this
  unfold enP at h
  rw [List.getElem?_map, List.getElem?_range hl] at h
  refine ⟨xs[i], List.getElem?_eq_getElem hl, ?_⟩
  have e : xs.getD i .non = xs[i] := by rw [List.getD_eq_getElem?_getD, List.getElem?_eq_getElem hl]; rfl
  rw [← e]
  exact (Option.some.inj h).symm
section
variable {K : PySem.W.Frag} {Hx Hr : Hp} {a : Addr} {ps : List PV} {xs : List V}
theorem pair_rep {H H' H'' : Hp} {T : Addr} {x y : V} {p q : PV} (hT : H T = none) (hH : H' = upd H T (.tup [x, y])) (s3 : ∀ b o, H b = none → H' b = some o → H'' b = some o) (r : Rep K H'' p x) (r2 : Rep K H'' q y) : Rep K H'' (.tup [p, q]) (.ref T) := by
  have e : H'' T = some (.tup [x, y]) := s3 T _ hT (by rw [hH]; exact upd_same)
  exact .tup e (.cons r (.cons r2 .nil))
theorem iter_enL (h : SqL K Hx a xs) (hr : Reps K Hr ps xs) : IterOk K Hx Hr (Ite K a) (enP ps) := by
  refine ⟨fun i H s l => ?_, fun i H s l => ⟨xs, s.seq h, by rw [← hr.length, ← enP_len]; exact l⟩, fun i H v H' s y => ?_⟩
  · rw [enP_len] at l
    obtain ⟨v, e, _⟩ := hr.get (List.getElem?_eq_getElem l)
    exact ⟨xs, v, s.seq h, e⟩
  · obtain ⟨T, x, rfl, hT, hH, y⟩ := y
    refine ⟨by rw [hH]; exact same_upd hT, fun p e H'' s2 s3 => ?_⟩
    obtain ⟨q, e1, rfl⟩ := enP_get e
    obtain ⟨u, e2, r⟩ := hr.get e1
    rw [y xs (s.seq h)] at e2
    cases e2
    exact pair_rep hT hH s3 (.int _) (r.mono s2)
theorem iter_enT (h : SqT K Hx a xs) (hr : Reps K Hr ps xs) : IterOk K Hx Hr (IteT K a xs.length) (enP ps) := by
  refine ⟨fun i H s l => ?_, fun i H s l => ⟨xs, sqT_mono s h, rfl, by rw [← hr.length, ← enP_len]; exact l⟩, fun i H v H' s y => ?_⟩
  · rw [enP_len] at l
    obtain ⟨v, e, _⟩ := hr.get (List.getElem?_eq_getElem l)
    exact ⟨xs, v, sqT_mono s h, rfl, e⟩
  · obtain ⟨T, x, rfl, hT, hH, y⟩ := y
    refine ⟨by rw [hH]; exact same_upd hT, fun p e H'' s2 s3 => ?_⟩
    obtain ⟨q, e1, rfl⟩ := enP_get e
    obtain ⟨u, e2, r⟩ := hr.get e1
    rw [y xs (sqT_mono s h)] at e2
    cases e2
    exact pair_rep hT hH s3 (.int _) (r.mono s2)
end
/-- what an iterator over p walks: the one fact that vi_seq and vi_enumerate share -/
theorem walk_src {X : Cx} {own : Bool} {G : Gd} {ρ : PEnv} {σ : L2.St} {Hb H1 : Hp} {p : PV} {v : V} {xs : List PV} (r : ERep X.K (SA G ρ σ) (MA G ρ σ) G.H0 Hb H1 p v) (e : p.walks own = some xs) :
    ∃ a ys, v = .ref a ∧ ((SqL X.K H1 a ys ∧ SqL X.K (hide (itB own G ρ σ) H1) a ys) ∨ (SqT X.K H1 a ys ∧ SqT X.K (hide (itB own G ρ σ) H1) a ys)) ∧ Reps X.K (hide (MA G ρ σ) H1) xs ys := by
  have hB : Same (hide (MA G ρ σ) H1) (hide (itB own G ρ σ) H1) := hide_anti fun _ z => itB_ma z
  cases r with
  | s r =>
    cases r with
    | plain r =>
      cases r with
      | tup t q => cases e; exact ⟨_, _, rfl, .inr ⟨.inl (.inl (hide_sub _ _ t)), .inl (.inl (hB _ _ t))⟩, q⟩
      | lst t q => cases e; exact ⟨_, _, rfl, .inl ⟨.of (hide_sub _ _ t), .of (hB _ _ t)⟩, q⟩
      | scr t q => cases e; exact ⟨_, _, rfl, .inl ⟨hide_sub.seq t, hB.seq t⟩, q⟩
      | _ => cases e
    | own m n h0 f t =>
      cases t with
      | lst q =>
        cases own with
        | false => cases e
        | true => cases e; exact ⟨_, _, rfl, .inl ⟨.of f, .of (hide_some.mpr ⟨n, f⟩)⟩, q⟩
      | _ => cases e
    | st => cases e
  | new n h0 f t =>
    cases t with
    | lst q => cases e; exact ⟨_, _, rfl, .inl ⟨.of f, .of (hide_some.mpr ⟨fun z => n (itB_ma z), f⟩)⟩, q.mono (hide_anti fun _ z => .inl z)⟩
    | _ => cases e
def wiEnumerate (own : Bool) (a : WEx) : WIt := fun ρ Q R => a ρ (fun p => ∃ xs, p.walks own = some xs ∧ Q (enP xs)) R
section
variable {X : Cx} {W : WX} {pos p tpos : Pos} {e e2 : Expr} {wa wb : WEx} {elts : List Expr} {kk : Nat}
theorem vi_enumerate (own : Bool) (hg : Gl X "enumerate") (hm : X.mg "enumerate" = none) (h : VE X W e wa) (hs1 : starEach [e] X.env = (false, eval e X.env) :: starEach [] X.env := by rfl) (hs : starEach [e] X.env = [(false, eval e X.env)] := by rfl) : VI X W own (.Tuple elts kk tpos) (.Call (.Name "enumerate" p) [e] [] pos) (wiEnumerate own wa) := by
  refine ⟨_, pi_en hg hm (pa_cons h.pe pa_nil hs1) hs, fun {G ρ σ H Qp Rp R} g hw k kx => ⟨G, ρ, _, Rp, g, hw, fun p v H1 s g1 r h1 => ?_, kx⟩⟩
  obtain ⟨xs, e, hq⟩ := h1
  obtain ⟨a, ys, rfl, t, q⟩ := walk_src r e
  rcases t with ⟨t1, t2⟩ | ⟨t1, t2⟩
  · exact ⟨a, rfl, .inl ⟨ys, t1, k _ _ H1 s g1 (iter_enL t2 q) hq⟩⟩
  · exact ⟨a, rfl, .inr ⟨ys, t1, k _ _ H1 s g1 (iter_enT t2 q) hq⟩⟩
end
end L3

/-! Values without the heap: zip, reversal, products of tuples, membership. -/
namespace L3
open PySem PySem.Spec L2 PyProof.Rows RZ
/-! ### zip -/
def zipP : List PV → List PV → List PV
  | x :: xs, y :: ys => .tup [x, y] :: zipP xs ys
  | _, _ => []
theorem zipP_len : ∀ xs ys : List PV, (zipP xs ys).length = min xs.length ys.length
  | [], _ => by simp [zipP]
  | _ :: _, [] => by simp [zipP]
  | x :: xs, y :: ys => by
    show (zipP xs ys).length + 1 = min (xs.length + 1) (ys.length + 1)
    rw [zipP_len xs ys]
    omega
theorem zipP_get : ∀ {xs ys : List PV} {i : Nat} {p : PV}, (zipP xs ys)[i]? = some p → ∃ q r, xs[i]? = some q ∧ ys[i]? = some r ∧ p = .tup [q, r]
  | [], _, _, _, h => by simp [zipP] at h
  | _ :: _, [], _, _, h => by simp [zipP] at h
  | x :: xs, y :: ys, 0, p, h => ⟨x, y, rfl, rfl, (Option.some.inj h).symm⟩
  | x :: xs, y :: ys, i + 1, p, h => zipP_get (xs := xs) (ys := ys) (i := i) h
section
variable {K : PySem.W.Frag} {Hx Hr : Hp} {a b : Addr} {ps qs : List PV} {xs ys : List V}
theorem iter_zipL (h : SqL K Hx a xs) (h2 : SqL K Hx b ys) (hr : Reps K Hr ps xs) (hr2 : Reps K Hr qs ys) : IterOk K Hx Hr (Itz K a b) (zipP ps qs) := by
  have l1 := hr.length
  have l2 := hr2.length
  refine ⟨fun i H s l => ?_, fun i H s l => ⟨xs, ys, s.seq h, s.seq h2, by rw [zipP_len] at l; omega⟩, fun i H v H' s y => ?_⟩
  · rw [zipP_len] at l
    obtain ⟨v, e, _⟩ := hr.get (List.getElem?_eq_getElem (show i < ps.length by omega))
    obtain ⟨v2, e2, _⟩ := hr2.get (List.getElem?_eq_getElem (show i < qs.length by omega))
    exact ⟨xs, ys, v, v2, s.seq h, s.seq h2, e, e2⟩
  · obtain ⟨T, x, x2, rfl, hT, hH, y1, y2⟩ := y
    refine ⟨by rw [hH]; exact same_upd hT, fun p e H'' s2 s3 => ?_⟩
    obtain ⟨q, r, e1, e2, rfl⟩ := zipP_get e
    obtain ⟨u, f1, r1⟩ := hr.get e1
    obtain ⟨u2, f2, r2⟩ := hr2.get e2
    rw [y1 xs (s.seq h)] at f1
    rw [y2 ys (s.seq h2)] at f2
    cases f1; cases f2
    exact pair_rep hT hH s3 (r1.mono s2) (r2.mono s2)
theorem iter_zipT (h : SqT K Hx a xs) (h2 : SqT K Hx b ys) (hr : Reps K Hr ps xs) (hr2 : Reps K Hr qs ys) : IterOk K Hx Hr (ItzT K a b) (zipP ps qs) := by
  have l1 := hr.length
  have l2 := hr2.length
  refine ⟨fun i H s l => ?_, fun i H s l => ⟨xs, ys, sqT_mono s h, sqT_mono s h2, by rw [zipP_len] at l; omega⟩, fun i H v H' s y => ?_⟩
  · rw [zipP_len] at l
    obtain ⟨v, e, _⟩ := hr.get (List.getElem?_eq_getElem (show i < ps.length by omega))
    obtain ⟨v2, e2, _⟩ := hr2.get (List.getElem?_eq_getElem (show i < qs.length by omega))
    exact ⟨xs, ys, v, v2, sqT_mono s h, sqT_mono s h2, e, e2⟩
  · obtain ⟨T, x, x2, rfl, hT, hH, y1, y2⟩ := y
    refine ⟨by rw [hH]; exact same_upd hT, fun p e H'' s2 s3 => ?_⟩
    obtain ⟨q, r, e1, e2, rfl⟩ := zipP_get e
    obtain ⟨u, f1, r1⟩ := hr.get e1
    obtain ⟨u2, f2, r2⟩ := hr2.get e2
    rw [y1 xs (sqT_mono s h)] at f1
    rw [y2 ys (sqT_mono s h2)] at f2
    cases f1; cases f2
    exact pair_rep hT hH s3 (r1.mono s2) (r2.mono s2)
end
def PV.isTup : PV → Bool
  | .tup _ => true
  | _ => false
theorem walk_srcT {X : Cx} {own : Bool} {G : Gd} {ρ : PEnv} {σ : L2.St} {Hb H1 : Hp} {p : PV} {v : V} {xs : List PV} (r : ERep X.K (SA G ρ σ) (MA G ρ σ) G.H0 Hb H1 p v) (e : p.walks own = some xs) :
    ∃ a ys, v = .ref a ∧ ((p.isTup = false ∧ SqL X.K H1 a ys ∧ SqL X.K (hide (itB own G ρ σ) H1) a ys) ∨ (p.isTup = true ∧ SqT X.K H1 a ys ∧ SqT X.K (hide (itB own G ρ σ) H1) a ys)) ∧ Reps X.K (hide (MA G ρ σ) H1) xs ys := by
  have hB : Same (hide (MA G ρ σ) H1) (hide (itB own G ρ σ) H1) := hide_anti fun _ z => itB_ma z
  cases r with
  | s r =>
    cases r with
    | plain r =>
      cases r with
      | tup t q => cases e; exact ⟨_, _, rfl, .inr ⟨rfl, .inl (.inl (hide_sub _ _ t)), .inl (.inl (hB _ _ t))⟩, q⟩
      | lst t q => cases e; exact ⟨_, _, rfl, .inl ⟨rfl, .of (hide_sub _ _ t), .of (hB _ _ t)⟩, q⟩
      | scr t q => cases e; exact ⟨_, _, rfl, .inl ⟨rfl, hide_sub.seq t, hB.seq t⟩, q⟩
      | _ => cases e
    | own m n h0 f t =>
      cases t with
      | lst q =>
        cases own with
        | false => cases e
        | true => cases e; exact ⟨_, _, rfl, .inl ⟨rfl, .of f, .of (hide_some.mpr ⟨n, f⟩)⟩, q⟩
      | _ => cases e
    | st => cases e
  | new n h0 f t =>
    cases t with
    | lst q => cases e; exact ⟨_, _, rfl, .inl ⟨rfl, .of f, .of (hide_some.mpr ⟨fun z => n (itB_ma z), f⟩)⟩, q.mono (hide_anti fun _ z => .inl z)⟩
    | _ => cases e
def zpP (own : Bool) (ps : List PV) (K : List PV → Prop) : Prop := ∃ p q xs ys, ps = [p, q] ∧ p.walks own = some xs ∧ q.walks own = some ys ∧ p.isTup = q.isTup ∧ K (zipP xs ys)
def wiZip (own : Bool) (as : WAs) : WIt := fun ρ K R => as ρ (fun ps => zpP own ps K) R
section
variable {X : Cx} {W : WX} {pos p tpos : Pos} {e e2 : Expr} {was : WAs} {elts : List Expr} {kk : Nat}
theorem vi_zip (own : Bool) (hg : Gl X "zip") (hm : X.mg "zip" = none) (h : VA X W [e, e2] was) (hs : starEach [e, e2] X.env = (false, eval e X.env) :: starEach [e2] X.env := by rfl) (hpl : (backTo pos (starEach [e2] X.env)).any (·.1) = false := by rfl) : VI X W own (.Tuple elts kk tpos) (.Call (.Name "zip" p) [e, e2] [] pos) (wiZip own was) := by
  refine ⟨_, pi_zipA hg hm h.pa hs hpl, fun {G ρ σ H Qp Rp R} g hw k kx => ⟨G, ρ, _, Rp, g, hw, fun ps vs H1 s g1 r h1 => ?_, kx⟩⟩
  obtain ⟨p1, p2, xs, ys, rfl, e1, e2, et, hq⟩ := h1
  cases r with
  | cons r1 rr =>
    cases rr with
    | cons r2 rr =>
      cases rr
      obtain ⟨a, us, rfl, t, q⟩ := walk_srcT r1 e1
      obtain ⟨b, ws, rfl, t2, q2⟩ := walk_srcT r2 e2
      rcases t with ⟨z, t1, u1⟩ | ⟨z, t1, u1⟩ <;> rcases t2 with ⟨z2, t2, u2⟩ | ⟨z2, t2, u2⟩
      · exact ⟨a, b, us, ws, rfl, .inl ⟨t1, t2, k _ _ H1 s g1 (iter_zipL u1 u2 q q2) hq⟩⟩
      · rw [z, z2] at et; cases et
      · rw [z, z2] at et; cases et
      · exact ⟨a, b, us, ws, rfl, .inr ⟨t1, t2, k _ _ H1 s g1 (iter_zipT u1 u2 q q2) hq⟩⟩
end
/-! ### [::-1] -/
theorem fm_map {α β : Type} {f : α → Option β} {g : α → β} : ∀ l : List α, (∀ k ∈ l, f k = some (g k)) → l.filterMap f = l.map g
  | [], _ => rfl
  | a :: l, h => by
    rw [List.filterMap_cons, h a List.mem_cons_self, List.map_cons, fm_map l fun k hk => h k (List.mem_cons_of_mem _ hk)]
theorem rev_pick (xs : Array Value) : ((List.range xs.size).filterMap fun (k : Nat) => xs[(((xs.size : Int) - 1) + (k : Int) * (-1)).toNat]?).toArray = xs.toList.reverse.toArray := by
  congr 1
  refine List.ext_getElem? fun i => ?_
  have e : ((List.range xs.size).filterMap fun (k : Nat) => xs[(((xs.size : Int) - 1) + (k : Int) * (-1)).toNat]?) = (List.range xs.size).map fun k => xs.toList.getD (xs.size - 1 - k) Value.none := by
    refine fm_map _ fun k hk => ?_
    have hk := List.mem_range.mp hk
    have e1 : (((xs.size : Int) - 1) + (k : Int) * (-1)).toNat = xs.size - 1 - k := by omega
    have hl : xs.size - 1 - k < xs.toList.length := by rw [Array.length_toList]; omega
    rw [e1]
    show xs[xs.size - 1 - k]? = some (xs.toList.getD (xs.size - 1 - k) Value.none)
    rw [List.getD_eq_getElem?_getD, List.getElem?_eq_getElem hl]
    simp
  rw [e, List.getElem?_map]
  by_cases hi : i < xs.size
  · rw [List.getElem?_range hi, List.getElem?_reverse (by rw [Array.length_toList]; exact hi)]
    have hl : xs.toList.length - 1 - i < xs.toList.length := by rw [Array.length_toList]; omega
    rw [Array.length_toList] at hl ⊢
    show some (xs.toList.getD (xs.size - 1 - i) Value.none) = xs.toList[xs.size - 1 - i]?
    have hl2 : xs.size - 1 - i < xs.toList.length := by rw [Array.length_toList]; omega
    rw [List.getD_eq_getElem?_getD, List.getElem?_eq_getElem hl2]
    rfl
  · rw [List.getElem?_eq_none (by rw [List.length_range]; omega), List.getElem?_eq_none (by rw [List.length_reverse, Array.length_toList]; omega)]
    rfl
section
variable {prog : Program} {w : World} {A : Around} {E : Value → Shared → Prop} {s : Shared}
theorem places_rev (n : Nat) : Builtin.Slice.slicePlaces ((n : Int) - 1) (-1) (-1) = n := by
  unfold Builtin.Slice.slicePlaces
  have h1 : ¬ ((-1 : Int) > 0) := by decide
  by_cases h : (n : Int) - 1 > -1
  · have e : ((n : Int) - 1 - -1 - 1) / (- -1) + 1 = (n : Int) := by
      rw [show (- -1 : Int) = 1 by decide, Int.ediv_one]
      omega
    simp only [h1, if_false, h, if_true, e, Int.toNat_natCast]
  · have e : n = 0 := by omega
    subst e
    rfl
theorem tuple_rev {t sl : Addr} {items : Array Value} {vl vu vs : Value} {Q : Value → Shared → Prop} (ht : IsTup s.heap t items) (hs : s.heap.IsSliceOf sl vl vu vs) (pl : IsPart vl none) (pu : IsPart vu none) (ps : IsPart vs (some (-1)))
    (h : Q (.ref s.heap.objs.size) { s with heap := s.heap.push { cls := .type "tuple", data := .seq items.toList.reverse.toArray } })
    (hsz : items.size ≤ sizeLine) : wpAny (model prog w) A (getItem (.ref t) (.ref sl)) Q E s := by
  have hfit : sizeOk (.seq items.toList.reverse.toArray) := by
    show items.toList.reverse.toArray.size ≤ sizeLine
    rw [List.size_toArray, List.length_reverse, Array.length_toList]
    exact hsz
  obtain ⟨os, hos, hcs, hds⟩ := id hs
  have hTs : s.TypeIs (.ref sl) "slice" := ⟨os, hos, hcs⟩
  unfold getItem
  try with_reducible refine wpAny_holding ?_
  first | refine wpAny_bind (wpAny_pure ?_) | skip
  refine wpAny_bind (wpAny_sequenceKey ht.typeIs (by decide) (wpAny_bind (wpAny_callSpecial?_slot (name := Str.ofString "__getitem__") ht.typeIs PyProof.Rows.slot_tuple_getitem
    (wpAny_call_entry PyProof.Rows.slot_tuple_getitem ht.typeIs entry_tuple_getitem ?_ (args_tuple_getitem _ _)))))
  show wpAny _ _ (Builtin.Tuple.tupleItemsOf (.ref t) >>= _) _ _ s
  refine wpAny_bind (tupleItemsOf_ ht (wpAny_bind (wpAny_typeOf hTs ?_)))
  rw [if_pos (by decide)]
  refine wpAny_bind ?_
  · unfold Builtin.Slice.sliceApplied Builtin.Slice.sliceFields
    refine wpAny_bind (wpAny_bind (wpAny_field hos hds (x := vl) rfl (wpAny_bind (wpAny_field hos hds (x := vu) rfl (wpAny_bind (wpAny_field hos hds (x := vs) rfl (wpAny_pure ?_)))))))
    refine wpAny_bind (HT.slicePart_ ps ?_)
    show wpAny _ _ (if ((-1 : Int) == 0) = true then _ else _) _ _ s
    rw [if_neg (by decide)]
    refine wpAny_bind (HT.slicePart_ pl (wpAny_bind (HT.slicePart_ pu (wpAny_bind (wpAny_pure ?_)))))
    show wpAny _ _ (pure ((items.size : Int) - 1, (-1 : Int), Builtin.Slice.slicePlaces ((items.size : Int) - 1) (-1) (-1))) _ _ s
    rw [places_rev]
    refine wpAny_pure ?_
    show wpAny _ _ (if (((items.size : Int) - 1) == 0 && (-1 : Int) == 1 && items.size == items.size) = true then _ else _) _ _ s
    have hno : ¬ ((((items.size : Int) - 1) == 0 && (-1 : Int) == 1 && items.size == items.size) = true) := by
      rw [show ((-1 : Int) == 1) = false by decide, Bool.and_false, Bool.false_and]
      exact Bool.false_ne_true
    rw [if_neg hno, rev_pick]
    first
      | exact wpAny_bind (m := Builtin.Tuple.tupleExact _) (wpAny_newObj_type (wpAny_pure ⟨_, rfl, wpAny_pure h⟩) hfit)
      | exact wpAny_bind (m := Builtin.Tuple.tupleExact _) (wpAny_newObj_type (wpAny_bind (wpAny_pure (wpAny_pure ⟨_, rfl, wpAny_pure h⟩))) hfit)
      | exact wpAny_bind (wpAny_bind (m := Builtin.Tuple.tupleExact _) (wpAny_newObj_type (wpAny_pure (wpAny_pure ⟨_, rfl, wpAny_pure h⟩)) hfit))
      | exact wpAny_bind (wpAny_bind (m := Builtin.Tuple.tupleExact _) (wpAny_newObj_type (wpAny_pure ⟨_, rfl, wpAny_pure h⟩) hfit))
end
def tRevB (K : PySem.W.Frag) (te : TE) : TE := fun σ H Q => te σ H fun x H1 => ∃ a xs, x = .ref a ∧ ((SqL K H1 a xs ∧ ∀ p, H1 p = none → Q (.ref p) (upd H1 p (.lst xs.reverse))) ∨ (SqT K H1 a xs ∧ ∀ p, H1 p = none → Q (.ref p) (upd H1 p (.tup xs.reverse))))
section
variable {X : Cx} {W : WX} {e : Expr} {te : TE} {wa : WEx} {k : Nat} {p1 p2 p3 pos : Pos}
theorem pe_revB (he : PE X e te) : PE X (.Subscript e (.Slice none none (some (.UnaryOp .USub (.Constant (.int 1) k p1) p2)) p3) pos) (tRevB X.K te) := by
  refine ⟨fun pins s σ H Q I h => Subscript_ (thn (he.run pins s σ H _ I h) fun v s1 ⟨x, H1, I1, r1, a, xs, ex, q⟩ => ?_)⟩
  subst ex
  cases r1
  have hst : PO X (some (.UnaryOp .USub (.Constant (.int 1) k p1) p2)) (tPart (tUn (rU fun i => .int (-i)) (tC (.int 1)))) := po_some (pe_un un_neg pe_int)
  refine wpAny_Slice (thn (po_none.run pins s1 σ H1 (fun o H2 => o = none ∧ H2 = H1) I1 ⟨rfl, rfl⟩) fun vl s2 ⟨l, H2, I2, pl, el, e2⟩ => ?_)
  subst el e2
  refine thn (po_none.run pins s2 σ H2 (fun o H3 => o = none ∧ H3 = H2) I2 ⟨rfl, rfl⟩) fun vu s3 ⟨u, H3, I3, pu, eu, e3⟩ => ?_
  subst eu e3
  refine thn (hst.run pins s3 σ H3 (fun o H4 => o = some (-1) ∧ H4 = H3) I3 ⟨1, rfl, -1, rfl, rfl, rfl⟩) fun vs s4 ⟨o, H4, I4, ps, eo, e4⟩ => ?_
  subst eo e4
  have I5 : Inv X pins σ H4 { s4 with heap := s4.heap.push { cls := .type "slice", data := .fields #[vl, vu, vs] } } := I4.kept (t' := s4.toks) fun b ob q => Heap.get?_push_of_some _ q
  show wpAny (model X.prog X.w) X.A (subscriptTail e (.Slice none none (some (.UnaryOp .USub (.Constant (.int 1) k p1) p2)) p3) (.ref a) (.ref s4.heap.objs.size)) (EP X pins σ Q) X.xe { s4 with heap := s4.heap.push { cls := .type "slice", data := .fields #[vl, vu, vs] } }
  rcases q with ⟨hx, q⟩ | ⟨hx, q⟩
  · obtain ⟨its, r, ht, hz⟩ := I5.list hx
    have hlen := r.length
    refine tail_any (ops := [.ref a, .ref s4.heap.objs.size]) ht.isList.typeIs (PySem.slot_list_getitem.lookup) ?_ (by with_unfolding_all rfl)
    refine wpAny_getItem_list_slice ht.isList (Heap.IsSliceOf.new _ vl vu vs) pl pu ps (by decide) ?_ (by rw [List.size_toArray]; omega)
    rw [PySem.W.krv_pick]
    refine ⟨.ref _, _, I5.laid (t' := s4.toks) (o := .lst xs.reverse) (fun b ob q => Heap.get?_push_of_some _ q) (Nat.le_refl _) ?_, rfl, q _ (I5.hok.fresh (Nat.le_refl _))⟩
    exact ⟨by rw [List.length_reverse]; exact hz, _, 0, r.reverse, Heap.get?_push_size _ rfl⟩
  · obtain ⟨its, r, ht, hz⟩ := I5.tuple hx
    have hlen := r.length
    refine tail_any (ops := [.ref a, .ref s4.heap.objs.size]) ht.typeIs (PyProof.Rows.slot_tuple_getitem.lookup) ?_ (by with_unfolding_all rfl)
    refine tuple_rev ht (Heap.IsSliceOf.new _ vl vu vs) pl pu ps ?_ (by rw [List.size_toArray]; omega)
    refine ⟨.ref _, _, I5.laid (t' := s4.toks) (o := .tup xs.reverse) (fun b ob q => Heap.get?_push_of_some _ q) (Nat.le_refl _) ?_, rfl, q _ (I5.hok.fresh (Nat.le_refl _))⟩
    exact ⟨by rw [List.length_reverse]; exact hz, its.reverse, r.reverse, IsTup.new _ _⟩
def oRev (x : PV) (Q : PQ) : Prop := ∃ xs, x.walks true = some xs ∧ Q (if x.isTup = true then .tup xs.reverse else .new (.lst xs.reverse))
def wRev (a : WEx) : WEx := fun ρ Q R => a ρ (fun x => oRev x Q) R
theorem ve_rev (h : VE X W e wa) : VE X W (.Subscript e (.Slice none none (some (.UnaryOp .USub (.Constant (.int 1) k p1) p2)) p3) pos) (wRev wa) :=
  ⟨PE.imp (pe_revB h.pe) fun σ H Q ⟨G, ρ, Qp, Rp, g, hw, kq, kx⟩ => ⟨G, ρ, _, Rp, g, hw, fun p v H1 s g1 r ⟨xs, e, h1⟩ => by
    obtain ⟨a, ys, rfl, t, q⟩ := walk_srcT r e
    rcases t with ⟨z, t, _⟩ | ⟨z, t, _⟩
    · rw [z, if_neg Bool.false_ne_true] at h1
      exact ⟨a, ys, rfl, .inl ⟨t, fun p hp => (kq.step s).list g1 (s.gr g1) q.reverse h1 hp⟩⟩
    · rw [z, if_pos rfl] at h1
      exact ⟨a, ys, rfl, .inr ⟨t, fun p hp => (kq.step s).tup g1 q.reverse h1 hp⟩⟩, kx⟩⟩
end
/-! ### tuple * int -/
theorem mul_same (l : Addr) (items : Array Value) (n : Nat) (dd : Option Addr) (sl : Array (Option Value)) (u : Tok) :
    Meets (Builtin.«tuple.__mul__» ⟨[.ref l, .int 1 u], []⟩) (fun _ R s => s.heap.get? l = some { cls := .type "tuple", dict := dd, data := .seq items n, slots := sl } ∧ ∀ k, R (.ok (.ret (Value.ref l))) { s with toks := k }) :=
  .of_wp fun prog w A R s h => by
    obtain ⟨hp, g, d, tk, os⟩ := s
    obtain ⟨hl, h⟩ := h
    have f1 := AutoSeq1.idx_int
    have c1 : (items.isEmpty || (1 : Int) == 1) = true := by simp
    wp_walk using AutoSeq1.wpAny_loadPart' hl
    exact ⟨_, rfl, h _⟩
theorem mul_none (l : Addr) (items : Array Value) (n : Nat) (dd : Option Addr) (sl : Array (Option Value)) (x : Int) (u : Tok) (c0 : (decide (x < -(2 ^ 63)) || decide (x ≥ 2 ^ 63)) = false) (c1 : (items.isEmpty || x == 1) = false) (c2 : (decide (x ≤ 0) || items.isEmpty) = true) :
    Meets (Builtin.«tuple.__mul__» ⟨[.ref l, .int x u], []⟩) (fun _ R s => s.heap.get? l = some { cls := .type "tuple", dict := dd, data := .seq items n, slots := sl } ∧
      R (.ok (.ret (Value.ref s.heap.objs.size))) { s with heap := s.heap.push { cls := Value.type "tuple", data := Data.seq #[] }, toks := s.toks }) :=
  .of_wp fun prog w A R s h => by
    obtain ⟨hp, g, d, tk, os⟩ := s
    obtain ⟨hl, h⟩ := h
    have f1 := AutoSeq1.idx_int
    wp_walk using AutoSeq1.wpAny_loadPart' hl
    repeat (first
      | (refine wpAny_ite_false (decide_eq_false (by rw [c0]; exact Bool.false_ne_true)) ?_; wp_walk using AutoSeq1.wpAny_loadPart' hl)
      | (refine wpAny_ite_false (decide_eq_false (by rw [c1]; exact Bool.false_ne_true)) ?_; wp_walk using AutoSeq1.wpAny_loadPart' hl)
      | (refine wpAny_ite_true (decide_eq_true c2) ?_; wp_walk using AutoSeq1.wpAny_loadPart' hl))
    exact ⟨_, rfl, h⟩
/-- what tuple * int gives, the tuple not empty -/
def rMulT (K : PySem.W.Frag) : R2 := fun x y H Q => ∃ l k xs, x = .ref l ∧ y = .int k ∧ SqT K H l xs ∧ xs ≠ [] ∧ xs.length ≤ 1000 ∧ -(2 ^ 62) ≤ k ∧ k ≤ 1000 ∧ (k = 1 → Q (.ref l) H) ∧ (k ≠ 1 → ∀ p, H p = none → Q (.ref p) (upd H p (.tup (List.replicate k.toNat xs).flatten)))
section
variable {X : Cx} {W : WX} {pos : Pos} {a b : Expr} {wa wb : WEx}
theorem op_mulT : OpR X (binaryOp .Mult) (rMulT X.K) := by
  intro pins s σ H x y v u Q I rx ry h
  obtain ⟨l, k, xs, rfl, rfl, hT, hne, hz, h1, h2, q1, q2⟩ := h
  by_cases hk : 2 ≤ k
  · exact op_repT pins s σ H (.ref l) (.int k) v u Q I rx ry ⟨l, k, xs, rfl, rfl, hT, hne, hk, h2, hz, q2 (by omega)⟩
  · cases rx
    obtain ⟨t, rfl⟩ := ry
    obtain ⟨its, r, ⟨⟨cls, dd, data, sl⟩, ho, hc, n, hd⟩, hs⟩ := I.tuple hT
    simp only at hc hd
    subst hc hd
    have hn : its ≠ [] := fun e => hne (by
      have := r.length
      rw [e] at this
      exact List.eq_nil_of_length_eq_zero this)
    have hi : its.toArray.isEmpty = false := by
      cases its with
      | nil => exact absurd rfl hn
      | cons a b => rfl
    by_cases h1k : k = 1
    · subst h1k
      refine wpAny_binaryOp_repeat_ref (T := "tuple") (U := "int") (by decide) ⟨_, ho, rfl⟩ (fun s' => typeIs_int s' 1 t) noFill_tuple_mul F.fills_int_mul F.slot_int_rmul repeat_tuple F.slot_int_index.lookup
        (call_meets F.slot_int_rmul (typeIs_int s 1 t) F.entry_int_rmul (F.args_int_rmul_2 _ _) (int_rmul_tuple 1 t l its.toArray n dd sl)
          ⟨ho, rfl, ⟨_, ho, rfl⟩, call_meets F.slot_tuple_mul ⟨_, ho, rfl⟩ F.entry_tuple_mul (F.args_tuple_mul_2 _ _) (mul_same l its.toArray n dd sl t) ⟨ho, fun tk => ?_⟩⟩)
      exact ⟨.ref l, H, I.tok _, rfl, q1 rfl⟩
    · have k0 : k ≤ 0 := by omega
      have c0 : (decide (k < -(2 ^ 63)) || decide (k ≥ 2 ^ 63)) = false := by
        rw [decide_eq_false (by omega), decide_eq_false (by omega)] <;> rfl
      have c1 : (its.toArray.isEmpty || k == 1) = false := by
        rw [hi, Bool.false_or]
        exact beq_eq_false_iff_ne.mpr h1k
      have c2 : (decide (k ≤ 0) || its.toArray.isEmpty) = true := by
        rw [decide_eq_true k0] <;> rfl
      refine wpAny_binaryOp_repeat_ref (T := "tuple") (U := "int") (by decide) ⟨_, ho, rfl⟩ (fun s' => typeIs_int s' k t) noFill_tuple_mul F.fills_int_mul F.slot_int_rmul repeat_tuple F.slot_int_index.lookup
        (call_meets F.slot_int_rmul (typeIs_int s k t) F.entry_int_rmul (F.args_int_rmul_2 _ _) (int_rmul_tuple k t l its.toArray n dd sl)
          ⟨ho, rfl, ⟨_, ho, rfl⟩, call_meets F.slot_tuple_mul ⟨_, ho, rfl⟩ F.entry_tuple_mul (F.args_tuple_mul_2 _ _) (mul_none l its.toArray n dd sl k t c0 c1 c2) ⟨ho, ?_⟩⟩)
      have e0 : (List.replicate k.toNat xs).flatten = [] := by
        rw [show k.toNat = 0 by omega]
        rfl
      have q3 := q2 h1k
      rw [e0] at q3
      refine ⟨.ref s.heap.objs.size, _, I.laid (t' := s.toks) (o := .tup []) (fun b ob q => Heap.get?_push_of_some _ q) (Nat.le_refl _) ?_, rfl, q3 _ (I.hok.fresh (Nat.le_refl _))⟩
      exact ⟨Nat.zero_le _, [], .nil, IsTup.new _ _⟩
def oMulA : PV → PV → PQ → XQ → Prop := fun x y Q R => match x, y with
  | .tup ps, .int k => (ps ≠ [] ∧ ps.length ≤ 1000 ∧ -(2 ^ 62) ≤ k ∧ k ≤ 1000) ∧ Q (.tup (List.replicate k.toNat ps).flatten)
  | x, y => oMulI x y Q R
theorem ov_mulA : OpV X W (fun x y H Q => rMulT X.K x y H Q ∨ (rI CMulX (fun i j => .int (i * j)) x y H Q ∨ rRep x y H Q)) oMulA := by
  intro G ρ σ Hb H Qp Rp Q x y v u g gr rx ry h kq kx
  unfold oMulA at h
  split at h
  · rename_i ps k
    obtain ⟨⟨h1, h2, h3, h4⟩, h⟩ := h
    cases ry.int
    obtain ⟨l, xs, rfl, t, t2, q⟩ := rx.tup
    have hl := q.length
    refine .inl ⟨l, k, xs, rfl, rfl, t, fun e => h1 (by rw [e] at hl; exact List.eq_nil_of_length_eq_zero hl), by omega, h3, h4, fun e => ?_, fun e p hp => kq.tup g (q.rep _) h hp⟩
    subst e
    have e1 : (List.replicate (1 : Int).toNat ps).flatten = ps := by
      show [ps].flatten = ps
      simp
    rw [e1] at h
    exact kq.at g (.tup t2 q) h
  · exact .inr (ov_mulI g gr rx ry h kq kx)
theorem ve_mulA (ha : VE X W a wa) (hb : VE X W b wb) : VE X W (.BinOp a .Mult b pos) (wOp oMulA wa wb) := ve_op (op_mulT.or (op_mulX.or op_rep)) ov_mulA ha hb
end
end L3

/-! Values without the heap: membership. -/
namespace L3
open PySem PySem.Spec L2 PyProof.Rows
def rInB (K : PySem.W.Frag) (neg : Bool) : R2 := fun x y H Q => ∃ d c ds, Dp K H x d ∧ Dp K H y c ∧ (c = .list ds ∨ c = .tuple ds) ∧ SeqAt.shaped d = true ∧ SeqAt.shaped c = true ∧ Q (.bl (if neg = true then !(ds.any fun z => PyData.eqv z d) else ds.any fun z => PyData.eqv z d)) H
def oInB (neg : Bool) : PV → PV → PQ → XQ → Prop := fun x y Q _ => ∃ d c ds, x.toD = some d ∧ y.toD = some c ∧ (c = .list ds ∨ c = .tuple ds) ∧ SeqAt.shaped d = true ∧ SeqAt.shaped c = true ∧ Q (.bl (if neg = true then !(ds.any fun z => PyData.eqv z d) else ds.any fun z => PyData.eqv z d))
abbrev oIn := oInB false
abbrev oNotIn := oInB true
section
variable {X : Cx} {W : WX}
theorem can_list {ds : List PyData} (h : SeqAt.shaped (.list ds) = true) : PyData.canLayAll0 ds = true := SeqAt.canLay_of_shaped h
theorem can_tup {ds : List PyData} (h : SeqAt.shaped (.tuple ds) = true) : PyData.canLayAll0 ds = true := SeqAt.canLay_of_shaped h
theorem op_inB (hu : X.A.units + 65 < cLine) : OpR X (compareOp .In) (rInB X.K false) := by
  intro pins s σ H x y v u Q I rx ry ⟨d, c, ds, hd, hc, e, sd, se, q⟩
  obtain ⟨as, r1⟩ := Dp.reads I d x v hd rx
  obtain ⟨bs, r2⟩ := Dp.reads I c y u hc ry
  rcases e with rfl | rfl
  · exact SeqAt.in_list_reads r2 r1 (can_list se) (SeqAt.canLay_of_shaped sd) (room_in_shaped sd hu) ⟨.bl _, H, I, rfl, q⟩
  · exact SeqAt.in_tuple_reads r2 r1 (can_tup se) (SeqAt.canLay_of_shaped sd) (room_in_shaped sd hu) ⟨.bl _, H, I, rfl, q⟩
theorem op_notInB (hu : X.A.units + 65 < cLine) : OpR X (compareOp .NotIn) (rInB X.K true) := by
  intro pins s σ H x y v u Q I rx ry ⟨d, c, ds, hd, hc, e, sd, se, q⟩
  obtain ⟨as, r1⟩ := Dp.reads I d x v hd rx
  obtain ⟨bs, r2⟩ := Dp.reads I c y u hc ry
  rcases e with rfl | rfl
  · exact SeqAt.notIn_list_reads r2 r1 (can_list se) (SeqAt.canLay_of_shaped sd) (room_in_shaped sd hu) ⟨.bl _, H, I, rfl, q⟩
  · exact SeqAt.notIn_tuple_reads r2 r1 (can_tup se) (SeqAt.canLay_of_shaped sd) (room_in_shaped sd hu) ⟨.bl _, H, I, rfl, q⟩
theorem ov_inB {neg : Bool} : OpV X W (rInB X.K neg) (oInB neg) := by
  intro G ρ σ Hb H Qp Rp Q x y v u g gr rx ry ⟨d, c, ds, h1, h2, e, h3, h4, h⟩ kq kx
  exact ⟨d, c, ds, rx.dp h1, ry.dp h2, e, h3, h4, kq.bl g h⟩
theorem ov_in : OpV X W (rInB X.K false) oIn := ov_inB
theorem ov_notIn : OpV X W (rInB X.K true) oNotIn := ov_inB
theorem room65 {k : Nat} {A : Around} (hr : Room k A) : A.units + 65 < cLine := by
  have := hr.un
  omega
end
/-! ### in short -/
section
variable {p q : PV} {Q : PQ} {R : XQ} {ρ : PEnv} {a b : WEx} {i j k : Int} {ps qs xs ys : List PV} {K : List PV → Prop} {as : WAs} {own : Bool}
theorem oMulA_ii : oMulA (.int i) (.int j) Q R = (mulOk i j ∧ Q (.int (i * j))) := rfl
theorem oMulA_li : oMulA (.lst ps) (.int k) Q R = oMulI (.lst ps) (.int k) Q R := rfl
theorem oMulA_ni : oMulA (.new p) (.int k) Q R = oMulI (.new p) (.int k) Q R := rfl
theorem oMulA_oi : oMulA (.own p) (.int k) Q R = oMulI (.own p) (.int k) Q R := rfl
theorem oMulA_ti : oMulA (.tup ps) (.int k) Q R = ((ps ≠ [] ∧ ps.length ≤ 1000 ∧ -(2 ^ 62) ≤ k ∧ k ≤ 1000) ∧ Q (.tup (List.replicate k.toNat ps).flatten)) := rfl
theorem wRev_e : wRev a ρ Q R = a ρ (fun x => oRev x Q) R := rfl
theorem oRev_t : oRev (.tup xs) Q = Q (.tup xs.reverse) := propext ⟨fun ⟨_, e, h⟩ => by cases e; exact h, fun h => ⟨_, rfl, h⟩⟩
theorem oRev_l : oRev (.lst xs) Q = Q (.new (.lst xs.reverse)) := propext ⟨fun ⟨_, e, h⟩ => by cases e; exact h, fun h => ⟨_, rfl, h⟩⟩
theorem oRev_n : oRev (.new (.lst xs)) Q = Q (.new (.lst xs.reverse)) := propext ⟨fun ⟨_, e, h⟩ => by cases e; exact h, fun h => ⟨_, rfl, h⟩⟩
theorem oRev_o : oRev (.own (.lst xs)) Q = Q (.new (.lst xs.reverse)) := propext ⟨fun ⟨_, e, h⟩ => by cases e; exact h, fun h => ⟨_, rfl, h⟩⟩
def enW (own : Bool) (p : PV) (K : List PV → Prop) : Prop := ∃ xs, p.walks own = some xs ∧ K (enP xs)
theorem wiEn_e : wiEnumerate own a ρ K R = a ρ (fun p => enW own p K) R := rfl
theorem enW_t : enW own (.tup xs) K = K (enP xs) := propext ⟨fun ⟨_, e, h⟩ => by cases e; exact h, fun h => ⟨_, rfl, h⟩⟩
theorem enW_s : enW own (.scr xs) K = K (enP xs) := propext ⟨fun ⟨_, e, h⟩ => by cases e; exact h, fun h => ⟨_, rfl, h⟩⟩
theorem enW_l : enW own (.lst xs) K = K (enP xs) := propext ⟨fun ⟨_, e, h⟩ => by cases e; exact h, fun h => ⟨_, rfl, h⟩⟩
theorem enW_n : enW own (.new (.lst xs)) K = K (enP xs) := propext ⟨fun ⟨_, e, h⟩ => by cases e; exact h, fun h => ⟨_, rfl, h⟩⟩
theorem enW_o : enW true (.own (.lst xs)) K = K (enP xs) := propext ⟨fun ⟨_, e, h⟩ => by cases e; exact h, fun h => ⟨_, rfl, h⟩⟩
theorem wiZip_e : wiZip own as ρ K R = as ρ (fun ps => zpP own ps K) R := rfl
theorem zpP_tt : zpP own [.tup xs, .tup ys] K = K (zipP xs ys) := propext ⟨fun ⟨_, _, _, _, e, e1, e2, _, h⟩ => by cases e; cases e1; cases e2; exact h, fun h => ⟨_, _, _, _, rfl, rfl, rfl, rfl, h⟩⟩
theorem zpP_ll : zpP own [.lst xs, .lst ys] K = K (zipP xs ys) := propext ⟨fun ⟨_, _, _, _, e, e1, e2, _, h⟩ => by cases e; cases e1; cases e2; exact h, fun h => ⟨_, _, _, _, rfl, rfl, rfl, rfl, h⟩⟩
theorem zpP_nn : zpP own [.new (.lst xs), .new (.lst ys)] K = K (zipP xs ys) := propext ⟨fun ⟨_, _, _, _, e, e1, e2, _, h⟩ => by cases e; cases e1; cases e2; exact h, fun h => ⟨_, _, _, _, rfl, rfl, rfl, rfl, h⟩⟩
theorem zpP_ln : zpP own [.lst xs, .new (.lst ys)] K = K (zipP xs ys) := propext ⟨fun ⟨_, _, _, _, e, e1, e2, _, h⟩ => by cases e; cases e1; cases e2; exact h, fun h => ⟨_, _, _, _, rfl, rfl, rfl, rfl, h⟩⟩
theorem zpP_nl : zpP own [.new (.lst xs), .lst ys] K = K (zipP xs ys) := propext ⟨fun ⟨_, _, _, _, e, e1, e2, _, h⟩ => by cases e; cases e1; cases e2; exact h, fun h => ⟨_, _, _, _, rfl, rfl, rfl, rfl, h⟩⟩
end
section
variable {Q : PQ} {R : XQ} {a b : Bool} {x y : Str} {xs ys : List PV}
theorem eqv_bl : PyData.eqv (.bool a) (.bool b) = decide (a = b) := by cases a <;> cases b <;> rfl
theorem eqv_str : PyData.eqv (.str x) (.str y) = decide (x = y) := by
  by_cases z : x = y
  · subst z; simp [PyData.eqv]
  · simp [PyData.eqv, z]
theorem oEq_bl : oEq (.bl a) (.bl b) Q R = Q (.bl (decide (a = b))) := by rw [oEq_d rfl rfl rfl rfl, eqv_bl]
theorem oEq_str (h1 : SeqAt.shaped (.str x) = true) (h2 : SeqAt.shaped (.str y) = true) : oEq (.str x) (.str y) Q R = Q (.bl (decide (x = y))) := by rw [oEq_d rfl rfl h1 h2, eqv_str]
theorem cAll_nil : cAll [.new (.lst [])] Q R = Q (.bl true) := cAll_b (bs := [])
end
end L3

/-! Values without the heap: data of any depth; sameness. -/
namespace L3
open PySem PySem.Spec L2
mutual
/-- data: no own objects, no long rows -/
def dat : PV → Bool
  | .non => true
  | .bl _ => true
  | .int _ => true
  | .str _ => true
  | .tup xs => decide (xs.length ≤ 2000) && datL xs
  | .lst xs => decide (xs.length ≤ 2000) && datL xs
  | _ => false
def datL : List PV → Bool
  | [] => true
  | x :: xs => dat x && datL xs
end
section
variable {own : List Addr} {p : PV} {xs ys : List PV} {i : Int} {b : Bool} {x : Str} {Q : PQ} {R : XQ}
theorem dat_non : dat .non = true := by simp [dat]
theorem dat_bl : dat (.bl b) = true := by simp [dat]
theorem dat_int : dat (.int i) = true := by simp [dat]
theorem dat_str : dat (.str x) = true := by simp [dat]
theorem dat_tup : dat (.tup xs) = (decide (xs.length ≤ 2000) && datL xs) := by simp [dat]
theorem dat_lst : dat (.lst xs) = (decide (xs.length ≤ 2000) && datL xs) := by simp [dat]
theorem datL_nil : datL [] = true := by simp [datL]
theorem datL_cons : datL (p :: xs) = (dat p && datL xs) := by simp [datL]
theorem dat_okV (h : dat p = true) : okV own p = true := by
  cases p <;> first | rfl | (simp [dat] at h)
theorem dat_plain (h : dat p = true) : p.plain = true := okV_plain (own := []) (dat_okV h)
theorem datL_mem : ∀ {xs : List PV}, datL xs = true → ∀ p ∈ xs, dat p = true
  | [], _, _, hp => by simp at hp
  | x :: xs, h, p, hp => by
    rw [datL_cons, Bool.and_eq_true] at h
    rcases List.mem_cons.mp hp with rfl | hp
    · exact h.1
    · exact datL_mem h.2 p hp
theorem datL_of : ∀ {xs : List PV}, (∀ p ∈ xs, dat p = true) → datL xs = true
  | [], _ => datL_nil
  | x :: xs, h => by
    rw [datL_cons, h x List.mem_cons_self, Bool.true_and]
    exact datL_of fun p hp => h p (List.mem_cons_of_mem _ hp)
theorem dat_tup_mem (h : dat (.tup xs) = true) : xs.length ≤ 2000 ∧ ∀ p ∈ xs, dat p = true := by
  rw [dat_tup, Bool.and_eq_true] at h
  exact ⟨of_decide_eq_true h.1, datL_mem h.2⟩
theorem dat_tup_of (h : xs.length ≤ 2000) (h2 : ∀ p ∈ xs, dat p = true) : dat (.tup xs) = true := by
  rw [dat_tup, decide_eq_true h, Bool.true_and]
  exact datL_of h2
end
/-- _law_same's answer True: as told, within depth n -/
def sm : Nat → PV → PV → Bool
  | 0, _, _ => false
  | n + 1, p, q => match p, q with
    | .bl a, .bl b => decide (a = b)
    | .tup xs, .tup ys => decide (xs.length = ys.length ∧ ys.length ≤ 2000) && (List.range ys.length).all fun k => dat (xs.getD k .non) && dat (ys.getD k .non) && sm n (xs.getD k .non) (ys.getD k .non)
    | .tup xs, .lst ys => decide (dat (.tup xs) = true) && sm n (.tup xs) (.tup ys)
    | .str a, .str b => decide (a = b) && SeqAt.shaped (.str a)
    | .non, .non => true
    | .int a, .int b => decide (a = b)
    | _, _ => false
def fsSame (n : Nat) : FS := fun ps Q _ => match ps with
  | [p, q] => (dat p = true ∧ dat q = true ∧ sm n p q = true) ∧ Q (.bl true)
  | _ => False
/-- a value's depth -/
def dp : Nat → PV → Bool
  | 0, _ => false
  | n + 1, p => match p with
    | .tup xs => xs.all fun x => dp n x
    | .lst _ => false
    | .str x => SeqAt.shaped (.str x)
    | _ => true
theorem sm_self : ∀ {n : Nat} {p : PV}, dat p = true → dp n p = true → sm n p p = true
  | 0, _, _, h => by simp [dp] at h
  | n + 1, .tup xs, hd, h => by
    obtain ⟨h1, h2⟩ := dat_tup_mem hd
    have h3 : ∀ x ∈ xs, dp n x = true := by simpa [dp] using h
    show (decide (xs.length = xs.length ∧ xs.length ≤ 2000) && (List.range xs.length).all fun k => dat (xs.getD k .non) && dat (xs.getD k .non) && sm n (xs.getD k .non) (xs.getD k .non)) = true
    rw [decide_eq_true ⟨rfl, h1⟩, Bool.true_and, List.all_eq_true]
    intro k hk
    have hk := List.mem_range.mp hk
    have e : xs.getD k .non = xs[k] := by rw [List.getD_eq_getElem?_getD, List.getElem?_eq_getElem hk]; rfl
    have hm : xs[k] ∈ xs := List.getElem_mem hk
    rw [e, h2 _ hm, sm_self (h2 _ hm) (h3 _ hm)]
    rfl
  | n + 1, .non, _, _ => rfl
  | n + 1, .bl b, _, _ => by simp [sm]
  | n + 1, .int b, _, _ => by simp [sm]
  | n + 1, .str b, _, h => by simpa [sm] using (show SeqAt.shaped (.str b) = true from h)
  | n + 1, .lst b, _, h => by simp [dp] at h
  | n + 1, .ty _, h, _ => by simp [dat] at h
  | n + 1, .adr _, h, _ => by simp [dat] at h
  | n + 1, .obj _ _ _, h, _ => by simp [dat] at h
  | n + 1, .dk _ _, h, _ => by simp [dat] at h
  | n + 1, .dt _ _, h, _ => by simp [dat] at h
  | n + 1, .own _, h, _ => by simp [dat] at h
  | n + 1, .new _, h, _ => by simp [dat] at h
  | n + 1, .st, h, _ => by simp [dat] at h
  | n + 1, .scr _, h, _ => by simp [dat] at h
theorem mulOk_s {i j : Int} (h1 : i.natAbs < 2 ^ 200) (h2 : j.natAbs < 2 ^ 200) : mulOk i j := mulOk_of h1 h2 (by decide)
theorem natAbs_mul_lt {i j : Int} {a b c : Nat} (h1 : i.natAbs < 2 ^ a) (h2 : j.natAbs < 2 ^ b) (h : a + b = c) : (i * j).natAbs < 2 ^ c := by
  rw [Int.natAbs_mul, ← h, Nat.pow_add]
  exact Nat.mul_lt_mul_of_lt_of_le h1 (Nat.le_of_lt h2) (Nat.lt_of_le_of_lt (Nat.zero_le _) h2)
theorem natAbs_add_lt {i j : Int} {a b : Nat} (h1 : i.natAbs < 2 ^ a) (h2 : j.natAbs < 2 ^ a) (h : a + 1 = b) : (i + j).natAbs < 2 ^ b := by
  rw [← h, Nat.pow_succ]
  omega
theorem natAbs_sub_lt {i j : Int} {a b : Nat} (h1 : i.natAbs < 2 ^ a) (h2 : j.natAbs < 2 ^ a) (h : a + 1 = b) : (i - j).natAbs < 2 ^ b := by
  rw [← h, Nat.pow_succ]
  omega
theorem natAbs_up {i : Int} {a b : Nat} (h1 : i.natAbs < 2 ^ a) (h : a ≤ b) : i.natAbs < 2 ^ b := Nat.lt_of_lt_of_le h1 (Nat.pow_le_pow_right (by decide) h)
theorem len2 {α : Type} {x y : α} {m : Nat} (h : 2 ≤ m) : [x, y].length ≤ m := h
theorem len3 {α : Type} {x y z : α} {m : Nat} (h : 3 ≤ m) : [x, y, z].length ≤ m := h
theorem len1 {α : Type} {x : α} {m : Nat} (h : 1 ≤ m) : [x].length ≤ m := h
theorem natc_0 : ((0 : Nat) : Int) = 0 := rfl
theorem natc_1 : ((1 : Nat) : Int) = 1 := rfl
theorem natc_2 : ((2 : Nat) : Int) = 2 := rfl
theorem natc_3 : ((3 : Nat) : Int) = 3 := rfl
theorem natc_4 : ((4 : Nat) : Int) = 4 := rfl
theorem natc_5 : ((5 : Nat) : Int) = 5 := rfl
theorem natc_6 : ((6 : Nat) : Int) = 6 := rfl
theorem natc_7 : ((7 : Nat) : Int) = 7 := rfl
theorem natc_8 : ((8 : Nat) : Int) = 8 := rfl
theorem natc_9 : ((9 : Nat) : Int) = 9 := rfl
section
variable {Q : PQ} {R : XQ} {a b c d : Int}
theorem shaped_pp : SeqAt.shaped (.tuple [.int a, .int b]) = true := by simp [SeqAt.shaped, PyData.canLay0, PyData.canLayAll0, PyData.depth, PyData.depthAll]
theorem eqv_pp : PyData.eqv (.tuple [.int a, .int b]) (.tuple [.int c, .int d]) = decide (a = c ∧ b = d) := by
  by_cases h : a = c <;> by_cases h2 : b = d <;> simp [PyData.eqv, PyData.eqvAll, h, h2]
theorem oEq_pp : oEq (.tup [.int a, .int b]) (.tup [.int c, .int d]) Q R = Q (.bl (decide (a = c ∧ b = d))) := by rw [oEq_d rfl rfl shaped_pp shaped_pp, eqv_pp]
theorem oNe_pp : oNe (.tup [.int a, .int b]) (.tup [.int c, .int d]) Q R = Q (.bl (!decide (a = c ∧ b = d))) := by rw [oNe_d rfl rfl shaped_pp shaped_pp, eqv_pp]
theorem sq_nn (x : Int) : 0 ≤ x * x := by
  rw [← Int.natAbs_mul_self]
  exact Int.natCast_nonneg _
theorem sq_pos {x : Int} (h : x ≠ 0) : 0 < x * x := by
  have h1 : x.natAbs ≠ 0 := fun z => h (Int.natAbs_eq_zero.mp z)
  rw [← Int.natAbs_mul_self]
  have : 0 < x.natAbs * x.natAbs := Nat.mul_pos (by omega) (by omega)
  omega
end
theorem cMax_i {ns : List Int} {Q : PQ} {R : XQ} (h0 : ns ≠ []) (h : ∀ m, m ∈ ns → (∀ y ∈ ns, y ≤ m) → Q (.int m)) : cMax [.new (.lst (ns.map .int))] Q R :=
  ⟨_, ns, rfl, rfl, List.length_pos_iff.mpr h0, h⟩
theorem cMin_i {ns : List Int} {Q : PQ} {R : XQ} (h0 : ns ≠ []) (h : ∀ m, m ∈ ns → (∀ y ∈ ns, m ≤ y) → Q (.int m)) : cMin [.new (.lst (ns.map .int))] Q R :=
  ⟨_, ns, rfl, rfl, List.length_pos_iff.mpr h0, h⟩
def ppD (z : Int × Int) : PyData := .tuple [.int z.1, .int z.2]
def ppV (z : Int × Int) : PV := .tup [.int z.1, .int z.2]
theorem toDs_pp : ∀ ds : List (Int × Int), toDs (ds.map ppV) = some (ds.map ppD)
  | [] => rfl
  | z :: ds => by
    show (match (ppV z).toD, toDs (ds.map ppV) with
      | some d, some ds => some (d :: ds)
      | _, _ => none) = _
    rw [toDs_pp ds]
    rfl
theorem canAll_pp : ∀ ds : List (Int × Int), PyData.canLayAll0 (ds.map ppD) = true
  | [] => by simp [PyData.canLayAll0]
  | z :: ds => by
    have := canAll_pp ds
    simp [PyData.canLayAll0, PyData.canLay0, ppD] at this ⊢
    exact this
theorem depAll_pp : ∀ ds : List (Int × Int), PyData.depthAll (ds.map ppD) ≤ 3
  | [] => by simp [PyData.depthAll]
  | z :: ds => by
    have := depAll_pp ds
    simp [PyData.depthAll, PyData.depth, ppD] at this ⊢
    omega
theorem shaped_tpp (ds : List (Int × Int)) : SeqAt.shaped (.tuple (ds.map ppD)) = true := by
  have h1 := canAll_pp ds
  have h2 := depAll_pp ds
  unfold SeqAt.shaped
  rw [Bool.and_eq_true]
  refine ⟨by simpa [PyData.canLay0] using h1, decide_eq_true ?_⟩
  simp only [PyData.depth]
  omega
theorem shaped_lpp (ds : List (Int × Int)) : SeqAt.shaped (.list (ds.map ppD)) = true := by
  have h1 := canAll_pp ds
  have h2 := depAll_pp ds
  unfold SeqAt.shaped
  rw [Bool.and_eq_true]
  refine ⟨by simpa [PyData.canLay0] using h1, decide_eq_true ?_⟩
  simp only [PyData.depth]
  omega
theorem any_pp (z : Int × Int) (ds : List (Int × Int)) : ((ds.map ppD).any fun y => PyData.eqv y (ppD z)) = decide (z ∈ ds) := by
  rw [List.any_map, Bool.eq_iff_iff, List.any_eq_true, decide_eq_true_eq]
  constructor
  · rintro ⟨y, hy, e⟩
    have e2 : PyData.eqv (ppD y) (ppD z) = true := e
    unfold ppD at e2
    rw [eqv_pp, decide_eq_true_eq] at e2
    have : y = z := Prod.ext e2.1 e2.2
    rw [← this]
    exact hy
  · intro h
    refine ⟨z, h, ?_⟩
    show PyData.eqv (ppD z) (ppD z) = true
    unfold ppD
    rw [eqv_pp]
    simp
theorem oIn_pp {neg : Bool} {z : Int × Int} {ds : List (Int × Int)} {Q : PQ} {R : XQ} : oInB neg (ppV z) (.tup (ds.map ppV)) Q R = Q (.bl (if neg = true then !(decide (z ∈ ds)) else decide (z ∈ ds))) := by
  have e1 : (PV.tup (ds.map ppV)).toD = some (.tuple (ds.map ppD)) := by
    show (toDs (ds.map ppV)).map PyData.tuple = _
    rw [toDs_pp]; rfl
  refine propext ⟨fun ⟨d, c, ds', h1, h2, h3, h4, h5, h⟩ => ?_, fun h => ⟨ppD z, .tuple (ds.map ppD), ds.map ppD, rfl, e1, .inr rfl, shaped_pp, shaped_tpp ds, ?_⟩⟩
  · rw [e1] at h2
    have e3 : ppD z = d := Option.some.inj h1
    have e4 : PyData.tuple (ds.map ppD) = c := Option.some.inj h2
    subst e3 e4
    rcases h3 with h3 | h3
    · cases h3
    · have e5 : ds.map ppD = ds' := by injection h3
      subst e5
      rw [any_pp] at h
      exact h
  · rw [any_pp]
    exact h
theorem comp_inv {xs : List PV} {td : TD} {e : WEx} {ρ : PEnv} {Q : PQ} (P : PV → Prop) (hz : xs.length ≤ sizeLine)
    (h : ∀ (i : Nat) (p : PV), xs[i]? = some p → tgP td p ρ fun ρ2 => e ρ2 (fun q => stP q P) fun _ => False) (hq : ∀ ys : List PV, ys.length = xs.length → (∀ p ∈ ys, P p) → Q (.new (.lst ys))) : compP xs td wYes e ρ Q := by
  refine ⟨fun i acc => acc.length = i ∧ ∀ p ∈ acc, P p, ⟨rfl, fun p hp => by simp at hp⟩, fun i acc p ⟨ha, hP⟩ hp => ?_, fun acc ⟨ha, hP⟩ => hq acc ha hP⟩
  have hx : i < xs.length := (List.getElem?_eq_some_iff.mp hp).1
  have z := h i p hp
  have e1 : (fun q : PV => stP q P) = fun q => q.gives = true ∧ acc.length < sizeLine ∧ ((acc ++ [q.thaw]).length = i + 1 ∧ ∀ p ∈ acc ++ [q.thaw], P p) := by
    funext q
    unfold stP
    refine propext ⟨fun ⟨h1, h2⟩ => ⟨h1, by omega, by simp [ha], fun p hp => ?_⟩, fun ⟨h1, _, _, h2⟩ => ⟨h1, h2 _ (by simp)⟩⟩
    rcases List.mem_append.mp hp with hp | hp
    · exact hP p hp
    · rw [List.mem_singleton.mp hp]; exact h2
  rw [e1] at z
  exact z
theorem pps_of : ∀ {ys : List PV} {P : Int × Int → Prop}, (∀ p ∈ ys, ∃ z, p = ppV z ∧ P z) → ∃ ds : List (Int × Int), ys = ds.map ppV ∧ ∀ z ∈ ds, P z
  | [], _, _ => ⟨[], rfl, fun z hz => by simp at hz⟩
  | y :: ys, P, h => by
    obtain ⟨z, rfl, hz⟩ := h y List.mem_cons_self
    obtain ⟨ds, e, hd⟩ := pps_of (ys := ys) (P := P) fun p hp => h p (List.mem_cons_of_mem _ hp)
    refine ⟨z :: ds, by rw [List.map_cons, ← e], fun w hw => ?_⟩
    rcases List.mem_cons.mp hw with rfl | hw
    · exact hz
    · exact hd w hw
def apE (ρ : PEnv) (i : Nat) (K : List PV → Prop) : Prop := ∃ q, ρ[i]? = some (some (.own (.lst q))) ∧ K q
theorem wApp_e {n : Nat} {a : WEx} {D : PEnds} {ρ : PEnv} : wApp n a D ρ = apE ρ n fun q => a ρ (fun p => stP p fun p' => q.length < sizeLine ∧ sE ρ n (some (.own (.lst (q ++ [p'])))) D.nx) fun x => D.ex x ρ := rfl
theorem apE_0 {q : List PV} {ρ : PEnv} {K : List PV → Prop} : apE (some (.own (.lst q)) :: ρ) 0 K = K q := propext ⟨fun ⟨_, e, h⟩ => by cases e; exact h, fun h => ⟨q, rfl, h⟩⟩
theorem apE_s {ob : Option PV} {n : Nat} {ρ : PEnv} {K : List PV → Prop} : apE (ob :: ρ) (n + 1) K = apE ρ n K := rfl
section
variable {Q : PQ}
theorem tP_9 {p0 p1 p2 p3 p4 p5 p6 p7 p8 : PV} : tP [p0, p1, p2, p3, p4, p5, p6, p7, p8] Q = (stP p0 fun q0 => stP p1 fun q1 => stP p2 fun q2 => stP p3 fun q3 => stP p4 fun q4 => stP p5 fun q5 => stP p6 fun q6 => stP p7 fun q7 => stP p8 fun q8 => Q (.tup [q0, q1, q2, q3, q4, q5, q6, q7, q8])) := propext ⟨fun ⟨_, h, hq⟩ => by simpa [stP, and_assoc] using (And.intro h hq), fun h => ⟨by show 9 ≤ sizeLine; rw [sizeLine_eq]; decide, by simpa [stP, and_assoc] using h⟩⟩
theorem tP_10 {p0 p1 p2 p3 p4 p5 p6 p7 p8 p9 : PV} : tP [p0, p1, p2, p3, p4, p5, p6, p7, p8, p9] Q = (stP p0 fun q0 => stP p1 fun q1 => stP p2 fun q2 => stP p3 fun q3 => stP p4 fun q4 => stP p5 fun q5 => stP p6 fun q6 => stP p7 fun q7 => stP p8 fun q8 => stP p9 fun q9 => Q (.tup [q0, q1, q2, q3, q4, q5, q6, q7, q8, q9])) := propext ⟨fun ⟨_, h, hq⟩ => by simpa [stP, and_assoc] using (And.intro h hq), fun h => ⟨by show 10 ≤ sizeLine; rw [sizeLine_eq]; decide, by simpa [stP, and_assoc] using h⟩⟩
theorem tP_11 {p0 p1 p2 p3 p4 p5 p6 p7 p8 p9 p10 : PV} : tP [p0, p1, p2, p3, p4, p5, p6, p7, p8, p9, p10] Q = (stP p0 fun q0 => stP p1 fun q1 => stP p2 fun q2 => stP p3 fun q3 => stP p4 fun q4 => stP p5 fun q5 => stP p6 fun q6 => stP p7 fun q7 => stP p8 fun q8 => stP p9 fun q9 => stP p10 fun q10 => Q (.tup [q0, q1, q2, q3, q4, q5, q6, q7, q8, q9, q10])) := propext ⟨fun ⟨_, h, hq⟩ => by simpa [stP, and_assoc] using (And.intro h hq), fun h => ⟨by show 11 ≤ sizeLine; rw [sizeLine_eq]; decide, by simpa [stP, and_assoc] using h⟩⟩
theorem tP_12 {p0 p1 p2 p3 p4 p5 p6 p7 p8 p9 p10 p11 : PV} : tP [p0, p1, p2, p3, p4, p5, p6, p7, p8, p9, p10, p11] Q = (stP p0 fun q0 => stP p1 fun q1 => stP p2 fun q2 => stP p3 fun q3 => stP p4 fun q4 => stP p5 fun q5 => stP p6 fun q6 => stP p7 fun q7 => stP p8 fun q8 => stP p9 fun q9 => stP p10 fun q10 => stP p11 fun q11 => Q (.tup [q0, q1, q2, q3, q4, q5, q6, q7, q8, q9, q10, q11])) := propext ⟨fun ⟨_, h, hq⟩ => by simpa [stP, and_assoc] using (And.intro h hq), fun h => ⟨by show 12 ≤ sizeLine; rw [sizeLine_eq]; decide, by simpa [stP, and_assoc] using h⟩⟩
theorem tP_13 {p0 p1 p2 p3 p4 p5 p6 p7 p8 p9 p10 p11 p12 : PV} : tP [p0, p1, p2, p3, p4, p5, p6, p7, p8, p9, p10, p11, p12] Q = (stP p0 fun q0 => stP p1 fun q1 => stP p2 fun q2 => stP p3 fun q3 => stP p4 fun q4 => stP p5 fun q5 => stP p6 fun q6 => stP p7 fun q7 => stP p8 fun q8 => stP p9 fun q9 => stP p10 fun q10 => stP p11 fun q11 => stP p12 fun q12 => Q (.tup [q0, q1, q2, q3, q4, q5, q6, q7, q8, q9, q10, q11, q12])) := propext ⟨fun ⟨_, h, hq⟩ => by simpa [stP, and_assoc] using (And.intro h hq), fun h => ⟨by show 13 ≤ sizeLine; rw [sizeLine_eq]; decide, by simpa [stP, and_assoc] using h⟩⟩
theorem tP_14 {p0 p1 p2 p3 p4 p5 p6 p7 p8 p9 p10 p11 p12 p13 : PV} : tP [p0, p1, p2, p3, p4, p5, p6, p7, p8, p9, p10, p11, p12, p13] Q = (stP p0 fun q0 => stP p1 fun q1 => stP p2 fun q2 => stP p3 fun q3 => stP p4 fun q4 => stP p5 fun q5 => stP p6 fun q6 => stP p7 fun q7 => stP p8 fun q8 => stP p9 fun q9 => stP p10 fun q10 => stP p11 fun q11 => stP p12 fun q12 => stP p13 fun q13 => Q (.tup [q0, q1, q2, q3, q4, q5, q6, q7, q8, q9, q10, q11, q12, q13])) := propext ⟨fun ⟨_, h, hq⟩ => by simpa [stP, and_assoc] using (And.intro h hq), fun h => ⟨by show 14 ≤ sizeLine; rw [sizeLine_eq]; decide, by simpa [stP, and_assoc] using h⟩⟩
theorem tP_15 {p0 p1 p2 p3 p4 p5 p6 p7 p8 p9 p10 p11 p12 p13 p14 : PV} : tP [p0, p1, p2, p3, p4, p5, p6, p7, p8, p9, p10, p11, p12, p13, p14] Q = (stP p0 fun q0 => stP p1 fun q1 => stP p2 fun q2 => stP p3 fun q3 => stP p4 fun q4 => stP p5 fun q5 => stP p6 fun q6 => stP p7 fun q7 => stP p8 fun q8 => stP p9 fun q9 => stP p10 fun q10 => stP p11 fun q11 => stP p12 fun q12 => stP p13 fun q13 => stP p14 fun q14 => Q (.tup [q0, q1, q2, q3, q4, q5, q6, q7, q8, q9, q10, q11, q12, q13, q14])) := propext ⟨fun ⟨_, h, hq⟩ => by simpa [stP, and_assoc] using (And.intro h hq), fun h => ⟨by show 15 ≤ sizeLine; rw [sizeLine_eq]; decide, by simpa [stP, and_assoc] using h⟩⟩
theorem tP_16 {p0 p1 p2 p3 p4 p5 p6 p7 p8 p9 p10 p11 p12 p13 p14 p15 : PV} : tP [p0, p1, p2, p3, p4, p5, p6, p7, p8, p9, p10, p11, p12, p13, p14, p15] Q = (stP p0 fun q0 => stP p1 fun q1 => stP p2 fun q2 => stP p3 fun q3 => stP p4 fun q4 => stP p5 fun q5 => stP p6 fun q6 => stP p7 fun q7 => stP p8 fun q8 => stP p9 fun q9 => stP p10 fun q10 => stP p11 fun q11 => stP p12 fun q12 => stP p13 fun q13 => stP p14 fun q14 => stP p15 fun q15 => Q (.tup [q0, q1, q2, q3, q4, q5, q6, q7, q8, q9, q10, q11, q12, q13, q14, q15])) := propext ⟨fun ⟨_, h, hq⟩ => by simpa [stP, and_assoc] using (And.intro h hq), fun h => ⟨by show 16 ≤ sizeLine; rw [sizeLine_eq]; decide, by simpa [stP, and_assoc] using h⟩⟩
theorem lP_9 {p0 p1 p2 p3 p4 p5 p6 p7 p8 : PV} : lP [p0, p1, p2, p3, p4, p5, p6, p7, p8] Q = (stP p0 fun q0 => stP p1 fun q1 => stP p2 fun q2 => stP p3 fun q3 => stP p4 fun q4 => stP p5 fun q5 => stP p6 fun q6 => stP p7 fun q7 => stP p8 fun q8 => Q (.new (.lst [q0, q1, q2, q3, q4, q5, q6, q7, q8]))) := propext ⟨fun ⟨_, h, hq⟩ => by simpa [stP, and_assoc] using (And.intro h hq), fun h => ⟨by show 9 ≤ sizeLine; rw [sizeLine_eq]; decide, by simpa [stP, and_assoc] using h⟩⟩
theorem lP_10 {p0 p1 p2 p3 p4 p5 p6 p7 p8 p9 : PV} : lP [p0, p1, p2, p3, p4, p5, p6, p7, p8, p9] Q = (stP p0 fun q0 => stP p1 fun q1 => stP p2 fun q2 => stP p3 fun q3 => stP p4 fun q4 => stP p5 fun q5 => stP p6 fun q6 => stP p7 fun q7 => stP p8 fun q8 => stP p9 fun q9 => Q (.new (.lst [q0, q1, q2, q3, q4, q5, q6, q7, q8, q9]))) := propext ⟨fun ⟨_, h, hq⟩ => by simpa [stP, and_assoc] using (And.intro h hq), fun h => ⟨by show 10 ≤ sizeLine; rw [sizeLine_eq]; decide, by simpa [stP, and_assoc] using h⟩⟩
theorem lP_11 {p0 p1 p2 p3 p4 p5 p6 p7 p8 p9 p10 : PV} : lP [p0, p1, p2, p3, p4, p5, p6, p7, p8, p9, p10] Q = (stP p0 fun q0 => stP p1 fun q1 => stP p2 fun q2 => stP p3 fun q3 => stP p4 fun q4 => stP p5 fun q5 => stP p6 fun q6 => stP p7 fun q7 => stP p8 fun q8 => stP p9 fun q9 => stP p10 fun q10 => Q (.new (.lst [q0, q1, q2, q3, q4, q5, q6, q7, q8, q9, q10]))) := propext ⟨fun ⟨_, h, hq⟩ => by simpa [stP, and_assoc] using (And.intro h hq), fun h => ⟨by show 11 ≤ sizeLine; rw [sizeLine_eq]; decide, by simpa [stP, and_assoc] using h⟩⟩
theorem lP_12 {p0 p1 p2 p3 p4 p5 p6 p7 p8 p9 p10 p11 : PV} : lP [p0, p1, p2, p3, p4, p5, p6, p7, p8, p9, p10, p11] Q = (stP p0 fun q0 => stP p1 fun q1 => stP p2 fun q2 => stP p3 fun q3 => stP p4 fun q4 => stP p5 fun q5 => stP p6 fun q6 => stP p7 fun q7 => stP p8 fun q8 => stP p9 fun q9 => stP p10 fun q10 => stP p11 fun q11 => Q (.new (.lst [q0, q1, q2, q3, q4, q5, q6, q7, q8, q9, q10, q11]))) := propext ⟨fun ⟨_, h, hq⟩ => by simpa [stP, and_assoc] using (And.intro h hq), fun h => ⟨by show 12 ≤ sizeLine; rw [sizeLine_eq]; decide, by simpa [stP, and_assoc] using h⟩⟩
theorem lP_13 {p0 p1 p2 p3 p4 p5 p6 p7 p8 p9 p10 p11 p12 : PV} : lP [p0, p1, p2, p3, p4, p5, p6, p7, p8, p9, p10, p11, p12] Q = (stP p0 fun q0 => stP p1 fun q1 => stP p2 fun q2 => stP p3 fun q3 => stP p4 fun q4 => stP p5 fun q5 => stP p6 fun q6 => stP p7 fun q7 => stP p8 fun q8 => stP p9 fun q9 => stP p10 fun q10 => stP p11 fun q11 => stP p12 fun q12 => Q (.new (.lst [q0, q1, q2, q3, q4, q5, q6, q7, q8, q9, q10, q11, q12]))) := propext ⟨fun ⟨_, h, hq⟩ => by simpa [stP, and_assoc] using (And.intro h hq), fun h => ⟨by show 13 ≤ sizeLine; rw [sizeLine_eq]; decide, by simpa [stP, and_assoc] using h⟩⟩
theorem lP_14 {p0 p1 p2 p3 p4 p5 p6 p7 p8 p9 p10 p11 p12 p13 : PV} : lP [p0, p1, p2, p3, p4, p5, p6, p7, p8, p9, p10, p11, p12, p13] Q = (stP p0 fun q0 => stP p1 fun q1 => stP p2 fun q2 => stP p3 fun q3 => stP p4 fun q4 => stP p5 fun q5 => stP p6 fun q6 => stP p7 fun q7 => stP p8 fun q8 => stP p9 fun q9 => stP p10 fun q10 => stP p11 fun q11 => stP p12 fun q12 => stP p13 fun q13 => Q (.new (.lst [q0, q1, q2, q3, q4, q5, q6, q7, q8, q9, q10, q11, q12, q13]))) := propext ⟨fun ⟨_, h, hq⟩ => by simpa [stP, and_assoc] using (And.intro h hq), fun h => ⟨by show 14 ≤ sizeLine; rw [sizeLine_eq]; decide, by simpa [stP, and_assoc] using h⟩⟩
theorem lP_15 {p0 p1 p2 p3 p4 p5 p6 p7 p8 p9 p10 p11 p12 p13 p14 : PV} : lP [p0, p1, p2, p3, p4, p5, p6, p7, p8, p9, p10, p11, p12, p13, p14] Q = (stP p0 fun q0 => stP p1 fun q1 => stP p2 fun q2 => stP p3 fun q3 => stP p4 fun q4 => stP p5 fun q5 => stP p6 fun q6 => stP p7 fun q7 => stP p8 fun q8 => stP p9 fun q9 => stP p10 fun q10 => stP p11 fun q11 => stP p12 fun q12 => stP p13 fun q13 => stP p14 fun q14 => Q (.new (.lst [q0, q1, q2, q3, q4, q5, q6, q7, q8, q9, q10, q11, q12, q13, q14]))) := propext ⟨fun ⟨_, h, hq⟩ => by simpa [stP, and_assoc] using (And.intro h hq), fun h => ⟨by show 15 ≤ sizeLine; rw [sizeLine_eq]; decide, by simpa [stP, and_assoc] using h⟩⟩
theorem lP_16 {p0 p1 p2 p3 p4 p5 p6 p7 p8 p9 p10 p11 p12 p13 p14 p15 : PV} : lP [p0, p1, p2, p3, p4, p5, p6, p7, p8, p9, p10, p11, p12, p13, p14, p15] Q = (stP p0 fun q0 => stP p1 fun q1 => stP p2 fun q2 => stP p3 fun q3 => stP p4 fun q4 => stP p5 fun q5 => stP p6 fun q6 => stP p7 fun q7 => stP p8 fun q8 => stP p9 fun q9 => stP p10 fun q10 => stP p11 fun q11 => stP p12 fun q12 => stP p13 fun q13 => stP p14 fun q14 => stP p15 fun q15 => Q (.new (.lst [q0, q1, q2, q3, q4, q5, q6, q7, q8, q9, q10, q11, q12, q13, q14, q15]))) := propext ⟨fun ⟨_, h, hq⟩ => by simpa [stP, and_assoc] using (And.intro h hq), fun h => ⟨by show 16 ≤ sizeLine; rw [sizeLine_eq]; decide, by simpa [stP, and_assoc] using h⟩⟩
end
end L3

/-! Values without the heap: loops that keep the rest of the environment; what a def tells. -/
namespace L3
open PySem PySem.Spec L2
section
variable {p q : PV} {Q : PQ} {R : XQ} {ρ : PEnv} {s r : WSt} {D : PEnds} {xs : List PV} {td : TD} {c : WTs}
def setE (ρ : PEnv) : List (Nat × Option PV) → PEnv
  | [] => ρ
  | x :: l => setE (ρ.set x.1 x.2) l
def setL (ρ : PEnv) (l : List (Nat × Option PV)) (K : PEnv → Prop) : Prop := K (setE ρ l)
theorem setL_n {K : PEnv → Prop} : setL ρ [] K = K ρ := rfl
theorem setL_c {K : PEnv → Prop} {i : Nat} {v : Option PV} {l : List (Nat × Option PV)} : setL ρ ((i, v) :: l) K = sE ρ i v fun ρ' => setL ρ' l K := rfl
theorem loopP_sl {σ : Type} (pl : σ → List (Nat × Option PV)) (J : Nat → σ → Prop) (s0 : σ) (h0 : ρ = setE ρ (pl s0) ∧ J 0 s0)
    (hs : ∀ i st p, J i st → xs[i]? = some p → setL ρ (pl st) fun ρ1 => tgP td p ρ1 fun ρ' => s ⟨fun ρ'' => ∃ s', ρ'' = setE ρ (pl s') ∧ J (i + 1) s', D.rt, D.nx, fun ρ'' => ∃ s', ρ'' = setE ρ (pl s') ∧ J (i + 1) s', D.ex⟩ ρ')
    (he : ∀ st, J xs.length st → setL ρ (pl st) D.nx) : loopP xs td s D ρ := loopP_st (fun st => setE ρ (pl st)) J s0 h0 hs he
theorem loopS_sl {σ : Type} (pl : σ → List (Nat × Option PV)) (J : Nat → σ → Prop) (s0 : σ) (h0 : ρ = setE ρ (pl s0) ∧ J 0 s0)
    (hs : ∀ i st p, J i st → xs[i]? = some p → setL ρ (pl st) fun ρ1 => tgP td p ρ1 fun ρ' => s ⟨fun ρ'' => ∃ s', ρ'' = setE ρ (pl s') ∧ J (i + 1) s', D.rt, fun ρ' => r D ρ', fun ρ'' => ∃ s', ρ'' = setE ρ (pl s') ∧ J (i + 1) s', D.ex⟩ ρ')
    (he : ∀ st, J xs.length st → setL ρ (pl st) fun ρ' => r D ρ') : loopS xs td s r D ρ := loopS_st (fun st => setE ρ (pl st)) J s0 h0 hs he
/-! for a loop whose turns leave nothing of worth behind -/
theorem loopP_f1 (a : Nat) (h0 : ∃ o, ρ = setE ρ [(a, o)])
    (hs : ∀ (i : Nat) p o, xs[i]? = some p → setL ρ [(a, o)] fun ρ1 => tgP td p ρ1 fun ρ' => s ⟨fun ρ'' => ∃ o, ρ'' = setE ρ [(a, o)], D.rt, D.nx, fun ρ'' => ∃ o, ρ'' = setE ρ [(a, o)], D.ex⟩ ρ')
    (he : ∀ o, setL ρ [(a, o)] D.nx) : loopP xs td s D ρ := by
  obtain ⟨o, h0⟩ := h0
  refine loopP_sl (fun o => [(a, o)]) (fun _ _ => True) o ⟨h0, trivial⟩ (fun i st p _ hp => ?_) fun st _ => he st
  have e : (fun ρ'' => ∃ s', ρ'' = setE ρ [(a, s')] ∧ True) = fun ρ'' => ∃ o, ρ'' = setE ρ [(a, o)] := by funext ρ''; simp
  simp only [e]
  exact hs i p st hp
theorem loopP_f2 (a b : Nat) (h0 : ∃ o u, ρ = setE ρ [(a, o), (b, u)])
    (hs : ∀ (i : Nat) p o u, xs[i]? = some p → setL ρ [(a, o), (b, u)] fun ρ1 => tgP td p ρ1 fun ρ' => s ⟨fun ρ'' => ∃ o u, ρ'' = setE ρ [(a, o), (b, u)], D.rt, D.nx, fun ρ'' => ∃ o u, ρ'' = setE ρ [(a, o), (b, u)], D.ex⟩ ρ')
    (he : ∀ o u, setL ρ [(a, o), (b, u)] D.nx) : loopP xs td s D ρ := by
  obtain ⟨o, u, h0⟩ := h0
  refine loopP_sl (fun o => [(a, o.1), (b, o.2)]) (fun _ _ => True) (o, u) ⟨h0, trivial⟩ (fun i st p _ hp => ?_) fun st _ => he st.1 st.2
  have e : (fun ρ'' => ∃ s' : Option PV × Option PV, ρ'' = setE ρ [(a, s'.1), (b, s'.2)] ∧ True) = fun ρ'' => ∃ o u, ρ'' = setE ρ [(a, o), (b, u)] := by
    funext ρ''; exact propext ⟨fun ⟨s', h, _⟩ => ⟨_, _, h⟩, fun ⟨o, u, h⟩ => ⟨(o, u), h, trivial⟩⟩
  simp only [e]
  exact hs i p st.1 st.2 hp
theorem loopP_f3 (a b c : Nat) (h0 : ∃ o u v, ρ = setE ρ [(a, o), (b, u), (c, v)])
    (hs : ∀ (i : Nat) p o u v, xs[i]? = some p → setL ρ [(a, o), (b, u), (c, v)] fun ρ1 => tgP td p ρ1 fun ρ' => s ⟨fun ρ'' => ∃ o u v, ρ'' = setE ρ [(a, o), (b, u), (c, v)], D.rt, D.nx, fun ρ'' => ∃ o u v, ρ'' = setE ρ [(a, o), (b, u), (c, v)], D.ex⟩ ρ')
    (he : ∀ o u v, setL ρ [(a, o), (b, u), (c, v)] D.nx) : loopP xs td s D ρ := by
  obtain ⟨o, u, v, h0⟩ := h0
  refine loopP_sl (fun o => [(a, o.1), (b, o.2.1), (c, o.2.2)]) (fun _ _ => True) (o, u, v) ⟨h0, trivial⟩ (fun i st p _ hp => ?_) fun st _ => he st.1 st.2.1 st.2.2
  have e : (fun ρ'' => ∃ s' : Option PV × Option PV × Option PV, ρ'' = setE ρ [(a, s'.1), (b, s'.2.1), (c, s'.2.2)] ∧ True) = fun ρ'' => ∃ o u v, ρ'' = setE ρ [(a, o), (b, u), (c, v)] := by
    funext ρ''; exact propext ⟨fun ⟨s', h, _⟩ => ⟨_, _, _, h⟩, fun ⟨o, u, v, h⟩ => ⟨(o, u, v), h, trivial⟩⟩
  simp only [e]
  exact hs i p st.1 st.2.1 st.2.2 hp
theorem loopP_f4 (a b c d : Nat) (h0 : ∃ o u v w, ρ = setE ρ [(a, o), (b, u), (c, v), (d, w)])
    (hs : ∀ (i : Nat) p o u v w, xs[i]? = some p → setL ρ [(a, o), (b, u), (c, v), (d, w)] fun ρ1 => tgP td p ρ1 fun ρ' => s ⟨fun ρ'' => ∃ o u v w, ρ'' = setE ρ [(a, o), (b, u), (c, v), (d, w)], D.rt, D.nx, fun ρ'' => ∃ o u v w, ρ'' = setE ρ [(a, o), (b, u), (c, v), (d, w)], D.ex⟩ ρ')
    (he : ∀ o u v w, setL ρ [(a, o), (b, u), (c, v), (d, w)] D.nx) : loopP xs td s D ρ := by
  obtain ⟨o, u, v, w, h0⟩ := h0
  refine loopP_sl (fun o => [(a, o.1), (b, o.2.1), (c, o.2.2.1), (d, o.2.2.2)]) (fun _ _ => True) (o, u, v, w) ⟨h0, trivial⟩ (fun i st p _ hp => ?_) fun st _ => he st.1 st.2.1 st.2.2.1 st.2.2.2
  have e : (fun ρ'' => ∃ s' : Option PV × Option PV × Option PV × Option PV, ρ'' = setE ρ [(a, s'.1), (b, s'.2.1), (c, s'.2.2.1), (d, s'.2.2.2)] ∧ True) = fun ρ'' => ∃ o u v w, ρ'' = setE ρ [(a, o), (b, u), (c, v), (d, w)] := by
    funext ρ''; exact propext ⟨fun ⟨s', h, _⟩ => ⟨_, _, _, _, h⟩, fun ⟨o, u, v, w, h⟩ => ⟨(o, u, v, w), h, trivial⟩⟩
  simp only [e]
  exact hs i p st.1 st.2.1 st.2.2.1 st.2.2.2 hp
theorem loopS_f1 (a : Nat) (h0 : ∃ o, ρ = setE ρ [(a, o)])
    (hs : ∀ (i : Nat) p o, xs[i]? = some p → setL ρ [(a, o)] fun ρ1 => tgP td p ρ1 fun ρ' => s ⟨fun ρ'' => ∃ o, ρ'' = setE ρ [(a, o)], D.rt, fun ρ' => r D ρ', fun ρ'' => ∃ o, ρ'' = setE ρ [(a, o)], D.ex⟩ ρ')
    (he : ∀ o, setL ρ [(a, o)] fun ρ' => r D ρ') : loopS xs td s r D ρ := loopP_f1 (D := ⟨fun ρ' => r D ρ', D.rt, D.bk, D.ct, D.ex⟩) a h0 hs he
theorem loopS_f2 (a b : Nat) (h0 : ∃ o u, ρ = setE ρ [(a, o), (b, u)])
    (hs : ∀ (i : Nat) p o u, xs[i]? = some p → setL ρ [(a, o), (b, u)] fun ρ1 => tgP td p ρ1 fun ρ' => s ⟨fun ρ'' => ∃ o u, ρ'' = setE ρ [(a, o), (b, u)], D.rt, fun ρ' => r D ρ', fun ρ'' => ∃ o u, ρ'' = setE ρ [(a, o), (b, u)], D.ex⟩ ρ')
    (he : ∀ o u, setL ρ [(a, o), (b, u)] fun ρ' => r D ρ') : loopS xs td s r D ρ := loopP_f2 (D := ⟨fun ρ' => r D ρ', D.rt, D.bk, D.ct, D.ex⟩) a b h0 hs he
theorem loopS_f3 (a b c : Nat) (h0 : ∃ o u v, ρ = setE ρ [(a, o), (b, u), (c, v)])
    (hs : ∀ (i : Nat) p o u v, xs[i]? = some p → setL ρ [(a, o), (b, u), (c, v)] fun ρ1 => tgP td p ρ1 fun ρ' => s ⟨fun ρ'' => ∃ o u v, ρ'' = setE ρ [(a, o), (b, u), (c, v)], D.rt, fun ρ' => r D ρ', fun ρ'' => ∃ o u v, ρ'' = setE ρ [(a, o), (b, u), (c, v)], D.ex⟩ ρ')
    (he : ∀ o u v, setL ρ [(a, o), (b, u), (c, v)] fun ρ' => r D ρ') : loopS xs td s r D ρ := loopP_f3 (D := ⟨fun ρ' => r D ρ', D.rt, D.bk, D.ct, D.ex⟩) a b c h0 hs he
theorem loopS_f4 (a b c d : Nat) (h0 : ∃ o u v w, ρ = setE ρ [(a, o), (b, u), (c, v), (d, w)])
    (hs : ∀ (i : Nat) p o u v w, xs[i]? = some p → setL ρ [(a, o), (b, u), (c, v), (d, w)] fun ρ1 => tgP td p ρ1 fun ρ' => s ⟨fun ρ'' => ∃ o u v w, ρ'' = setE ρ [(a, o), (b, u), (c, v), (d, w)], D.rt, fun ρ' => r D ρ', fun ρ'' => ∃ o u v w, ρ'' = setE ρ [(a, o), (b, u), (c, v), (d, w)], D.ex⟩ ρ')
    (he : ∀ o u v w, setL ρ [(a, o), (b, u), (c, v), (d, w)] fun ρ' => r D ρ') : loopS xs td s r D ρ := loopP_f4 (D := ⟨fun ρ' => r D ρ', D.rt, D.bk, D.ct, D.ex⟩) a b c d h0 hs he
theorem while_sl {σ : Type} (pl : σ → List (Nat × Option PV)) (J : σ → Prop) (m : σ → Nat) (s0 : σ) (h0 : ρ = setE ρ (pl s0) ∧ J s0)
    (hs : ∀ st, J st → setL ρ (pl st) fun ρ1 => c ρ1 (fun k => if k = true then s ⟨fun ρ'' => ∃ s', ρ'' = setE ρ (pl s') ∧ J s' ∧ m s' < m st, D.rt, D.nx, fun ρ'' => ∃ s', ρ'' = setE ρ (pl s') ∧ J s' ∧ m s' < m st, D.ex⟩ ρ1 else D.nx ρ1) fun x => D.ex x ρ1) : wWhile c s D ρ := while_st (fun st => setE ρ (pl st)) J m s0 h0 hs
theorem whileS_sl {σ : Type} (pl : σ → List (Nat × Option PV)) (J : σ → Prop) (m : σ → Nat) (s0 : σ) (h0 : ρ = setE ρ (pl s0) ∧ J s0)
    (hs : ∀ st, J st → setL ρ (pl st) fun ρ1 => c ρ1 (fun k => if k = true then s ⟨fun ρ'' => ∃ s', ρ'' = setE ρ (pl s') ∧ J s' ∧ m s' < m st, D.rt, fun ρ' => r D ρ', fun ρ'' => ∃ s', ρ'' = setE ρ (pl s') ∧ J s' ∧ m s' < m st, D.ex⟩ ρ1 else r D ρ1) fun x => D.ex x ρ1) : whileS c s r D ρ := whileS_st (fun st => setE ρ (pl st)) J m s0 h0 hs
end
theorem ite_same' {c : Prop} [Decidable c] {p q : Prop} (h1 : c → p) (h2 : ¬ c → q) : if c then p else q := by
  split
  · exact h1 ‹_›
  · exact h2 ‹_›
end L3

/-! Values without the heap: instances of an own class with two fields n and d: fields, methods, making. -/
namespace L3
open PySem PySem.Spec L2
abbrev rat (C : Addr) (n d : Int) : PV := .obj C ["n", "d"] [.int n, .int d]
section
variable {K : PySem.W.Frag} {Sa M : Addr → Prop} {H0 Hb H : Hp}
theorem lookup_rep : ∀ {ns : List Str} {ps : List PV} {xs : List V} {f : Str} {p : PV}, Reps K H ps xs → (ns.zip ps).lookup f = some p → ∃ v, (ns.zip xs).lookup f = some v ∧ Rep K H p v
  | [], _, _, _, _, _, h => by simp at h
  | n :: ns, _, _, f, p, .nil, h => by simp at h
  | n :: ns, p0 :: ps, v0 :: xs, f, p, .cons r t, h => by
    rw [List.zip_cons_cons, List.lookup_cons] at h ⊢
    split at h
    · cases h
      exact ⟨_, rfl, r⟩
    · exact lookup_rep t h
theorem lookup_out : ∀ {ns : List Str} {xs : List V} {m : Str}, m ∉ ns → (ns.zip xs).lookup m = none
  | [], _, _, _ => by simp
  | n :: ns, [], _, _ => by simp
  | n :: ns, x :: xs, m, h => by
    rw [List.zip_cons_cons, List.lookup_cons]
    have h1 : m ≠ n := fun e => h (by rw [e]; exact List.mem_cons_self)
    have h2 : (m == n) = false := beq_eq_false_iff_ne.mpr h1
    rw [h2]
    exact lookup_out fun z => h (List.mem_cons_of_mem _ z)
theorem ERep.obj {C : Addr} {ns : List Str} {ps : List PV} {v : V} (r : ERep K Sa M H0 Hb H (.obj C ns ps) v) : ∃ a dx xs, v = .ref a ∧ hide M H a = some (.ins C dx (ns.zip xs)) ∧ ns.length = xs.length ∧ Reps K (hide M H) ps xs := by
  cases r with
  | s r =>
    cases r with
    | plain r =>
      cases r with
      | obj e l q => exact ⟨_, _, _, rfl, e, l, q⟩
end
/-! ### facts of such a class -/
def clsB (x : Str) : FaL := (He.Fa.cls x).ok
def noatB (x f : Str) : FaL := (He.Fa.noat x f).ok
def methB (x m : Str) : FaL := (He.Fa.meth x m).ok
def mkrB (x : Str) : FaL := (He.Fa.mkr x).ok
def clsoB (x : Str) : FaL := fun K => He.eqO (PySem.W.findIn K (.ref (He.ga K x)) "__class__") (some (some (.builtin "object.__class__"))) && (decide (PySem.W.specialIn K (.builtin "object.__class__") "__get__" = some (some (.builtin "getset_descriptor.__get__"))) && (decide (PySem.W.takesIn K (.builtin "object.__class__") = some true) && decide (PySem.W.mroIn K (He.ga K x) (.type "object") = some true)))
def ownTB (x : Str) (t : String) : FaL := fun K => decide (PySem.W.kitOne K (.ref (He.ga K x)) (.type t) = some false)
def ownSB (x : Str) : FaL := fun K => decide (PySem.W.kitOne K (.ref (He.ga K x)) (.ref (He.ga K x)) = some true)
def kitsB (x : Str) : FaL := fun K => kinds.all fun n => decide (PySem.W.kitOne K (.type n) (.ref (He.ga K x)) = some false)
theorem objC_ok {K : PySem.W.Frag} {x : Str} (c : clsB x K = true) (d : clsoB x K = true) : ObjC K (He.ga K x) := by
  obtain ⟨d1, d⟩ := ba d
  obtain ⟨d2, d⟩ := ba d
  obtain ⟨d3, d4⟩ := ba d
  exact ⟨fun H a dx fs e => .base (.ins e (He.cls_ok c) (He.eqO_ok d1) (of_decide_eq_true d2) (of_decide_eq_true d3) (of_decide_eq_true d4))⟩
theorem SaysL.defD_ {fa : List FaL} {fn : List He.DefD} {K : PySem.W.Frag} (c : SaysL fa fn K) (i : Nat) {d : He.DefD} (h : fn[i]? = some d := by rfl) : FunD K d.name d.qual d.params d.body d.scope (d.dvs K) (d.kws K) (He.fAd K d.at_) (fdOf K d.at_) := by
  have c2 := (ba (show ((fa.all fun f => f K) && fn.all fun d => d.ok K) = true from congrArg (fun z : He.AlD => z.1) c)).2
  have e : fn.map (fun d => He.fnW K d.at_) = fn.map He.DefD.val := congrArg (fun z : He.AlD => z.2) c
  have e2 : (fn.map fun d => He.fnW K d.at_)[i]? = (fn.map He.DefD.val)[i]? := by rw [e]
  rw [List.getElem?_map, List.getElem?_map, h] at e2
  obtain ⟨fd, F⟩ := He.DefD.funD (Option.some.inj e2) (List.all_eq_true.mp c2 _ (List.mem_of_getElem? h))
  obtain ⟨oc, od, dV, kV, doc, pm, an, cdv, ct, osl, e3, l, cd, dv, kw⟩ := F.ex
  have e4 : fdOf K d.at_ = fd := by
    unfold fdOf
    have l2 : K.lookup (He.fAd K d.at_) = some ⟨oc, od, .func fd, osl⟩ := l
    rw [l2]
  rw [e4]
  exact F
/-! ### a field -/
def fldP (C : Addr) (f : Str) (p : PV) (Q : PQ) : Prop := ∃ ns xs v, p = .obj C ns xs ∧ (ns.zip xs).lookup f = some v ∧ Q v
def wFld (C : Addr) (f : Str) (a : WEx) : WEx := fun ρ Q R => a ρ (fun p => fldP C f p Q) R
section
variable {X : Cx} {W : WX} {pos p apos : Pos} {e o : Expr} {es : List Expr} {wa wo : WEx} {was : WAs} {C f : Addr} {m : Str} {k n : Nat} {fd : FuncData} {ps : List Str} {fs : FS}
theorem ve_fld {x : Str} (c : Cls X.K C) (n : NoAttr X.K C x) (ha : VE X W e wa) (hb : attributeBase e x X.env (eval e X.env) = eval e X.env := by rfl) : VE X W (.Attribute e x pos) (wFld C x wa) :=
  ⟨PE.imp (pe_fld ha.pe hb) fun σ H Q ⟨G, ρ, Qp, Rp, g, hw, kq, kx⟩ => ⟨G, ρ, _, Rp, g, hw, fun p v H1 s1 g1 r1 h1 => by
    obtain ⟨ns, xs, v', rfl, l, h1⟩ := h1
    obtain ⟨a, dx, ys, rfl, e1, _, q⟩ := r1.obj
    obtain ⟨u, l2, r⟩ := lookup_rep q l
    exact ⟨a, C, dx, _, u, rfl, hide_sub _ _ e1, c, n, l2, (kq.step s1).at g1 r h1⟩, kx⟩⟩
/-! ### a method -/
def tMethS (C : Addr) (m : Str) (sp : Sp) (E : L2.St → XK) (ta : TE) (t : TA) : TE := fun σ H Q => ta σ H fun x H1 => ∃ a dx fs, x = .ref a ∧ H1 a = some (.ins C dx fs) ∧ fs.lookup m = none ∧ t σ H1 fun vs H2 => sp (x :: vs) H2 Q (E σ)
theorem pe_methS' {CX : CXT} {sp : Sp} {E : L2.St → XK} {ta : TE} {t : TA} {pl : Sem Bool} (he : PE X o ta) (c : Cls X.K C) (hm : Meth X.K C m f) (F : FnOk X.prog X.w X.K X.mg X.base CX k f fd ps sp) (hr : Room k X.A) (hb : Binds X.K fd ps []) (hx : ∀ σ, PassesAt CX X σ (E σ)) (ha : PA X (e :: es) t)
    (hst : starEach (e :: es) X.env = (false, eval e X.env) :: starEach es X.env := by rfl) (hpl : (backTo pos (starEach es X.env)).any (·.1) = false := by rfl)
    (ht : eval (.Call (.Attribute o m apos) (e :: es) [] pos) X.env = (do
      let ov ← eval o X.env
      standAt apos.atName
      let (f, first) ← holding [ov] (getMethod ov m pl)
      callWith pos f first (backTo pos (starEach (e :: es) X.env)) (backToKw pos (keywordEach [] X.env))) := by rfl) :
    PE X (.Call (.Attribute o m apos) (e :: es) [] pos) (tMethS C m sp E ta t) := by
  refine ⟨fun pins s σ H Q I h => ?_⟩
  refine PySem.W.methodCall_KW (pl := pl) (thn (he.run pins s σ H _ I h) fun u s1 ⟨x, H1, I1, rx, a, dx, fs, ex, ea, l, q⟩ => ?_) ht
  subst ex
  obtain rfl : u = Value.ref a := rx
  refine getmeth_ok I1 ea c hm l ?_
  refine PySem.W.callWith_K (first := [.ref a]) (h₀ := X.base) I.ok.mod.kin hm.kp (thn (ha.run pos pins s1 σ H1 _ I1 q) fun us s2 ⟨vs, H2, I2, r, q2⟩ => ⟨I2.kIn, ?_⟩) hst hpl
  exact run_fnS (us := .ref a :: us) (vs := .ref a :: vs) F hr hb (hx σ) I2 (.cons rfl r) q2
theorem pe_methS0 {CX : CXT} {sp : Sp} {E : L2.St → XK} {ta : TE} {pl : Sem Bool} (he : PE X o ta) (c : Cls X.K C) (hm : Meth X.K C m f) (F : FnOk X.prog X.w X.K X.mg X.base CX k f fd ps sp) (hr : Room k X.A) (hb : Binds X.K fd ps []) (hx : ∀ σ, PassesAt CX X σ (E σ))
    (ht : eval (.Call (.Attribute o m apos) [] [] pos) X.env = (do
      let ov ← eval o X.env
      standAt apos.atName
      let (f, first) ← holding [ov] (getMethod ov m pl)
      callWith pos f first (backTo pos (starEach [] X.env)) (backToKw pos (keywordEach [] X.env))) := by rfl) :
    PE X (.Call (.Attribute o m apos) [] [] pos) (tMethS C m sp E ta tNil) := by
  refine ⟨fun pins s σ H Q I h => ?_⟩
  refine PySem.W.methodCall_KW (pl := pl) (thn (he.run pins s σ H _ I h) fun u s1 ⟨x, H1, I1, rx, a, dx, fs, ex, ea, l, q⟩ => ?_) ht
  subst ex
  obtain rfl : u = Value.ref a := rx
  refine getmeth_ok I1 ea c hm l ?_
  exact PySem.W.callWith_K0 (first := [.ref a]) I1.kIn hm.kp (run_fnS (us := [.ref a]) (vs := [.ref a]) F hr hb (hx σ) I1 (.cons rfl .nil) q)
def methP (C : Addr) (m : Str) (o : PV) (k : Prop) : Prop := (∃ ns xs, o = .obj C ns xs ∧ m ∉ ns) ∧ k
def wMeth (C : Addr) (m : Str) (n : Nat) (fs : FS) (o : WEx) (as : WAs) : WEx := fun ρ Q R => o ρ (fun p => methP C m p (as ρ (fun ps => oFn n fs (p :: ps) Q R) R)) R
theorem lft_meth {K : PySem.W.Frag} {t : TA} {σ : L2.St} {H : Hp} {Q : VK} (ht : ∀ σ H Q, lftA K W was σ H Q → t σ H Q) (h : lftE K W (wMeth C m n fs wo was) σ H Q) : tMethS C m (spL K n fs) (fun σ cls d H' => W cls d σ H') (lftE K W wo) t σ H Q := by
  obtain ⟨G, ρ, Qp, Rp, g, hw, kq, kx⟩ := h
  refine ⟨G, ρ, _, Rp, g, hw, fun p v H1 s1 g1 r1 h1 => ?_, kx⟩
  obtain ⟨⟨ns, xs, rfl, hm⟩, h1⟩ := h1
  obtain ⟨a, dx, ys, rfl, e1, _, q⟩ := r1.obj
  refine ⟨a, dx, _, rfl, hide_sub _ _ e1, lookup_out hm, ht _ _ _ ⟨G, ρ, _, Rp, g1, h1, fun ps vs H2 s2 g2 r2 h2 => ?_, kx.step s1⟩⟩
  exact lft_fn g2 ((s1.trans s2).gr g2) (.cons (r1.mono s2) (r2.base (s1.gr g1))) h2 (kq.step (s1.trans s2)) (kx.step (s1.trans s2))
theorem PE.impl {t t' : TE} (h : PE X e t) (i : ∀ σ H Q, t' σ H Q → t σ H Q) : PE X e t' := PE.imp h i
theorem ve_meth (c : Cls X.K C) (hm : Meth X.K C m f) (F : FnOk X.prog X.w X.K X.mg X.base (L2.CX X.prog X.w) k f fd ps (spL X.K n fs)) (hr : Room k X.A) (tk : Takes X W) (hb : Binds X.K fd ps []) {pl : Sem Bool} (ho : VE X W o wo) (ha : VA X W (e :: es) was)
    (hst : starEach (e :: es) X.env = (false, eval e X.env) :: starEach es X.env := by rfl) (hpl : (backTo pos (starEach es X.env)).any (·.1) = false := by rfl)
    (ht : eval (.Call (.Attribute o m apos) (e :: es) [] pos) X.env = (do
      let ov ← eval o X.env
      standAt apos.atName
      let (f, first) ← holding [ov] (getMethod ov m pl)
      callWith pos f first (backTo pos (starEach (e :: es) X.env)) (backToKw pos (keywordEach [] X.env))) := by rfl) : VE X W (.Call (.Attribute o m apos) (e :: es) [] pos) (wMeth C m n fs wo was) :=
  ⟨PE.imp (pe_methS' (pl := pl) ho.pe c hm F hr hb (fun σ => passAt tk σ) ha.pa hst hpl ht) fun σ H Q h => lft_meth (fun _ _ _ z => z) h⟩
theorem ve_meth0 (c : Cls X.K C) (hm : Meth X.K C m f) (F : FnOk X.prog X.w X.K X.mg X.base (L2.CX X.prog X.w) k f fd ps (spL X.K n fs)) (hr : Room k X.A) (tk : Takes X W) (hb : Binds X.K fd ps []) {pl : Sem Bool} (ho : VE X W o wo)
    (ht : eval (.Call (.Attribute o m apos) [] [] pos) X.env = (do
      let ov ← eval o X.env
      standAt apos.atName
      let (f, first) ← holding [ov] (getMethod ov m pl)
      callWith pos f first (backTo pos (starEach [] X.env)) (backToKw pos (keywordEach [] X.env))) := by rfl) : VE X W (.Call (.Attribute o m apos) [] [] pos) (wMeth C m n fs wo wNil) :=
  ⟨PE.imp (pe_methS0 (pl := pl) ho.pe c hm F hr hb (fun σ => passAt tk σ) ht) fun σ H Q h => lft_meth (fun σ H Q ⟨G, ρ, Qp, Rp, g, hw, kq, kx⟩ => kq [] [] H .refl g .nil hw) h⟩
end
/-! ### making -/
def ratN (n d : Int) : Int := if 0 < d then n.fdiv (Int.gcd n d) else (-n).fdiv (Int.gcd n d)
def ratD (n d : Int) : Int := ((d.natAbs : Int)).fdiv (Int.gcd n d)
theorem ratN_1 {n : Int} : ratN n 1 = n := by
  unfold ratN
  have e : (Int.gcd n 1 : Int) = 1 := by simp
  rw [if_pos (by decide), e, fdiv_e (by decide), Int.ediv_one]
theorem ratD_1 {n : Int} : ratD n 1 = 1 := by
  unfold ratD
  have e : (Int.gcd n 1 : Int) = 1 := by simp
  rw [e]; rfl
def spInit (C : Addr) : Sp := fun vs H Q _ => ∃ (x dx : Addr) (n d : Int), vs = [.ref x, .int n, .int d] ∧ d ≠ 0 ∧ d.natAbs < 2 ^ 8000 ∧ H x = some (.ins C dx []) ∧
  ∀ H', (∀ b o, b ≠ x → H b = some o → H' b = some o) → H' x = some (.ins C dx [("n", .int (ratN n d)), ("d", .int (ratD n d))]) → Q .non H'
def nxE (k : PEnv → Prop) : PEnds := ⟨k, fun _ => False, fun _ => False, fun _ => False, fun _ _ => False⟩
def InitPure (w1 w2 w3 : WSt) (w4 w5 : WEx) : Prop := ∀ (x : Addr) (n d : Int), d ≠ 0 → d.natAbs < 2 ^ 8000 → w1 (nxE fun ρ => w2 (nxE fun ρ => w3 (nxE fun ρ => ∃ g : Int, ρ = [some (.adr x), some (.int n), some (.int d), some (.int g)] ∧
  w4 ρ (fun p => p = .int (ratN n d)) (fun _ => False) ∧ w5 ρ (fun p => p = .int (ratD n d)) (fun _ => False)) ρ) ρ) [some (.adr x), some (.int n), some (.int d), none]
section
variable {K : PySem.W.Frag} {W : WX} {w1 w2 w3 : WSt} {w4 w5 : WEx} {C x dx : Addr} {n d : Int} {Hs : Hp} {D : Ends} {σ : L2.St}
theorem good_flat {ρ : PEnv} {σ : L2.St} {G : Gd} {H H' : Hp} (g : Good K G ρ σ H) {x : Addr} {n d gg : Int} (e : ρ = [some (.adr x), some (.int n), some (.int d), some (.int gg)]) : Good K ⟨fun _ => False, fun _ => False, fun _ => none⟩ ρ σ H' := by
  subst e
  have no : ∀ (i : Nat) (p : PV), [some (PV.adr x), some (.int n), some (.int d), some (.int gg)][i]? = some (some p) → (p = .adr x ∨ ∃ j, p = .int j) := fun i p h => by
    match i, h with
    | 0, h => exact .inl (by simpa using h.symm)
    | 1, h => exact .inr ⟨n, by simpa using h.symm⟩
    | 2, h => exact .inr ⟨d, by simpa using h.symm⟩
    | 3, h => exact .inr ⟨gg, by simpa using h.symm⟩
    | i + 4, h => simp at h
  have nm : ∀ (i : Nat) (p : PV), [some (PV.adr x), some (.int n), some (.int d), some (.int gg)][i]? = some (some p) → isMut p = false := fun i p h => by
    rcases no i p h with rfl | ⟨j, rfl⟩ <;> rfl
  refine ⟨g.len, (fun _ _ _ h => nomatch h), fun _ h => h.elim, fun a z => ?_, fun a z => ?_, fun i p h => ?_, fun i j p q a e1 _ m1 => ?_⟩
  · rcases z with z | ⟨i, e1, _⟩
    · exact z.elim
    · have := nm i _ e1; cases this
  · rcases z with z | ⟨i, e1, _⟩
    · exact z.elim
    · have := nm i _ e1; cases this
  · obtain ⟨v, e1, r⟩ := g.slot i p h
    refine ⟨v, e1, ?_⟩
    rcases no i p h with rfl | ⟨j, rfl⟩
    · cases r with
      | plain r => cases r; exact .plain (.adr _)
    · cases r with
      | plain r => cases r; exact .plain (.int _)
  · rw [nm i p e1] at m1; cases m1
theorem init_reads (hp : InitPure w1 w2 w3 w4 w5) (c : Cls K C) (a1 : NoAttr K C "n") (a2 : NoAttr K C "d") (hd : d ≠ 0) (hd2 : d.natAbs < 2 ^ 8000) (hx : Hs x = some (.ins C dx []))
    (g : Good K ⟨fun _ => False, fun _ => False, Hs⟩ [some (.adr x), some (.int n), some (.int d), none] σ Hs)
    (hq : ∀ σ' H', (∀ b o, b ≠ x → Hs b = some o → H' b = some o) → H' x = some (.ins C dx [("n", .int (ratN n d)), ("d", .int (ratD n d))]) → D.nx σ' H') :
    tSeq (lftS K W w1) (tSeq (lftS K W w2) (tSeq (lftS K W w3) (tSeq (sFld K (tVar 0) (lftE K W w4) "n") (sFld K (tVar 0) (lftE K W w5) "d")))) D σ Hs := by
  have hpx := hp x n d hd hd2
  have de : ∀ {k : PEnv → Prop} {D' : Ends}, (∀ ρ σ H, Good K ⟨fun _ => False, fun _ => False, Hs⟩ ρ σ H → k ρ → D'.nx σ H) → DE K W ⟨fun _ => False, fun _ => False, Hs⟩ (nxE k) D' := fun {k D'} h => ⟨h, fun _ _ _ _ z => z.elim, fun _ _ _ _ z => z.elim, fun _ _ _ _ z => z.elim, fun _ _ _ _ _ _ _ _ z => z.elim⟩
  refine ⟨_, _, _, g, hpx, de fun ρ1 σ1 H1 g1 k1 => ?_⟩
  refine ⟨_, _, _, g1, k1, de fun ρ2 σ2 H2 g2 k2 => ?_⟩
  refine ⟨_, _, _, g2, k2, de fun ρ3 σ3 H3 g3 k3 => ?_⟩
  obtain ⟨gg, eρ, k4, k5⟩ := k3
  refine ⟨_, ρ3, _, _, g3, k4, fun p v H4 s4 g4 r4 h4 => ?_, fun _ _ _ _ _ _ _ z => z.elim⟩
  subst h4
  cases r4.int
  have e0 : σ3[0]? = some (some (.ref x)) := by
    obtain ⟨v, e1, r⟩ := g4.slot 0 (.adr x) (by rw [eρ]; rfl)
    cases r with
    | plain r => cases r; exact e1
  have hx4 : H4 x = some (.ins C dx []) := g4.fr x _ (fun z => z) hx
  refine ⟨.ref x, e0, x, C, dx, [], rfl, hx4, c, a1, by decide, ?_⟩
  have g5 : Good K ⟨fun _ => False, fun _ => False, fun _ => none⟩ ρ3 σ3 (upd H4 x (.ins C dx (putF "n" (.int (ratN n d)) []))) := good_flat g4 eρ
  refine ⟨_, ρ3, _, _, g5, k5, fun p v H6 s6 g6 r6 h6 => ?_, fun _ _ _ _ _ _ _ z => z.elim⟩
  subst h6
  cases r6.int
  have nsa : ∀ a, ¬ SA ⟨fun _ => False, fun _ => False, fun _ => none⟩ ρ3 σ3 a := fun a z => by
    rcases z with z | ⟨i, e1, _⟩
    · exact z.elim
    · rw [eρ] at e1
      match i, e1 with
      | 0, h => cases h
      | 1, h => cases h
      | 2, h => cases h
      | 3, h => cases h
      | i + 4, h => simp at h
  have hx6 : H6 x = some (.ins C dx [("n", .int (ratN n d))]) := s6 x _ (nsa x) upd_same
  refine ⟨.ref x, e0, x, C, dx, _, rfl, hx6, c, a2, (by show 1 < 1000; decide), ?_⟩
  refine hq σ3 _ (fun b o hb h => ?_) upd_same
  rw [upd_ne hb]
  refine s6 b o (nsa b) ?_
  rw [upd_ne hb]
  exact g4.fr b o (fun z => z) h
theorem init_ok {P : Program} {w : World} {mg : Str → Option Value} {base : Heap} {qual : Str} {st : Stmt} {a : Addr} {fd : FuncData} {k : Nat} {dvs : List V} {kws : List (Str × V)} (F : FunD K "__init__" qual (defArgs st) (defBody st) (defScope st) dvs kws a fd) (S : FnScope ["self", "n", "d", "g"] ["self", "n", "d"] (defScope st))
    (c : Cls K C) (a1 : NoAttr K C "n") (a2 : NoAttr K C "d") (hp : InitPure w1 w2 w3 w4 w5)
    (hb : ∀ (cdv : Value) (A : Around) (outer : List Env) (s : Shared) (H : Hp) (E : XK), Room k (A.deeper (PyProof.Rows.envOfC qual (defScope st) s.heap.objs.size a cdv)) →
      Takes (cxOf (L2.CX P w) P w K mg base ["self", "n", "d", "g"] qual (defScope st) a cdv A outer s H E) (fun cls d _ H => E cls d H) →
      PassesOwn (model P w) (cxOf (L2.CX P w) P w K mg base ["self", "n", "d", "g"] qual (defScope st) a cdv A outer s H E).A (cxOf (L2.CX P w) P w K mg base ["self", "n", "d", "g"] qual (defScope st) a cdv A outer s H E).env (cxOf (L2.CX P w) P w K mg base ["self", "n", "d", "g"] qual (defScope st) a cdv A outer s H E).xe →
      (["self", "n", "d", "g"] : List Str).Nodup → PSs (cxOf (L2.CX P w) P w K mg base ["self", "n", "d", "g"] qual (defScope st) a cdv A outer s H E) (defBody st)
        (tSeq (lftS K (fun cls d _ H => E cls d H) w1) (tSeq (lftS K (fun cls d _ H => E cls d H) w2) (tSeq (lftS K (fun cls d _ H => E cls d H) w3) (tSeq (sFld K (tVar 0) (lftE K (fun cls d _ H => E cls d H) w4) "n") (sFld K (tVar 0) (lftE K (fun cls d _ H => E cls d H) w5) "d")))))) :
    FnOk P w K mg base (L2.CX P w) (k + 1) a fd ["self", "n", "d"] (spInit C) := by
  refine F.ok S (fun vs H Q E h => ?_) fun cdv A outer s H vs Q E hr h => ⟨_, hb cdv A outer s H E hr (takes_of rfl rfl rfl rfl) (passes_of rfl) S.nd, ?_⟩
  · obtain ⟨x, dx, n, d, rfl, _⟩ := h; rfl
  · obtain ⟨x, dx, n, d, rfl, hd, hd2, hx, hq⟩ := h
    refine init_reads hp c a1 a2 hd hd2 hx ?_ fun σ' H' h1 h2 => hq H' h1 h2
    have g := Good.start (K := K) (N := fun _ => False) (S := fun _ => False) (H := H) (Ns := ["self", "n", "d", "g"]) (ps := [.adr x, .int n, .int d]) (vs := [.ref x, .int n, .int d]) (fun _ z => z.elim) (fun _ z => z.elim) (.cons (.adr x) (.cons (.int n) (.cons (.int d) .nil))) (fun i j e _ => by
      match i, e with
      | 0, e => cases e
      | 1, e => cases e
      | 2, e => cases e
      | i + 3, e => simp at e)
    exact g
end
def mkP (C : Addr) (ps : List PV) (Q : PQ) : Prop := match ps with
  | [.int n, .int d] => (d ≠ 0 ∧ d.natAbs < 2 ^ 8000) ∧ Q (rat C (ratN n d) (ratD n d))
  | [.int n] => Q (rat C n 1)
  | _ => False
def wMake (C : Addr) (as : WAs) : WEx := fun ρ Q R => as ρ (fun ps => mkP C ps Q) R
def wLen (k : Nat) (as : WAs) : WAs := fun ρ K R => as ρ (fun ps => ps.length = k ∧ K ps) R
theorem passF {P : Program} {w : World} {X : Cx} : Passes (L2.CX P w) X (fun _ _ _ => False) := fun _ _ _ _ _ _ _ ⟨_, _, _, _, _, _, _, _, _, _, _, _, z⟩ => z.elim
section
variable {X : Cx} {W : WX} {pos p : Pos} {e e2 : Expr} {was : WAs} {C f : Addr} {x : Str} {k : Nat} {fd : FuncData} {ds : List Value}
theorem lft_make {G : Gd} {ρ : PEnv} {σ : L2.St} {Hb H1 : Hp} {Qp : PQ} {Q : VK} {n d : Int} (g1 : Good X.K G ρ σ H1) (kq : KQ X.K G ρ σ Hb H1 Qp Q) (hd : d ≠ 0) (hd2 : d.natAbs < 2 ^ 8000) (h : Qp (rat C (ratN n d) (ratD n d))) :
    ∀ x dx, H1 x = none → H1 dx = none → dx ≠ x → spInit C [.ref x, .int n, .int d] (upd (upd H1 dx (.own x)) x (.ins C dx [])) (fun v H2 => v = .non ∧ Q (.ref x) H2) (fun _ _ _ => False) := by
  intro x dx hx hdx hne
  refine ⟨x, dx, n, d, rfl, hd, hd2, upd_same, fun H' h1 h2 => ⟨rfl, ?_⟩⟩
  have sm : Same H1 H' := fun b o e => by
    have n1 : b ≠ x := fun z => by rw [z, hx] at e; cases e
    have n2 : b ≠ dx := fun z => by rw [z, hdx] at e; cases e
    exact h1 b o n1 (by rw [upd_ne n1, upd_ne n2]; exact e)
  refine kq _ _ H' (.of_same sm) (g1.same sm) (.s (.plain (.obj (xs := [.int (ratN n d), .int (ratD n d)]) (hide_some.mpr ⟨g1.new hx, h2⟩) rfl (.cons (.int _) (.cons (.int _) .nil))))) h
theorem ve_make2 (M : Mk X.K C f) (F : FnOk X.prog X.w X.K X.mg X.base (L2.CX X.prog X.w) k f fd ["self", "n", "d"] (spInit C)) (hr : Room (k + 1) X.A) (hg : Gl X x) (hm : X.mg x = some (.ref C)) (hb : Binds X.K fd ["self", "n", "d"] []) (ha : VA X W [e, e2] was)
    (hdb : (x == ("__debug__" : Str)) = false := by decide) (he : starEach [e, e2] X.env = (false, eval e X.env) :: starEach [e2] X.env := by rfl) (hpl : (backTo pos (starEach [e2] X.env)).any (·.1) = false := by rfl) : VE X W (.Call (.Name x p) [e, e2] [] pos) (wMake C (wLen 2 was)) :=
  ⟨PE.imp (pe_make M F hr hg hm hb .nil passF ha.pa hdb he hpl) fun σ H Q ⟨G, ρ, Qp, Rp, g, hw, kq, kx⟩ => ⟨G, ρ, _, Rp, g, hw, fun ps vs H1 s1 g1 r1 h1 => by
    obtain ⟨hl, h1⟩ := h1
    unfold mkP at h1
    split at h1
    · obtain ⟨⟨hd, hd2⟩, h1⟩ := h1
      cases r1 with
      | cons r1 rr =>
        cases rr with
        | cons r2 rr =>
          cases rr
          cases r1.int; cases r2.int
          exact lft_make g1 (kq.step s1) hd hd2 h1
    · cases hl
    · exact h1.elim, kx⟩⟩
theorem ve_make1 (M : Mk X.K C f) (F : FnOk X.prog X.w X.K X.mg X.base (L2.CX X.prog X.w) k f fd ["self", "n", "d"] (spInit C)) (hr : Room (k + 1) X.A) (hg : Gl X x) (hm : X.mg x = some (.ref C)) (hb : ∃ ds, Vals [.int 1] ds ∧ Binds X.K fd ["self", "n", "d"] ds) (ha : VA X W [e] was)
    (hdb : (x == ("__debug__" : Str)) = false := by decide) (he : starEach [e] X.env = (false, eval e X.env) :: starEach [] X.env := by rfl) (hpl : (backTo pos (starEach [] X.env)).any (·.1) = false := by rfl) : VE X W (.Call (.Name x p) [e] [] pos) (wMake C (wLen 1 was)) := by
  obtain ⟨ds, hv, hb⟩ := hb
  exact ⟨PE.imp (pe_make M F hr hg hm hb hv passF ha.pa hdb he hpl) fun σ H Q ⟨G, ρ, Qp, Rp, g, hw, kq, kx⟩ => ⟨G, ρ, _, Rp, g, hw, fun ps vs H1 s1 g1 r1 h1 => by
    obtain ⟨hl, h1⟩ := h1
    unfold mkP at h1
    split at h1
    · cases hl
    · cases r1 with
      | cons r1 rr =>
        cases rr
        cases r1.int
        exact lft_make (d := 1) g1 (kq.step s1) (by decide) (Nat.one_lt_two_pow (by decide)) (by rw [ratN_1, ratD_1]; exact h1)
    · exact h1.elim, kx⟩⟩
end
/-! ### in short -/
section
variable {p q : PV} {Q : PQ} {R : XQ} {ρ : PEnv} {a : WEx} {as : WAs} {C : Addr} {n d : Int} {m f : Str} {k : Nat} {fs : FS} {P : Prop}
theorem wFld_e : wFld C f a ρ Q R = a ρ (fun p => fldP C f p Q) R := rfl
theorem fldP_n : fldP C "n" (rat C n d) Q = Q (.int n) := propext ⟨fun ⟨ns, xs, v, e, l, h⟩ => by cases e; cases l; exact h, fun h => ⟨_, _, _, rfl, rfl, h⟩⟩
theorem fldP_d : fldP C "d" (rat C n d) Q = Q (.int d) := propext ⟨fun ⟨ns, xs, v, e, l, h⟩ => by cases e; cases l; exact h, fun h => ⟨_, _, _, rfl, rfl, h⟩⟩
theorem wMeth_e : wMeth C m k fs a as ρ Q R = a ρ (fun p => methP C m p (as ρ (fun ps => oFn k fs (p :: ps) Q R) R)) R := rfl
theorem methP_r (h : m ∉ (["n", "d"] : List Str)) : methP C m (rat C n d) P = P := propext ⟨fun h => h.2, fun hp => ⟨⟨_, _, rfl, h⟩, hp⟩⟩
theorem wMake_e : wMake C as ρ Q R = as ρ (fun ps => mkP C ps Q) R := rfl
theorem wLen_e {K : List PV → Prop} : wLen k as ρ K R = as ρ (fun ps => ps.length = k ∧ K ps) R := rfl
theorem mkP_2 : mkP C [.int n, .int d] Q = ((d ≠ 0 ∧ d.natAbs < 2 ^ 8000) ∧ Q (rat C (ratN n d) (ratD n d))) := rfl
theorem mkP_1 : mkP C [.int n] Q = Q (rat C n 1) := rfl
/-- an instance of C -/
def isO (C : Addr) : PV → Bool
  | .obj D _ _ => decide (D = C)
  | _ => false
def oIsC (C : Addr) (p : PV) (Q : PQ) : Prop := ∃ k b, p.kind = some k ∧ ansCls [] C k = some b ∧ Q (.bl b)
theorem wIsC_e : wIsi (ansCls [] C) a ρ Q R = a ρ (fun p => oIsC C p Q) R := rfl
theorem oIsC_ok (h : okV [C] p = true) : oIsC C p Q = Q (.bl (isO C p)) := by
  have go : ∀ k b, p.kind = some k → ansCls [] C k = some b → oIsC C p Q = Q (.bl b) := fun k b e1 e2 => propext ⟨fun ⟨k', b', h1, h2, h3⟩ => by
    rw [e1] at h1; cases h1; rw [e2] at h2; cases h2; exact h3, fun hq => ⟨k, b, e1, e2, hq⟩⟩
  cases p with
  | obj D ns xs =>
    have e : D = C := by simpa [okV] using h
    subst e
    rw [go (.inr D) true rfl (by simp [ansCls])]
    simp [isO]
  | non => exact go _ _ rfl rfl
  | bl _ => exact go _ _ rfl rfl
  | int _ => exact go _ _ rfl rfl
  | str _ => exact go _ _ rfl rfl
  | tup _ => exact go _ _ rfl rfl
  | lst _ => exact go _ _ rfl rfl
  | _ => cases h
end
end L3

/-! Values without the heap: an own class's operators. -/
namespace L3
open PySem PySem.Spec L2
def rOwnB (C : Addr) (sp : Sp) : R2 := fun x y H Q => ∃ a dx fs b dy gs, x = .ref a ∧ y = .ref b ∧ H a = some (.ins C dx fs) ∧ H b = some (.ins C dy gs) ∧ sp [x, y] H Q (fun _ _ _ => False)
section
variable {X : Cx} {C g : Addr} {k : Nat} {fd : FuncData} {ps : List Str} {sp : Sp}
theorem op_ownB {op : Operator} (hc : PySem.W.selfFirst X.K C = true) (hs : PySem.W.findIn X.K (.ref C) (PySem.dunder op.info.2) = some (some (.ref g))) (hf : PySem.W.isFn X.K (.ref g) = true) (F : FnOk X.prog X.w X.K X.mg X.base (L2.CX X.prog X.w) k g fd ps sp)
    (hr : Room k X.A) (hb : Binds X.K fd ps []) : OpR X (binaryOp op) (rOwnB C sp) := by
  intro pins s σ H x y v u Q I rx ry h
  obtain ⟨a, dx, fs, b, dy, gs, rfl, rfl, ha, hb2, q⟩ := h
  cases (show v = Value.ref a from rx)
  cases (show u = Value.ref b from ry)
  obtain ⟨mA, O, _⟩ := ins_get I.hok ha
  obtain ⟨mB, O', _⟩ := ins_get I.hok hb2
  obtain ⟨od, J, _⟩ := O.look
  obtain ⟨od', J', _⟩ := O'.look
  obtain ⟨m, hF⟩ := I.fr
  refine PySem.W.binop_K (op := op) hF I.ok.mod.kin J J'.type hc hs hf ?_
  refine wpAny_mono (run_fn (us := [.ref a, .ref b]) (vs := [.ref a, .ref b]) F hr hb .nil passF I (.cons rfl (.cons rfl .nil)) q) (fun w s' z => ?_) fun _ _ x => x
  obtain ⟨z', H', I', rz, qz⟩ := z
  exact SlX.cmpback rz ⟨z', H', I', rz, qz⟩
theorem op_ownC {op : CmpOp} (hop : ∀ a b, compareOp op a b = richCompare op a b) (hs : PySem.W.findIn X.K (.ref C) (cmpInfo op).2.1 = some (some (.ref g))) (hf : PySem.W.isFn X.K (.ref g) = true) (hn : PySem.W.notFirst X.K C (.ref C) = true)
    (F : FnOk X.prog X.w X.K X.mg X.base (L2.CX X.prog X.w) k g fd ps sp) (hr : Room k X.A) (hb : Binds X.K fd ps []) : OpR X (compareOp op) (rOwnB C sp) := by
  intro pins s σ H x y v u Q I rx ry h
  obtain ⟨a, dx, fs, b, dy, gs, rfl, rfl, ha, hb2, q⟩ := h
  cases (show v = Value.ref a from rx)
  cases (show u = Value.ref b from ry)
  obtain ⟨mA, O, _⟩ := ins_get I.hok ha
  obtain ⟨mB, O', _⟩ := ins_get I.hok hb2
  obtain ⟨od, J, _⟩ := O.look
  obtain ⟨od', J', _⟩ := O'.look
  obtain ⟨m, hF⟩ := I.fr
  rw [hop]
  refine PySem.W.cmp_K (op := op) (tb := .ref C) hr.units0 hF I.ok.mod.kin J J'.type hn hs hf ?_
  refine wpAny_mono (run_fn (us := [.ref a, .ref b]) (vs := [.ref a, .ref b]) F hr hb .nil passF I (.cons rfl (.cons rfl .nil)) q) (fun w s' z => ?_) fun _ _ x => x
  obtain ⟨z', H', I', rz, qz⟩ := z
  exact SlX.cmpback rz ⟨z', H', I', rz, qz⟩
end
def oOwnB (C : Addr) (fs : FS) : PV → PV → PQ → XQ → Prop := fun x y Q _ => (∃ ns xs ms ys, x = .obj C ns xs ∧ y = .obj C ms ys) ∧ oFn 2 fs [x, y] Q (fun _ => False)
section
variable {X : Cx} {W : WX} {C : Addr} {fs : FS}
theorem ov_ownB : OpV X W (rOwnB C (spL X.K 2 fs)) (oOwnB C fs) := by
  intro G ρ σ Hb H Qp Rp Q x y v u g gr rx ry ⟨⟨ns, xs, ms, ys, e1, e2⟩, h⟩ kq kx
  subst e1 e2
  obtain ⟨a, dx, as, rfl, ha, _, _⟩ := rx.obj
  obtain ⟨b, dy, bs, rfl, hb, _, _⟩ := ry.obj
  exact ⟨a, dx, _, b, dy, _, rfl, rfl, hide_sub _ _ ha, hide_sub _ _ hb, lft_fn (W := fun _ _ _ _ => False) g gr (.cons rx (.cons ry .nil)) h kq fun _ _ _ _ _ _ _ z => z⟩
end
section
variable {Q : PQ} {R : XQ} {C : Addr} {fs : FS} {n d n2 d2 : Int}
theorem oOwnB_rr : oOwnB C fs (rat C n d) (rat C n2 d2) Q R = oFn 2 fs [rat C n d, rat C n2 d2] Q (fun _ => False) := propext ⟨fun h => h.2, fun h => ⟨⟨_, _, _, _, rfl, rfl⟩, h⟩⟩
end
def selfB (x : Str) : FaL := fun K => PySem.W.selfFirst K (He.ga K x)
end L3

/-! Values without the heap: short rules for rows of irow, comprehensions by a function, places from the end. -/
namespace L3
open PySem PySem.Spec L2
abbrev irow (ns : List Int) : PV := .tup (ns.map .int)
section
variable {p q : PV} {Q : PQ} {R : XQ} {xs ys : List PV} {ns ms : List Int} {td : TD} {t : WTs} {e : WEx} {ρ : PEnv}
theorem int_inj {a b : List Int} (h : a.map PV.int = b.map PV.int) : a = b := (List.map_inj_right (fun _ _ z => by cases z; rfl)).mp h
theorem bl_inj {a b : List Bool} (h : a.map PV.bl = b.map PV.bl) : a = b := (List.map_inj_right (fun _ _ z => by cases z; rfl)).mp h
theorem cSum_n : cSum [.new (.lst (ns.map .int))] Q R = Q (.int ns.sum) := by
  refine propext ⟨fun ⟨p, ms, e, e2, h⟩ => ?_, fun h => ⟨_, ns, rfl, rfl, h⟩⟩
  cases e
  have := int_inj (Option.some.inj e2)
  rw [this]; exact h
theorem cInt_b {b : Bool} : cInt [.bl b] Q R = Q (.int (if b then 1 else 0)) := rfl
theorem cSum_l : cSum [.lst (ns.map .int)] Q R = Q (.int ns.sum) := by
  refine propext ⟨fun ⟨p, ms, e, e2, h⟩ => ?_, fun h => ⟨_, ns, rfl, rfl, h⟩⟩
  cases e
  have := int_inj (Option.some.inj e2)
  rw [this]; exact h
theorem ixP_m1 : ixP (xs ++ [p]) (-1) Q = Q p := by
  have e : atI (xs ++ [p]) (-1) = some p := by
    unfold L2.atI
    have : ixN (xs ++ [p]).length (-1) = some xs.length := by
      have l : (xs ++ [p]).length = xs.length + 1 := by simp
      rw [l]
      unfold ixN
      simp
      omega
    rw [this]
    simp
  exact propext ⟨fun ⟨q, e1, h⟩ => by rw [e] at e1; cases e1; exact h, fun h => ⟨p, e, h⟩⟩
theorem ixP_m2 : ixP (xs ++ [p, q]) (-2) Q = Q p := by
  have e : atI (xs ++ [p, q]) (-2) = some p := by
    unfold L2.atI
    have : ixN (xs ++ [p, q]).length (-2) = some xs.length := by
      have l : (xs ++ [p, q]).length = xs.length + 2 := by simp
      rw [l]
      unfold ixN
      simp
      omega
    rw [this]
    simp
  exact propext ⟨fun ⟨q, e1, h⟩ => by rw [e] at e1; cases e1; exact h, fun h => ⟨p, e, h⟩⟩
theorem ixP_m1b : ixP (xs ++ [p, q]) (-1) Q = Q q := by
  have e : xs ++ [p, q] = (xs ++ [p]) ++ [q] := by simp
  rw [e, ixP_m1]
theorem ixP_rev {k : Nat} (h : xs.reverse[k]? = some p) (hq : Q p) : ixP xs (-1 - (k : Int)) Q := by
  have hk : k < xs.length := by
    have := (List.getElem?_eq_some_iff.mp h).1
    simpa using this
  refine ⟨p, ?_, hq⟩
  unfold L2.atI
  have : ixN xs.length (-1 - (k : Int)) = some (xs.length - 1 - k) := by
    unfold ixN
    rw [if_neg (by omega), if_pos (by omega)]
    congr 1
    omega
  rw [this]
  rw [List.getElem?_reverse hk] at h
  exact h
/-! comprehensions by a function -/
theorem comp_map (f : PV → PV) (hz : xs.length ≤ sizeLine) (h : ∀ p ∈ xs, tgP td p ρ fun ρ2 => e ρ2 (fun q => stP q fun q' => q' = f p) fun _ => False) (hq : Q (.new (.lst (xs.map f)))) : compP xs td wYes e ρ Q :=
  comp_yes (xs.map f) (by simp) hz (fun i p y hp hy => by
    rw [List.getElem?_map, hp] at hy
    cases hy
    exact h p (List.mem_of_getElem? hp)) hq
theorem comp_bl (f : PV → Bool) (hz : xs.length ≤ sizeLine) (h : ∀ p ∈ xs, tgP td p ρ fun ρ2 => e ρ2 (fun q => stP q fun q' => q' = .bl (f p)) fun _ => False) (hq : Q (.new (.lst ((xs.map f).map .bl)))) : compP xs td wYes e ρ Q :=
  comp_map (fun p => .bl (f p)) hz h (by rw [List.map_map] at hq; exact hq)
theorem comp_in (f : PV → Int) (hz : xs.length ≤ sizeLine) (h : ∀ p ∈ xs, tgP td p ρ fun ρ2 => e ρ2 (fun q => stP q fun q' => q' = .int (f p)) fun _ => False) (hq : Q (.new (.lst ((xs.map f).map .int)))) : compP xs td wYes e ρ Q :=
  comp_map (fun p => .int (f p)) hz h (by rw [List.map_map] at hq; exact hq)
theorem filter_take {α : Type} (c : α → Bool) {xs : List α} {i : Nat} {p : α} (hp : xs[i]? = some p) : (xs.take (i + 1)).filter c = (xs.take i).filter c ++ (if c p = true then [p] else []) := by
  rw [List.take_succ, hp, List.filter_append]
  simp only [Option.toList_some]
  by_cases h : c p = true <;> simp [List.filter_cons, h]
theorem comp_fl (f : PV → PV) (c : PV → Bool) (hz : xs.length ≤ sizeLine)
    (h : ∀ p ∈ xs, tgP td p ρ fun ρ2 => t ρ2 (fun b => if b = true then e ρ2 (fun q => stP q fun q' => c p = true ∧ q' = f p) (fun _ => False) else c p = false) fun _ => False) (hq : Q (.new (.lst ((xs.filter c).map f)))) : compP xs td t e ρ Q := by
  refine comp_acc (fun i => ((xs.take i).filter c).map f) rfl (fun i p hp => ?_) (by simpa using hq)
  have hx : i < xs.length := (List.getElem?_eq_some_iff.mp hp).1
  have hl : (((xs.take i).filter c).map f).length < sizeLine := by
    have l1 := List.length_filter_le c (xs.take i)
    rw [List.length_map]
    rw [List.length_take] at l1
    omega
  have e1 : (fun q : PV => stP q fun q' => (((xs.take i).filter c).map f).length < sizeLine ∧ ((xs.take (i + 1)).filter c).map f = ((xs.take i).filter c).map f ++ [q']) = fun q => stP q fun q' => c p = true ∧ q' = f p := by
    funext q
    unfold stP
    rw [filter_take c hp, List.map_append]
    refine propext ⟨fun ⟨h1, _, h2⟩ => ⟨h1, ?_⟩, fun ⟨h1, h2, h3⟩ => ⟨h1, hl, by rw [if_pos h2, h3]; rfl⟩⟩
    have h2 := List.append_cancel_left h2
    by_cases hc : c p = true
    · rw [if_pos hc] at h2
      exact ⟨hc, by simpa using h2.symm⟩
    · rw [if_neg hc] at h2
      simp at h2
  have e2 : (((xs.take (i + 1)).filter c).map f = ((xs.take i).filter c).map f) = (c p = false) := by
    rw [filter_take c hp, List.map_append]
    refine propext ⟨fun h2 => ?_, fun h2 => by rw [h2]; simp⟩
    by_cases hc : c p = true
    · rw [if_pos hc] at h2
      simp at h2
    · simpa using hc
  have z := h p (List.mem_of_getElem? hp)
  rw [← e1, ← e2] at z
  exact z
theorem comp_rg {lo : Int} {n : Nat} (f : Nat → PV) (hz : n ≤ sizeLine) (h : ∀ k : Nat, k < n → tgP td (.int (lo + (k : Int))) ρ fun ρ2 => e ρ2 (fun q => stP q fun q' => q' = f k) fun _ => False) (hq : Q (.new (.lst ((List.range n).map f)))) : compP (rgP lo n) td wYes e ρ Q := by
  refine comp_yes ((List.range n).map f) (by rw [rgP_len]; simp) (by rw [rgP_len]; exact hz) (fun i p y hp hy => ?_) hq
  obtain ⟨rfl, hi⟩ := rgP_get hp
  rw [List.getElem?_map, List.getElem?_range hi] at hy
  cases hy
  exact h i hi
theorem map_int {n : Nat} (f : Nat → Int) : (List.range n).map (fun k => PV.int (f k)) = ((List.range n).map f).map .int := by rw [List.map_map]; rfl
theorem map_bl {n : Nat} (f : Nat → Bool) : (List.range n).map (fun k => PV.bl (f k)) = ((List.range n).map f).map .bl := by rw [List.map_map]; rfl
/-! data made of irow -/
theorem dat_ints (h : ns.length ≤ 2000) : dat (irow ns) = true := dat_tup_of (by rw [List.length_map]; exact h) fun p hp => by
  obtain ⟨i, _, rfl⟩ := List.mem_map.mp hp
  exact dat_int
theorem dp_ints {n : Nat} : dp (n + 2) (irow ns) = true := by
  show ((ns.map PV.int).all fun x => dp (n + 1) x) = true
  rw [List.all_eq_true]
  intro p hp
  obtain ⟨i, _, rfl⟩ := List.mem_map.mp hp
  rfl
theorem sm_ints {n : Nat} (h : ns.length ≤ 2000) : sm (n + 2) (irow ns) (irow ns) = true := sm_self (dat_ints h) dp_ints
end
theorem mc {α : Type} {P : α → Prop} {x : α} {xs : List α} (h : P x) (t : ∀ y ∈ xs, P y) : ∀ y ∈ x :: xs, P y := fun y hy => (List.mem_cons.mp hy).elim (fun e => by rw [e]; exact h) (t y)
theorem mn {α : Type} {P : α → Prop} : ∀ y ∈ ([] : List α), P y := fun y hy => by simp at hy
end L3

/-! Values without the heap: a list of one's own is read only from now on. -/
namespace L3
open PySem PySem.Spec L2
section
variable {K : PySem.W.Frag} {G : Gd} {ρ : PEnv} {σ : L2.St} {H : Hp}
theorem Good.freeze (g : Good K G ρ σ H) {i : Nat} {q : List PV} (hi : ρ[i]? = some (some (.own (.lst q)))) : Good K G (ρ.set i (some (.lst q))) σ H := by
  have hl : i < ρ.length := (List.getElem?_eq_some_iff.mp hi).1
  have get : ∀ {j : Nat} {p : PV}, (ρ.set i (some (.lst q)))[j]? = some (some p) → (j = i ∧ p = .lst q) ∨ (j ≠ i ∧ ρ[j]? = some (some p)) := fun {j p} e => by
    by_cases hj : j = i
    · subst hj
      have := get_set_eq e
      cases this
      exact .inl ⟨rfl, rfl⟩
    · rw [get_set_ne (Ne.symm hj)] at e
      exact .inr ⟨hj, e⟩
  have hSA : ∀ b, SA G (ρ.set i (some (.lst q))) σ b → SA G ρ σ b := fun b z => by
    rcases z with z | ⟨j, e1, e2⟩
    · exact .inl z
    · rcases get e1 with ⟨_, y⟩ | ⟨_, y⟩
      · cases y
      · exact .inr ⟨j, y, e2⟩
  have hMA : ∀ b, MA G (ρ.set i (some (.lst q))) σ b → MA G ρ σ b := fun b z => by
    rcases z with z | z | ⟨j, p, e1, m, e2⟩
    · exact .inl z
    · exact .inr (.inl z)
    · rcases get e1 with ⟨_, y⟩ | ⟨_, y⟩
      · subst y; cases m
      · exact .inr (.inr ⟨j, p, y, m, e2⟩)
  obtain ⟨v0, e0, r0⟩ := g.slot i _ hi
  have at_ : ∃ a o, v0 = .ref a ∧ H a = some o ∧ Top K (hide (MA G ρ σ) H) (.lst q) o ∧ ¬ SA G ρ σ a ∧ G.H0 a = none ∧ σ[i]? = some (some (.ref a)) := by
    cases r0 with
    | plain r => cases r
    | own m n h e t => exact ⟨_, _, rfl, e, t, n, h, e0⟩
  obtain ⟨a, o, rfl, ha, t, nsa, h0, ea⟩ := at_
  -- a is no longer among what may change
  have na : ¬ MA G (ρ.set i (some (.lst q))) σ a := fun z => by
    rcases z with z | z | ⟨j, p, e1, m, e2⟩
    · obtain ⟨ns, u, hu⟩ := g.nn a z
      rw [h0] at hu; cases hu
    · exact nsa (.inl z)
    · rcases get e1 with ⟨_, y⟩ | ⟨hj, y⟩
      · subst y; cases m
      · exact hj (g.inj j i p _ a y hi m rfl e2 ea)
  refine ⟨by rw [List.length_set]; exact g.len, g.fr, g.nn, fun b z => g.sa b (hSA b z), fun b z => g.sl b (hSA b z), fun j p e => ?_, fun j k p p' b e1 e2 m1 m2 f1 f2 => ?_⟩
  · rcases get e with ⟨rfl, rfl⟩ | ⟨hj, e⟩
    · exact ⟨_, ea, .plain ((t.mono (hide_anti hMA)).rep (hide_some.mpr ⟨na, ha⟩))⟩
    · obtain ⟨u, e2, r2⟩ := g.slot j p e
      refine ⟨u, e2, ?_⟩
      refine r2.weak hSA hMA (fun z b y => ?_) fun q' z b y => ?_
      · subst z; subst y
        exact .inr ⟨j, by rw [get_set_ne (Ne.symm hj)]; exact e, e2⟩
      · subst z; subst y
        exact .inr (.inr ⟨j, _, by rw [get_set_ne (Ne.symm hj)]; exact e, rfl, e2⟩)
  · rcases get e1 with ⟨_, y⟩ | ⟨hj, y1⟩
    · subst y; cases m1
    · rcases get e2 with ⟨_, y⟩ | ⟨hk, y2⟩
      · subst y; cases m2
      · exact g.inj j k p p' b y1 y2 m1 m2 f1 f2
end
def frP (ρ : PEnv) (i : Nat) (K : PEnv → Prop) : Prop := ∃ q, ρ[i]? = some (some (.own (.lst q))) ∧ K (ρ.set i (some (.lst q)))
def wFrz (i : Nat) (w : WSt) : WSt := fun D ρ => frP ρ i fun ρ' => w D ρ'
theorem vs_frz {X : Cx} {W : WX} {st : Stmt} {w : WSt} (i : Nat) (h : VS X W st w) : VS X W st (wFrz i w) :=
  ⟨PS.imp h.ps fun D σ H ⟨G, ρ, Dp, g, ⟨q, e, hw⟩, de⟩ => ⟨G, _, Dp, g.freeze e, hw, de⟩⟩
section
variable {ρ : PEnv} {q : List PV} {K : PEnv → Prop} {ob : Option PV} {n : Nat} {w r : WSt} {D : PEnds}
theorem wFrz_e : wFrz n w D ρ = frP ρ n fun ρ' => w D ρ' := rfl
theorem wSeq_Frz : wSeq (wFrz n w) r D ρ = frP ρ n fun ρ' => wSeq w r D ρ' := rfl
theorem frP_0 : frP (some (.own (.lst q)) :: ρ) 0 K = K (some (.lst q) :: ρ) := propext ⟨fun ⟨_, e, h⟩ => by cases e; exact h, fun h => ⟨_, rfl, h⟩⟩
theorem frP_s : frP (ob :: ρ) (n + 1) K = frP ρ n fun ρ' => K (ob :: ρ') := rfl
end
end L3

/-! Values without the heap: integers and rows of integers, equal and among others. -/
namespace L3
open PySem PySem.Spec L2
section
variable {Q : PQ} {R : XQ} {x y : Int} {ns ms : List Int} {rs : List (List Int)} {neg : Bool}
abbrev iD (ns : List Int) : PyData := .tuple (ns.map .int)
theorem toDs_int : ∀ ns : List Int, toDs (ns.map .int) = some (ns.map .int)
  | [] => rfl
  | z :: ds => by
    show (match (PV.int z).toD, toDs (ds.map .int) with
      | some d, some ds => some (d :: ds)
      | _, _ => none) = _
    rw [toDs_int ds]
    rfl
theorem toD_row : (irow ns).toD = some (iD ns) := by
  show (toDs (ns.map .int)).map PyData.tuple = _
  rw [toDs_int]; rfl
theorem toDs_row : ∀ rs : List (List Int), toDs (rs.map irow) = some (rs.map iD)
  | [] => rfl
  | z :: ds => by
    show (match (irow z).toD, toDs (ds.map irow) with
      | some d, some ds => some (d :: ds)
      | _, _ => none) = _
    rw [toDs_row ds, toD_row]
    rfl
theorem canAll_int : ∀ ns : List Int, PyData.canLayAll0 (ns.map .int) = true
  | [] => by simp [PyData.canLayAll0]
  | z :: ds => by
    have := canAll_int ds
    simp [PyData.canLayAll0, PyData.canLay0] at this ⊢
    exact this
theorem depAll_int : ∀ ns : List Int, PyData.depthAll (ns.map .int) ≤ 2
  | [] => by simp [PyData.depthAll]
  | z :: ds => by
    have := depAll_int ds
    simp [PyData.depthAll, PyData.depth] at this ⊢
    omega
theorem canAll_row : ∀ rs : List (List Int), PyData.canLayAll0 (rs.map iD) = true
  | [] => by simp [PyData.canLayAll0]
  | z :: ds => by
    have h := canAll_row ds
    have h2 := canAll_int z
    simp [PyData.canLayAll0, PyData.canLay0] at h h2 ⊢
    exact ⟨h2, h⟩
theorem depAll_row : ∀ rs : List (List Int), PyData.depthAll (rs.map iD) ≤ 4
  | [] => by simp [PyData.depthAll]
  | z :: ds => by
    have h := depAll_row ds
    have h2 := depAll_int z
    simp [PyData.depthAll, PyData.depth] at h h2 ⊢
    omega
theorem shaped_int : SeqAt.shaped (.int x) = true := by simp [SeqAt.shaped, PyData.canLay0, PyData.depth]
theorem shaped_row : SeqAt.shaped (iD ns) = true := by
  have h1 := canAll_int ns
  have h2 := depAll_int ns
  unfold SeqAt.shaped
  rw [Bool.and_eq_true]
  refine ⟨by simpa [PyData.canLay0] using h1, decide_eq_true ?_⟩
  simp only [PyData.depth]
  omega
theorem shaped_rows : SeqAt.shaped (.tuple (rs.map iD)) = true := by
  have h1 := canAll_row rs
  have h2 := depAll_row rs
  unfold SeqAt.shaped
  rw [Bool.and_eq_true]
  refine ⟨by simpa [PyData.canLay0] using h1, decide_eq_true ?_⟩
  simp only [PyData.depth]
  omega
theorem shaped_lrows : SeqAt.shaped (.list (rs.map iD)) = true := by
  have h1 := canAll_row rs
  have h2 := depAll_row rs
  unfold SeqAt.shaped
  rw [Bool.and_eq_true]
  refine ⟨by simpa [PyData.canLay0] using h1, decide_eq_true ?_⟩
  simp only [PyData.depth]
  omega
theorem shaped_lint : SeqAt.shaped (.list (ns.map .int)) = true := by
  have h1 := canAll_int ns
  have h2 := depAll_int ns
  unfold SeqAt.shaped
  rw [Bool.and_eq_true]
  refine ⟨by simpa [PyData.canLay0] using h1, decide_eq_true ?_⟩
  simp only [PyData.depth]
  omega
theorem eqvAll_int : ∀ ns ms : List Int, PyData.eqvAll (ns.map .int) (ms.map .int) = decide (ns = ms)
  | [], [] => by simp [PyData.eqvAll]
  | [], _ :: _ => by simp [PyData.eqvAll]
  | _ :: _, [] => by simp [PyData.eqvAll]
  | a :: ns, b :: ms => by
    show (PyData.eqv (.int a) (.int b) && PyData.eqvAll (ns.map .int) (ms.map .int)) = _
    rw [eqvAll_int ns ms, eqv_int]
    by_cases h : a = b <;> by_cases h2 : ns = ms <;> simp [h, h2]
theorem eqv_row : PyData.eqv (iD ns) (iD ms) = decide (ns = ms) := by
  show PyData.eqvAll (ns.map .int) (ms.map .int) = _
  exact eqvAll_int ns ms
theorem oEq_row : oEq (irow ns) (irow ms) Q R = Q (.bl (decide (ns = ms))) := by rw [oEq_d toD_row toD_row shaped_row shaped_row, eqv_row]
theorem oNe_row : oNe (irow ns) (irow ms) Q R = Q (.bl (!decide (ns = ms))) := by rw [oNe_d toD_row toD_row shaped_row shaped_row, eqv_row]
theorem any_int : ((ns.map PyData.int).any fun y => PyData.eqv y (.int x)) = decide (x ∈ ns) := by
  rw [List.any_map, Bool.eq_iff_iff, List.any_eq_true, decide_eq_true_eq]
  constructor
  · rintro ⟨y, hy, e⟩
    have e2 : PyData.eqv (.int y) (.int x) = true := e
    rw [eqv_int, decide_eq_true_eq] at e2
    rw [← e2]
    exact hy
  · intro h
    exact ⟨x, h, show PyData.eqv (.int x) (.int x) = true by rw [eqv_int]; simp⟩
theorem any_row : ((rs.map iD).any fun y => PyData.eqv y (iD ns)) = decide (ns ∈ rs) := by
  rw [List.any_map, Bool.eq_iff_iff, List.any_eq_true, decide_eq_true_eq]
  constructor
  · rintro ⟨y, hy, e⟩
    have e2 : PyData.eqv (iD y) (iD ns) = true := e
    rw [eqv_row, decide_eq_true_eq] at e2
    rw [← e2]
    exact hy
  · intro h
    exact ⟨ns, h, show PyData.eqv (iD ns) (iD ns) = true by rw [eqv_row]; simp⟩
theorem oInB_d {a b : PV} {d : PyData} {ds : List PyData} {c : Bool} (h1 : a.toD = some d) (h2 : b.toD = some (.tuple ds) ∧ SeqAt.shaped (.tuple ds) = true ∨ b.toD = some (.list ds) ∧ SeqAt.shaped (.list ds) = true) (h3 : SeqAt.shaped d = true) (h5 : (ds.any fun z => PyData.eqv z d) = c) :
    oInB neg a b Q R = Q (.bl (if neg = true then !c else c)) := by
  subst h5
  refine propext ⟨fun ⟨d', c, ds', k1, k2, k3, k4, k5, h⟩ => ?_, fun h => ?_⟩
  · rw [h1] at k1
    cases k1
    rcases h2 with ⟨h2, _⟩ | ⟨h2, _⟩ <;> rw [h2] at k2 <;> cases k2 <;> rcases k3 with k3 | k3 <;> cases k3 <;> exact h
  · rcases h2 with ⟨h2, h4⟩ | ⟨h2, h4⟩
    · exact ⟨d, _, ds, h1, h2, .inr rfl, h3, h4, h⟩
    · exact ⟨d, _, ds, h1, h2, .inl rfl, h3, h4, h⟩
theorem toD_lint : (PV.lst (ns.map .int)).toD = some (.list (ns.map .int)) := by
  show (toDs (ns.map .int)).map PyData.list = _
  rw [toDs_int]; rfl
theorem toD_rows : (PV.tup (rs.map irow)).toD = some (.tuple (rs.map iD)) := by
  show (toDs (rs.map irow)).map PyData.tuple = _
  rw [toDs_row]; rfl
theorem toD_lrows : (PV.lst (rs.map irow)).toD = some (.list (rs.map iD)) := by
  show (toDs (rs.map irow)).map PyData.list = _
  rw [toDs_row]; rfl
theorem oIn_int : oInB neg (.int x) (irow ns) Q R = Q (.bl (if neg = true then !decide (x ∈ ns) else decide (x ∈ ns))) := oInB_d rfl (.inl ⟨toD_row, shaped_row⟩) shaped_int any_int
theorem oIn_lint : oInB neg (.int x) (.lst (ns.map .int)) Q R = Q (.bl (if neg = true then !decide (x ∈ ns) else decide (x ∈ ns))) := oInB_d rfl (.inr ⟨toD_lint, shaped_lint⟩) shaped_int any_int
theorem oIn_row : oInB neg (irow ns) (.tup (rs.map irow)) Q R = Q (.bl (if neg = true then !decide (ns ∈ rs) else decide (ns ∈ rs))) := oInB_d toD_row (.inl ⟨toD_rows, shaped_rows⟩) shaped_row any_row
theorem oIn_lrow : oInB neg (irow ns) (.lst (rs.map irow)) Q R = Q (.bl (if neg = true then !decide (ns ∈ rs) else decide (ns ∈ rs))) := oInB_d toD_row (.inr ⟨toD_lrows, shaped_lrows⟩) shaped_row any_row
theorem cMax_o {h0 : ns ≠ []} (h : ∀ m, m ∈ ns → (∀ y ∈ ns, y ≤ m) → Q (.int m)) {p : PV} (hp : p.items = some (ns.map .int)) : cMax [p] Q R := ⟨_, ns, rfl, hp, List.length_pos_iff.mpr h0, h⟩
theorem cMin_o {h0 : ns ≠ []} (h : ∀ m, m ∈ ns → (∀ y ∈ ns, m ≤ y) → Q (.int m)) {p : PV} (hp : p.items = some (ns.map .int)) : cMin [p] Q R := ⟨_, ns, rfl, hp, List.length_pos_iff.mpr h0, h⟩
theorem ixP_eq {xs : List PV} {i : Nat} {p : PV} (h : xs[i]? = some p) : ixP xs (i : Int) Q = Q p := propext ⟨fun ⟨q, e, hq⟩ => by rw [atI_nat h] at e; cases e; exact hq, fun hq => ⟨p, atI_nat h, hq⟩⟩
theorem ixP_int {i : Nat} (h : ns[i]? = some x) : ixP (ns.map .int) (i : Int) Q = Q (.int x) := ixP_eq (by rw [List.getElem?_map, h]; rfl)
end
end L3

/-! Values without the heap: the sum of a tuple's items. -/
namespace L3
open PySem PySem.Spec L2 PyProof.Rows
section
variable {prog : Program} {w : World} {A : Around} {E : Value → Shared → Prop} {s : Shared}
theorem sum_tup_raw {l : Addr} {its : List Value} {ns : List Int} {Q : Value → Shared → Prop} (hh : A.handled = none) (hl : s.heap.IsTuple l its.toArray) (hi : IntsAre its ns)
    (h : ∀ h' tk t', (∀ b o, s.heap.get? b = some o → h'.get? b = some o) → Q (.int ns.sum t') { s with heap := h', toks := tk }) : wpAny (model prog w) A (call (.builtin "sum") [.ref l]) Q E s := by
  obtain ⟨xs, e⟩ := hi.allInts.items
  have hn : numsOf (intItems xs).toList = ns := by rw [← e]; exact hi.numsOf
  rw [nums_intItems] at hn
  rw [e] at hl
  have hlt : l < s.heap.objs.size := by obtain ⟨_, e, _⟩ := hl; exact Heap.lt_size e
  refine call_sum_walkG (wpAny_pyIter_tuple hl ⟨_, _, _, _, _, _, numAt xs, rfl, Walks.tuple (A := A.in1) hh _ l (Nat.ne_of_lt hlt) (intItems xs), ⟨⟨_, Heap.get?_push_size _ rfl, rfl, rfl⟩, hl.push _⟩, fun b hb => ?_, (fun _ _ => intItems_at), fun h' tk t' hk => ?_⟩)
  · show b < (s.heap.push _).objs.size
    rw [Heap.size_push]
    rcases List.mem_cons.mp hb with rfl | hb
    · exact Nat.lt_succ_self _
    · rcases List.mem_cons.mp hb with rfl | hb
      · exact Nat.lt_succ_of_lt hlt
      · cases hb
  · have := h h' tk t' fun b o e => hk b o (fun hm => by
      rcases List.mem_cons.mp hm with e1 | hm
      · exact absurd (e1 ▸ Heap.lt_size e) (Nat.lt_irrefl _)
      · cases hm) (Heap.get?_push_of_some _ e)
    rw [show (intItems xs).size = xs.size by simp [intItems], preSum_eq, List.take_of_length_le (by simp), hn]
    exact this
end
section
variable {X : Cx} {W : WX}
def rSumA (K : PySem.W.Frag) : List V → Hp → VK → Prop := fun vs H Q => ∃ (a : Addr) (ns : List Int), vs = [V.ref a] ∧ (SqL K H a (ns.map V.int) ∨ SqT K H a (ns.map V.int)) ∧ Q (.int ns.sum) H
theorem cr_sumA (hc : X.calm = true) : CallR X (.builtin "sum") (rSumA X.K) := by
  intro pins s σ H vs us Q I r h
  obtain ⟨a, ns, rfl, hs, q⟩ := h
  rcases hs with hs | hs
  · exact cr_sum hc _ _ _ _ _ _ _ I r ⟨a, ns, rfl, hs, q⟩
  · obtain ⟨its, rv, hl, _⟩ := I.tuple hs
    rw [Vals.ref1 r]
    exact sum_tup_raw (I.ok.hd hc) hl rv.ints fun h' tk t' hk => ⟨.int _, H, I.kept hk, ⟨_, rfl⟩, q⟩
def cSumA : List PV → PQ → XQ → Prop := fun ps Q _ => ∃ (p : PV) (ns : List Int), ps = [p] ∧ p.seq = some (ns.map PV.int) ∧ Q (.int ns.sum)
theorem cv_sumA : CaV X W (rSumA X.K) cSumA := by
  intro G ρ σ Hb H Qp Rp Q ps vs g gr r ⟨p, ns, e, h1, h⟩ kq kx
  subst e
  replace r := r.one; obtain ⟨v, rfl, r⟩ := r
  obtain ⟨a, ys, rfl, t, q⟩ := r.seq h1
  cases q.ints
  exact ⟨a, ns, rfl, t, kq.int g h⟩
end
section
variable {Q : PQ} {R : XQ} {ns : List Int}
theorem cSumA_eq {p : PV} (h : p.seq = some (ns.map .int)) : cSumA [p] Q R = Q (.int ns.sum) := by
  refine propext ⟨fun ⟨p, ms, e, e2, h'⟩ => ?_, fun h' => ⟨_, ns, rfl, h, h'⟩⟩
  cases e
  rw [h] at e2
  have := int_inj (Option.some.inj e2)
  rw [this]; exact h'
theorem cSumA_n : cSumA [.new (.lst (ns.map .int))] Q R = Q (.int ns.sum) := cSumA_eq rfl
theorem cSumA_l : cSumA [.lst (ns.map .int)] Q R = Q (.int ns.sum) := cSumA_eq rfl
theorem cSumA_o : cSumA [.own (.lst (ns.map .int))] Q R = Q (.int ns.sum) := cSumA_eq rfl
theorem cSumA_t : cSumA [.tup (ns.map .int)] Q R = Q (.int ns.sum) := cSumA_eq rfl
end
end L3

/-! Values without the heap: a chain of three comparisons. -/
namespace L3
open PySem PySem.Spec L2 PyProof.Rows
section
variable {X : Cx} {W : WX} {a b c d : Expr} {ta tb tc td : TE} {pos : Pos} {op1 op2 op3 : CmpOp} {r1 r2 r3 : R2}
def tChain3 (r1 r2 r3 : R2) (ta tb tc td : TE) : TE := fun σ H Q => ta σ H fun x H1 => tb σ H1 fun y H2 => r1 x y H2 fun z H3 => ∃ k, z = .bl k ∧
  (if k = true then tc σ H3 fun u H4 => r2 y u H4 fun z' H5 => ∃ k', z' = .bl k' ∧ (if k' = true then td σ H5 fun w H6 => r3 u w H6 Q else Q (.bl false) H5) else Q (.bl false) H3)
theorem pe_chain3 (h1 : OpR X (compareOp op1) r1) (h2 : OpR X (compareOp op2) r2) (h3 : OpR X (compareOp op3) r3) (ha : PE X a ta) (hb : PE X b tb) (hc : PE X c tc) (hd : PE X d td)
    (hm : lastMarks [op1, op2, op3] [b, c, d] = false := by with_unfolding_all rfl) : PE X (.Compare a [op1, op2, op3] [b, c, d] pos) (tChain3 r1 r2 r3 ta tb tc td) := by
  refine ⟨fun pins s σ H Q I h => ?_⟩
  refine Compare_chain (thn (ha.run pins s σ H _ I h) fun v s1 ⟨x, H1, I1, r1', q1⟩ => chain_link (thn (hb.run pins s1 σ H1 _ I1 q1) fun u s2 ⟨y, H2, I2, r2', q2⟩ =>
    thn (h1 pins s2 σ H2 x y v u _ I2 r1' r2' q2) fun d' s3 ⟨z, H3, I3, r3', k, e, q3⟩ => ?_)) hm
  subst e
  cases r3'
  refine wpAny_truthy_bool ?_
  cases k with
  | false => exact ite_ff ⟨.bl false, H3, I3, rfl, q3⟩
  | true =>
    refine ite_tt (chain_link (thn (hc.run pins s3 σ H3 _ I3 q3) fun w' s4 ⟨z', H4, I4, r4, q4⟩ => thn (h2 pins s4 σ H4 y z' u w' _ I4 r2' r4 q4) fun d2 s5 ⟨z2, H5, I5, r5, k2, e2, q5⟩ => ?_))
    subst e2
    cases r5
    refine wpAny_truthy_bool ?_
    cases k2 with
    | false => exact ite_ff ⟨.bl false, H5, I5, rfl, q5⟩
    | true => exact ite_tt (chain_last (thn (hd.run pins s5 σ H5 _ I5 q5) fun w2 s6 ⟨z3, H6, I6, r6, q6⟩ => h3 pins s6 σ H6 z' z3 w' w2 Q I6 r4 r6 q6))
theorem pt_chain3 (h1 : OpR X (compareOp op1) r1) (h2 : OpR X (compareOp op2) r2) (h3 : OpR X (compareOp op3) r3) (ha : PE X a ta) (hb : PE X b tb) (hc : PE X c tc) (hd : PE X d td)
    (hm : lastMarks [op1, op2, op3] [b, c, d] = false := by with_unfolding_all rfl) : PT X (.Compare a [op1, op2, op3] [b, c, d] pos) (tTest (tChain3 r1 r2 r3 ta tb tc td)) := by
  refine ⟨fun pins s σ H Q I h => ?_⟩
  refine isTrue_chain (thn (ha.run pins s σ H _ I h) fun v s1 ⟨x, H1, I1, r1', q1⟩ => test_link (thn (hb.run pins s1 σ H1 _ I1 q1) fun u s2 ⟨y, H2, I2, r2', q2⟩ =>
    thn (h1 pins s2 σ H2 x y v u _ I2 r1' r2' q2) fun d' s3 ⟨z, H3, I3, r3', k, e, q3⟩ => ?_)) hm
  subst e
  cases r3'
  refine wpAny_truthy_bool ?_
  cases k with
  | false =>
    obtain ⟨k', e', q'⟩ := q3
    cases e'
    exact ite_ff ⟨H3, I3, q'⟩
  | true =>
    refine ite_tt (test_link (thn (hc.run pins s3 σ H3 _ I3 q3) fun w' s4 ⟨z', H4, I4, r4, q4⟩ => thn (h2 pins s4 σ H4 y z' u w' _ I4 r2' r4 q4) fun d2 s5 ⟨z2, H5, I5, r5, k2, e2, q5⟩ => ?_))
    subst e2
    cases r5
    refine wpAny_truthy_bool ?_
    cases k2 with
    | false =>
      obtain ⟨k', e', q'⟩ := q5
      cases e'
      exact ite_ff ⟨H5, I5, q'⟩
    | true =>
      refine ite_tt (test_last (thn (hd.run pins s5 σ H5 _ I5 q5) fun w2 s6 ⟨z3, H6, I6, r6, q6⟩ => thn (h3 pins s6 σ H6 z' z3 w' w2 _ I6 r4 r6 q6) fun d3 s7 ⟨z4, H7, I7, r7, k3, e3, q7⟩ => ?_))
      subst e3
      cases r7
      exact wpAny_truthy_bool ⟨H7, I7, q7⟩
end
def wChain3 (o1 o2 o3 : PV → PV → PQ → XQ → Prop) (a b c d : WEx) : WEx := fun ρ Q R => a ρ (fun x => b ρ (fun y => o1 x y (fun z => match z with
  | .bl k => if k = true then c ρ (fun u => o2 y u (fun z' => match z' with
    | .bl k' => if k' = true then d ρ (fun w => o3 u w Q R) R else Q (.bl false)
    | _ => False) R) R else Q (.bl false)
  | _ => False) R) R) R
section
variable {X : Cx} {W : WX} {a b c d : Expr} {wa wb wc wd : WEx} {pos : Pos} {op1 op2 op3 : CmpOp} {r1 r2 r3 : R2} {o1 o2 o3 : PV → PV → PQ → XQ → Prop}
theorem lft_chain3 (hv1 : OpV X W r1 o1) (hv2 : OpV X W r2 o2) (hv3 : OpV X W r3 o3) {σ : L2.St} {H : Hp} {Q : VK} (h : lftE X.K W (wChain3 o1 o2 o3 wa wb wc wd) σ H Q) : tChain3 r1 r2 r3 (lftE X.K W wa) (lftE X.K W wb) (lftE X.K W wc) (lftE X.K W wd) σ H Q := by
  obtain ⟨G, ρ, Qp, Rp, g, hw, kq, kx⟩ := h
  refine ⟨G, ρ, _, Rp, g, hw, fun p v H1 s1 g1 r1 hw1 => ?_, kx⟩
  refine ⟨G, ρ, _, Rp, g1, hw1, fun q u H2 s2 g2 r2 hw2 => ?_, kx.step s1⟩
  refine hv1 g2 ((s1.trans s2).gr g2) (r1.mono s2) (r2.base (s1.gr g1)) hw2 (fun z t H3 s3 g3 r3 hw3 => ?_) (kx.step (s1.trans s2))
  split at hw3
  · rename_i k
    cases r3.bl
    refine ⟨k, rfl, ?_⟩
    by_cases hk : k = true
    · rw [if_pos hk] at hw3
      rw [if_pos hk]
      have s123 := (s1.trans s2).trans s3
      refine ⟨G, ρ, _, Rp, g3, hw3, fun y' u' H4 s4 g4 r4 hw4 => ?_, kx.step s123⟩
      refine hv2 g4 ((s123.trans s4).gr g4) ((r2.base (s1.gr g1)).mono (s3.trans s4)) (r4.base (s123.gr g3)) hw4 (fun z2 t2 H5 s5 g5 r5 hw5 => ?_) (kx.step (s123.trans s4))
      split at hw5
      · rename_i k2
        cases r5.bl
        refine ⟨k2, rfl, ?_⟩
        have s15 := (s123.trans s4).trans s5
        by_cases hk2 : k2 = true
        · rw [if_pos hk2] at hw5
          rw [if_pos hk2]
          refine ⟨G, ρ, _, Rp, g5, hw5, fun y6 u6 H6 s6 g6 r6 hw6 => ?_, kx.step s15⟩
          exact hv3 g6 ((s15.trans s6).gr g6) ((r4.base (s123.gr g3)).mono (s5.trans s6)) (r6.base (s15.gr g5)) hw6 (kq.step (s15.trans s6)) (kx.step (s15.trans s6))
        · rw [if_neg hk2] at hw5
          rw [if_neg hk2]
          exact (kq.step s15).bl g5 hw5
      · exact hw5.elim
    · rw [if_neg hk] at hw3
      rw [if_neg hk]
      exact (kq.step ((s1.trans s2).trans s3)).bl g3 hw3
  · exact hw3.elim
theorem ve_chain3 (h1 : OpR X (compareOp op1) r1) (h2 : OpR X (compareOp op2) r2) (h3 : OpR X (compareOp op3) r3) (hv1 : OpV X W r1 o1) (hv2 : OpV X W r2 o2) (hv3 : OpV X W r3 o3) (ha : VE X W a wa) (hb : VE X W b wb) (hc : VE X W c wc) (hd : VE X W d wd)
    (hm : lastMarks [op1, op2, op3] [b, c, d] = false := by rfl) : VE X W (.Compare a [op1, op2, op3] [b, c, d] pos) (wChain3 o1 o2 o3 wa wb wc wd) :=
  ⟨PE.imp (pe_chain3 h1 h2 h3 ha.pe hb.pe hc.pe hd.pe hm) fun _ _ _ h => lft_chain3 hv1 hv2 hv3 h⟩
theorem vt_chain3 (h1 : OpR X (compareOp op1) r1) (h2 : OpR X (compareOp op2) r2) (h3 : OpR X (compareOp op3) r3) (hv1 : OpV X W r1 o1) (hv2 : OpV X W r2 o2) (hv3 : OpV X W r3 o3) (ha : VE X W a wa) (hb : VE X W b wb) (hc : VE X W c wc) (hd : VE X W d wd)
    (hm : lastMarks [op1, op2, op3] [b, c, d] = false := by rfl) : VT X W (.Compare a [op1, op2, op3] [b, c, d] pos) (wT (wChain3 o1 o2 o3 wa wb wc wd)) :=
  ⟨PT.imp (pt_chain3 h1 h2 h3 ha.pe hb.pe hc.pe hd.pe hm) fun _ _ _ h => by
    have h2 := lft_T h
    exact lft_chain3 hv1 hv2 hv3 h2⟩
theorem wChain3_e {ρ : PEnv} {Q : PQ} {R : XQ} {a b c d : WEx} : wChain3 o1 o2 o3 a b c d ρ Q R = a ρ (fun x => b ρ (fun y => o1 x y (fun z => kB z (fun k => if k = true then c ρ (fun u => o2 y u (fun z' => kB z' (fun k' => if k' = true then d ρ (fun w => o3 u w Q R) R else Q (.bl false))) R) R else Q (.bl false))) R) R) R := rfl
end
theorem wPar3_l {n m l : Nat} {b c : WEx} {D : PEnds} {ρ : PEnv} : wPar3 n m l true false false (wLst wNil) b c D ρ = b ρ (fun q => c ρ (fun r => stP q fun q' => stP r fun r' => ((q.clean = true ∧ r.clean = true) ∧ (noStAt ρ n ∧ noStAt ρ m) ∧ n < ρ.length ∧ m < ρ.length ∧ l < ρ.length) ∧
    sE ρ n (some (.own (.lst []))) fun ρ' => sE ρ' m (some q') fun ρ'' => sE ρ'' l (some r') D.nx) fun x => D.ex x ρ) fun x => D.ex x ρ := by
  unfold wPar3
  rw [wLst_e, wNil_e, lP_0]
  congr 1
  funext q
  congr 1
  funext r
  refine propext ⟨fun ⟨p', q', r', e1, e2, e3, c1, _, h1, h2, h3, h4, h5, h⟩ => ?_, fun ⟨h1, h2, ⟨⟨k1, k2⟩, ⟨h3, h4⟩, h5, h6, h7⟩, h⟩ => ⟨_, q.thaw, r.thaw, rfl, if_pos h1, if_pos h2, fun _ => ⟨k1, k2⟩, (fun z => nomatch z), h3, h4, h5, h6, h7, h⟩⟩
  unfold L3.stored at e1 e2 e3
  dsimp only at e1 e2 e3
  split at e2
  · split at e3
    · cases e1; cases e2; cases e3
      exact ⟨by assumption, by assumption, ⟨c1 rfl, ⟨h1, h2⟩, h3, h4, h5⟩, h⟩
    · cases e3
  · cases e2
theorem clean_int {i : Int} : (PV.int i).clean = true := rfl
end L3

/-! Values without the heap: sorted lists of data. -/
namespace L3
open PySem PySem.Spec L2
section
variable {X : Cx} {W : WX}
abbrev DB := V × PyData
def rSortD (K : PySem.W.Frag) : List V → Hp → VK → Prop := fun vs H Q => ∃ (a : Addr) (bs : List DB), vs = [V.ref a] ∧ SqL K H a (bs.map (·.1)) ∧ (∀ b ∈ bs, Dp K H b.1 b.2) ∧ PySem.W.AllAlike (bs.map (·.2)) ∧ PySem.W.Sortable (bs.map (·.2)) ∧ (∀ b ∈ bs, b.2.depth ≤ 60) ∧
  ∀ p, H p = none → Q (.ref p) (upd H p (.lst ((bs.mergeSort (PySem.W.dataLe false (·.2))).map (·.1))))
theorem paired_each {bs : List DB} : ∀ {us : List Value}, Vals (bs.map (·.1)) us → PySem.W.EachIs (fun v (b : DB) => RelV b.1 v) us bs := by
  induction bs with
  | nil => intro us h; cases h; exact .nil
  | cons b bs ih =>
    intro us h
    cases h with
    | cons h1 h2 => exact .cons h1 (ih h2)
theorem each_paired {us : List Value} {bs : List DB} (h : PySem.W.EachIs (fun v (b : DB) => RelV b.1 v) us bs) : Vals (bs.map (·.1)) us := by
  induction h with
  | nil => exact .nil
  | cons h1 _ ih => exact .cons h1 ih
theorem cr_sortD (hu : X.A.units + 65 < cLine) : CallR X (.builtin "sorted") (rSortD X.K) := by
  intro pins s σ H vs us Q I r h
  obtain ⟨a, bs, rfl, hs, hd, hal, hso, hdp, q⟩ := h
  obtain ⟨its, rv, hl, hz⟩ := I.list hs
  rw [Vals.ref1 r]
  have e := paired_each rv
  have er : PySem.W.EachIs (fun v (b : DB) => ∃ as, Reads s.heap v b.2 as) its bs := by
    have go : ∀ {us : List Value} {bs : List DB}, PySem.W.EachIs (fun v (b : DB) => RelV b.1 v) us bs → (∀ b ∈ bs, Dp X.K H b.1 b.2) → PySem.W.EachIs (fun v (b : DB) => ∃ as, Reads s.heap v b.2 as) us bs := by
      intro us bs h
      induction h with
      | nil => exact fun _ => .nil
      | cons h1 _ ih => exact fun hd => .cons (Dp.reads I _ _ _ (hd _ List.mem_cons_self) h1) (ih fun b hb => hd b (List.mem_cons_of_mem _ hb))
    exact go e hd
  rw [List.length_map] at hz
  refine PySem.W.sorted_data (enc := fun b : DB => b.2) hl.isList e er hal hso hz (fun b hb => by have := hdp b hb; omega) fun out h1 h2 => ?_
  obtain ⟨ep, he'⟩ := PyProof.Rows.sortedAll_at s.heap its out.toArray
  have hlen : ((bs.mergeSort (PySem.W.dataLe false (·.2))).map (·.1)).length ≤ sizeLine := by rw [List.length_map, List.length_mergeSort]; exact hz
  exact ⟨.ref _, upd H (s.heap.objs.size + 1) (.lst ((bs.mergeSort (PySem.W.dataLe false (·.2))).map (·.1))), I.laid (t' := s.toks) (fun _ _ => PyProof.Rows.sortedAll_old) (Nat.le_succ _) ⟨hlen, out, ep, each_paired h2, he'⟩, rfl, q _ (I.hok.fresh (Nat.le_succ _))⟩
def encP (p : PV) : PyData := p.toD.getD .none
/-- a list sorted by Python's order of data -/
def sortP (ps : List PV) : List PV := ps.mergeSort (PySem.W.dataLe false encP)
def cSortD : List PV → PQ → XQ → Prop := fun ps Q _ => ∃ (p : PV) (xs : List PV) (ds : List PyData), ps = [p] ∧ p.items = some xs ∧ toDs xs = some ds ∧ PySem.W.AllAlike ds ∧ PySem.W.Sortable ds ∧ (∀ d ∈ ds, d.depth ≤ 60) ∧ Q (.new (.lst (sortP xs)))
abbrev T3 := (PV × V) × PyData
theorem triples {K : PySem.W.Frag} {H : Hp} : ∀ {ps : List PV} {vs : List V} {ds : List PyData}, Reps K H ps vs → toDs ps = some ds → ∃ ts : List T3, ps = ts.map (·.1.1) ∧ vs = ts.map (·.1.2) ∧ ds = ts.map (·.2) ∧ ∀ t ∈ ts, Rep K H t.1.1 t.1.2 ∧ t.1.1.toD = some t.2
  | _, _, _, .nil, h => by simp only [toDs] at h; cases h; exact ⟨[], rfl, rfl, rfl, fun t ht => by simp at ht⟩
  | _, _, _, .cons r t, h => by
    obtain ⟨d, ds', e1, e2, rfl⟩ := toDs_cons h
    obtain ⟨ts, rfl, rfl, rfl, hr⟩ := triples t e2
    exact ⟨((_, _), d) :: ts, rfl, rfl, rfl, fun z hz => by
      rcases List.mem_cons.mp hz with rfl | hz
      · exact ⟨r, e1⟩
      · exact hr z hz⟩
theorem reps_map {K : PySem.W.Frag} {H : Hp} : ∀ {ts : List T3}, (∀ t ∈ ts, Rep K H t.1.1 t.1.2) → Reps K H (ts.map (·.1.1)) (ts.map (·.1.2))
  | [], _ => .nil
  | t :: ts, h => .cons (h t List.mem_cons_self) (reps_map fun z hz => h z (List.mem_cons_of_mem _ hz))
theorem cv_sortD : CaV X W (rSortD X.K) cSortD := by
  intro G ρ σ Hb H Qp Rp Q ps vs g gr r ⟨p, xs, ds, e, h1, h2, hal, hso, hdp, h⟩ kq kx
  subst e
  replace r := r.one; obtain ⟨v, rfl, r⟩ := r
  obtain ⟨a, ys, rfl, t, q⟩ := r.items h1
  obtain ⟨ts, rfl, rfl, rfl, hr⟩ := triples q h2
  refine ⟨a, ts.map fun t => (t.1.2, t.2), rfl, .of (by rw [List.map_map]; exact t), ?_, by rw [List.map_map]; exact hal, by rw [List.map_map]; exact hso, ?_, fun l hl => ?_⟩
  · intro b hb
    obtain ⟨t, ht, rfl⟩ := List.mem_map.mp hb
    obtain ⟨h1, h2⟩ := hr t ht
    exact Dp.mono hide_sub (h1.dp h2)
  · intro b hb
    obtain ⟨t, ht, rfl⟩ := List.mem_map.mp hb
    exact hdp _ (List.mem_map_of_mem ht)
  · have e1 : (ts.map fun t => (t.1.2, t.2)).mergeSort (PySem.W.dataLe false fun b : DB => b.2) = (ts.mergeSort (PySem.W.dataLe false fun t : T3 => t.2)).map fun t => (t.1.2, t.2) := by
      rw [List.map_mergeSort]
      intro x _ y _
      rfl
    have e2 : sortP (ts.map (·.1.1)) = (ts.mergeSort (PySem.W.dataLe false fun t : T3 => t.2)).map (·.1.1) := by
      unfold sortP
      rw [List.map_mergeSort]
      intro x hx y hy
      have a1 : encP x.1.1 = x.2 := by unfold encP; rw [(hr x hx).2]; rfl
      have a2 : encP y.1.1 = y.2 := by unfold encP; rw [(hr y hy).2]; rfl
      simp only [PySem.W.dataLe_eq, cond_false, a1, a2]
    rw [e1, List.map_map]
    rw [e2] at h
    refine kq.list g gr (reps_map fun t ht => (hr t ((List.mergeSort_perm _ _).mem_iff.mp ht)).1) h hl
section
variable {Q : PQ} {R : XQ}
/-- pairs of an integer and a row -/
def nrV (z : Int × List Int) : PV := .tup [.int z.1, irow z.2]
def nrD (z : Int × List Int) : PyData := .tuple [.int z.1, iD z.2]
theorem toDs_nr : ∀ zs : List (Int × List Int), toDs (zs.map nrV) = some (zs.map nrD)
  | [] => rfl
  | z :: zs => by
    have e : (nrV z).toD = some (nrD z) := by
      show (toDs [.int z.1, irow z.2]).map PyData.tuple = _
      have : toDs [.int z.1, irow z.2] = some [.int z.1, iD z.2] := by
        simp only [toDs, toD_row]
        rfl
      rw [this]; rfl
    show (match (nrV z).toD, toDs (zs.map nrV) with
      | some d, some ds => some (d :: ds)
      | _, _ => none) = _
    rw [toDs_nr zs, e]
    rfl
/-- whatever is sorted has the same items; by their numbers it goes upwards -/
theorem cSort_nr {zs : List (Int × List Int)} {p : PV} (hp : p.items = some (zs.map nrV)) (h : ∀ ys : List (Int × List Int), ys.Perm zs → ys.Pairwise (fun a b => a.1 ≤ b.1) → Q (.new (.lst (ys.map nrV)))) : cSortD [p] Q R := by
  refine ⟨p, _, _, rfl, hp, toDs_nr zs, PySem.W.AllAlike.of fun a b => ?_, PySem.W.Sortable.tuples fun b => ⟨_, _, rfl⟩, fun d hd => ?_, ?_⟩
  · simp [PySem.W.alike, PySem.W.alikeAll, nrD, PySem.W.alike_ints]
  · obtain ⟨b, _, rfl⟩ := List.mem_map.mp hd
    have := depAll_int b.2
    simp only [nrD, PyData.depth, PyData.depthAll]
    omega
  · have e : sortP (zs.map nrV) = (zs.mergeSort (PySem.W.dataLe false nrD)).map nrV := by
      unfold sortP
      rw [List.map_mergeSort]
      intro x hx y hy
      have a : ∀ z, encP (nrV z) = nrD z := fun z => by
        have := toDs_nr [z]
        have e : (nrV z).toD = some (nrD z) := by
          show (toDs [.int z.1, irow z.2]).map PyData.tuple = _
          have : toDs [.int z.1, irow z.2] = some [.int z.1, iD z.2] := by
            simp only [toDs, toD_row]
            rfl
          rw [this]; rfl
        unfold encP
        rw [e]; rfl
      simp only [PySem.W.dataLe_eq, cond_false, a]
    rw [e]
    refine h _ (List.mergeSort_perm _ _) ?_
    have T := PySem.W.sortLe_total (PyProof.Rows.listOrd PyProof.Rows.itemOrd) false fun b => PySem.W.keyToks (nrD b)
    have P := List.pairwise_mergeSort (le := PySem.W.dataLe false nrD) (fun a b c h1 h2 => T.trans a b c h1 h2) (fun a b => Bool.or_eq_true_iff.mpr (T.total a b)) zs
    refine P.imp fun {a b} hab => ?_
    rcases Int.lt_or_le b.1 a.1 with hlt | hle
    · exfalso
      have e : PySem.W.dataLt (nrD b) (nrD a) = true := by
        unfold nrD
        rw [PySem.W.dataLt_pair (by simp [PySem.W.alike]) (by simp [PySem.W.alike, PySem.W.alike_ints]), eqv_int, PySem.W.dataLt_int]
        rw [decide_eq_false (by omega), decide_eq_true hlt]
        rfl
      simp only [PySem.W.dataLe_eq, cond_false, e] at hab
      cases hab
    · exact hle
end
end
end L3

/-! Values without the heap: the greatest of a tuple's items. -/
namespace L3
open PySem PySem.Spec L2 PyProof.Rows
section
variable {prog : Program} {w : World} {A : Around} {E : Value → Shared → Prop} {s : Shared}
theorem max_tup_raw {l : Addr} {its : List Value} {ns : List Int} {Q : Value → Shared → Prop} (hh : A.handled = none) (hl : s.heap.IsTuple l its.toArray) (hi : IntsAre its ns) (hne : 0 < ns.length)
    (h : ∀ h' tk M t', (∀ b o, s.heap.get? b = some o → h'.get? b = some o) → M ∈ ns → (∀ a, a ∈ ns → a ≤ M) → Q (.int M t') { s with heap := h', toks := tk }) : wpAny (model prog w) A (call (.builtin "max") [.ref l]) Q E s := by
  obtain ⟨xs, e⟩ := hi.allInts.items
  have hn : numsOf (intItems xs).toList = ns := by rw [← e]; exact hi.numsOf
  rw [nums_intItems] at hn
  subst hn
  rw [e] at hl
  have hsz : 0 < xs.size := by simpa using hne
  have hlt : l < s.heap.objs.size := by obtain ⟨_, e, _⟩ := hl; exact Heap.lt_size e
  refine call_max_walk (wpAny_pyIter_tuple hl ⟨_, _, _, _, _, _, _, rfl, Walks.tuple (A := A.in1) hh _ l (Nat.ne_of_lt hlt) (intItems xs), ⟨⟨_, Heap.get?_push_size _ rfl, rfl, rfl⟩, hl.push _⟩, fun b hb => ?_, by simpa [intItems] using hsz, CmpOf.ints_gt (numAt xs) (fun _ _ => intItems_at), fun v h' tk hP hk => ?_⟩)
  · show b < (s.heap.push _).objs.size
    rw [Heap.size_push]
    rcases List.mem_cons.mp hb with rfl | hb
    · exact Nat.lt_succ_self _
    · rcases List.mem_cons.mp hb with rfl | hb
      · exact Nat.lt_succ_of_lt hlt
      · cases hb
  · have hP' := hP
    rw [show (intItems xs).size = xs.size by simp [intItems]] at hP'
    obtain ⟨t, rfl⟩ := intItems_at hP'
    obtain ⟨h1, h2⟩ := argBest_gt (numAt xs) (xs.size - 1)
    refine h h' tk _ t (fun b o e => hk b o (fun hm => ?_) (Heap.get?_push_of_some _ e)) ?_ fun a ha => ?_
    · rcases List.mem_cons.mp hm with e1 | hm
      · exact absurd (e1 ▸ Heap.lt_size e) (Nat.lt_irrefl _)
      · cases hm
    · rw [numAt_eq]; exact PySem.getD_mem (by rw [List.length_map, Array.length_toList]; omega)
    · obtain ⟨j, hj, rfl⟩ := mem_getD ha
      rw [List.length_map, Array.length_toList] at hj
      rw [← numAt_eq]; exact h2 j (by omega)
end
section
variable {X : Cx} {W : WX}
def rMaxA (K : PySem.W.Frag) : List V → Hp → VK → Prop := fun vs H Q => ∃ (a : Addr) (ns : List Int), vs = [V.ref a] ∧ (SqL K H a (ns.map V.int) ∨ SqT K H a (ns.map V.int)) ∧ 0 < ns.length ∧ ∀ m, m ∈ ns → (∀ y, y ∈ ns → y ≤ m) → Q (.int m) H
theorem cr_maxA (hc : X.calm = true) : CallR X (.builtin "max") (rMaxA X.K) := by
  intro pins s σ H vs us Q I r h
  obtain ⟨a, ns, rfl, hs, hne, q⟩ := h
  rcases hs with hs | hs
  · exact cr_max hc _ _ _ _ _ _ _ I r ⟨a, ns, rfl, hs, hne, q⟩
  · obtain ⟨its, rv, hl, _⟩ := I.tuple hs
    rw [Vals.ref1 r]
    exact max_tup_raw (I.ok.hd hc) hl rv.ints hne fun h' tk m t' hk h1 h2 => ⟨.int _, H, I.kept hk, ⟨_, rfl⟩, q m h1 h2⟩
def cMaxA : List PV → PQ → XQ → Prop := fun ps Q _ => ∃ (p : PV) (ns : List Int), ps = [p] ∧ p.seq = some (ns.map PV.int) ∧ 0 < ns.length ∧ ∀ m, m ∈ ns → (∀ y, y ∈ ns → y ≤ m) → Q (.int m)
theorem cv_maxA : CaV X W (rMaxA X.K) cMaxA := by
  intro G ρ σ Hb H Qp Rp Q ps vs g gr r ⟨p, ns, e, h1, h2, h⟩ kq kx
  subst e
  replace r := r.one; obtain ⟨v, rfl, r⟩ := r
  obtain ⟨a, ys, rfl, t, q⟩ := r.seq h1
  cases q.ints
  exact ⟨a, ns, rfl, t, h2, fun m h3 h4 => kq.int g (h m h3 h4)⟩
theorem cMaxA_o {Q : PQ} {R : XQ} {ns : List Int} (h0 : ns ≠ []) {p : PV} (hp : p.seq = some (ns.map .int)) (h : ∀ m, m ∈ ns → (∀ y ∈ ns, y ≤ m) → Q (.int m)) : cMaxA [p] Q R := ⟨_, ns, rfl, hp, List.length_pos_iff.mpr h0, h⟩
end
end L3

/-! Values without the heap: enumerate over zip of two tuples. -/
namespace L3
open PySem PySem.Spec L2 PyProof.Rows RZ
section
variable {prog : Program} {w : World} {A : Around} {E : Value → Shared → Prop} {s : Shared}
/-- a zip, whatever pair of its own it gave out -/
abbrev ZG (h : Heap) (z TI TO : Addr) (c : Value) (f : Bool) : Prop :=
  h.get? z = some { cls := .type "zip", dict := none, data := .fields #[c, .bool f, .bool false, .ref TI, .ref TO], slots := #[] }
def Out1 (c : Value) : Prop := c = .none ∨ ∃ T : Nat, c = rawInt T
theorem zg_isFree {z TI TO : Addr} {c : Value} {f : Bool} {Q : Bool → Shared → Prop} (hz : ZG s.heap z TI TO c f) (hc : Out1 c) (q1 : Q true s)
    (q2 : ∀ h' c', ZG h' z TI TO c' true → Out1 c' → Heap.SameBut z s.heap h' → Q false { s with heap := h' }) : wpAny (model prog w) A (Builtin.SmallTypes.ownedTupleIsFree (.ref z)) Q E s := by
  rcases hc with rfl | ⟨T, rfl⟩
  · unfold Builtin.SmallTypes.ownedTupleIsFree
    exact wpAny_bind (wpAny_field hz rfl (x := .none) rfl (wpAny_pure q1))
  · cases e : s.heap.get? T with
    | some o => exact wpAny_tupleHeld_zip hz e fun h' a b => q2 h' _ a (.inr ⟨T, rfl⟩) b
    | none =>
      unfold Builtin.SmallTypes.ownedTupleIsFree
      refine wpAny_bind (wpAny_field hz rfl (x := rawInt T) rfl ?_)
      show wpAny _ _ (loadIfAlive ((T : Int).toNat) >>= _) _ _ _
      rw [Int.toNat_natCast]
      have al : ∀ {Q : Option Obj → Shared → Prop}, Q none s → wpAny (model prog w) A (loadIfAlive T) Q E s := fun {Q} h => by
        have h' : Q (s.heap.get? T) s := by rw [e]; exact h
        exact fun _ _ _ => h'
      refine wpAny_bind (al ?_)
      simp only [Option.isNone_none, if_true]
      exact wpAny_pure q1
theorem zg_item {z TI TO i1 i2 a b : Addr} {k : Nat} {xs ys : Array Value} {x y u v c : Value} {f : Bool} {Q : Value → Shared → Prop} (D : ZipApart z TI TO i1 i2 a b)
    (hz : ZG s.heap z TI TO c f) (hc : Out1 c) (hI : IsPair s.heap TI (.ref i1) (.ref i2)) (hO : IsPair s.heap TO u v)
    (t1 : s.heap.IsTupleIter i1 a k) (t2 : s.heap.IsTupleIter i2 b k) (ha : s.heap.IsTuple a xs) (hb : s.heap.IsTuple b ys) (hx : xs[k]? = some x) (hy : ys[k]? = some y)
    (hQ : ∀ h' c' f' u' v', ZG h' z TI TO c' f' → Out1 c' → IsPair h' TO u' v' → h'.IsTupleIter i1 a (k + 1) → h'.IsTupleIter i2 b (k + 1) → IsPair h' s.heap.objs.size x y → h'.objs.size = s.heap.objs.size + 1 →
      (∀ n o, n ≠ z → n ≠ TO → n ≠ i1 → n ≠ i2 → s.heap.get? n = some o → h'.get? n = some o) → Q (.ref s.heap.objs.size) { s with heap := h' }) :
    wpAny (model prog w) A (Builtin.«zip.__next__» ⟨[.ref z], []⟩) (fun r s' => ∃ v, r = .done (.ret v) ∧ Q v s') E s := by
  show wpAny _ _ (field (.ref z) 2 >>= _) _ _ _
  refine wpAny_bind (wpAny_field hz rfl (x := .bool false) rfl ?_)
  show wpAny _ _ (field (.ref z) 3 >>= _) _ _ _
  refine wpAny_bind (wpAny_field hz rfl (x := .ref TI) rfl (wpAny_bind (wpAny_seqItems hI rfl ?_)))
  show wpAny _ _ (Builtin.SmallTypes.ownedTupleIsFree (.ref z) >>= _) _ _ _
  refine wpAny_bind (zg_isFree hz hc ?_ fun g0 c0 z0 oc0 m0 => ?_)
  · simp only [if_true]
    refine wpAny_bind (wpAny_rule (wpAny_bind (wpAny_field hz rfl (x := .ref TO) rfl (wpAny_bind (wpAny_setField_rec hz (by simp) fun g1 z1 m1 => ?_)))))
    replace z1 : ZG g1 z TI TO .ellipsis f := z1
    refine wpAny_bind ?_
    simp only [List.zipIdx_cons, List.zipIdx_nil, List.forIn_cons, List.forIn_nil]
    refine wpAny_bind (wpAny_bind (wpAny_onRaise ?_))
    show wpAny _ _ (Builtin.SmallTypes.nextOf (.ref i1) >>= _) _ _ _
    refine wpAny_bind (nextOf_tuple_item (t1.extBut m1.extBut D.i1z) (ha.extBut m1.extBut D.l1z) hx fun g2 p1 m2 => wpAny_pure ?_)
    have O2 : IsPair g2 TO u v := m2.extBut _ _ D.TOi1 (m1.extBut _ _ D.TOz hO)
    refine wpAny_bind (wpAny_seqItems O2 rfl (wpAny_bind (wpAny_updateSeq_pair O2 fun g3 O3 m3 => ?_)))
    replace O3 : IsPair g3 TO x v := O3
    refine wpAny_bind (wpAny_letGo (wpAny_pure (wpAny_bind (wpAny_bind (wpAny_onRaise ?_)))))
    show wpAny _ _ (Builtin.SmallTypes.nextOf (.ref i2) >>= _) _ _ _
    refine wpAny_bind (nextOf_tuple_item (((t2.extBut m1.extBut D.i2z).extBut m2.extBut D.i12.symm).extBut m3.extBut D.TOi2.symm)
      (((hb.extBut m1.extBut D.l2z).extBut m2.extBut D.l2i1).extBut m3.extBut D.l2TO) hy fun g4 p2 m4 => wpAny_pure ?_)
    have O4 : IsPair g4 TO x v := m4.extBut _ _ D.TOi2 O3
    refine wpAny_bind (wpAny_seqItems O4 rfl (wpAny_bind (wpAny_updateSeq_pair O4 fun g5 O5 m5 => ?_)))
    replace O5 : IsPair g5 TO x y := O5
    refine wpAny_bind (wpAny_letGo (wpAny_pure (wpAny_pure (wpAny_bind (wpAny_seqItems O5 rfl (wpAny_bind (wpAny_newTuple ?_)))))))
    have sz : g5.objs.size = s.heap.objs.size := by rw [m5.1, m4.1, m3.1, m2.1, m1.1]
    have z5 : ZG g5 z TI TO .ellipsis f := m5.extBut _ _ D.TOz.symm (m4.extBut _ _ D.i2z.symm (m3.extBut _ _ D.TOz.symm (m2.extBut _ _ D.i1z.symm z1)))
    have k5 : ∀ n o, n ≠ z → n ≠ TO → n ≠ i1 → n ≠ i2 → s.heap.get? n = some o → g5.get? n = some o := fun n o n1 n2 n3 n4 q =>
      m5.extBut _ _ n2 (m4.extBut _ _ n4 (m3.extBut _ _ n2 (m2.extBut _ _ n3 (m1.extBut _ _ n1 q))))
    have q1 : g5.IsTupleIter i1 a (k + 1) := ((p1.extBut m3.extBut D.TOi1.symm).extBut m4.extBut D.i12).extBut m5.extBut D.TOi1.symm
    have q2 : g5.IsTupleIter i2 b (k + 1) := p2.extBut m5.extBut D.TOi2.symm
    have zl : z < g5.objs.size := Heap.lt_size z5
    show wpAny _ _ (Builtin.SmallTypes.ownedTupleHandOut (.ref z) (.ref g5.objs.size) >>= _) _ _ _
    refine wpAny_bind ?_
    unfold Builtin.SmallTypes.ownedTupleHandOut
    have z6 : ZG (g5.push { cls := .type "tuple", data := .seq #[x, y] }) z TI TO .ellipsis f := Heap.get?_push_of_some _ z5
    refine wpAny_bind (wpAny_setField_rec z6 (by simp) fun g7 z7 m7 => ?_)
    replace z7 : ZG g7 z TI TO (rawInt g5.objs.size) f := z7
    refine wpAny_setField_rec z7 (by simp) fun g8 z8 m8 => ?_
    replace z8 : ZG g8 z TI TO (rawInt g5.objs.size) false := z8
    have up : ∀ n o, n ≠ z → g5.get? n = some o → g8.get? n = some o := fun n o h q => m8.extBut _ _ h (m7.extBut _ _ h (Heap.get?_push_of_some _ q))
    have T8 : IsPair g8 g5.objs.size x y := m8.extBut _ _ (Nat.ne_of_gt zl) (m7.extBut _ _ (Nat.ne_of_gt zl) (Heap.get?_push_size _ rfl))
    have s8 : g8.objs.size = g5.objs.size + 1 := by rw [m8.1, m7.1, Heap.size_push]
    rw [sz] at T8 s8
    refine wpAny_pure ⟨_, rfl, ?_⟩
    show Q (.ref g5.objs.size) _
    rw [sz]
    exact hQ g8 _ _ _ _ z8 (.inr ⟨_, rfl⟩) (up _ _ D.TOz O5) (q1.at fun o q => up _ o D.i1z q) (q2.at fun o q => up _ o D.i2z q) T8 s8 fun n o n1 n2 n3 n4 q => up n o n1 (k5 n o n1 n2 n3 n4 q)
  · simp only [Bool.false_eq_true, if_false]
    refine wpAny_bind ?_
    rw [← Array.forIn_toList]
    simp only [List.forIn_cons, List.forIn_nil]
    refine wpAny_bind (wpAny_bind (wpAny_holding ?_))
    show wpAny _ _ (Builtin.SmallTypes.nextOf (.ref i1) >>= _) _ _ _
    refine wpAny_bind (nextOf_tuple_item (s := { s with heap := g0 }) (t1.extBut m0.extBut D.i1z) (ha.extBut m0.extBut D.l1z) hx fun g1 p1 m1 => wpAny_pure (wpAny_pure (wpAny_bind (wpAny_bind (wpAny_holding ?_)))))
    show wpAny _ _ (Builtin.SmallTypes.nextOf (.ref i2) >>= _) _ _ _
    refine wpAny_bind (nextOf_tuple_item (s := { s with heap := g1 }) ((t2.extBut m0.extBut D.i2z).extBut m1.extBut D.i12.symm) ((hb.extBut m0.extBut D.l2z).extBut m1.extBut D.l2i1) hy fun g2 p2 m2 => wpAny_pure (wpAny_pure (wpAny_pure ?_)))
    show wpAny _ _ (newTuple [x, y] >>= _) _ _ _
    refine wpAny_bind (wpAny_newTuple ?_)
    have sz : g2.objs.size = s.heap.objs.size := by rw [m2.1, m1.1, m0.1]
    have z2 : ZG g2 z TI TO c0 true := m2.extBut _ _ D.i2z.symm (m1.extBut _ _ D.i1z.symm z0)
    have kk : ∀ n o, n ≠ z → n ≠ i1 → n ≠ i2 → s.heap.get? n = some o → g2.get? n = some o := fun n o n1 n2 n3 q => m2.extBut _ _ n3 (m1.extBut _ _ n2 (m0.extBut _ _ n1 q))
    have q1 : g2.IsTupleIter i1 a (k + 1) := p1.extBut m2.extBut D.i12
    refine wpAny_pure ⟨_, rfl, ?_⟩
    show Q (.ref g2.objs.size) _
    have T2 : IsPair (g2.push { cls := .type "tuple", data := .seq #[x, y] }) g2.objs.size x y := Heap.get?_push_size _ rfl
    have s2 : (g2.push { cls := .type "tuple", data := .seq #[x, y] }).objs.size = g2.objs.size + 1 := Heap.size_push ..
    rw [sz] at T2 s2 ⊢
    exact hQ _ _ _ _ _ (Heap.get?_push_of_some _ z2) oc0 (Heap.get?_push_of_some _ (kk _ _ D.TOz D.TOi1 D.TOi2 hO)) (q1.at fun o q => Heap.get?_push_of_some _ q) (p2.at fun o q => Heap.get?_push_of_some _ q) T2 s2
      fun n o n1 _ n3 n4 q => Heap.get?_push_of_some _ (kk n o n1 n3 n4 q)
theorem zg_done {z TI TO i1 i2 a b : Addr} {k : Nat} {xs ys : Array Value} {u v c : Value} {f : Bool} {Q : Fin → Shared → Prop} (hh : A.handled = none) (D : ZipApart z TI TO i1 i2 a b)
    (hz : ZG s.heap z TI TO c f) (hc : Out1 c) (hI : IsPair s.heap TI (.ref i1) (.ref i2)) (hO : IsPair s.heap TO u v)
    (t1 : s.heap.IsTupleIter i1 a k) (t2 : s.heap.IsTupleIter i2 b k) (ha : s.heap.IsTuple a xs) (hb : s.heap.IsTuple b ys) (he : xs[k]? = none ∨ ys[k]? = none)
    (hE : ∀ h' e, (∀ n o, n ≠ z → n ≠ TO → n ≠ i1 → n ≠ i2 → s.heap.get? n = some o → h'.get? n = some o) → (∃ o, h'.get? e = some o ∧ o.cls = .type "StopIteration") → E (.ref e) { s with heap := h' }) :
    wpAny (model prog w) A (Builtin.«zip.__next__» ⟨[.ref z], []⟩) Q E s := by
  show wpAny _ _ (field (.ref z) 2 >>= _) _ _ _
  refine wpAny_bind (wpAny_field hz rfl (x := .bool false) rfl ?_)
  show wpAny _ _ (field (.ref z) 3 >>= _) _ _ _
  refine wpAny_bind (wpAny_field hz rfl (x := .ref TI) rfl (wpAny_bind (wpAny_seqItems hI rfl ?_)))
  show wpAny _ _ (Builtin.SmallTypes.ownedTupleIsFree (.ref z) >>= _) _ _ _
  refine wpAny_bind (zg_isFree hz hc ?_ fun g0 c0 z0 oc0 m0 => ?_)
  · simp only [if_true]
    refine wpAny_bind (wpAny_rule (wpAny_bind (wpAny_field hz rfl (x := .ref TO) rfl (wpAny_bind (wpAny_setField_rec hz (by simp) fun g1 z1 m1 => ?_)))))
    replace z1 : ZG g1 z TI TO .ellipsis f := z1
    refine wpAny_bind ?_
    simp only [List.zipIdx_cons, List.zipIdx_nil, List.forIn_cons, List.forIn_nil]
    refine wpAny_bind (wpAny_bind (wpAny_onRaise ?_))
    show wpAny _ _ (Builtin.SmallTypes.nextOf (.ref i1) >>= _) _ _ _
    have stop : ∀ (g : Heap) (e : Nat), ZG g z TI TO .ellipsis f → (∃ o, g.get? e = some o ∧ o.cls = .type "StopIteration") → (∀ n o, n ≠ z → n ≠ TO → n ≠ i1 → n ≠ i2 → s.heap.get? n = some o → g.get? n = some o) →
        wpAny (model prog w) A (setField (.ref z) 0 .none) (fun _ s' => E (.ref e) s') E { s with heap := g } := fun g e zg ⟨o, ho, hcs⟩ kk => by
      have ez : e ≠ z := fun q => by subst q; rw [zg] at ho; cases ho; simp at hcs
      refine wpAny_setField_rec (s := { s with heap := g }) zg (by simp) fun g' _ m' => ?_
      exact hE g' e (fun n o n1 n2 n3 n4 q => m'.extBut _ _ n1 (kk n o n1 n2 n3 n4 q)) ⟨o, m'.extBut _ _ ez ho, hcs⟩
    cases hx : xs[k]? with
    | none =>
      refine wpAny_bind (nextOf_tuple_end hh (t1.extBut m1.extBut D.i1z) (ha.extBut m1.extBut D.l1z) hx fun g2 e m2 st => ?_)
      exact stop g2 e (m2 _ _ D.i1z.symm z1) st fun n o n1 _ n3 _ q => m2 _ _ n3 (m1.extBut _ _ n1 q)
    | some x =>
      have hy : ys[k]? = none := by rcases he with h | h; rw [hx] at h; cases h; exact h
      refine wpAny_bind (nextOf_tuple_item (t1.extBut m1.extBut D.i1z) (ha.extBut m1.extBut D.l1z) hx fun g2 p1 m2 => wpAny_pure ?_)
      have O2 : IsPair g2 TO u v := m2.extBut _ _ D.TOi1 (m1.extBut _ _ D.TOz hO)
      refine wpAny_bind (wpAny_seqItems O2 rfl (wpAny_bind (wpAny_updateSeq_pair O2 fun g3 O3 m3 => ?_)))
      refine wpAny_bind (wpAny_letGo (wpAny_pure (wpAny_bind (wpAny_bind (wpAny_onRaise ?_)))))
      show wpAny _ _ (Builtin.SmallTypes.nextOf (.ref i2) >>= _) _ _ _
      refine wpAny_bind (nextOf_tuple_end hh (((t2.extBut m1.extBut D.i2z).extBut m2.extBut D.i12.symm).extBut m3.extBut D.TOi2.symm)
        (((hb.extBut m1.extBut D.l2z).extBut m2.extBut D.l2i1).extBut m3.extBut D.l2TO) hy fun g4 e m4 st => ?_)
      exact stop g4 e (m4 _ _ D.i2z.symm (m3.extBut _ _ D.TOz.symm (m2.extBut _ _ D.i1z.symm z1))) st fun n o n1 n2 n3 n4 q => m4 _ _ n4 (m3.extBut _ _ n2 (m2.extBut _ _ n3 (m1.extBut _ _ n1 q)))
  · simp only [Bool.false_eq_true, if_false]
    refine wpAny_bind ?_
    rw [← Array.forIn_toList]
    simp only [List.forIn_cons, List.forIn_nil]
    refine wpAny_bind (wpAny_bind (wpAny_holding ?_))
    show wpAny _ _ (Builtin.SmallTypes.nextOf (.ref i1) >>= _) _ _ _
    cases hx : xs[k]? with
    | none =>
      refine wpAny_bind (nextOf_tuple_end (s := { s with heap := g0 }) hh (t1.extBut m0.extBut D.i1z) (ha.extBut m0.extBut D.l1z) hx fun g1 e m1 st => ?_)
      exact hE g1 e (fun n o n1 _ n3 _ q => m1 _ _ n3 (m0.extBut _ _ n1 q)) st
    | some x =>
      have hy : ys[k]? = none := by rcases he with h | h; rw [hx] at h; cases h; exact h
      refine wpAny_bind (nextOf_tuple_item (s := { s with heap := g0 }) (t1.extBut m0.extBut D.i1z) (ha.extBut m0.extBut D.l1z) hx fun g1 p1 m1 => wpAny_pure (wpAny_pure (wpAny_bind (wpAny_bind (wpAny_holding ?_)))))
      show wpAny _ _ (Builtin.SmallTypes.nextOf (.ref i2) >>= _) _ _ _
      refine wpAny_bind (nextOf_tuple_end (s := { s with heap := g1 }) hh ((t2.extBut m0.extBut D.i2z).extBut m1.extBut D.i12.symm) ((hb.extBut m0.extBut D.l2z).extBut m1.extBut D.l2i1) hy fun g2 e m2 st => ?_)
      exact hE g2 e (fun n o n1 _ n3 n4 q => m2 _ _ n4 (m1.extBut _ _ n3 (m0.extBut _ _ n1 q))) st
theorem zg_nextOf {z TI TO i1 i2 a b : Addr} {k : Nat} {xs ys : Array Value} {x y u v c : Value} {f : Bool} {Q : Value → Shared → Prop} (D : ZipApart z TI TO i1 i2 a b)
    (hz : ZG s.heap z TI TO c f) (hc : Out1 c) (hI : IsPair s.heap TI (.ref i1) (.ref i2)) (hO : IsPair s.heap TO u v)
    (t1 : s.heap.IsTupleIter i1 a k) (t2 : s.heap.IsTupleIter i2 b k) (ha : s.heap.IsTuple a xs) (hb : s.heap.IsTuple b ys) (hx : xs[k]? = some x) (hy : ys[k]? = some y)
    (hQ : ∀ h' c' f' u' v', ZG h' z TI TO c' f' → Out1 c' → IsPair h' TO u' v' → h'.IsTupleIter i1 a (k + 1) → h'.IsTupleIter i2 b (k + 1) → IsPair h' s.heap.objs.size x y → h'.objs.size = s.heap.objs.size + 1 →
      (∀ n o, n ≠ z → n ≠ TO → n ≠ i1 → n ≠ i2 → s.heap.get? n = some o → h'.get? n = some o) → Q (.ref s.heap.objs.size) { s with heap := h' }) :
    wpAny (model prog w) A (Builtin.SmallTypes.nextOf (.ref z)) Q E s := by
  have hT : s.TypeIs (.ref z) "zip" := ⟨_, hz, rfl⟩
  unfold Builtin.SmallTypes.nextOf
  exact wpAny_bind (wpAny_callSpecial?_slot (name := Str.ofString "__next__") hT F.slot_zip_next (wpAny_call_entry F.slot_zip_next hT F.entry_zip_next
    (zg_item D hz hc hI hO t1 t2 ha hb hx hy fun h' c' f' u' v' q1 q2 q3 q4 q5 q6 q7 q8 => wpAny_pure (hQ h' c' f' u' v' q1 q2 q3 q4 q5 q6 q7 q8)) (F.args_zip_next_1 _)))
theorem zg_nextOf_end {z TI TO i1 i2 a b : Addr} {k : Nat} {xs ys : Array Value} {u v c : Value} {f : Bool} {Q : Value → Shared → Prop} (hh : A.handled = none) (D : ZipApart z TI TO i1 i2 a b)
    (hz : ZG s.heap z TI TO c f) (hc : Out1 c) (hI : IsPair s.heap TI (.ref i1) (.ref i2)) (hO : IsPair s.heap TO u v)
    (t1 : s.heap.IsTupleIter i1 a k) (t2 : s.heap.IsTupleIter i2 b k) (ha : s.heap.IsTuple a xs) (hb : s.heap.IsTuple b ys) (he : xs[k]? = none ∨ ys[k]? = none)
    (hE : ∀ h' e, (∀ n o, n ≠ z → n ≠ TO → n ≠ i1 → n ≠ i2 → s.heap.get? n = some o → h'.get? n = some o) → (∃ o, h'.get? e = some o ∧ o.cls = .type "StopIteration") → E (.ref e) { s with heap := h' }) :
    wpAny (model prog w) A (Builtin.SmallTypes.nextOf (.ref z)) Q E s := by
  have hT : s.TypeIs (.ref z) "zip" := ⟨_, hz, rfl⟩
  unfold Builtin.SmallTypes.nextOf
  exact wpAny_bind (wpAny_callSpecial?_slot (name := Str.ofString "__next__") hT F.slot_zip_next (wpAny_call_entry F.slot_zip_next hT F.entry_zip_next
    (zg_done (show A.in1.handled = none from hh) D hz hc hI hO t1 t2 ha hb he hE) (F.args_zip_next_1 _)))
theorem ez_item {e z TI TO i1 i2 a b : Addr} {k : Nat} {xs ys : Array Value} {x y u v c old : Value} {f : Bool} {Q : Value → Shared → Prop} (D : ZipApart z TI TO i1 i2 a b)
    (hef : e ∉ [z, TI, TO, i1, i2]) (he : IsEnum s.heap e z (k : Nat) old) (hz : ZG s.heap z TI TO c f) (hc : Out1 c) (hI : IsPair s.heap TI (.ref i1) (.ref i2)) (hO : IsPair s.heap TO u v)
    (t1 : s.heap.IsTupleIter i1 a k) (t2 : s.heap.IsTupleIter i2 b k) (ha : s.heap.IsTuple a xs) (hb : s.heap.IsTuple b ys) (hx : xs[k]? = some x) (hy : ys[k]? = some y)
    (hQ : ∀ g1 h' c' f' u' v' t, ZG g1 z TI TO c' f' → Out1 c' → IsPair g1 TO u' v' → g1.IsTupleIter i1 a (k + 1) → g1.IsTupleIter i2 b (k + 1) → IsPair g1 s.heap.objs.size x y → g1.objs.size = s.heap.objs.size + 1 →
      (∀ n o, n ≠ z → n ≠ TO → n ≠ i1 → n ≠ i2 → s.heap.get? n = some o → g1.get? n = some o) →
      IsEnumOut h' e z ((k : Int) + 1) (.ref s.heap.objs.size) (s.heap.objs.size + 1) → h'.get? (s.heap.objs.size + 1) = some { cls := .type "tuple", data := .seq #[.int k t, .ref s.heap.objs.size] } →
      (∀ n o, n ≠ e → g1.get? n = some o → h'.get? n = some o) → Q (.ref (s.heap.objs.size + 1)) { s with heap := h', toks := t + 1 }) :
    wpAny (model prog w) A (Builtin.«enumerate.__next__» ⟨[.ref e], []⟩) (fun r s' => ∃ v, r = .done (.ret v) ∧ Q v s') E s := by
  obtain ⟨hp, g, d, t, os⟩ := s
  simp only [List.mem_cons, List.not_mem_nil, or_false, not_or] at hef
  obtain ⟨ne1, ne2, ne3, ne4, ne5⟩ := hef
  show wpAny _ _ (field (.ref e) 2 >>= _) _ _ _
  refine wpAny_bind (wpAny_field he rfl (x := .ref z) rfl (wpAny_bind (zg_nextOf D hz hc hI hO t1 t2 ha hb hx hy fun g1 c' f' u' v' q1 q2 q3 q4 q5 q6 q7 q8 => ?_)))
  have q7' : g1.objs.size = hp.objs.size + 1 := q7
  have e1 : IsEnum g1 e z (k : Nat) old := q8 _ _ ne1 ne3 ne4 ne5 he
  show wpAny _ _ (field (.ref e) 3 >>= _) _ _ ⟨g1, g, d, t, os⟩
  refine wpAny_bind (wpAny_field e1 rfl (x := rawInt k) rfl ?_)
  show wpAny _ _ (field (.ref e) 4 >>= _) _ _ ⟨g1, g, d, t, os⟩
  refine wpAny_bind (wpAny_field e1 rfl (x := .none) rfl ?_)
  show wpAny _ _ (mkInt k >>= _) _ _ ⟨g1, g, d, t, os⟩
  refine wpAny_bind (wpAny_mkInt ?_)
  show wpAny _ _ (setField (.ref e) 3 (rawInt ((k : Int) + 1)) >>= _) _ _ ⟨g1, g, d, t + 1, os⟩
  refine wpAny_bind (wpAny_setField_rec e1 (by simp) fun g2 e2 m2 => ?_)
  replace m2 : Heap.SameBut e g1 g2 := m2
  replace e2 : IsEnum g2 e z ((k : Int) + 1) old := e2
  show wpAny _ _ (setField (.ref e) 4 .none >>= _) _ _ ⟨g2, g, d, t + 1, os⟩
  refine wpAny_bind (wpAny_setField_rec e2 (by simp) fun g3 e3 m3 => ?_)
  replace m3 : Heap.SameBut e g2 g3 := m3
  replace e3 : IsEnum g3 e z ((k : Int) + 1) old := e3
  show wpAny _ _ (newTuple [.int k t, .ref hp.objs.size] >>= _) _ _ ⟨g3, g, d, t + 1, os⟩
  refine wpAny_bind (wpAny_newTuple ?_)
  have sz : g3.objs.size = hp.objs.size + 1 := by rw [m3.1, m2.1, q7']
  have el : e < hp.objs.size := Heap.lt_size he
  have e4 : IsEnum (g3.push { cls := .type "tuple", data := .seq #[.int k t, .ref hp.objs.size] }) e z ((k : Int) + 1) old := Heap.get?_push_of_some _ e3
  generalize hg4 : g3.push { cls := .type "tuple", data := .seq #[.int k t, .ref hp.objs.size] } = g4 at e4
  have T4 : g4.get? (hp.objs.size + 1) = some { cls := .type "tuple", data := .seq #[.int k t, .ref hp.objs.size] } := by rw [← hg4, ← sz]; exact Heap.get?_push_size _ rfl
  have k4 : ∀ n o, n ≠ e → g1.get? n = some o → g4.get? n = some o := fun n o hn q => by
    rw [← hg4]; exact Heap.get?_push_of_some _ (m3.extBut n o hn (m2.extBut n o hn q))
  show wpAny _ _ (Builtin.SmallTypes.ownedTupleIsFree (.ref e) >>= _) _ _ ⟨g4, g, d, t + 1, os⟩
  rw [sz]
  clear hg4 e3 m3 e2 m2 e1 sz g3 g2
  refine wpAny_bind ?_
  unfold Builtin.SmallTypes.ownedTupleIsFree
  refine wpAny_bind (wpAny_field e4 rfl (x := .none) rfl (wpAny_pure ?_))
  simp only [if_true]
  refine wpAny_bind (wpAny_rule (wpAny_bind (wpAny_field e4 rfl (x := old) rfl (wpAny_bind (wpAny_setField_rec e4 (by simp) fun g5 e5 m5 => ?_)))))
  replace m5 : Heap.SameBut e g4 g5 := m5
  replace e5 : IsEnum g5 e z ((k : Int) + 1) (.ref hp.objs.size) := e5
  show wpAny _ _ (Builtin.SmallTypes.ownedTupleHandOut (.ref e) (.ref (hp.objs.size + 1)) >>= _) _ _ ⟨g5, g, d, t + 1, os⟩
  refine wpAny_bind ?_
  unfold Builtin.SmallTypes.ownedTupleHandOut
  refine wpAny_bind (wpAny_setField_rec e5 (by simp) fun g6 e6 m6 => ?_)
  replace m6 : Heap.SameBut e g5 g6 := m6
  replace e6 : IsEnumOut g6 e z ((k : Int) + 1) (.ref hp.objs.size) (hp.objs.size + 1) := e6
  refine wpAny_setField_rec e6 (by simp) fun g7 e7 m7 => ?_
  replace m7 : Heap.SameBut e g6 g7 := m7
  replace e7 : IsEnumOut g7 e z ((k : Int) + 1) (.ref hp.objs.size) (hp.objs.size + 1) := e7
  have up : ∀ n o, n ≠ e → g4.get? n = some o → g7.get? n = some o := fun n o hn q => m7.extBut n o hn (m6.extBut n o hn (m5.extBut n o hn q))
  refine wpAny_bind (wpAny_letGo (wpAny_pure ⟨_, rfl, hQ g1 g7 c' f' u' v' t q1 q2 q3 q4 q5 q6 q7 q8 e7 (up _ _ (Nat.ne_of_gt (Nat.lt_succ_of_lt el)) T4) fun n o hn q => up n o hn (k4 n o hn q)⟩))
theorem ez_next {e z TI TO i1 i2 a b : Addr} {k : Nat} {xs ys : Array Value} {x y u v c old : Value} {f : Bool} {Q : Option Value → Shared → Prop} (D : ZipApart z TI TO i1 i2 a b)
    (hef : e ∉ [z, TI, TO, i1, i2]) (he : IsEnum s.heap e z (k : Nat) old) (hz : ZG s.heap z TI TO c f) (hc : Out1 c) (hI : IsPair s.heap TI (.ref i1) (.ref i2)) (hO : IsPair s.heap TO u v)
    (t1 : s.heap.IsTupleIter i1 a k) (t2 : s.heap.IsTupleIter i2 b k) (ha : s.heap.IsTuple a xs) (hb : s.heap.IsTuple b ys) (hx : xs[k]? = some x) (hy : ys[k]? = some y)
    (hQ : ∀ g1 h' c' f' u' v' t, ZG g1 z TI TO c' f' → Out1 c' → IsPair g1 TO u' v' → g1.IsTupleIter i1 a (k + 1) → g1.IsTupleIter i2 b (k + 1) → IsPair g1 s.heap.objs.size x y → g1.objs.size = s.heap.objs.size + 1 →
      (∀ n o, n ≠ z → n ≠ TO → n ≠ i1 → n ≠ i2 → s.heap.get? n = some o → g1.get? n = some o) →
      IsEnumOut h' e z ((k : Int) + 1) (.ref s.heap.objs.size) (s.heap.objs.size + 1) → h'.get? (s.heap.objs.size + 1) = some { cls := .type "tuple", data := .seq #[.int k t, .ref s.heap.objs.size] } →
      (∀ n o, n ≠ e → g1.get? n = some o → h'.get? n = some o) → Q (some (.ref (s.heap.objs.size + 1))) { s with heap := h', toks := t + 1 }) :
    wpAny (model prog w) A (pyNext (.ref e)) Q E s := by
  have hT : s.TypeIs (.ref e) "enumerate" := ⟨_, he, rfl⟩
  unfold pyNext
  exact wpAny_bind (wpAny_attempt (wpAny_callSpecial?_slot (name := Str.ofString "__next__") hT F.slot_enumerate_next (wpAny_call_entry F.slot_enumerate_next hT F.entry_enumerate_next
    (ez_item D hef he hz hc hI hO t1 t2 ha hb hx hy fun g1 h' c' f' u' v' t q1 q2 q3 q4 q5 q6 q7 q8 q9 r1 r2 => wpAny_pure (hQ g1 h' c' f' u' v' t q1 q2 q3 q4 q5 q6 q7 q8 q9 r1 r2)) (F.args_enumerate_next_1 _))))
theorem ez_end {e z TI TO i1 i2 a b : Addr} {k : Nat} {i : Int} {xs ys : Array Value} {u v c old : Value} {f : Bool} {Q : Option Value → Shared → Prop} (hh : A.handled = none) (D : ZipApart z TI TO i1 i2 a b)
    (he : IsEnum s.heap e z i old) (hz : ZG s.heap z TI TO c f) (hc : Out1 c) (hI : IsPair s.heap TI (.ref i1) (.ref i2)) (hO : IsPair s.heap TO u v)
    (t1 : s.heap.IsTupleIter i1 a k) (t2 : s.heap.IsTupleIter i2 b k) (ha : s.heap.IsTuple a xs) (hb : s.heap.IsTuple b ys) (hx : xs[k]? = none ∨ ys[k]? = none)
    (hQ : ∀ h', (∀ n o, n ≠ z → n ≠ TO → n ≠ i1 → n ≠ i2 → s.heap.get? n = some o → h'.get? n = some o) → Q none { s with heap := h' }) :
    wpAny (model prog w) A (pyNext (.ref e)) Q E s := by
  have hT : s.TypeIs (.ref e) "enumerate" := ⟨_, he, rfl⟩
  unfold pyNext
  refine wpAny_bind (wpAny_attempt (wpAny_callSpecial?_slot (name := Str.ofString "__next__") hT F.slot_enumerate_next (wpAny_call_entry F.slot_enumerate_next hT F.entry_enumerate_next ?_ (F.args_enumerate_next_1 _))))
  show wpAny _ _ (field (.ref e) 2 >>= _) _ _ _
  refine wpAny_bind (wpAny_field he rfl (x := .ref z) rfl (wpAny_bind (zg_nextOf_end (by first | exact hh | exact (show A.in1.handled = none from hh) | exact (show A.in1.in1.handled = none from hh)) D hz hc hI hO t1 t2 ha hb hx fun h' x k ⟨o, ho, hcs⟩ => ?_)))
  refine wpAny_bind (wpAny_isInstance (T := "StopIteration") (b := true) ⟨o, ho, hcs⟩ isSubtype_stop ?_)
  exact wpAny_pure (hQ _ k)
/-- enumerate of a zip -/
theorem en_newZ (z TI TO : Addr) :
    Meets (Builtin.«enumerate.__new__» ⟨[.type "enumerate", .ref z], []⟩) (fun _ R s => IsZip s.heap z TI TO .none ∧
      R (.ok (.ret (.ref s.heap.objs.size))) { s with heap := s.heap.push { cls := .type "enumerate", data := .fields #[.none, .bool false, .ref z, rawInt 0, .none, .none] } }) :=
  .of_wp fun prog w A R s hh => by
    obtain ⟨hp, g, d, tk, os⟩ := s
    obtain ⟨hl, hh⟩ := hh
    have hsub := sub_enumerate
    have hL : IsZip (Shared.heap ⟨hp, g, d, tk, os⟩) z TI TO .none := hl
    wp_walk
    refine wpAny_stack_any fun st => wpAny_pure ?_
    split
    · rename_i c _ _ _ _ _
      cases (c == Value.type "enumerate") <;> (wp_walk using wpAny_pyIter_zip hL; exact ⟨_, rfl, hh⟩)
    · wp_walk using wpAny_pyIter_zip hL
      exact ⟨_, rfl, hh⟩
theorem en_callZ {z TI TO : Addr} {Q : Value → Shared → Prop} (hz : IsZip s.heap z TI TO .none)
    (hq : ∀ h', IsEnum h' s.heap.objs.size z 0 .none → (∀ b o, s.heap.get? b = some o → h'.get? b = some o) → Q (.ref s.heap.objs.size) { s with heap := h' }) :
    wpAny (model prog w) A (call (.type "enumerate") [.ref z]) Q E s := by
  refine callType_new F.called_enumerate (by decide) (F.typeCall_enumerate_1 _) (F.newCall_enumerate_1 _) (fun obj => F.args_object_init_2 obj _) F.entry_enumerate_new (en_newZ z TI TO) ⟨hz, ?_⟩
  have g1 := Heap.get?_push_size s.heap (o := { cls := .type "enumerate", data := .fields #[.none, .bool false, .ref z, rawInt 0, .none, .none] }) rfl
  exact ⟨⟨_, g1, rfl⟩, hq _ g1 fun b o x => Heap.get?_push_of_some _ x⟩
end
end L3

/-! Values without the heap: enumerate over zip of two tuples, the turns. -/
namespace L3
open PySem PySem.Spec L2 PyProof.Rows RZ
/-- the tuples at a and b as they stand at each turn, the items in new pairs, each with its place -/
def IezT (K : PySem.W.Frag) (a b : Addr) : It :=
  ⟨fun i H => ∃ (xs ys : List V) (x y : V), SqT K H a xs ∧ SqT K H b ys ∧ xs[i]? = some x ∧ ys[i]? = some y,
    fun i H v H' => ∃ T U x y, v = .ref U ∧ H T = none ∧ H U = none ∧ T ≠ U ∧ H' = upd (upd H T (.tup [x, y])) U (.tup [.int (i : Nat), .ref T]) ∧ (∀ xs, SqT K H a xs → xs[i]? = some x) ∧ ∀ ys, SqT K H b ys → ys[i]? = some y,
    fun i H => ∃ xs ys : List V, SqT K H a xs ∧ SqT K H b ys ∧ (xs.length ≤ i ∨ ys.length ≤ i)⟩
theorem turn_ezT {P : Program} {w : World} {K : PySem.W.Frag} {elts : List Expr} {kk : Nat} {tpos : Pos} {a b e z TI TO i1 i2 : Addr} (D : ZipApart z TI TO i1 i2 a b) (hef : e ∉ [z, TI, TO, i1, i2]) :
    Turn P w K (.Tuple elts kk tpos) (IezT K a b) [e, z, TI, TO, i1, i2] e (fun i h => (∃ old, IsEnum h e z ((i : Nat) : Int) old) ∧ ∃ c f u v, ZG h z TI TO c f ∧ Out1 c ∧ IsPair h TI (.ref i1) (.ref i2) ∧ IsPair h TO u v ∧ h.IsTupleIter i1 a i ∧ h.IsTupleIter i2 b i) where
  mem := List.mem_cons_self
  obj := fun i h st m hm => by
    obtain ⟨⟨old, he⟩, c, f, u, v, hz, hc, hI, hO, ⟨o1, e1, _, d1⟩, ⟨o2, e2, _, d2⟩⟩ := st
    have e' : m = e ∨ m = z ∨ m = TI ∨ m = TO ∨ m = i1 ∨ m = i2 := by simpa using hm
    rcases e' with q | q | q | q | q | q
    · rw [q]; exact ⟨_, he, fun v q => nomatch q⟩
    · rw [q]; exact ⟨_, hz, fun v q => nomatch q⟩
    · rw [q]; exact ⟨_, hI, fun v q => nomatch q⟩
    · rw [q]; exact ⟨_, hO, fun v q => nomatch q⟩
    · rw [q]; exact ⟨o1, e1, fun v q => by rw [d1] at q; cases q⟩
    · rw [q]; exact ⟨o2, e2, fun v q => by rw [d2] at q; cases q⟩
  keep := fun i h h' st k => by
    obtain ⟨⟨old, he⟩, c, f, u, v, hz, hc, hI, hO, t1, t2⟩ := st
    exact ⟨⟨old, k e (by simp) _ he⟩, c, f, u, v, k z (by simp) _ hz, hc, k TI (by simp) _ hI, k TO (by simp) _ hO, t1.at fun o q => k i1 (by simp) o q, t2.at fun o q => k i2 (by simp) o q⟩
  item := by
    intro X hP hw hK hcm i pins s σ H E I hf st hg
    subst hP hw hK
    obtain ⟨⟨old, he⟩, c, f, u, v, hz, hoc, hI, hO, t1, t2⟩ := st
    obtain ⟨xs, ys, x, y, hqx, hqy, hx, hy⟩ := hg
    obtain ⟨its, rv, p, _⟩ := I.tuple hqx
    obtain ⟨its2, rv2, p2, _⟩ := I.tuple hqy
    obtain ⟨v1, hu, ru⟩ := rv.get hx
    obtain ⟨v2, hu2, ru2⟩ := rv2.get hy
    have lt : ∀ m ∈ [e, z, TI, TO, i1, i2], m < s.heap.objs.size := fun m hm => by
      have e' : m = e ∨ m = z ∨ m = TI ∨ m = TO ∨ m = i1 ∨ m = i2 := by simpa using hm
      rcases e' with q | q | q | q | q | q
      · rw [q]; exact Heap.lt_size he
      · rw [q]; exact Heap.lt_size hz
      · rw [q]; exact Heap.lt_size hI
      · rw [q]; exact Heap.lt_size hO
      · rw [q]; obtain ⟨_, w1, _⟩ := t1; exact Heap.lt_size w1
      · rw [q]; obtain ⟨_, w2, _⟩ := t2; exact Heap.lt_size w2
    have el := lt e (by simp)
    refine ez_next D hef he hz hoc hI hO t1 t2 p p2 (x := v1) (y := v2) (by simpa using hu) (by simpa using hu2) fun g1 h' c' f' u' v' t q1 q2 q3 q4 q5 q6 q7 q8 q9 r1 r2 => ?_
    refine ⟨_, rfl, wpAny_letOwnedTupleGo_enum (s := { s with heap := h', toks := t + 1 }) q9 fun h'' e'' sb => ?_⟩
    have T2 : h''.get? (s.heap.objs.size + 1) = some { cls := .type "tuple", data := .seq #[.int i t, .ref s.heap.objs.size] } := (sb.2 _ (Nat.ne_of_gt (Nat.lt_succ_of_lt el))).trans r1
    have new1 : ObjOk X.prog X.w (upd H s.heap.objs.size (.tup [x, y])) g1 s.heap.objs.size (.tup [x, y]) :=
      ⟨by show 2 ≤ sizeLine; decide, [v1, v2], .cons ru (.cons ru2 .nil), ⟨_, q6, rfl, _, rfl⟩⟩
    have I1 : Inv X pins σ (upd H s.heap.objs.size (.tup [x, y])) { s with heap := g1, toks := s.toks } :=
      I.turnedNew (t' := s.toks) (ch := [e, z, TI, TO, i1, i2]) (fun m o hb q => q8 m o (fun q' => hb (by simp [q'])) (fun q' => hb (by simp [q'])) (fun q' => hb (by simp [q'])) (fun q' => hb (by simp [q'])) q) hf (Nat.le_refl _) new1
    have hf1 : ∀ m ∈ [e, z, TI, TO, i1, i2], FpOk X pins (upd H s.heap.objs.size (.tup [x, y])) m := fun m hm => by
      obtain ⟨n1, r⟩ := hf m hm
      exact ⟨by rw [upd_ne (Nat.ne_of_lt (lt m hm))]; exact n1, r⟩
    have new2 : ObjOk X.prog X.w (upd (upd H s.heap.objs.size (.tup [x, y])) (s.heap.objs.size + 1) (.tup [.int (i : Nat), .ref s.heap.objs.size])) h'' (s.heap.objs.size + 1) (.tup [.int (i : Nat), .ref s.heap.objs.size]) :=
      ⟨by show 2 ≤ sizeLine; decide, [.int i t, .ref s.heap.objs.size], .cons ⟨_, rfl⟩ (.cons rfl .nil), ⟨_, T2, rfl, _, rfl⟩⟩
    have up : ∀ m o, m ≠ e → g1.get? m = some o → h''.get? m = some o := fun m o hm q => (sb.2 m hm).trans (r2 m o hm q)
    have I2 : Inv X pins σ (upd (upd H s.heap.objs.size (.tup [x, y])) (s.heap.objs.size + 1) (.tup [.int (i : Nat), .ref s.heap.objs.size])) { s with heap := h'', toks := t + 1 } :=
      I1.turnedNew (t' := t + 1) (ch := [e, z, TI, TO, i1, i2]) (fun m o hb q => up m o (fun q' => hb (by simp [q'])) q) hf1 (Nat.le_of_eq q7) new2
    have nz : ∀ m ∈ [z, TI, TO, i1, i2], m ≠ e := fun m hm q => hef (q ▸ hm)
    refine ⟨.ref (s.heap.objs.size + 1), _, I2, rfl, ⟨s.heap.objs.size, s.heap.objs.size + 1, x, y, rfl, I.hok.fresh (Nat.le_refl _), I.hok.fresh (Nat.le_succ _), Nat.ne_of_lt (Nat.lt_succ_self _), rfl, fun l hl => by rw [I.tuple_inj hl hqx]; exact hx, fun l hl => by rw [I.tuple_inj hl hqy]; exact hy⟩, ⟨⟨.ref s.heap.objs.size, by rw [show ((i + 1 : Nat) : Int) = (i : Int) + 1 by omega]; exact e''⟩, c', f', u', v', up _ _ (nz z (by simp)) q1, q2, up _ _ (nz TI (by simp)) (q8 _ _ D.TIz D.TITO D.TIi1 D.TIi2 hI), up _ _ (nz TO (by simp)) q3, q4.at fun o q => up _ o (nz i1 (by simp)) q, q5.at fun o q => up _ o (nz i2 (by simp)) q⟩, fun m hm => ?_⟩
    · have := lt m hm
      rw [upd_ne (Nat.ne_of_lt (Nat.lt_succ_of_lt this)), upd_ne (Nat.ne_of_lt this)]
      exact (hf m hm).1
  done := by
    intro X hP hw hK hcm i pins s σ H E I hf st hg
    subst hP hw hK
    obtain ⟨⟨old, he⟩, c, f, u, v, hz, hoc, hI, hO, t1, t2⟩ := st
    obtain ⟨xs, ys, hqx, hqy, hend⟩ := hg
    obtain ⟨its, rv, p, _⟩ := I.tuple hqx
    obtain ⟨its2, rv2, p2, _⟩ := I.tuple hqy
    have l1 := rv.length
    have l2 := rv2.length
    have hx : its.toArray[i]? = none ∨ its2.toArray[i]? = none := by
      rcases hend with q | q
      · exact .inl (by simp; omega)
      · exact .inr (by simp; omega)
    exact ez_end (I.ok.hd hcm) D he hz hoc hI hO t1 t2 p p2 hx fun h' hk => ⟨rfl, I.turnedL (t' := s.toks) (ch := [e, z, TI, TO, i1, i2]) (fun m o hb q =>
      hk m o (fun q' => hb (by simp [q'])) (fun q' => hb (by simp [q'])) (fun q' => hb (by simp [q'])) (fun q' => hb (by simp [q'])) q) hf⟩
  self := fun A i s Q E st h => let ⟨⟨_, he⟩, _⟩ := st; wpAny_pyIter_enum he h
def iEz (K : PySem.W.Frag) (ta : TA) : TI := fun σ H R => ta σ H fun vs H1 => ∃ a b xs ys, vs = [.ref a, .ref b] ∧ SqT K H1 a xs ∧ SqT K H1 b ys ∧ R (IezT K a b) H1
theorem pi_ez {X : Cx} {e e2 : Expr} {ta : TA} {p p' pos pos' tpos : Pos} {elts : List Expr} {kk : Nat} (hg : Gl X "enumerate") (hm : X.mg "enumerate" = none) (hg2 : Gl X "zip") (hm2 : X.mg "zip" = none) (ha : PA X [e, e2] ta)
    (hs : starEach [e, e2] X.env = (false, eval e X.env) :: starEach [e2] X.env := by rfl) (hpl : (backTo pos' (starEach [e2] X.env)).any (·.1) = false := by rfl)
    (hs1 : starEach [.Call (.Name "zip" p') [e, e2] [] pos'] X.env = [(false, eval (.Call (.Name "zip" p') [e, e2] [] pos') X.env)] := by rfl) :
    PI X (.Tuple elts kk tpos) (.Call (.Name "enumerate" p) [.Call (.Name "zip" p') [e, e2] [] pos'] [] pos) (iEz X.K ta) := by
  refine ⟨fun pins s σ H R I h => ?_⟩
  refine Call_ (ld_blt I hg hm boot_enumerate (PyProof.Rows.callWith_type1 ?_ hs1 rfl))
  rw [hs1]
  refine Calls.spliced_cons ?_
  refine Call_ (ld_blt I hg2 hm2 PyProof.Rows.boot_zip (PyProof.Rows.callWith_type1 (thn (ha.run pos' pins s σ H _ I h) fun us s1 ⟨vs, H1, I1, r1, q1⟩ => ?_) hs hpl))
  obtain ⟨a, b, xs, ys, ex, hqx, hqy, q⟩ := q1
  subst ex
  cases r1 with
  | cons r rr =>
    cases rr with
    | cons r' rr =>
      cases rr
      cases r
      cases r'
      obtain ⟨its, rv, p1, _⟩ := I1.tuple hqx
      obtain ⟨its2, rv2, p2, _⟩ := I1.tuple hqy
      obtain ⟨o1, ho1, _⟩ := id p1
      obtain ⟨o2, ho2, _⟩ := id p2
      refine call_zipT (show s1.heap.IsTuple a its.toArray from p1) (show s1.heap.IsTuple b its2.toArray from p2) fun h' hz hTI hTO h1 h2 hsz hk => ?_
      refine Calls.spliced_nil (en_callZ (s := { s1 with heap := h' }) hz fun h3 he hk3 => wpAny_pyIter_enum he ?_)
      have hsz' : h'.objs.size = s1.heap.objs.size + 5 := hsz
      have he' : IsEnum h3 (s1.heap.objs.size + 5) (s1.heap.objs.size + 4) 0 .none := by rw [← hsz]; exact he
      have I2 : Inv X pins σ H1 { s1 with heap := h3 } := I1.kept (t' := s1.toks) fun m o q => hk3 m o (hk m o q)
      have fresh : ∀ m, m ∈ [s1.heap.objs.size + 5, s1.heap.objs.size + 4, s1.heap.objs.size + 2, s1.heap.objs.size + 3, s1.heap.objs.size, s1.heap.objs.size + 1] → FpOk X pins H1 m := fun m hm => by
        have hle : s1.heap.objs.size ≤ m := by
          simp only [List.mem_cons, List.not_mem_nil, or_false] at hm
          rcases hm with q | q | q | q | q | q <;> rw [q] <;> first | exact Nat.le_add_right _ _ | exact Nat.le_refl _
        exact I1.fpOk hle (I1.hok.fresh hle)
      have ap := PySem.W.ktu_apart s1.heap.objs.size a b (Heap.lt_size ho1) (Heap.lt_size ho2)
      refine ⟨s1.heap.objs.size + 5, [s1.heap.objs.size + 5, s1.heap.objs.size + 4, s1.heap.objs.size + 2, s1.heap.objs.size + 3, s1.heap.objs.size, s1.heap.objs.size + 1], _, _, H1, ?_, I2, turn_ezT ap (by simp), ⟨⟨_, he'⟩, .none, false, .none, .none, hk3 _ _ hz, .inl rfl, hk3 _ _ hTI, hk3 _ _ hTO, h1.at fun o q => hk3 _ o q, h2.at fun o q => hk3 _ o q⟩, fresh, q⟩
      show Value.ref h'.objs.size = _
      rw [hsz']
section
variable {K : PySem.W.Frag} {Hx Hr : Hp} {a b : Addr} {ps qs : List PV} {xs ys : List V}
theorem iter_ezT (h : SqT K Hx a xs) (h2 : SqT K Hx b ys) (hr : Reps K Hr ps xs) (hr2 : Reps K Hr qs ys) : IterOk K Hx Hr (IezT K a b) (enP (zipP ps qs)) := by
  have l1 := hr.length
  have l2 := hr2.length
  refine ⟨fun i H s l => ?_, fun i H s l => ⟨xs, ys, sqT_mono s h, sqT_mono s h2, by rw [enP_len, zipP_len] at l; omega⟩, fun i H v H' s y => ?_⟩
  · rw [enP_len, zipP_len] at l
    obtain ⟨v, e, _⟩ := hr.get (List.getElem?_eq_getElem (show i < ps.length by omega))
    obtain ⟨v2, e2, _⟩ := hr2.get (List.getElem?_eq_getElem (show i < qs.length by omega))
    exact ⟨xs, ys, v, v2, sqT_mono s h, sqT_mono s h2, e, e2⟩
  · obtain ⟨T, U, x, x2, rfl, hT, hU, hTU, hH, y1, y2⟩ := y
    have hU1 : upd H T (.tup [x, x2]) U = none := by rw [upd_ne hTU.symm]; exact hU
    refine ⟨by rw [hH]; exact fun n o q => same_upd hU1 n o (same_upd hT n o q), fun p e H'' s2 s3 => ?_⟩
    obtain ⟨pr, e1, rfl⟩ := enP_get e
    obtain ⟨q, r, f1, f2, rfl⟩ := zipP_get e1
    obtain ⟨u, g1, r1⟩ := hr.get f1
    obtain ⟨u2, g2, r2⟩ := hr2.get f2
    rw [y1 xs (sqT_mono s h)] at g1
    rw [y2 ys (sqT_mono s h2)] at g2
    cases g1; cases g2
    have eT : H'' T = some (.tup [x, x2]) := s3 T _ hT (by rw [hH, upd_ne hTU]; exact upd_same)
    have eU : H'' U = some (.tup [.int (i : Nat), .ref T]) := s3 U _ hU (by rw [hH]; exact upd_same)
    exact .tup eU (.cons (.int _) (.cons (.tup eT (.cons (r1.mono s2) (.cons (r2.mono s2) .nil))) .nil))
end
def ezP (own : Bool) (ps : List PV) (K : List PV → Prop) : Prop := ∃ p q xs ys, ps = [p, q] ∧ p.walks own = some xs ∧ q.walks own = some ys ∧ p.isTup = true ∧ q.isTup = true ∧ K (enP (zipP xs ys))
def wiEnZip (own : Bool) (as : WAs) : WIt := fun ρ K R => as ρ (fun ps => ezP own ps K) R
section
variable {X : Cx} {W : WX} {pos p pos' p' tpos : Pos} {e e2 : Expr} {was : WAs} {elts : List Expr} {kk : Nat} {ρ : PEnv} {R : XQ} {K : List PV → Prop} {xs ys : List PV} {own : Bool}
theorem vi_enzip (own : Bool) (hg : Gl X "enumerate") (hm : X.mg "enumerate" = none) (hg2 : Gl X "zip") (hm2 : X.mg "zip" = none) (h : VA X W [e, e2] was)
    (hs : starEach [e, e2] X.env = (false, eval e X.env) :: starEach [e2] X.env := by rfl) (hpl : (backTo pos' (starEach [e2] X.env)).any (·.1) = false := by rfl)
    (hs1 : starEach [.Call (.Name "zip" p') [e, e2] [] pos'] X.env = [(false, eval (.Call (.Name "zip" p') [e, e2] [] pos') X.env)] := by rfl) :
    VI X W own (.Tuple elts kk tpos) (.Call (.Name "enumerate" p) [.Call (.Name "zip" p') [e, e2] [] pos'] [] pos) (wiEnZip own was) := by
  refine ⟨_, pi_ez hg hm hg2 hm2 h.pa hs hpl hs1, fun {G ρ σ H Qp Rp R} g hw k kx => ⟨G, ρ, _, Rp, g, hw, fun ps vs H1 s g1 r h1 => ?_, kx⟩⟩
  obtain ⟨p1, p2, xs, ys, rfl, e1, e2, et, et2, hq⟩ := h1
  cases r with
  | cons r1 rr =>
    cases rr with
    | cons r2 rr =>
      cases rr
      obtain ⟨a, us, rfl, t, q⟩ := walk_srcT r1 e1
      obtain ⟨b, ws, rfl, t2, q2⟩ := walk_srcT r2 e2
      rcases t with ⟨z, t1, u1⟩ | ⟨z, t1, u1⟩
      · rw [et] at z; cases z
      rcases t2 with ⟨z2, t2, u2⟩ | ⟨z2, t2, u2⟩
      · rw [et2] at z2; cases z2
      exact ⟨a, b, us, ws, rfl, t1, t2, k _ _ H1 s g1 (iter_ezT u1 u2 q q2) hq⟩
theorem wiEnZip_e : wiEnZip own was ρ K R = was ρ (fun ps => ezP own ps K) R := rfl
theorem ezP_tt : ezP own [.tup xs, .tup ys] K = K (enP (zipP xs ys)) := by
  refine propext ⟨fun ⟨p, q, as, bs, e, e1, e2, _, _, h⟩ => ?_, fun h => ⟨_, _, xs, ys, rfl, rfl, rfl, rfl, rfl, h⟩⟩
  cases e
  cases e1
  cases e2
  exact h
end
end L3

/-! Values without the heap: sorted of ints. -/
namespace L3
open PySem PySem.Spec L2 PyProof.Rows
section
variable {Q : PQ} {R : XQ}
theorem toDs_in : ∀ ns : List Int, toDs (ns.map .int) = some (ns.map PyData.int)
  | [] => rfl
  | z :: zs => by
    show (match (PV.int z).toD, toDs (zs.map PV.int) with
      | some d, some ds => some (d :: ds)
      | _, _ => none) = _
    rw [toDs_in zs]
    rfl
theorem cSort_in {ns : List Int} {p : PV} (hp : p.items = some (ns.map .int)) (h : ∀ ms : List Int, ms.Perm ns → ms.Pairwise (fun a b => a ≤ b) → Q (.new (.lst (ms.map .int)))) : cSortD [p] Q R := by
  refine ⟨p, _, _, rfl, hp, toDs_in ns, PySem.W.AllAlike.of fun a b => by simp [PySem.W.alike], PySem.W.Sortable.others fun b => ⟨by simp, by simp⟩, fun d hd => ?_, ?_⟩
  · obtain ⟨b, _, rfl⟩ := List.mem_map.mp hd
    simp [PyData.depth]
  · have e : sortP (ns.map .int) = (ns.mergeSort (fun a b => decide (a ≤ b))).map .int := by
      unfold sortP
      rw [List.map_mergeSort]
      intro x hx y hy
      have a : ∀ z : Int, encP (.int z) = .int z := fun z => rfl
      rw [PySem.W.dataLe_eq]
      simp only [cond_false, a, PySem.W.dataLt_int]
      by_cases hxy : x ≤ y
      · rw [decide_eq_true hxy, decide_eq_false (by omega)]; rfl
      · rw [decide_eq_false hxy, decide_eq_true (by omega)]; rfl
    rw [e]
    refine h _ (List.mergeSort_perm _ _) ?_
    have P := List.pairwise_mergeSort (le := fun a b : Int => decide (a ≤ b)) (fun a b c h1 h2 => by simp at h1 h2 ⊢; omega) (fun a b => by simp; omega) ns
    exact P.imp fun {a b} hab => by simpa using hab
/-- what is in order already stays -/
theorem sort_same {ms ns : List Int} (hp : ms.Perm ns) (h1 : ms.Pairwise (fun a b => a ≤ b)) (h2 : ns.Pairwise (fun a b => a ≤ b)) : ms = ns :=
  List.Perm.eq_of_pairwise (fun a b _ _ x y => by omega) h1 h2 hp
end
/-- a slot that a comprehension may use for its variable -/
def nmp (o : Option PV) : Prop := ∀ p, o = some p → isMut p = false
theorem nm1_p {o : Option PV} {l : PEnv} (h : nmp o) : nm1 (o :: l) 0 = true := by
  cases o with
  | none => rfl
  | some p =>
    show (!isMut p) = true
    rw [h p rfl] <;> rfl
theorem nmp_n : nmp none := fun _ h => nomatch h
theorem nmp_v {p : PV} (h : p.plain = true) : nmp (some p) := fun q e => by cases e; cases p <;> first | rfl | cases h
theorem noSt_0o {o : Option PV} {ρ : PEnv} (h : o ≠ some .st) : noStAt (o :: ρ) 0 = True := eq_true fun z => h (Option.some.inj z)
section
variable {Q : PQ} {R : XQ} {ns ms : List Int}
theorem toD_nlint : (PV.new (.lst (ns.map .int))).toD = some (.list (ns.map .int)) := by
  show (toDs (ns.map .int)).map PyData.list = _
  rw [toDs_int]; rfl
theorem eqv_lint : PyData.eqv (.list (ns.map .int)) (.list (ms.map .int)) = decide (ns = ms) := eqvAll_int ns ms
theorem oEq_nn_ : oEq (.new (.lst (ns.map .int))) (.new (.lst (ms.map .int))) Q R = Q (.bl (decide (ns = ms))) := by rw [oEq_d toD_nlint toD_nlint shaped_lint shaped_lint, eqv_lint]
theorem oNe_nn_ : oNe (.new (.lst (ns.map .int))) (.new (.lst (ms.map .int))) Q R = Q (.bl (!decide (ns = ms))) := by rw [oNe_d toD_nlint toD_nlint shaped_lint shaped_lint, eqv_lint]
end
end L3

/-! Values without the heap: an own class's == and != (no __ne__ of its own). -/
namespace L3
open PySem PySem.Spec L2 PyProof.Rows
section
open PySem.W PySem.Builtin
variable {prog : Program} {w : World} {M : Model} {A : Around} {E : Value → Shared → Prop} {s : Shared} {K : Frag} {x C f L : Addr} {ox : Obj} {od : Option Obj} {h₀ : Heap} {m : Str → Option Value} {b tb : Value}
theorem ifBound_B {name : Str} {id : String} {args : List Value} {Q : Option Value → Shared → Prop} (X : K.In s.heap) (I : InstAt s.heap x ox C od) (hs : findIn K (.ref C) name = some (some (.builtin id)))
    (hb : ∀ self, bindSpecial (.builtin id) self = pure (.builtin id, [self])) (h : wpAny M A (call (.builtin id) (.ref x :: args)) (fun v => Q (some v)) E s) : wpAny M A (callSpecialIfBound? (.ref x) name args) Q E s := by
  simp only [callSpecialIfBound?, bindSpecialIfBound?]
  refine wpAny_holding (wpAny_bind (wpAny_bind (wpAny_bind (I.type.here ((looks_findIn X hs).here ?_)))))
  refine wpAny_bind (wpAny_askSetting (wpAny_ite ?_))
  have fin : wpAny M A (call (.builtin id) ([.ref x] ++ args) >>= fun v => pure (some v)) Q E s := wpAny_bind (wpAny_mono h (fun v s' q => wpAny_pure q) fun _ _ q => q)
  split
  · exact wpAny_bind ((Looks.of_pure (hb _)).here (wpAny_pure (by exact fin)))
  · exact wpAny_tryCatch (wpAny_bind ((Looks.of_pure (hb _)).here (wpAny_pure (by exact fin))))
theorem objNe_own {Q : Value → Shared → Prop} (hu : A.in1.units < cLine) (X : K.In s.heap) (I : InstAt s.heap x ox C od) (hm : mroIn K C (.type "object") = some true) (he : findIn K (.ref C) "__eq__" = some (some (.ref f))) (hf : isFn K (.ref f) = true)
    (h : wpAny (model prog w) A.in1 (call (.ref f) [.ref x, b]) (fun v s' => ∃ c, v = .bool c ∧ Q (.bool (!c)) s') E s) : wpAny (model prog w) A (call (.builtin "object.__ne__") [.ref x, b]) Q E s := by
  refine wpAny_call (codeAny_call_builtin PySem.F.slot_tuple_iterator_ne.plain PySem.F.cmpEntry_ne (check_slot (i := "object.__ne__") (owner := "object") (n := "__ne__") (by decide +kernel) (by decide +kernel) (I.type.andThen (looks_mroIn X hm)) (PySem.F.cmpArgs_ne _ _) ?_))
  unfold Builtin.«object.__ne__»
  refine wpAny_bind (m := slotArgs "__ne__" 1 _) (wpAny_pure ?_)
  refine wpAny_bind (m := cRoomFor _ _) (wpAny_cRoomFor hu ?_)
  refine wpAny_bind (m := callSpecialIfBound? (.ref x) (Str.ofString "__eq__") _) (ifBound_K X I he hf (wpAny_mono h (fun r s' hq => ?_) fun _ _ y => y))
  obtain ⟨c, rfl, q⟩ := hq
  refine wpAny_bind (m := truthy (.bool c)) (wpAny_truthy_bool ?_)
  first | exact wpAny_pure q | exact wpAny_pure (wpAny_pure q)
theorem ne_K {Q : Value → Shared → Prop} (hu : A.units + 1 < cLine) (F : Fr h₀ L s.heap m) (X₀ : K.In h₀) (I : InstAt s.heap x ox C od) (hb : Looks (model prog w) s.heap (typeOf b) (.ref C))
    (hn : findIn K (.ref C) "__ne__" = some (some (.builtin "object.__ne__"))) (hm : mroIn K C (.type "object") = some true) (he : findIn K (.ref C) "__eq__" = some (some (.ref f))) (hf : isFn K (.ref f) = true)
    (h : wpAny (model prog w) A.in1 (call (.ref f) [.ref x, b]) (fun v s' => ∃ c, v = .bool c ∧ Q (.bool (!c)) s') E s) : wpAny (model prog w) A (richCompare .NotEq (.ref x) b) Q E s := by
  have X := X₀.keeps F.keep
  have one : wpAny (model prog w) A (tryCompare (.ref x) (cmpInfo .NotEq).2.1 b) (fun r s' => ∃ v, r = some v ∧ Q v s') E s := by
    unfold tryCompare
    refine wpAny_bind (ifBound_B X I hn PySem.F.slot_tuple_iterator_ne.bind (objNe_own (by first | exact hu | exact Nat.lt_of_le_of_lt (Nat.le_of_eq rfl) hu) X I hm he hf (wpAny_mono h (fun v s' hv => ?_) fun _ _ e => e)))
    obtain ⟨c, rfl, q⟩ := hv
    exact ⟨c, rfl, wpAny_pure ⟨_, rfl, q⟩⟩
  unfold richCompare
  simp only [oneThing_ref]
  refine wpAny_holding (wpAny_bind (wpAny_cRoomFor (Nat.lt_of_succ_lt hu) ?_))
  refine wpAny_bind (I.type.here (wpAny_bind (hb.here ?_)))
  rw [if_neg (by simp)]
  refine wpAny_bind (wpAny_pure ?_)
  simp only [Bool.false_eq_true, if_false]
  refine wpAny_bind (wpAny_mono one (fun r s' z => ?_) fun _ _ e => e)
  obtain ⟨v, rfl, hq⟩ := z
  exact wpAny_pure hq
end
/-- x != y, both of the class at C, whose == is the def at g -/
def rOwnNe (C : Addr) (sp : Sp) : R2 := fun x y H Q => ∃ a dx fs b dy gs, x = .ref a ∧ y = .ref b ∧ H a = some (.ins C dx fs) ∧ H b = some (.ins C dy gs) ∧ sp [x, y] H (fun v H' => ∃ c, v = .bl c ∧ Q (.bl (!c)) H') (fun _ _ _ => False)
section
variable {X : Cx} {C g : Addr} {k : Nat} {fd : FuncData} {ps : List Str} {sp : Sp}
theorem op_ownNe (hn : PySem.W.findIn X.K (.ref C) "__ne__" = some (some (.builtin "object.__ne__"))) (hm : PySem.W.mroIn X.K C (.type "object") = some true) (he : PySem.W.findIn X.K (.ref C) "__eq__" = some (some (.ref g))) (hf : PySem.W.isFn X.K (.ref g) = true)
    (F : FnOk X.prog X.w X.K X.mg X.base (L2.CX X.prog X.w) k g fd ps sp) (hr : Room (k + 1) X.A) (hb : Binds X.K fd ps []) : OpR X (compareOp .NotEq) (rOwnNe C sp) := by
  intro pins s σ H x y v u Q I rx ry h
  obtain ⟨a, dx, fs, b, dy, gs, rfl, rfl, ha, hb2, q⟩ := h
  cases (show v = Value.ref a from rx)
  cases (show u = Value.ref b from ry)
  obtain ⟨mA, O, _⟩ := ins_get I.hok ha
  obtain ⟨mB, O', _⟩ := ins_get I.hok hb2
  obtain ⟨od, J, _⟩ := O.look
  obtain ⟨od', J', _⟩ := O'.look
  obtain ⟨m, hF⟩ := I.fr
  show wpAny _ _ (richCompare .NotEq (.ref a) (.ref b)) _ _ _
  have r2 : Vals ([V.ref a, V.ref b] ++ []) ([Value.ref a, Value.ref b] ++ []) := .cons rfl (.cons rfl .nil)
  have hl : ([Value.ref a, Value.ref b] ++ []).length = ps.length := by rw [← r2.length]; exact F.len _ _ _ _ q
  refine ne_K (by have := hr.units; omega) hF I.ok.mod.kin J J'.type hn hm he hf ?_
  refine wpAny_call (codeAny_mono (F.run X.A.in1 X.stack s H ⟨[.ref a, .ref b], []⟩ ([Value.ref a, Value.ref b] ++ []) ([V.ref a, V.ref b] ++ []) _ _ hr.in1 I.env0.in1 (hb s [.ref a, .ref b] I.kIn hl) r2 q) fun r s' hq => ?_)
  cases r with
  | error e => exact passF pins σ H s e s' I hq
  | ok fl =>
    cases fl with
    | ret u =>
      obtain ⟨z', H', I', rz, c, ec, qz⟩ := I.after hq
      subst ec
      exact ⟨c, rz, .bl (!c), H', I', rfl, qz⟩
    | next => exact False.elim hq
    | brk => exact False.elim hq
    | cont => exact False.elim hq
end
def oOwnNe (C : Addr) (fs : FS) : PV → PV → PQ → XQ → Prop := fun x y Q _ => (∃ ns xs ms ys, x = .obj C ns xs ∧ y = .obj C ms ys) ∧ oFn 2 fs [x, y] (fun p => ∃ c, p = .bl c ∧ Q (.bl (!c))) (fun _ => False)
section
variable {X : Cx} {W : WX} {C : Addr} {fs : FS}
theorem ov_ownNe : OpV X W (rOwnNe C (spL X.K 2 fs)) (oOwnNe C fs) := by
  intro G ρ σ Hb H Qp Rp Q x y v u g gr rx ry ⟨⟨ns, xs, ms, ys, e1, e2⟩, h⟩ kq kx
  subst e1 e2
  obtain ⟨a, dx, as, rfl, ha, _, _⟩ := rx.obj
  obtain ⟨b, dy, bs, rfl, hb, _, _⟩ := ry.obj
  have kq' : KQ X.K G ρ σ Hb H (fun p => ∃ c, p = .bl c ∧ Qp (.bl (!c))) (fun v H' => ∃ c, v = .bl c ∧ Q (.bl (!c)) H') := fun p v H' s g r ⟨c, e, q⟩ => by
    subst e
    cases r.bl
    exact ⟨c, rfl, kq _ _ _ s g (.s (.plain (.bl _))) q⟩
  exact ⟨a, dx, _, b, dy, _, rfl, rfl, hide_sub _ _ ha, hide_sub _ _ hb, lft_fn (W := fun _ _ _ _ => False) g gr (.cons rx (.cons ry .nil)) h kq' fun _ _ _ _ _ _ _ z => z⟩
end
section
variable {Q : PQ} {R : XQ} {C : Addr} {fs : FS} {n d n2 d2 : Int}
theorem oOwnNe_rr : oOwnNe C fs (rat C n d) (rat C n2 d2) Q R = oFn 2 fs [rat C n d, rat C n2 d2] (fun p => ∃ c, p = .bl c ∧ Q (.bl (!c))) (fun _ => False) := propext ⟨fun h => h.2, fun h => ⟨⟨_, _, _, _, rfl, rfl⟩, h⟩⟩
end
/-- the class has no __ne__ of its own -/
def neB (x : Str) : FaL := fun K => decide (PySem.W.findIn K (.ref (He.ga K x)) "__ne__" = some (some (.builtin "object.__ne__"))) && decide (PySem.W.mroIn K (He.ga K x) (.type "object") = some true)
theorem neB_ok {K : PySem.W.Frag} {x : Str} (h : neB x K = true) : PySem.W.findIn K (.ref (He.ga K x)) "__ne__" = some (some (.builtin "object.__ne__")) ∧ PySem.W.mroIn K (He.ga K x) (.type "object") = some true := by
  unfold neB at h
  rw [Bool.and_eq_true] at h
  exact ⟨of_decide_eq_true h.1, of_decide_eq_true h.2⟩
end L3

/-! Values without the heap: isinstance(x, (S, T)). -/
namespace L3
open PySem PySem.Spec L2
def oIs2 (own : List Addr) (S T : String) (p : PV) (Q : PQ) : Prop := ∃ k b c, p.kind = some k ∧ ansTy own S k = some b ∧ ansTy own T k = some c ∧ Q (.bl (b || c))
def wIs2 (own : List Addr) (S T : String) (a : WEx) : WEx := fun ρ Q R => a ρ (fun p => oIs2 own S T p Q) R
section
variable {X : Cx} {W : WX} {pos p : Pos} {e : Expr} {wa : WEx}
theorem ve_is2 (own : List Addr) {S T : Str} {Ss Ts : String} {ps pt ptt : Pos} {kk : Nat} (hm : X.mg "isinstance" = none) (hmS : X.mg S = none) (hmT : X.mg T = none) (ha : VE X W e wa) (hvS : bootBuiltins S = some (.type Ss)) (hvT : bootBuiltins T = some (.type Ts))
    (hCS : ∀ C ∈ own, ObjC X.K C ∧ PySem.W.kitOne X.K (.ref C) (.type Ss) = some false) (hC : ∀ C ∈ own, ObjC X.K C ∧ PySem.W.kitOne X.K (.ref C) (.type Ts) = some false)
    (hkS : kinds.all (fun n => kitB n Ss == (if n = Ss then some true else some (n == "bool" && Ss == "int"))) = true) (hk : kinds.all (fun n => kitB n Ts == (if n = Ts then some true else some (n == "bool" && Ts == "int"))) = true)
    (hg : Gl X "isinstance" := by rfl) (hgS : Gl X S := by rfl) (hgT : Gl X T := by rfl)
    (hnS : S ≠ "__name__" := by decide) (hdS : (S == ("__debug__" : Str)) = false := by decide) (hn : T ≠ "__name__" := by decide) (hdb : (T == ("__debug__" : Str)) = false := by decide)
    (hs : starEach [e, .Tuple [.Name S ps, .Name T pt] kk ptt] X.env = (false, eval e X.env) :: starEach [.Tuple [.Name S ps, .Name T pt] kk ptt] X.env := by rfl)
    (hs2 : starEach [.Tuple [.Name S ps, .Name T pt] kk ptt] X.env = (false, eval (.Tuple [.Name S ps, .Name T pt] kk ptt) X.env) :: starEach [] X.env := by rfl)
    (hs3 : starEach [.Name S ps, .Name T pt] X.env = (false, eval (.Name S ps) X.env) :: starEach [.Name T pt] X.env := by rfl) (hs4 : starEach [.Name T pt] X.env = (false, eval (.Name T pt) X.env) :: starEach [] X.env := by rfl)
    (hpl : (backTo pos (starEach [.Tuple [.Name S ps, .Name T pt] kk ptt] X.env)).any (·.1) = false := by rfl) : VE X W (.Call (.Name "isinstance" p) [e, .Tuple [.Name S ps, .Name T pt] kk ptt] [] pos) (wIs2 own Ss Ts wa) := by
  refine ⟨PE.imp (pe_callB (id := "isinstance") (r := rIsiT X.K) call_isiT hg hm (by decide +kernel) (pa_cons ha.pe (pa_cons (pe_tup (pa_cons (pe_bltn (v := .ty Ss) hgS hmS hvS rfl hnS hdS) (pa_cons (pe_bltn (v := .ty Ts) hgT hmT hvT rfl hn hdb) pa_nil hs4) hs3)) pa_nil hs2) hs) (by decide) (by decide) hs hpl) fun σ H Q h => ?_⟩
  obtain ⟨G, ρ, Qp, Rp, g, hw, kq, kx⟩ := h
  refine ⟨G, ρ, _, Rp, g, hw, fun q v H1 s1 g1 r1 h1 => ?_, kx⟩
  obtain ⟨k, b, c, e1, e2, e3, h2⟩ := h1
  refine ⟨by show 2 ≤ sizeLine; decide, fun tp hp => ?_⟩
  have kt : ∀ (Us : String) (d : Bool), (∀ C ∈ own, ObjC X.K C ∧ PySem.W.kitOne X.K (.ref C) (.type Us) = some false) → kinds.all (fun n => kitB n Us == (if n = Us then some true else some (n == "bool" && Us == "int"))) = true → ansTy own Us k = some d → PySem.W.kitOne X.K (kindV k) (.type Us) = some d := fun Us d hC hk h => by
    cases k with
    | inl n => exact kit_kinds X.K own Us hk n d (kind_in e1) h
    | inr C =>
      unfold ansTy at h
      dsimp only at h
      split at h
      · rename_i hm
        cases h
        exact (hC C hm).2
      · cases h
  have obj : ∀ C, k = .inr C → ObjC X.K C := fun C z => by
    subst z
    unfold ansTy at e3
    dsimp only at e3
    split at e3
    · rename_i hm
      exact (hC C hm).1
    · cases e3
  have st : Step G ρ σ H1 (upd H1 tp (.tup [.ty Ss, .ty Ts])) := .of_same (same_upd hp)
  have g2 := g1.laid (o := .tup [.ty Ss, .ty Ts]) hp
  refine ⟨v, tp, [.ty Ss, .ty Ts], kindV k, [.type Ss, .type Ts], b || c, rfl, upd_same, .cons (.ty Ss) (.cons (.ty Ts) .nil), (r1.mono st).tyx e1 obj, ?_, (kq.step (s1.trans st)).bl g2 h2⟩
  refine kitAny_cons (kt Ss b hCS hkS e2) (fun hb => ?_) (fun hb => by rw [hb]; rfl)
  refine kitAny_cons (kt Ts c hC hk e3) (fun hc => ?_) (fun hc => by rw [hc, Bool.or_true])
  rw [hb, hc]
  exact kitAny_nil
end
section
variable {own : List Addr} {S T : String} {p : PV} {Q : PQ} {R : XQ} {ρ : PEnv} {a : WEx} {xs : List PV} {i : Int} {b : Bool} {x : Str}
theorem wIs2_e : wIs2 own S T a ρ Q R = a ρ (fun p => oIs2 own S T p Q) R := rfl
theorem oIs2_iff (h : okV own p = true) : oIs2 own "tuple" "list" p Q = Q (.bl (isTy "tuple" p || isTy "list" p)) := by
  obtain ⟨k, e1, e2⟩ := kind_ok (T := "tuple") h (by decide)
  obtain ⟨k', e1', e3⟩ := kind_ok (T := "list") h (by decide)
  rw [e1] at e1'
  cases e1'
  refine propext ⟨fun ⟨k', b, c, h1, h2, h3, h4⟩ => ?_, fun hq => ⟨k, _, _, e1, e2, e3, hq⟩⟩
  rw [e1] at h1
  cases h1
  rw [e2] at h2
  rw [e3] at h3
  cases h2
  cases h3
  exact h4
theorem oIs2_tup : oIs2 own "tuple" "list" (.tup xs) Q = Q (.bl true) := oIs2_iff rfl
theorem oIs2_lst : oIs2 own "tuple" "list" (.lst xs) Q = Q (.bl true) := oIs2_iff rfl
theorem oIs2_int : oIs2 own "tuple" "list" (.int i) Q = Q (.bl false) := oIs2_iff rfl
theorem oIs2_bl : oIs2 own "tuple" "list" (.bl b) Q = Q (.bl false) := oIs2_iff rfl
theorem oIs2_str : oIs2 own "tuple" "list" (.str x) Q = Q (.bl false) := oIs2_iff rfl
theorem oIs2_non : oIs2 own "tuple" "list" .non Q = Q (.bl false) := oIs2_iff rfl
end
theorem ite_or {p q A B : Prop} [Decidable p] [Decidable q] : (if p then A else if q then A else B) = if p ∨ q then A else B := by
  by_cases hp : p
  · rw [if_pos hp, if_pos (.inl hp)]
  · rw [if_neg hp]
    by_cases hq : q
    · rw [if_pos hq, if_pos (.inr hq)]
    · rw [if_neg hq, if_neg (by rintro (h | h); exact hp h; exact hq h)]
theorem wPar3_f {n m l : Nat} {a b c : WEx} {D : PEnds} {ρ : PEnv} : wPar3 n m l false false false a b c D ρ = a ρ (fun p => b ρ (fun q => c ρ (fun r => stP p fun p' => stP q fun q' => stP r fun r' => ((noStAt ρ n ∧ noStAt ρ m) ∧ n < ρ.length ∧ m < ρ.length ∧ l < ρ.length) ∧
    sE ρ n (some p') fun ρ' => sE ρ' m (some q') fun ρ'' => sE ρ'' l (some r') D.nx) fun x => D.ex x ρ) fun x => D.ex x ρ) fun x => D.ex x ρ := by
  unfold wPar3
  congr 1
  funext p
  congr 1
  funext q
  congr 1
  funext r
  refine propext ⟨fun ⟨p', q', r', e1, e2, e3, _, _, h1, h2, h3, h4, h5, h⟩ => ?_, fun ⟨h0, h1, h2, ⟨⟨h3, h4⟩, h5, h6, h7⟩, h⟩ => ⟨p.thaw, q.thaw, r.thaw, if_pos h0, if_pos h1, if_pos h2, (fun z => nomatch z), (fun z => nomatch z), h3, h4, h5, h6, h7, h⟩⟩
  unfold L3.stored at e1 e2 e3
  dsimp only at e1 e2 e3
  split at e1
  · split at e2
    · split at e3
      · cases e1; cases e2; cases e3
        exact ⟨by assumption, by assumption, by assumption, ⟨⟨h1, h2⟩, h3, h4, h5⟩, h⟩
      · cases e3
    · cases e2
  · cases e1
end L3

/-! Values without the heap: dicts of one's own; list.index, list.count. -/
namespace L3
open PySem PySem.Spec L2

def kOf : PV → Option Key
  | .int i => some (.inl i)
  | .str x => some (.inr x)
  | _ => none
def ksOf : List PV → Option (List Key)
  | [] => some []
  | p :: ps => match kOf p, ksOf ps with
    | some k, some ks => some (k :: ks)
    | _, _ => none
section
variable {κ : Type} [DecidableEq κ] {α : Type}
def getA : List κ → List α → κ → Option α
  | k :: ks, p :: ps, j => if k = j then some p else getA ks ps j
  | _, _, _ => none
def replA : List κ → List α → κ → α → List α
  | k :: ks, p :: ps, j, q => (if k = j then q else p) :: replA ks ps j q
  | _, _, _, _ => []
def putKs (ks : List κ) (k : κ) : List κ := if k ∈ ks then ks else ks ++ [k]
def putVs (ks : List κ) (ps : List α) (k : κ) (p : α) : List α := if k ∈ ks then replA ks ps k p else ps ++ [p]
theorem putKs_new {ks : List κ} {k : κ} (h : k ∉ ks) : putKs ks k = ks ++ [k] := if_neg h
theorem putVs_new {ks : List κ} {ps : List α} {k : κ} {p : α} (h : k ∉ ks) : putVs ks ps k p = ps ++ [p] := if_neg h
theorem putKs_old {ks : List κ} {k : κ} (h : k ∈ ks) : putKs ks k = ks := if_pos h
theorem putVs_old {ks : List κ} {ps : List α} {k : κ} {p : α} (h : k ∈ ks) : putVs ks ps k p = replA ks ps k p := if_pos h
theorem getA_some : ∀ {ks : List κ} {ps : List α} {j : κ}, ks.length = ps.length → j ∈ ks → (getA ks ps j).isSome = true
  | [], _, _, _, h => by cases h
  | k :: ks, [], _, l, _ => by cases l
  | k :: ks, p :: ps, j, l, h => by
    unfold getA
    by_cases e : k = j
    · rw [if_pos e]; rfl
    · rw [if_neg e]
      refine getA_some (Nat.succ.inj l) ?_
      rcases List.mem_cons.mp h with y | y
      · exact absurd y.symm e
      · exact y
theorem getA_none : ∀ {ks : List κ} {ps : List α} {j : κ}, j ∉ ks → getA ks ps j = none
  | [], _, _, _ => rfl
  | k :: ks, [], _, _ => rfl
  | k :: ks, p :: ps, j, h => by
    unfold getA
    rw [if_neg (fun e => h (by rw [e]; exact List.mem_cons_self)), getA_none fun e => h (List.mem_cons_of_mem _ e)]
/-- is there -/
def memB (ks : List κ) (k : κ) : Bool := decide (k ∈ ks)
theorem memB_t {ks : List κ} {k : κ} (h : k ∈ ks) : memB ks k = true := decide_eq_true h
theorem memB_f {ks : List κ} {k : κ} (h : k ∉ ks) : memB ks k = false := decide_eq_false h
theorem memB_iff {ks : List κ} {k : κ} : memB ks k = true ↔ k ∈ ks := decide_eq_true_iff
theorem memB_iff_f {ks : List κ} {k : κ} : memB ks k = false ↔ k ∉ ks := decide_eq_false_iff_not
theorem getA_isSome {ks : List κ} {ps : List α} {j : κ} (l : ks.length = ps.length) : (getA ks ps j).isSome = memB ks j := by
  unfold memB
  by_cases h : j ∈ ks
  · rw [getA_some l h, decide_eq_true h]
  · rw [getA_none h, decide_eq_false h]; rfl
theorem replA_length : ∀ {ks : List κ} {ps : List α} {j : κ} {q : α}, ks.length = ps.length → (replA ks ps j q).length = ps.length
  | [], [], _, _, _ => rfl
  | [], _ :: _, _, _, l => by cases l
  | _ :: _, [], _, _, l => by cases l
  | k :: ks, p :: ps, j, q, l => by
    show (replA ks ps j q).length + 1 = ps.length + 1
    rw [replA_length (Nat.succ.inj l)]
theorem put_length {ks : List κ} {ps : List α} {j : κ} {q : α} (l : ks.length = ps.length) : (putKs ks j).length = (putVs ks ps j q).length := by
  unfold putKs putVs
  by_cases h : j ∈ ks
  · rw [if_pos h, if_pos h, replA_length l, l]
  · rw [if_neg h, if_neg h, List.length_append, List.length_append, l]; rfl
theorem zip_any : ∀ {ks : List κ} {xs : List V} {k : κ}, ks.length = xs.length → ((ks.zip xs).any fun kv => decide (kv.1 = k)) = decide (k ∈ ks)
  | [], [], _, _ => rfl
  | [], _ :: _, _, l => by cases l
  | _ :: _, [], _, l => by cases l
  | k' :: ks, x :: xs, k, l => by
    rw [List.zip_cons_cons, List.any_cons, zip_any (Nat.succ.inj l)]
    by_cases e : k' = k
    · subst e; simp
    · have e' : ¬ k = k' := fun z => e z.symm
      simp [e, e']
theorem zip_repl : ∀ {ks : List κ} {xs : List V} {k : κ} {v : V}, ks.length = xs.length → ((ks.zip xs).map fun kv => if kv.1 = k then (kv.1, v) else kv) = ks.zip (replA ks xs k v)
  | [], [], _, _, _ => rfl
  | [], _ :: _, _, _, l => by cases l
  | _ :: _, [], _, _, l => by cases l
  | k' :: ks, x :: xs, k, v, l => by
    rw [List.zip_cons_cons, List.map_cons, zip_repl (Nat.succ.inj l)]
    show _ = (k', if k' = k then v else x) :: _
    by_cases e : k' = k
    · rw [if_pos e, if_pos e]; rfl
    · rw [if_neg e, if_neg e]; rfl
theorem zip_put {ks : List κ} {xs : List V} {k : κ} {v : V} (l : ks.length = xs.length) : putK (ks.zip xs) k v = (putKs ks k).zip (putVs ks xs k v) := by
  unfold putK putKs putVs
  rw [zip_any l]
  by_cases h : k ∈ ks
  · rw [if_pos (decide_eq_true h), if_pos h, if_pos h, zip_repl l]
  · rw [if_neg (fun z => h (of_decide_eq_true z)), if_neg h, if_neg h, List.zip_append l]; rfl
theorem zip_val {K : PySem.W.Frag} {H : Hp} : ∀ {ks : List κ} {xs : List V} {ps : List PV} {k : κ}, ks.length = xs.length → Reps K H ps xs →
    (match getA ks ps k with | some p => ∃ w, valV (ks.zip xs) k = some w ∧ Rep K H p w | none => valV (ks.zip xs) k = none)
  | [], [], _, _, _, .nil => rfl
  | [], _ :: _, _, _, l, _ => by cases l
  | _ :: _, [], _, _, l, _ => by cases l
  | k' :: ks, x :: xs, _, k, l, .cons (p := p) (ps := ps) r t => by
    rw [List.zip_cons_cons]
    unfold getA
    by_cases e : k' = k
    · rw [if_pos e]
      exact ⟨x, valV_pos e, r⟩
    · rw [if_neg e, valV_neg (p := (k', x)) e]
      exact zip_val (Nat.succ.inj l) t
theorem Reps.repl {K : PySem.W.Frag} {H : Hp} {k : κ} {p : PV} {v : V} (r : Rep K H p v) : ∀ {ks : List κ} {xs : List V} {ps : List PV}, ks.length = xs.length → Reps K H ps xs → Reps K H (replA ks ps k p) (replA ks xs k v)
  | [], [], _, _, .nil => .nil
  | [], _ :: _, _, l, _ => by cases l
  | _ :: _, [], _, l, _ => by cases l
  | k' :: ks, x :: xs, _, l, .cons (p := p') (ps := ps) q t => by
    show Reps K H ((if k' = k then p else p') :: replA ks ps k p) ((if k' = k then v else x) :: replA ks xs k v)
    by_cases e : k' = k
    · rw [if_pos e, if_pos e]
      exact .cons r (Reps.repl r (Nat.succ.inj l) t)
    · rw [if_neg e, if_neg e]
      exact .cons q (Reps.repl r (Nat.succ.inj l) t)
theorem Reps.put {K : PySem.W.Frag} {H : Hp} {k : κ} {p : PV} {v : V} (r : Rep K H p v) {ks : List κ} {xs : List V} {ps : List PV} (l : ks.length = xs.length) (t : Reps K H ps xs) : Reps K H (putVs ks ps k p) (putVs ks xs k v) := by
  unfold putVs
  by_cases h : k ∈ ks
  · rw [if_pos h, if_pos h]; exact Reps.repl r l t
  · rw [if_neg h, if_neg h]; exact t.snoc r
end

/-! ### keys -/
section
variable {K : PySem.W.Frag} {H : Hp}
theorem Rep.key {p : PV} {v : V} {k : Key} (r : Rep K H p v) (h : kOf p = some k) : v = kV k := by
  cases r with
  | int i => cases h; rfl
  | str x => cases h; rfl
  | _ => cases h
theorem Reps.keys : ∀ {ps : List PV} {vs : List V} {ks : List Key}, Reps K H ps vs → ksOf ps = some ks → vs = ks.map kV
  | _, _, ks, .nil, h => by cases h; rfl
  | _, _, ks, .cons (p := p) (ps := ps) r t, h => by
    unfold ksOf at h
    cases e1 : kOf p with
    | none => rw [e1] at h; cases h
    | some k =>
      cases e2 : ksOf ps with
      | none => rw [e1, e2] at h; cases h
      | some ks' =>
        rw [e1, e2] at h
        cases h
        rw [r.key e1, Reps.keys t e2]; rfl
end
/-- of one's own, new or neither -/
def PV.unD : PV → PV
  | .own d => d
  | .new d => d
  | d => d
/-- what a dict holds at a key -/
def dGetA : PV → PV → Option (Option PV)
  | .dk ks ps, y => (kOf y).map (getA ks ps)
  | .dt ks ps, .tup l => (ksOf l).map (getA ks ps)
  | _, _ => none
section
variable {K : PySem.W.Frag} {Sa M : Addr → Prop} {H0 Hb H : Hp}
theorem ERep.dTop {x d : PV} {v : V} (r : ERep K Sa M H0 Hb H x v) (h : x.unD = d) (hd : (∃ ks ps, d = .dk ks ps) ∨ ∃ ks ps, d = .dt ks ps) : ∃ a o, v = .ref a ∧ H a = some o ∧ Top K (hide M H) d o := by
  cases r with
  | s r =>
    cases r with
    | plain r =>
      have e : x = d := by
        cases r <;> exact h
      subst e
      rcases hd with ⟨ks, ps, e⟩ | ⟨ks, ps, e⟩
      · subst e
        cases r with
        | dk e l q => exact ⟨_, _, rfl, hide_sub _ _ e, .dk l q⟩
      · subst e
        cases r with
        | dt e l q => exact ⟨_, _, rfl, hide_sub _ _ e, .dt l q⟩
    | own m n e f t => cases h; exact ⟨_, _, rfl, f, t⟩
    | st s => subst h; rcases hd with ⟨_, _, e⟩ | ⟨_, _, e⟩ <;> cases e
  | new n e f t => cases h; exact ⟨_, _, rfl, f, t.mono (hide_anti fun b z => .inl z)⟩
def GOk (K : PySem.W.Frag) (H : Hp) : Option PV → Option V → Prop
  | some p, ov => ∃ w, ov = some w ∧ Rep K H p w
  | none, ov => ov = none
theorem zip_ok {κ : Type} [DecidableEq κ] {ks : List κ} {xs : List V} {ps : List PV} {k : κ} (l : ks.length = xs.length) (r : Reps K H ps xs) : GOk K H (getA ks ps k) (valV (ks.zip xs) k) := by
  have z := zip_val (k := k) l r
  cases e : getA ks ps k with
  | none => rw [e] at z; exact z
  | some p => rw [e] at z; exact z
theorem ERep.dGet {x y : PV} {v u : V} {o : Option PV} (rx : ERep K Sa M H0 Hb H x v) (ry : ERep K Sa M H0 Hb H y u) (h : dGetA x.unD y = some o) :
    ∃ a ov, v = .ref a ∧ DGet H a u ov ∧ GOk K (hide M H) o ov := by
  cases ex : x.unD with
  | dk ks ps =>
    rw [ex] at h
    obtain ⟨a, ob, rfl, e1, t⟩ := rx.dTop ex (.inl ⟨_, _, rfl⟩)
    replace h : (kOf y).map (getA ks ps) = some o := h
    cases t with
    | @dk _ _ xs l q =>
      cases ek : kOf y with
      | none => rw [ek] at h; cases h
      | some k =>
        rw [ek] at h
        have h : getA ks ps k = o := Option.some.inj h
        have eu : u = kV k := by
          cases ry with
          | s r => cases r with
            | plain r => exact r.key ek
            | own => cases ek
            | st => cases ek
          | new => cases ek
        subst eu
        refine ⟨a, _, rfl, DGet.k e1, ?_⟩
        have z := zip_ok (k := k) l q
        rw [h] at z
        exact z
  | dt ks ps =>
    rw [ex] at h
    obtain ⟨a, ob, rfl, e1, t⟩ := rx.dTop ex (.inr ⟨_, _, rfl⟩)
    cases y with
    | tup l' =>
      replace h : (ksOf l').map (getA ks ps) = some o := h
      cases t with
      | @dt _ _ xs l q =>
        cases ek : ksOf l' with
        | none => rw [ek] at h; cases h
        | some k =>
          rw [ek] at h
          have h : getA ks ps k = o := Option.some.inj h
          cases ry with
          | s r => cases r with
            | plain r => cases r with
              | tup eb rr =>
                have := rr.keys ek
                subst this
                refine ⟨a, _, rfl, DGet.t e1 (hide_sub _ _ eb), ?_⟩
                have z := zip_ok (k := k) l q
                rw [h] at z
                exact z
    | _ => cases h
  | _ => rw [ex] at h; cases h
end
/-! ### d[k], k in d, k not in d -/
def rDGet : R2 := fun x y H Q => ∃ a v, x = .ref a ∧ DGet H a y (some v) ∧ Q v H
def rDIn (neg : Bool) : R2 := fun y x H Q => ∃ a o, x = .ref a ∧ DGet H a y o ∧ Q (.bl (if neg = true then !o.isSome else o.isSome)) H
def oDGet : PV → PV → PQ → XQ → Prop := fun x y Q _ => ∃ p, dGetA x.unD y = some (some p) ∧ Q p
def oDInB (neg : Bool) : PV → PV → PQ → XQ → Prop := fun y x Q _ => ∃ o, dGetA x.unD y = some o ∧ Q (.bl (if neg = true then !o.isSome else o.isSome))
abbrev oDIn := oDInB false
abbrev oDNotIn := oDInB true
section
variable {X : Cx} {W : WX} {pos : Pos} {a b : Expr} {wa wb : WEx}
theorem op_dIn (hu : X.A.units + 1 < cLine) : OpR X (compareOp .In) (rDIn false) := by
  intro pins s σ H y x u v Q I ry rx ⟨a, o, e, g, q⟩
  subst e
  obtain rfl : v = Value.ref a := rx
  exact d_in hu I g ry fun s' I' => ⟨.bl _, H, I', rfl, q⟩
theorem op_dNotIn (hu : X.A.units + 1 < cLine) : OpR X (compareOp .NotIn) (rDIn true) := by
  intro pins s σ H y x u v Q I ry rx ⟨a, o, e, g, q⟩
  subst e
  obtain rfl : v = Value.ref a := rx
  exact d_notIn hu I g ry fun s' I' => ⟨.bl _, H, I', rfl, q⟩
theorem ov_dInB {neg : Bool} : OpV X W (rDIn neg) (oDInB neg) := by
  intro G ρ σ Hb H Qp Rp Q y x u v g gr ry rx ⟨o, h, hq⟩ kq kx
  obtain ⟨a, ov, e, gt, z⟩ := rx.dGet ry h
  refine ⟨a, ov, e, gt, ?_⟩
  have ei : ov.isSome = o.isSome := by
    cases o with
    | none => rw [show ov = none from z]; rfl
    | some p => obtain ⟨w, e, _⟩ := z; rw [e]; rfl
  rw [ei]
  exact kq.bl g hq
theorem ov_dIn : OpV X W (rDIn false) oDIn := ov_dInB
theorem ov_dNotIn : OpV X W (rDIn true) oDNotIn := ov_dInB
theorem ve_dget (hu : X.A.units + 1 < cLine) (ha : VE X W a wa) (hb : VE X W b wb) (hs : NoSl b := by exact fun _ _ => rfl) : VE X W (.Subscript a b pos) (wOp oDGet wa wb) :=
  ⟨PE.imp (pe_dget hu ha.pe hb.pe hs) fun σ H Q ⟨G, ρ, Qp, Rp, g, hw, kq, kx⟩ => by
    refine ⟨G, ρ, _, Rp, g, hw, fun p v H1 s1 g1 r1 hw1 => ?_, kx⟩
    refine ⟨G, ρ, _, Rp, g1, hw1, fun q u H2 s2 g2 r2 ⟨z, h, hz⟩ => ?_, kx.step s1⟩
    obtain ⟨ad, ov, e, gt, w, ew, rw'⟩ := (r1.mono s2).dGet (r2.base (s1.gr g1)) h
    subst ew
    exact ⟨ad, w, e, gt, kq z w H2 (s1.trans s2) g2 (.s (.plain rw')) hz⟩⟩

theorem room1 {k : Nat} {A : Around} (hr : Room k A) : A.units + 1 < cLine := by
  have := hr.un
  omega
/-! ### {} -/
def wDNewK : WEx := fun _ Q _ => Q (.new (.dk [] []))
def wDNewT : WEx := fun _ Q _ => Q (.new (.dt [] []))
theorem upd_at {H : Hp} {a : Addr} {o : HO} : upd H a o a = some o := upd_same
theorem ve_dnewK : VE X W (.Dict [] [] pos) wDNewK :=
  ⟨PE.imp pe_dnewK fun σ H Q ⟨G, ρ, Qp, Rp, g, hw, kq, kx⟩ => fun p hp => kq _ _ _ (.of_same (same_upd hp)) (g.laid hp) (.new (g.new hp) hp upd_at (.dk (ks := []) (xs := []) rfl .nil)) hw⟩
theorem ve_dnewT : VE X W (.Dict [] [] pos) wDNewT :=
  ⟨PE.imp pe_dnewT fun σ H Q ⟨G, ρ, Qp, Rp, g, hw, kq, kx⟩ => fun p hp => kq _ _ _ (.of_same (same_upd hp)) (g.laid hp) (.new (g.new hp) hp upd_at (.dt (ks := []) (xs := []) rfl .nil)) hw⟩

/-! ### d[k] = v -/
def dPutP : PV → PV → PV → (PV → Prop) → Prop
  | .dk ks ps, y, p, Q => ∃ k, kOf y = some k ∧ ks.length < sizeLine ∧ Q (.dk (putKs ks k) (putVs ks ps k p))
  | .dt ks ps, .tup l, p, Q => ∃ k, ksOf l = some k ∧ ks.length < sizeLine ∧ Q (.dt (putKs ks k) (putVs ks ps k p))
  | _, _, _, _ => False
def wDPut (i : Nat) (ix a : WEx) : WSt := fun D ρ => ∃ d, ρ[i]? = some (some (.own d)) ∧ a ρ (fun p => ix ρ (fun y => p.gives = true ∧ dPutP d y p.thaw fun d' => D.nx (ρ.set i (some (.own d')))) fun x => D.ex x ρ) fun x => D.ex x ρ
theorem dPut_ok {K : PySem.W.Frag} {Sa M : Addr → Prop} {H0 Hb H : Hp} {d y p : PV} {u v : V} {a : Addr} {o : HO} {Q : PV → Prop} {Qh : Hp → Prop} (e : H a = some o) (t : Top K (hide M H) d o) (ry : ERep K Sa M H0 Hb H y u) (rp : Rep K (hide M H) p v)
    (h : dPutP d y p Q) (k : ∀ d' o', Top K (hide M H) d' o' → Q d' → Qh (upd H a o')) : ∃ H', DPut H a u v H' ∧ Qh H' := by
  unfold dPutP at h
  split at h
  · obtain ⟨j, ej, hl, hq⟩ := h
    cases t with
    | dk l q =>
      have eu : u = kV j := by
        cases ry with
        | s r => cases r with
          | plain r => exact r.key ej
          | own => cases ej
          | st => cases ej
        | new => cases ej
      subst eu
      refine ⟨_, DPut.k e (by rw [List.length_zip, ← l, Nat.min_self]; exact hl), ?_⟩
      rw [zip_put l]
      exact k _ _ (.dk (put_length l) (Reps.put rp l q)) hq
  · obtain ⟨j, ej, hl, hq⟩ := h
    cases t with
    | dt l q =>
      cases ry with
      | s r => cases r with
        | plain r => cases r with
          | tup eb rr =>
            have := rr.keys ej
            subst this
            refine ⟨_, DPut.t e (hide_sub _ _ eb) (by rw [List.length_zip, ← l, Nat.min_self]; exact hl), ?_⟩
            rw [zip_put l]
            exact k _ _ (.dt (put_length l) (Reps.put rp l q)) hq
  · exact h.elim
variable {i : Nat} {x : Str} {p1 p2 : Pos} {e : Expr}
theorem vs_dput (hu : X.A.units + 1 < cLine) (hi : X.N[i]? = some x) (hv : Vis X.env.scope x) (hb : VE X W b wb) (ha : VE X W e wa) (hd : (x == ("__debug__" : Str)) = false := by decide) (hcd : (x == ("__classdict__" : Str)) = false := by decide)
    (hs : swapsWith e (some (.Subscript (.Name x p1) b p2)) pos.line X.env = pure false := by rfl) : VS X W (.Assign [.Subscript (.Name x p1) b p2] e pos) (wDPut i wb wa) :=
  ⟨PS.imp (ps_dput hu (pe_var hi hv hd hcd) hb.pe ha.pe hs) fun D σ H ⟨G, ρ, Dp, g, ⟨d, h1, hw⟩, de⟩ => ⟨G, ρ, _, _, g, hw, fun p v H1 s1 g1 r1 hw1 => pv_own g1 h1 fun ad o e1 e2 t => ⟨G, ρ, _, _, g1, hw1, fun y u H2 s2 g2 r2 ⟨hg, hp⟩ => by
    obtain ⟨ad', o', e1', e2', t'⟩ := g2.own_at h1
    rw [e1] at e1'
    cases e1'
    obtain ⟨H', hp', hn⟩ := dPut_ok (Qh := fun H' => D.nx σ H') e2' t' r2 ((r1.mono s2).rep hg) hp fun d' o' t hq => de.nx _ _ _ (g2.change h1 e1 t) hq
    exact ⟨ad, H', rfl, hp', hn⟩, de.kx⟩, de.kx⟩⟩

/-! ### len -/
def cLenT : List PV → PQ → XQ → Prop := fun ps Q _ => match ps with
  | [.own (.dt ks _)] => Q (.int ks.length)
  | [.dt ks _] => Q (.int ks.length)
  | _ => False
theorem cv_lenT : CaV X W rLenT cLenT := by
  intro G ρ σ Hb H Qp Rp Q ps vs g gr r h kq kx
  unfold cLenT at h
  split at h
  · replace r := r.one; obtain ⟨v, rfl, r⟩ := r
    obtain ⟨a, o, rfl, f, t⟩ := r.dTop rfl (.inr ⟨_, _, rfl⟩)
    cases t with
    | dt l q => exact ⟨_, _, rfl, f, by rw [List.length_zip, ← l, Nat.min_self]; exact kq.int g h⟩
  · replace r := r.one; obtain ⟨v, rfl, r⟩ := r
    obtain ⟨a, o, rfl, f, t⟩ := r.dTop rfl (.inr ⟨_, _, rfl⟩)
    cases t with
    | dt l q => exact ⟨_, _, rfl, f, by rw [List.length_zip, ← l, Nat.min_self]; exact kq.int g h⟩
  · exact h.elim

/-! ### l.index(x), l.count(x) -/
def lIdx (x y : PV) (Q : PQ) : Prop := ∃ ds d j z, x.toD = some (.list ds) ∧ y.toD = some d ∧ SeqAt.shaped (.list ds) = true ∧ SeqAt.shaped d = true ∧ ds[j]? = some z ∧ PyData.eqv z d = true ∧ (∀ (m : Nat) (z' : PyData), m < j → ds[m]? = some z' → PyData.eqv z' d = false) ∧ Q (.int (j : Nat))
def wIdx (a b : WEx) : WEx := fun ρ Q R => a ρ (fun x => (∃ ds, x.toD = some (.list ds)) ∧ b ρ (fun y => lIdx x y Q) R) R
theorem dp_list {K : PySem.W.Frag} {H : Hp} {v : V} {ds : List PyData} (h : Dp K H v (.list ds)) : ∃ a xs, v = .ref a ∧ SqL K H a xs := by
  cases h with
  | lst h _ => exact ⟨_, _, rfl, h⟩
variable {o : Expr} {wo : WEx} {apos cpos : Pos}
theorem ve_index (hu : X.A.units + 65 < cLine) (ho : VE X W o wo) (ha : VE X W e wa)
    (hbase : attributeBase o "index" X.env (eval o X.env) = eval o X.env := by rfl)
    (hfew : ((backTo cpos (starEach [e] X.env)).all (fun x => !x.1) && (backToKw cpos (keywordEach [] X.env)).all (fun x => x.1.isSome) && decide (([e] : List Expr).length + ([] : List Keyword).length + (if ([] : List Keyword).isEmpty then 0 else 1) < 30)) = true := by rfl)
    (hline : (apos.endLine == cpos.line) = true := by rfl) (hs1 : starEach [e] X.env = (false, eval e X.env) :: starEach [] X.env := by rfl) (hpl : (backTo cpos (starEach [] X.env)).any (·.1) = false := by rfl) :
    VE X W (.Call (.Attribute o "index" apos) [e] [] cpos) (wIdx wo wa) :=
  ⟨PE.imp (pe_bm PySem.F.plainAttrs_list PySem.F.slot_list_index PySem.F.type_list_index (mt_indexD hu) ho.pe (pa_cons ha.pe pa_nil hs1) hbase hfew hline hs1 hpl) fun σ H Q ⟨G, ρ, Qp, Rp, g, hw, kq, kx⟩ => by
    refine ⟨G, ρ, _, Rp, g, hw, fun p v H1 s1 g1 r1 ⟨⟨ds, hd⟩, hw1⟩ => ?_, kx⟩
    obtain ⟨a, xs, rfl, hl⟩ := dp_list (r1.dp hd)
    refine ⟨.inl ⟨rfl, xs, hl⟩, G, ρ, _, Rp, g1, hw1, fun q u H2 s2 g2 r2 ⟨ds', d, j, z, h1, h2, h3, h4, h5, h6, h7, h8⟩ => ?_, kx.step s1⟩
    exact ⟨a, u, d, ds', j, z, rfl, rfl, (r1.mono s2).dp h1, r2.dp h2, h3, h4, h5, h6, h7, (kq.step (s1.trans s2)).int g2 h8⟩⟩
def lCnt (x y : PV) (Q : PQ) : Prop := ∃ (ns : List Int) (k : Int), x.items = some (ns.map PV.int) ∧ y = .int k ∧ Q (.int (ns.count k : Nat))
def wCnt (a b : WEx) : WEx := fun ρ Q R => a ρ (fun x => (∃ ps, x.items = some ps) ∧ b ρ (fun y => lCnt x y Q) R) R
theorem ve_count (ho : VE X W o wo) (ha : VE X W e wa)
    (hbase : attributeBase o "count" X.env (eval o X.env) = eval o X.env := by rfl)
    (hfew : ((backTo cpos (starEach [e] X.env)).all (fun x => !x.1) && (backToKw cpos (keywordEach [] X.env)).all (fun x => x.1.isSome) && decide (([e] : List Expr).length + ([] : List Keyword).length + (if ([] : List Keyword).isEmpty then 0 else 1) < 30)) = true := by rfl)
    (hline : (apos.endLine == cpos.line) = true := by rfl) (hs1 : starEach [e] X.env = (false, eval e X.env) :: starEach [] X.env := by rfl) (hpl : (backTo cpos (starEach [] X.env)).any (·.1) = false := by rfl) :
    VE X W (.Call (.Attribute o "count" apos) [e] [] cpos) (wCnt wo wa) :=
  ⟨PE.imp (pe_bm PySem.F.plainAttrs_list PySem.F.slot_list_count PySem.F.type_list_count mt_lcount ho.pe (pa_cons ha.pe pa_nil hs1) hbase hfew hline hs1 hpl) fun σ H Q ⟨G, ρ, Qp, Rp, g, hw, kq, kx⟩ => by
    refine ⟨G, ρ, _, Rp, g, hw, fun p v H1 s1 g1 r1 ⟨⟨ps, hd⟩, hw1⟩ => ?_, kx⟩
    obtain ⟨a, xs, rfl, hl, _⟩ := r1.items hd
    refine ⟨.inl ⟨rfl, xs, .of hl⟩, G, ρ, _, Rp, g1, hw1, fun q u H2 s2 g2 r2 ⟨ns, k, h1, h2, h3⟩ => ?_, kx.step s1⟩
    obtain ⟨a', xs', e', hl', rr⟩ := (r1.mono s2).items h1
    cases e'
    subst h2
    cases r2.int
    cases rr.ints
    exact ⟨a, ns, k, rfl, rfl, .of hl', (kq.step (s1.trans s2)).int g2 h3⟩⟩
end

/-! ### in short -/
section
variable {p q x y : PV} {Q : PQ} {R : XQ} {ρ : PEnv} {ps qs xs ys : List PV} {ks : List Key} {kt : List (List Key)} {k : Key} {l : List Key} {i : Int} {a b : WEx}
theorem dg_k (h : kOf y = some k) : dGetA (.dk ks ps) y = some (getA ks ps k) := by
  show (kOf y).map _ = _
  rw [h]; rfl
theorem dg_t (h : ksOf xs = some l) : dGetA (.dt kt ps) (.tup xs) = some (getA kt ps l) := by
  show (ksOf xs).map _ = _
  rw [h]; rfl
theorem oDGet_ok {v : PV} (h : dGetA x.unD y = some (some v)) : oDGet x y Q R = Q v := propext ⟨fun ⟨p, e, hq⟩ => by rw [h] at e; cases e; exact hq, fun hq => ⟨_, h, hq⟩⟩
theorem oDIn_ok {o : Option PV} (h : dGetA x.unD y = some o) : oDIn y x Q R = Q (.bl o.isSome) := propext ⟨fun ⟨p, e, hq⟩ => by rw [h] at e; cases e; exact hq, fun hq => ⟨_, h, hq⟩⟩
theorem oDNotIn_ok {o : Option PV} (h : dGetA x.unD y = some o) : oDNotIn y x Q R = Q (.bl (!o.isSome)) := propext ⟨fun ⟨p, e, hq⟩ => by rw [h] at e; cases e; exact hq, fun hq => ⟨_, h, hq⟩⟩
theorem oDIn_t (hl : kt.length = ps.length) (h : ksOf xs = some l) : oDIn (.tup xs) (.own (.dt kt ps)) Q R = Q (.bl (memB kt l)) := by
  rw [oDIn_ok (x := .own (.dt kt ps)) (dg_t h), getA_isSome hl]
theorem oDNotIn_t (hl : kt.length = ps.length) (h : ksOf xs = some l) : oDNotIn (.tup xs) (.own (.dt kt ps)) Q R = Q (.bl (!memB kt l)) := by
  rw [oDNotIn_ok (x := .own (.dt kt ps)) (dg_t h), getA_isSome hl]
theorem oDIn_i (hl : ks.length = ps.length) : oDIn (.int i) (.own (.dk ks ps)) Q R = Q (.bl (memB ks (.inl i))) := by
  rw [oDIn_ok (x := .own (.dk ks ps)) (dg_k (k := .inl i) rfl), getA_isSome hl]
theorem oDNotIn_i (hl : ks.length = ps.length) : oDNotIn (.int i) (.own (.dk ks ps)) Q R = Q (.bl (!memB ks (.inl i))) := by
  rw [oDNotIn_ok (x := .own (.dk ks ps)) (dg_k (k := .inl i) rfl), getA_isSome hl]
theorem dPutP_t {K : PV → Prop} (h : ksOf xs = some l) : dPutP (.dt kt ps) (.tup xs) p K = (kt.length < sizeLine ∧ K (.dt (putKs kt l) (putVs kt ps l p))) := propext ⟨fun ⟨k, e, h1, h2⟩ => by rw [h] at e; cases e; exact ⟨h1, h2⟩, fun ⟨h1, h2⟩ => ⟨_, h, h1, h2⟩⟩
theorem dPutP_i {K : PV → Prop} : dPutP (.dk ks ps) (.int i) p K = (ks.length < sizeLine ∧ K (.dk (putKs ks (.inl i)) (putVs ks ps (.inl i) p))) := propext ⟨fun ⟨k, e, h1, h2⟩ => by cases e; exact ⟨h1, h2⟩, fun ⟨h1, h2⟩ => ⟨_, rfl, h1, h2⟩⟩
theorem wDNewK_e : wDNewK ρ Q R = Q (.new (.dk [] [])) := rfl
theorem wDNewT_e : wDNewT ρ Q R = Q (.new (.dt [] [])) := rfl
theorem ksOf_ii {i j : Int} : ksOf [.int i, .int j] = some [.inl i, .inl j] := rfl
theorem ksOf_iii {i j k : Int} : ksOf [.int i, .int j, .int k] = some [.inl i, .inl j, .inl k] := rfl
theorem ksOf_ints : ∀ ns : List Int, ksOf (ns.map PV.int) = some (ns.map Sum.inl)
  | [] => rfl
  | n :: ns => by
    show (match kOf (PV.int n), ksOf (ns.map PV.int) with | some k, some ks => some (k :: ks) | _, _ => none) = _
    rw [ksOf_ints ns]; rfl
theorem wIdx_e : wIdx a b ρ Q R = a ρ (fun x => (∃ ds, x.toD = some (.list ds)) ∧ b ρ (fun y => lIdx x y Q) R) R := rfl
theorem wCnt_e : wCnt a b ρ Q R = a ρ (fun x => (∃ ps, x.items = some ps) ∧ b ρ (fun y => lCnt x y Q) R) R := rfl
theorem cLenT_o : cLenT [.own (.dt kt ps)] Q R = Q (.int kt.length) := rfl
theorem lCnt_l {ns : List Int} : lCnt (.lst (ns.map PV.int)) (.int i) Q = Q (.int (ns.count i : Nat)) := propext ⟨fun ⟨ms, k, e, e2, h⟩ => by
  cases e2
  have : ms = ns := by
    have e := (Option.some.inj e).symm
    exact List.map_inj_right (fun _ _ z => PV.int.inj z) |>.mp e
  subst this
  exact h, fun h => ⟨_, _, rfl, rfl, h⟩⟩
end
end L3

/-! Values without the heap: dicts and lists of one's own, in short. -/
namespace L3
open PySem PySem.Spec L2
theorem lst0_e {ρ : PEnv} {Q : PQ} {R : XQ} : wLst wNil ρ Q R = Q (.new (.lst [])) :=
  propext ⟨fun ⟨_, _, h⟩ => h, fun h => ⟨Nat.zero_le _, rfl, h⟩⟩
section
variable {n m l : Nat} {a b c : WEx} {D : PEnds} {ρ : PEnv} {q q2 : PV}
/-- an expression that makes something new and empty -/
def mkNew (b : WEx) (q : PV) : Prop := (PV.new q).clean = true ∧ ∀ ρ Q R, b ρ Q R = Q (.new q)
theorem mkL : mkNew (wLst wNil) (.lst []) := ⟨rfl, fun _ _ _ => lst0_e⟩
theorem mkK : mkNew wDNewK (.dk [] []) := ⟨rfl, fun _ _ _ => rfl⟩
theorem mkT : mkNew wDNewT (.dt [] []) := ⟨rfl, fun _ _ _ => rfl⟩
theorem wPar_fo (hb : mkNew b q) : wPar n m false true a b D ρ = a ρ (fun p => stP p fun p' => (noStAt ρ n ∧ n < ρ.length ∧ m < ρ.length) ∧ sE ρ n (some p') fun ρ' => sE ρ' m (some (.own q)) D.nx) fun x => D.ex x ρ := by
  unfold wPar
  congr 1
  funext p
  rw [hb.2]
  refine propext ⟨fun ⟨p', q', e1, e2, _, h1, h2, h3, h⟩ => ?_, fun ⟨h0, ⟨h1, h2, h3⟩, h⟩ => ⟨p.thaw, .own q, if_pos h0, rfl, (fun z => nomatch z), h1, h2, h3, h⟩⟩
  unfold L3.stored at e1 e2
  dsimp only at e1 e2
  cases e2
  split at e1
  · cases e1
    exact ⟨by assumption, ⟨h1, h2, h3⟩, h⟩
  · cases e1
theorem wPar_of (ha : mkNew a q) : wPar n m true false a b D ρ = b ρ (fun p => stP p fun p' => (p.clean = true ∧ noStAt ρ n ∧ n < ρ.length ∧ m < ρ.length) ∧ sE ρ n (some (.own q)) fun ρ' => sE ρ' m (some p') D.nx) fun x => D.ex x ρ := by
  unfold wPar
  rw [ha.2]
  congr 1
  funext p
  refine propext ⟨fun ⟨p', q', e1, e2, h0, h1, h2, h3, h⟩ => ?_, fun ⟨h0, ⟨hc, h1, h2, h3⟩, h⟩ => ⟨.own q, p.thaw, rfl, if_pos h0, (fun _ => hc), h1, h2, h3, h⟩⟩
  unfold L3.stored at e1 e2
  dsimp only at e1 e2
  cases e1
  split at e2
  · cases e2
    exact ⟨by assumption, ⟨h0 rfl, h1, h2, h3⟩, h⟩
  · cases e2
theorem wPar_oo (ha : mkNew a q) (hb : mkNew b q2) : wPar n m true true a b D ρ = ((noStAt ρ n ∧ n < ρ.length ∧ m < ρ.length) ∧ sE ρ n (some (.own q)) fun ρ' => sE ρ' m (some (.own q2)) D.nx) := by
  unfold wPar
  rw [ha.2, hb.2]
  refine propext ⟨fun ⟨p', q', e1, e2, h0, h1, h2, h3, h⟩ => ?_, fun ⟨⟨h1, h2, h3⟩, h⟩ => ⟨.own q, .own q2, rfl, rfl, (fun _ => hb.1), h1, h2, h3, h⟩⟩
  unfold L3.stored at e1 e2
  dsimp only at e1 e2
  cases e1
  cases e2
  exact ⟨⟨h1, h2, h3⟩, h⟩
theorem wPar3_foo (hb : mkNew b q) (hc : mkNew c q2) : wPar3 n m l false true true a b c D ρ = a ρ (fun p => stP p fun p' => ((noStAt ρ n ∧ noStAt ρ m) ∧ n < ρ.length ∧ m < ρ.length ∧ l < ρ.length) ∧
    sE ρ n (some p') fun ρ' => sE ρ' m (some (.own q)) fun ρ'' => sE ρ'' l (some (.own q2)) D.nx) fun x => D.ex x ρ := by
  unfold wPar3
  congr 1
  funext p
  rw [hb.2, hc.2]
  refine propext ⟨fun ⟨p', q', r', e1, e2, e3, _, _, h1, h2, h3, h4, h5, h⟩ => ?_, fun ⟨h0, ⟨⟨h1, h2⟩, h3, h4, h5⟩, h⟩ => ⟨p.thaw, .own q, .own q2, if_pos h0, rfl, rfl, (fun z => nomatch z), (fun _ => hc.1), h1, h2, h3, h4, h5, h⟩⟩
  unfold L3.stored at e1 e2 e3
  dsimp only at e1 e2 e3
  cases e2
  cases e3
  split at e1
  · cases e1
    exact ⟨by assumption, ⟨⟨h1, h2⟩, h3, h4, h5⟩, h⟩
  · cases e1
theorem wPar3_oof (ha : mkNew a q) (hb : mkNew b q2) : wPar3 n m l true true false a b c D ρ = c ρ (fun p => stP p fun p' => (p.clean = true ∧ (noStAt ρ n ∧ noStAt ρ m) ∧ n < ρ.length ∧ m < ρ.length ∧ l < ρ.length) ∧
    sE ρ n (some (.own q)) fun ρ' => sE ρ' m (some (.own q2)) fun ρ'' => sE ρ'' l (some p') D.nx) fun x => D.ex x ρ := by
  unfold wPar3
  rw [ha.2, hb.2]
  congr 1
  funext p
  refine propext ⟨fun ⟨p', q', r', e1, e2, e3, c1, c2, h1, h2, h3, h4, h5, h⟩ => ?_, fun ⟨h0, ⟨hc, ⟨h1, h2⟩, h3, h4, h5⟩, h⟩ => ⟨.own q, .own q2, p.thaw, rfl, rfl, if_pos h0, (fun _ => ⟨hb.1, hc⟩), (fun _ => hc), h1, h2, h3, h4, h5, h⟩⟩
  unfold L3.stored at e1 e2 e3
  dsimp only at e1 e2 e3
  cases e1
  cases e2
  split at e3
  · cases e3
    exact ⟨by assumption, ⟨c2 rfl, ⟨h1, h2⟩, h3, h4, h5⟩, h⟩
  · cases e3
end
theorem wPar_fl {n m : Nat} {a : WEx} {D : PEnds} {ρ : PEnv} : wPar n m false true a (wLst wNil) D ρ = a ρ (fun p => stP p fun p' => (noStAt ρ n ∧ n < ρ.length ∧ m < ρ.length) ∧ sE ρ n (some p') fun ρ' => sE ρ' m (some (.own (.lst []))) D.nx) fun x => D.ex x ρ := wPar_fo mkL
theorem wPar_fk {n m : Nat} {a : WEx} {D : PEnds} {ρ : PEnv} : wPar n m false true a wDNewK D ρ = a ρ (fun p => stP p fun p' => (noStAt ρ n ∧ n < ρ.length ∧ m < ρ.length) ∧ sE ρ n (some p') fun ρ' => sE ρ' m (some (.own (.dk [] []))) D.nx) fun x => D.ex x ρ := wPar_fo mkK
theorem wPar_ft {n m : Nat} {a : WEx} {D : PEnds} {ρ : PEnv} : wPar n m false true a wDNewT D ρ = a ρ (fun p => stP p fun p' => (noStAt ρ n ∧ n < ρ.length ∧ m < ρ.length) ∧ sE ρ n (some p') fun ρ' => sE ρ' m (some (.own (.dt [] []))) D.nx) fun x => D.ex x ρ := wPar_fo mkT
theorem wPar_lf {n m : Nat} {b : WEx} {D : PEnds} {ρ : PEnv} : wPar n m true false (wLst wNil) b D ρ = b ρ (fun p => stP p fun p' => (p.clean = true ∧ noStAt ρ n ∧ n < ρ.length ∧ m < ρ.length) ∧ sE ρ n (some (.own (.lst []))) fun ρ' => sE ρ' m (some p') D.nx) fun x => D.ex x ρ := wPar_of mkL
theorem wPar_ll {n m : Nat} {D : PEnds} {ρ : PEnv} : wPar n m true true (wLst wNil) (wLst wNil) D ρ = ((noStAt ρ n ∧ n < ρ.length ∧ m < ρ.length) ∧ sE ρ n (some (.own (.lst []))) fun ρ' => sE ρ' m (some (.own (.lst []))) D.nx) := wPar_oo mkL mkL
theorem wPar_lt {n m : Nat} {D : PEnds} {ρ : PEnv} : wPar n m true true (wLst wNil) wDNewT D ρ = ((noStAt ρ n ∧ n < ρ.length ∧ m < ρ.length) ∧ sE ρ n (some (.own (.lst []))) fun ρ' => sE ρ' m (some (.own (.dt [] []))) D.nx) := wPar_oo mkL mkT
theorem wPar_lk {n m : Nat} {D : PEnds} {ρ : PEnv} : wPar n m true true (wLst wNil) wDNewK D ρ = ((noStAt ρ n ∧ n < ρ.length ∧ m < ρ.length) ∧ sE ρ n (some (.own (.lst []))) fun ρ' => sE ρ' m (some (.own (.dk [] []))) D.nx) := wPar_oo mkL mkK
theorem wPar_tl {n m : Nat} {D : PEnds} {ρ : PEnv} : wPar n m true true wDNewT (wLst wNil) D ρ = ((noStAt ρ n ∧ n < ρ.length ∧ m < ρ.length) ∧ sE ρ n (some (.own (.dt [] []))) fun ρ' => sE ρ' m (some (.own (.lst []))) D.nx) := wPar_oo mkT mkL
theorem wPar3_fll {n m l : Nat} {a : WEx} {D : PEnds} {ρ : PEnv} : wPar3 n m l false true true a (wLst wNil) (wLst wNil) D ρ = a ρ (fun p => stP p fun p' => ((noStAt ρ n ∧ noStAt ρ m) ∧ n < ρ.length ∧ m < ρ.length ∧ l < ρ.length) ∧
    sE ρ n (some p') fun ρ' => sE ρ' m (some (.own (.lst []))) fun ρ'' => sE ρ'' l (some (.own (.lst []))) D.nx) fun x => D.ex x ρ := wPar3_foo mkL mkL
theorem wPar3_flt {n m l : Nat} {a : WEx} {D : PEnds} {ρ : PEnv} : wPar3 n m l false true true a (wLst wNil) wDNewT D ρ = a ρ (fun p => stP p fun p' => ((noStAt ρ n ∧ noStAt ρ m) ∧ n < ρ.length ∧ m < ρ.length ∧ l < ρ.length) ∧
    sE ρ n (some p') fun ρ' => sE ρ' m (some (.own (.lst []))) fun ρ'' => sE ρ'' l (some (.own (.dt [] []))) D.nx) fun x => D.ex x ρ := wPar3_foo mkL mkT
theorem wPar3_flk {n m l : Nat} {a : WEx} {D : PEnds} {ρ : PEnv} : wPar3 n m l false true true a (wLst wNil) wDNewK D ρ = a ρ (fun p => stP p fun p' => ((noStAt ρ n ∧ noStAt ρ m) ∧ n < ρ.length ∧ m < ρ.length ∧ l < ρ.length) ∧
    sE ρ n (some p') fun ρ' => sE ρ' m (some (.own (.lst []))) fun ρ'' => sE ρ'' l (some (.own (.dk [] []))) D.nx) fun x => D.ex x ρ := wPar3_foo mkL mkK
theorem wPar3_lkf {n m l : Nat} {c : WEx} {D : PEnds} {ρ : PEnv} : wPar3 n m l true true false (wLst wNil) wDNewK c D ρ = c ρ (fun p => stP p fun p' => (p.clean = true ∧ (noStAt ρ n ∧ noStAt ρ m) ∧ n < ρ.length ∧ m < ρ.length ∧ l < ρ.length) ∧
    sE ρ n (some (.own (.lst []))) fun ρ' => sE ρ' m (some (.own (.dk [] []))) fun ρ'' => sE ρ'' l (some p') D.nx) fun x => D.ex x ρ := wPar3_oof mkL mkK

/-! ### d[k] = v, seen from the slot -/
def dslot : PEnv → Nat → (PV → Prop) → Prop
  | some (.own d) :: _, 0, K => K d
  | _ :: ρ, n + 1, K => dslot ρ n K
  | _, _, _ => False
theorem dslot_iff : ∀ {ρ : PEnv} {i : Nat} {K : PV → Prop}, dslot ρ i K ↔ ∃ d, ρ[i]? = some (some (.own d)) ∧ K d
  | [], i, K => ⟨fun h => by cases i <;> exact h.elim, fun ⟨d, e, _⟩ => by simp at e⟩
  | none :: ρ, 0, K => ⟨fun h => (show False from h).elim, fun ⟨d, e, _⟩ => by simp at e⟩
  | some p :: ρ, 0, K => by
    cases p with
    | own d => exact ⟨fun h => ⟨d, rfl, h⟩, fun ⟨d', e, h⟩ => by cases e; exact h⟩
    | _ => exact ⟨fun h => (show False from h).elim, fun ⟨d, e, _⟩ => by cases e⟩
  | none :: ρ, n + 1, K => by
    have h : dslot (none :: ρ) (n + 1) K = dslot ρ n K := rfl
    rw [h, dslot_iff]
    simp
  | some p :: ρ, n + 1, K => by
    have h : dslot (some p :: ρ) (n + 1) K = dslot ρ n K := by cases p <;> rfl
    rw [h, dslot_iff]
    simp
theorem dslot_0 {d : PV} {ρ : PEnv} {K : PV → Prop} : dslot (some (.own d) :: ρ) 0 K = K d := rfl
theorem dslot_s {o : Option PV} {ρ : PEnv} {n : Nat} {K : PV → Prop} : dslot (o :: ρ) (n + 1) K = dslot ρ n K := by
  cases o with
  | none => rfl
  | some p => cases p <;> rfl
theorem wDPut_e {i : Nat} {ix a : WEx} {D : PEnds} {ρ : PEnv} : wDPut i ix a D ρ = dslot ρ i fun d => a ρ (fun p => ix ρ (fun y => stP p fun p' => dPutP d y p' fun d' => sE ρ i (some (.own d')) D.nx) fun x => D.ex x ρ) fun x => D.ex x ρ :=
  propext (Iff.symm dslot_iff)

theorem wSeq_DPut {i : Nat} {ix a : WEx} {r : WSt} {D : PEnds} {ρ : PEnv} : wSeq (wDPut i ix a) r D ρ = (wDPut i ix a) ⟨fun ρ' => r D ρ', D.rt, D.bk, D.ct, D.ex⟩ ρ := rfl
/-! ### keys told by a row -/
section
variable {κ : Type} [DecidableEq κ] {α ι : Type}
theorem getA_map {f : ι → κ} {g : ι → α} : ∀ {l : List ι} {i : ι}, i ∈ l → (∀ j ∈ l, f j = f i → g j = g i) → getA (l.map f) (l.map g) (f i) = some (g i)
  | [], i, h, _ => by cases h
  | j :: l, i, h, hu => by
    show (if f j = f i then some (g j) else getA (l.map f) (l.map g) (f i)) = _
    by_cases e : f j = f i
    · rw [if_pos e, hu j List.mem_cons_self e]
    · rw [if_neg e]
      refine getA_map ?_ fun j' hj => hu j' (List.mem_cons_of_mem _ hj)
      rcases List.mem_cons.mp h with rfl | h
      · exact absurd rfl e
      · exact h
end
/-! ### lists of pairs of ints -/
section
variable {Q : PQ} {R : XQ} {ds : List (Int × Int)} {z : Int × Int} {neg : Bool}
theorem toD_opp : (PV.own (.lst (ds.map ppV))).toD = some (.list (ds.map ppD)) := by
  show (toDs (ds.map ppV)).map PyData.list = _
  rw [toDs_pp]; rfl
theorem ppD_eqv {z w : Int × Int} : PyData.eqv (ppD z) (ppD w) = decide (z = w) := by
  unfold ppD
  rw [eqv_pp]
  by_cases h : z = w
  · subst h; simp
  · rw [decide_eq_false h, decide_eq_false fun e => h (Prod.ext e.1 e.2)]
theorem oIn_opp : oInB neg (ppV z) (.own (.lst (ds.map ppV))) Q R = Q (.bl (if neg = true then !decide (z ∈ ds) else decide (z ∈ ds))) := oInB_d (d := ppD z) rfl (.inr ⟨toD_opp, shaped_lpp ds⟩) shaped_pp (any_pp z ds)
theorem lIdx_opp {j : Nat} (h1 : ds[j]? = some z) (h2 : ∀ m, m < j → ds[m]? ≠ some z) (hq : Q (.int (j : Nat))) : lIdx (.own (.lst (ds.map ppV))) (ppV z) Q := by
  refine ⟨ds.map ppD, ppD z, j, ppD z, toD_opp, rfl, shaped_lpp ds, shaped_pp, by rw [List.getElem?_map, h1]; rfl, by rw [ppD_eqv]; simp, fun m z' hm hz => ?_, hq⟩
  rw [List.getElem?_map] at hz
  obtain ⟨w, e, rfl⟩ := Option.map_eq_some_iff.mp hz
  rw [ppD_eqv, decide_eq_false_iff_not]
  intro e2
  subst e2
  exact h2 m hm e
end
end L3

namespace K38
open PySem PySem.Spec L2 L3
local macro_rules
  | `(tactic| simp? only [$ls,*] $[$loc]?) => `(tactic| simp only [↓wVar_0, ↓wVar_s, ↓wC_e, ↓wOp_e, ↓oAdd_ii, ↓oAdd_ss, ↓oAdd_tt, ↓oAdd_ll_, ↓oAdd_ln_, ↓oAdd_lo_, ↓oAdd_nl_, ↓oAdd_nn_, ↓oAdd_no_, ↓oAdd_ol_, ↓oAdd_on_, ↓oAdd_oo_, ↓oSub_ii, ↓oMul_ii, ↓oMul_li, ↓oMul_ni, ↓oMul_oi, ↓oDiv_ii, ↓oMod_ii, ↓oLt_ii, ↓oLe_ii, ↓oGt_ii, ↓oGe_ii, ↓wNeg_e, ↓wT_e, ↓kB_b, ↓kI_i, ↓wAnd_e, ↓wOr_e, ↓wNot_e, ↓wAndV_e, ↓wOrV_e, ↓wNotV_e, ↓wIfE_e, ↓wChain_e, ↓wIsN_e, ↓wNotN_e, ↓wCall_e, ↓wCons_e, ↓wNil_e, ↓wTup_e, ↓wLst_e, ↓tP_0, ↓tP_1, ↓tP_2, ↓tP_3, ↓tP_4, ↓tP_5, ↓tP_6, ↓tP_7, ↓tP_8, ↓lP_0, ↓lP_1, ↓lP_2, ↓lP_3, ↓lP_4, ↓lP_5, ↓lP_6, ↓lP_7, ↓lP_8, ↓stP_non, ↓rtP_non, ↓aP1_non, ↓stP_bl, ↓rtP_bl, ↓aP1_bl, ↓isN_bl, ↓stP_int, ↓rtP_int, ↓aP1_int, ↓isN_int, ↓stP_str, ↓rtP_str, ↓aP1_str, ↓isN_str, ↓stP_adr, ↓rtP_adr, ↓aP1_adr, ↓isN_adr, ↓stP_tup, ↓rtP_tup, ↓aP1_tup, ↓isN_tup, ↓stP_lst, ↓rtP_lst, ↓aP1_lst, ↓isN_lst, ↓stP_scr, ↓rtP_scr, ↓aP1_scr, ↓isN_scr, ↓stP_obj, ↓rtP_obj, ↓aP1_obj, ↓isN_obj, ↓stP_dk, ↓rtP_dk, ↓aP1_dk, ↓isN_dk, ↓isN_non, ↓stP_nlst, ↓rtP_nlst, ↓rtP_olst, ↓aP1_nlst, ↓stP_ndk, ↓rtP_ndk, ↓rtP_odk, ↓aP1_ndk, ↓aP1_st, ↓nwP_n, ↓oFn_1, ↓oFn_2, ↓oFn_3, ↓oFn_4, ↓oFn_5, ↓oFn_6, ↓sto_non, ↓nst_non, ↓sto_bl, ↓nst_bl, ↓sto_int, ↓nst_int, ↓sto_str, ↓nst_str, ↓sto_adr, ↓nst_adr, ↓sto_tup, ↓nst_tup, ↓sto_lst, ↓nst_lst, ↓sto_scr, ↓nst_scr, ↓sto_obj, ↓nst_obj, ↓sto_dk, ↓nst_dk, ↓sto_st, ↓sto_nil, ↓nst_nil, ↓wIsi_e, ↓oIsi_int_non, ↓oIsi_int_bl, ↓oIsi_int_int, ↓oIsi_int_str, ↓oIsi_int_tup, ↓oIsi_int_lst, ↓oIsi_bool_non, ↓oIsi_bool_bl, ↓oIsi_bool_int, ↓oIsi_bool_str, ↓oIsi_bool_tup, ↓oIsi_bool_lst, ↓oIsi_str_non, ↓oIsi_str_bl, ↓oIsi_str_int, ↓oIsi_str_str, ↓oIsi_str_tup, ↓oIsi_str_lst, ↓oIsi_tuple_non, ↓oIsi_tuple_bl, ↓oIsi_tuple_int, ↓oIsi_tuple_str, ↓oIsi_tuple_tup, ↓oIsi_tuple_lst, ↓oIsi_list_non, ↓oIsi_list_bl, ↓oIsi_list_int, ↓oIsi_list_str, ↓oIsi_list_tup, ↓oIsi_list_lst, ↓oIx_t, ↓cLen_t, ↓cTup_t, ↓cLst_t, ↓oIx_s, ↓cLen_s, ↓cTup_s, ↓cLst_s, ↓oIx_l, ↓cLen_l, ↓cTup_l, ↓cLst_l, ↓oIx_n, ↓cLen_n, ↓cTup_n, ↓cLst_n, ↓oIx_o, ↓cLen_o, ↓cTup_o, ↓cLst_o, ↓ixP_0, ↓ixP_1, ↓ixP_2, ↓ixP_3, ↓ixP_4, ↓ixP_5, ↓wSl_e, ↓wPn_e, ↓wPs_e, ↓oSl_t, ↓oSl_s, ↓oSl_l, ↓oSl_n, ↓oSl_o, ↓cAbs_i, ↓cInt_i, ↓cMin2_ii, ↓cMax2_ii, ↓wSeq_Set, ↓wSeq_If, ↓wSeq_Exp, ↓wSeq_Asg, ↓wSeq_Seq, ↓wSeq_Own, ↓wSeq_StS, ↓wSeq_App, ↓wSeq_Next, ↓wSeq_Ret, ↓wSeq_Rais, ↓wSeq_Par, ↓wSeq_Par3, ↓wSeq_St0, ↓wSeq_St1, ↓wSeq_Brk, ↓wSeq_Cnt, ↓wSeq_RetN, ↓wSeq_RaiF, ↓wSet_e, ↓wOwn_e, ↓sE_0, ↓sE_s, ↓wIf_e, ↓wRet_e, ↓wRetN_e, ↓wNext_e, ↓wBreak_e, ↓wCont_e, ↓wExpr_e, ↓wRaise_e, ↓wRaiseF_e, ↓wAsg_e, ↓tgP_name, ↓tgP_tup, ↓tgPs_nil, ↓tgPs_cons, ↓wTry_e, ↓wPar_ff, ↓noSt_0n, ↓noSt_0non, ↓noSt_0bl, ↓noSt_0int, ↓noSt_0str, ↓noSt_0tup, ↓noSt_0lst, ↓noSt_0ol, ↓noSt_s, ↓sSt0, ↓sSt1, ↓sSt0S, ↓sSt1S, ↓wOwnS_e, ↓fnE_nx, ↓fnE_rt, ↓fnE_ex, ↓wFor_e, ↓wSeq_For, ↓wSeq_While, ↓wiSeq_e, ↓wk_t, ↓wk_s, ↓wk_l, ↓wk_n, ↓wk_o, ↓wiRg1_e, ↓wiRg2_e, ↓wLRg2_e, ↓wLRg1_e, ↓wComp_e, ↓noMut_c, ↓noMut_n, ↓nm1_0, ↓nm1_int, ↓nm1_tup, ↓nm1_s, ↓nm1_v, ↓wYes_e, ↓wipeC_n, ↓wipeC_1, ↓wipeC_2, ↓wipeC_3, ↓cAll_b, ↓cAny_b, ↓oNe_int, ↓ns2_n, ↓oEq_mal, ↓oMulA_ii, ↓oMulA_li, ↓oMulA_ni, ↓oMulA_oi, ↓oMulA_ti, ↓wRev_e, ↓oRev_t, ↓oRev_l, ↓oRev_n, ↓oRev_o, ↓wiEn_e, ↓enW_t, ↓enW_s, ↓enW_l, ↓enW_n, ↓enW_o, ↓wiZip_e, ↓zpP_tt, ↓zpP_ll, ↓zpP_nn, ↓zpP_ln, ↓zpP_nl, ↓oEq_bl, ↓oEq_str, ↓cAll_nil, ↓dat_non, ↓dat_bl, ↓dat_int, ↓dat_str, ↓oEq_pp, ↓oNe_pp, ↓wApp_e, ↓apE_0, ↓apE_s, ↓tP_9, ↓tP_10, ↓tP_11, ↓tP_12, ↓tP_13, ↓tP_14, ↓tP_15, ↓tP_16, ↓lP_9, ↓lP_10, ↓lP_11, ↓lP_12, ↓lP_13, ↓lP_14, ↓lP_15, ↓lP_16, ↓setL_n, ↓setL_c, ↓wFld_e, ↓fldP_n, ↓fldP_d, ↓wMeth_e, ↓wMake_e, ↓wLen_e, ↓mkP_2, ↓mkP_1, ↓wIsC_e, ↓oOwnB_rr, ↓cSum_n, ↓cSum_l, ↓ixP_m1, ↓ixP_m1b, ↓ixP_m2, ↓wFrz_e, ↓wSeq_Frz, ↓frP_0, ↓frP_s, ↓cInt_b, ↓cSumA_n, ↓cSumA_l, ↓cSumA_o, ↓cSumA_t, ↓wChain3_e, ↓wPar3_l, ↓clean_int, ↓wiEnZip_e, ↓ezP_tt, ↓wIs2_e, ↓oIs2_tup, ↓oIs2_lst, ↓oIs2_int, ↓oIs2_bl, ↓oIs2_str, ↓oIs2_non, ↓oOwnNe_rr, ↓wPar3_f, ↓dPutP_i, ↓wDNewK_e, ↓wDNewT_e, ↓ksOf_ii, ↓ksOf_iii, ↓wIdx_e, ↓wCnt_e, ↓cLenT_o, ↓wPar_fl, ↓wPar_fk, ↓wPar_ft, ↓wPar_lf, ↓wPar_ll, ↓wPar_lt, ↓wPar_lk, ↓wPar_tl, ↓wPar3_fll, ↓wPar3_flt, ↓wPar3_flk, ↓wPar3_lkf, ↓dslot_0, ↓dslot_s, ↓wDPut_e, ↓lst0_e, ↓wSeq_DPut, wIsi_e, okV_non, okV_bl, okV_int, okV_stR, okV_tup, okV_lst, ↓stP_v, ↓rtP_v, ↓aP1_v, ↓stOnce_v, ↓noSt_v, ↓oEq_int, ↓oIsi_int, ↓oIsi_bool, ↓oIsi_str, ↓oIsi_tuple, ↓oIsi_list, startP, ↓reduceIte, List.map_cons, List.map_nil, List.length_cons, List.length_nil, List.replicate, List.cons_append, List.nil_append, List.append_nil, List.all_nil, true_and, and_true, implies_true, Bool.false_eq_true, Bool.not_true, Bool.not_false, Nat.reduceAdd, Nat.reduceSub, Nat.zero_add, Nat.reduceLT, Nat.reduceLeDiff, Int.reduceLT, Int.reduceLE, String.reduceBEq, beq_self_eq_true, decide_true, decide_false, eq_self, not_true_eq_false, not_false_eq_true, Int.reduceEq, Nat.reduceEqDiff, natc_0, natc_1, natc_2, natc_3, natc_4, natc_5, natc_6, natc_7, natc_8, natc_9, decide_eq_true_eq, Bool.true_and, Bool.and_true, Bool.false_and, Bool.and_false, $ls,*] $[$loc]?)
/-! ### addresses -/
structure Ad where
  is_integer : Addr
  is_count : Addr
  check_count : Addr
  is_whole_row : Addr
  common : Addr
  check_ratio : Addr
  check_base : Addr
  check_whole : Addr
  minus_word : Addr
  minus_number : Addr
  minus_expand : Addr
  minus_value : Addr
  z_law_state : Addr
  z_law_take : Addr
  z_law_is_whole : Addr
  z_law_same : Addr
  z_law_told : Addr
  z_law_all_malformed : Addr
  z_law_common : Addr
  z_law_low : Addr
  z_law_add : Addr
  z_law_mul : Addr
  z_law_neg : Addr
  z_law_over : Addr
  z_law_ratio_is : Addr
  z_law_great : Addr
  z_law_floor : Addr
  z_law_expand : Addr
  z_law_number : Addr
  z_law_value : Addr
  law : Addr
  cM : Addr
  cR : Addr
  kRatio : Addr
structure Ad.Ok (A : Ad) : Prop where
  fs : [A.minus_expand, A.minus_value].Nodup
  cs : [A.cM, A.cR, A.kRatio].Nodup
def mal (A : Ad) : EX := ⟨A.cM, none⟩
def owns (A : Ad) : List Addr := [A.kRatio]
def ansM (A : Ad) (c : Addr) : Option Bool := if c = A.cM then some true else if c = A.cR then some false else none
def ansR (A : Ad) (c : Addr) : Option Bool := if c = A.cM then some false else if c = A.cR then some true else none
def fs_is_integer (A : Ad) : FS := fsIsInt (owns A)
def fs_is_count (A : Ad) : FS := fsIsCount (owns A)
def fs_check_count (A : Ad) : FS := fsCheckCount (owns A) (mal A)
def fs_z_law_is_whole (A : Ad) : FS := fsIsInt (owns A)
def fs_z_law_state (A : Ad) : FS := fsState
def fs_z_law_take (A : Ad) : FS := fsTake
def fs_law (A : Ad) : FS := fsLaw 63
inductive Out where
  | told (p : PV)
  | mal
  | refused (r : PV)
def outV : Out → PV
  | .told p => .tup [.str "told", p]
  | .mal => .tup [.str "malformed", .non]
  | .refused r => .tup [.str "refused", r]
/-! what a def gives -/
def outK (A : Ad) (Q : PQ) (R : XQ) : Out → Prop
  | .told p => Q p
  | .mal => R (mal A)
  | .refused r => R ⟨A.cR, some ("reason", r)⟩
theorem outK_t {A : Ad} {Q : PQ} {R : XQ} {p : PV} : outK A Q R (.told p) = Q p := rfl
theorem outK_m {A : Ad} {Q : PQ} {R : XQ} : outK A Q R .mal = R (mal A) := rfl
theorem outK_r {A : Ad} {Q : PQ} {R : XQ} {r : PV} : outK A Q R (.refused r) = R ⟨A.cR, some ("reason", r)⟩ := rfl
theorem outK_i {A : Ad} {Q : PQ} {R : XQ} {c : Prop} [Decidable c] {a b : Out} : outK A Q R (if c then a else b) = if c then outK A Q R a else outK A Q R b := by split <;> rfl
def fsO1 (A : Ad) (pre : PV → Prop) (m : PV → Out) : FS := fun ps Q R => match ps with
  | [p] => (okV (owns A) p = true ∧ pre p) ∧ outK A Q R (m p)
  | _ => False
def fsO2 (A : Ad) (pre : PV → PV → Prop) (m : PV → PV → Out) : FS := fun ps Q R => match ps with
  | [p, q] => (okV (owns A) p = true ∧ okV (owns A) q = true ∧ pre p q) ∧ outK A Q R (m p q)
  | _ => False
def fsO3 (A : Ad) (pre : PV → PV → PV → Prop) (m : PV → PV → PV → Out) : FS := fun ps Q R => match ps with
  | [p, q, r] => (okV (owns A) p = true ∧ okV (owns A) q = true ∧ okV (owns A) r = true ∧ pre p q r) ∧ outK A Q R (m p q r)
  | _ => False
def fsO4 (A : Ad) (pre : PV → PV → PV → PV → Prop) (m : PV → PV → PV → PV → Out) : FS := fun ps Q R => match ps with
  | [p, q, r, s] => (okV (owns A) p = true ∧ okV (owns A) q = true ∧ okV (owns A) r = true ∧ okV (owns A) s = true ∧ pre p q r s) ∧ outK A Q R (m p q r s)
  | _ => False
def fsN_z_law_same (A : Ad) : Nat → FS
  | 0 => fun _ _ _ => False
  | n + 1 => fsSame (n + 1)
def fs_z_law_same (A : Ad) : FS := fsN_z_law_same A 5
/-! rows and words -/
def toI : PV → Int
  | .int i => i
  | _ => 0
def unI : PV → List Int
  | .tup xs => xs.map toI
  | _ => []
def nnI : PV → Bool
  | .int i => decide (0 ≤ i)
  | _ => false
def isRow : PV → Bool
  | .tup xs => xs.all isI
  | _ => false
def headOk : List PV → Bool
  | .int i :: _ => decide (0 < i)
  | _ => true
def wordB : PV → Bool
  | .tup xs => xs.all isI && (decide (xs.length ≤ 200) && (xs.all nnI && headOk xs))
  | _ => false
def tlen : PV → Nat
  | .tup xs => xs.length
  | _ => 0
/-- a tuple of values as they are met -/
def okT (own : List Addr) : PV → Prop
  | .tup xs => xs.length ≤ 2000 ∧ ∀ p ∈ xs, okV own p = true
  | _ => True
def fs_is_whole_row (A : Ad) : FS := fun ps Q _ => match ps with
  | [p] => (okV (owns A) p = true ∧ okT (owns A) p) ∧ Q (.bl (isRow p))
  | _ => False
/-- without zeros ahead -/
def hd0 (ns : List Int) : List Int := ns.dropWhile (· == 0)
section
variable {own : List Addr} {p : PV} {ns : List Int}
theorem unI_row : unI (irow ns) = ns := by
  show (ns.map PV.int).map toI = ns
  rw [List.map_map]
  exact (List.map_congr_left fun _ _ => rfl).trans (List.map_id ns)
theorem isRow_row : isRow (irow ns) = true := by
  show (ns.map PV.int).all isI = true
  rw [List.all_eq_true]
  intro x hx
  obtain ⟨i, _, rfl⟩ := List.mem_map.mp hx
  rfl
theorem isI_ints : ∀ {xs : List PV}, xs.all isI = true → ∃ ns : List Int, xs = ns.map .int
  | [], _ => ⟨[], rfl⟩
  | x :: xs, h => by
    rw [List.all_cons, Bool.and_eq_true] at h
    obtain ⟨ns, rfl⟩ := isI_ints h.2
    cases x with
    | int i => exact ⟨i :: ns, rfl⟩
    | _ => cases h.1
theorem isRow_iff (h : isRow p = true) : ∃ ns : List Int, p = irow ns := by
  cases p with
  | tup xs =>
    obtain ⟨ns, rfl⟩ := isI_ints h
    exact ⟨ns, rfl⟩
  | _ => cases h
theorem okT_dat (h : dat p = true) : okT own p := by
  cases p with
  | tup xs =>
    obtain ⟨h1, h2⟩ := dat_tup_mem h
    exact ⟨h1, fun q hq => dat_okV (h2 q hq)⟩
  | _ => trivial
theorem okT_row (h : ns.length ≤ 2000) : okT own (irow ns) := okT_dat (dat_ints h)
theorem tlen_row : tlen (irow ns) = ns.length := by show (ns.map PV.int).length = _; simp
def wordI (ns : List Int) : Bool := decide (ns.length ≤ 200) && (ns.all (fun x => decide (0 ≤ x)) && (match ns with | i :: _ => decide (0 < i) | [] => true))
theorem wordB_row : wordB (irow ns) = wordI ns := by
  show ((ns.map PV.int).all isI && (decide ((ns.map PV.int).length ≤ 200) && ((ns.map PV.int).all nnI && headOk (ns.map PV.int)))) = _
  have e : (ns.map PV.int).all isI = true := isRow_row (ns := ns)
  rw [e, Bool.true_and, List.length_map, List.all_map]
  unfold wordI
  cases ns <;> rfl
theorem wordB_iff (h : wordB p = true) : ∃ ns : List Int, p = irow ns ∧ wordI ns = true := by
  cases p with
  | tup xs =>
    have h2 : xs.all isI = true := (Bool.and_eq_true_iff.mp h).1
    obtain ⟨ns, rfl⟩ := isI_ints h2
    exact ⟨ns, rfl, by rw [← wordB_row]; exact h⟩
  | _ => cases h
end
/-! Ratios -/
def fs_common (A : Ad) : FS := fun ps Q _ => match ps with
  | [.int a, .int b] => Q (.int (Int.gcd a b))
  | _ => False
def fs_check_ratio (A : Ad) : FS := fun ps Q R => match ps with
  | [p] => okV [A.kRatio] p = true ∧ (if isO A.kRatio p = true then Q .non else R (mal A))
  | _ => False
def fs_Ratio_floor (A : Ad) : FS := fun ps Q _ => match ps with
  | [.obj C ns [.int n, .int d]] => ((C = A.kRatio ∧ ns = (["n", "d"] : List Str)) ∧ divOk d) ∧ Q (.int (n.fdiv d))
  | _ => False
def fs_Ratio_times (A : Ad) : FS := fun ps Q _ => match ps with
  | [.obj C ns [.int n, .int d], .int k] => ((C = A.kRatio ∧ ns = (["n", "d"] : List Str)) ∧ mulOk n k ∧ d ≠ 0 ∧ d.natAbs < 2 ^ 8000) ∧ Q (rat A.kRatio (ratN (n * k) d) (ratD (n * k) d))
  | _ => False
def fs_Ratio_sub (A : Ad) : FS := fun ps Q _ => match ps with
  | [.obj C ns [.int n, .int d], .obj C2 ns2 [.int m, .int e]] => ((C = A.kRatio ∧ ns = (["n", "d"] : List Str)) ∧ (C2 = A.kRatio ∧ ns2 = (["n", "d"] : List Str)) ∧ mulOk n e ∧ mulOk m d ∧ mulOk d e ∧ d * e ≠ 0 ∧ (d * e).natAbs < 2 ^ 8000) ∧ Q (rat A.kRatio (ratN (n * e - m * d) (d * e)) (ratD (n * e - m * d) (d * e)))
  | _ => False
def fs_Ratio_add (A : Ad) : FS := fun ps Q _ => match ps with
  | [.obj C ns [.int n, .int d], .obj C2 ns2 [.int m, .int e]] => ((C = A.kRatio ∧ ns = (["n", "d"] : List Str)) ∧ (C2 = A.kRatio ∧ ns2 = (["n", "d"] : List Str)) ∧ mulOk n e ∧ mulOk m d ∧ mulOk d e ∧ d * e ≠ 0 ∧ (d * e).natAbs < 2 ^ 8000) ∧ Q (rat A.kRatio (ratN (n * e + m * d) (d * e)) (ratD (n * e + m * d) (d * e)))
  | _ => False
def fs_Ratio_mul (A : Ad) : FS := fun ps Q _ => match ps with
  | [.obj C ns [.int n, .int d], .obj C2 ns2 [.int m, .int e]] => ((C = A.kRatio ∧ ns = (["n", "d"] : List Str)) ∧ (C2 = A.kRatio ∧ ns2 = (["n", "d"] : List Str)) ∧ mulOk n m ∧ mulOk d e ∧ d * e ≠ 0 ∧ (d * e).natAbs < 2 ^ 8000) ∧ Q (rat A.kRatio (ratN (n * m) (d * e)) (ratD (n * m) (d * e)))
  | _ => False
theorem rat_g {n d : Int} (hd : 0 < d) : ∃ g : Int, 0 < g ∧ n = g * ratN n d ∧ d = g * ratD n d ∧ 0 < ratD n d := by
  have hg : 0 < Int.gcd n d := Int.gcd_pos_of_ne_zero_right _ (by omega)
  have hg' : (0 : Int) < Int.gcd n d := by omega
  have e1 : ratN n d = n / Int.gcd n d := by unfold ratN; rw [if_pos hd, fdiv_e (by omega)]
  have e2 : ratD n d = d / Int.gcd n d := by
    unfold ratD
    rw [fdiv_e (by omega)]
    congr 1
    omega
  have d1 := Int.mul_ediv_cancel' (Int.gcd_dvd_left n d)
  have d2 := Int.mul_ediv_cancel' (Int.gcd_dvd_right n d)
  refine ⟨_, hg', by rw [e1]; exact d1.symm, by rw [e2]; exact d2.symm, ?_⟩
  rw [e2]
  rcases Int.lt_or_le 0 (d / (Int.gcd n d : Int)) with h | h
  · exact h
  · have := Int.mul_le_mul_of_nonneg_left h (Int.le_of_lt hg')
    rw [d2] at this
    omega
theorem ratN_neg {n d : Int} (hd : 0 < d) : (ratN n d < 0 ↔ n < 0) ∧ (0 < ratN n d ↔ 0 < n) := by
  obtain ⟨g, hg, e1, _, _⟩ := rat_g (n := n) hd
  constructor
  · constructor
    · intro h
      have := Int.mul_lt_mul_of_pos_left h hg
      omega
    · intro h
      rcases Int.lt_or_le (ratN n d) 0 with h2 | h2
      · exact h2
      · have := Int.mul_le_mul_of_nonneg_left h2 (Int.le_of_lt hg)
        omega
  · constructor
    · intro h
      have := Int.mul_lt_mul_of_pos_left h hg
      omega
    · intro h
      rcases Int.lt_or_le 0 (ratN n d) with h2 | h2
      · exact h2
      · have := Int.mul_le_mul_of_nonneg_left h2 (Int.le_of_lt hg)
        omega
theorem ratFl {n d : Int} (hd : 0 < d) : (ratN n d).fdiv (ratD n d) = n / d := by
  obtain ⟨g, hg, e1, e2, e3⟩ := rat_g (n := n) hd
  rw [fdiv_e (by omega)]
  have e := Int.mul_ediv_mul_of_pos (ratN n d) (ratD n d) hg
  rw [← e1, ← e2] at e
  exact e.symm
theorem ratD_le {n d : Int} (hd : 0 < d) : 0 < ratD n d ∧ ratD n d ≤ d := by
  obtain ⟨g, hg, e1, e2, e3⟩ := rat_g (n := n) hd
  refine ⟨e3, ?_⟩
  have := Int.mul_le_mul_of_nonneg_right (show 1 ≤ g by omega) (Int.le_of_lt e3)
  omega
theorem ratN_abs {n d : Int} (hd : 0 < d) : (ratN n d).natAbs ≤ n.natAbs := by
  obtain ⟨g, hg, e1, e2, e3⟩ := rat_g (n := n) hd
  have : n.natAbs = g.natAbs * (ratN n d).natAbs := by rw [← Int.natAbs_mul, ← e1]
  rw [this]
  exact Nat.le_mul_of_pos_left _ (by omega)
def w_is_integer (A : Ad) : WSt :=
  (wRet (wAndV (wIsi (ansTy (owns A) "int") (wVar 0)) (wNotV (wIsi (ansTy (owns A) "bool") (wVar 0)))))
def w_is_count (A : Ad) : WSt :=
  (wRet (wAndV (wCall (oFn 1 (fs_is_integer A)) (wCons (wVar 0) wNil)) (wChain oLe oLe (wVar 1) (wVar 0) (wVar 2))))
def w_check_count (A : Ad) : WSt :=
  (wIf (wNot (wT (wCall (oFn 3 (fs_is_count A)) (wCons (wVar 0) (wCons (wVar 1) (wCons (wVar 2) wNil)))))) (wRaise (mal A)) wNext)
def w_is_whole_row (A : Ad) : WSt :=
  (wRet (wAndV (wIsi (ansTy (owns A) "tuple") (wVar 0)) (wCall cAll (wCons (wComp (wiSeq true (wVar 0)) (.name 1) wYes (wCall (oFn 1 (fs_is_integer A)) (wCons (wVar 1) wNil)) [1]) wNil))))
def w_common (A : Ad) : WSt :=
  (wSeq (wPar 0 1 false false (wCall cAbs (wCons (wVar 0) wNil)) (wCall cAbs (wCons (wVar 1) wNil)))
  (wSeq (wWhile (wT (wOp oGt (wVar 1) (wC (.int 0)))) (wPar 0 1 false false (wVar 1) (wOp oMod (wVar 0) (wVar 1))))
  (wRet (wVar 0))))
def w1_Ratio (A : Ad) : WSt :=
  (wIf (wOr (wNot (wT (wCall (oFn 1 (fs_is_integer A)) (wCons (wVar 1) wNil)))) (wNot (wT (wCall (oFn 1 (fs_is_integer A)) (wCons (wVar 2) wNil))))) (wRaise (mal A)) wNext)
def w2_Ratio (A : Ad) : WSt :=
  (wIf (wT (wOp oEq (wVar 2) (wC (.int 0)))) (wRaiseF A.cR "reason" (wC (.str "zero"))) wNext)
def w3_Ratio (A : Ad) : WSt :=
  (wSet 3 (wCall (oFn 2 (fs_common A)) (wCons (wVar 1) (wCons (wVar 2) wNil))))
def w4_Ratio (A : Ad) : WEx :=
  (wIfE (wT (wOp oGt (wVar 2) (wC (.int 0)))) (wOp oDiv (wVar 1) (wVar 3)) (wOp oDiv (wNeg (wVar 1)) (wVar 3)))
def w5_Ratio (A : Ad) : WEx :=
  (wOp oDiv (wCall cAbs (wCons (wVar 2) wNil)) (wVar 3))
def w_Ratio_add (A : Ad) : WSt :=
  (wSeq (wExpr (wCall (oFn 1 (fs_check_ratio A)) (wCons (wVar 1) wNil)))
  (wRet (wMake A.kRatio (wLen 2 (wCons (wOp oAdd (wOp oMulA (wFld A.kRatio "n" (wVar 0)) (wFld A.kRatio "d" (wVar 1))) (wOp oMulA (wFld A.kRatio "n" (wVar 1)) (wFld A.kRatio "d" (wVar 0)))) (wCons (wOp oMulA (wFld A.kRatio "d" (wVar 0)) (wFld A.kRatio "d" (wVar 1))) wNil))))))
def w_Ratio_sub (A : Ad) : WSt :=
  (wSeq (wExpr (wCall (oFn 1 (fs_check_ratio A)) (wCons (wVar 1) wNil)))
  (wRet (wMake A.kRatio (wLen 2 (wCons (wOp oSub (wOp oMulA (wFld A.kRatio "n" (wVar 0)) (wFld A.kRatio "d" (wVar 1))) (wOp oMulA (wFld A.kRatio "n" (wVar 1)) (wFld A.kRatio "d" (wVar 0)))) (wCons (wOp oMulA (wFld A.kRatio "d" (wVar 0)) (wFld A.kRatio "d" (wVar 1))) wNil))))))
def w_Ratio_mul (A : Ad) : WSt :=
  (wSeq (wExpr (wCall (oFn 1 (fs_check_ratio A)) (wCons (wVar 1) wNil)))
  (wRet (wMake A.kRatio (wLen 2 (wCons (wOp oMulA (wFld A.kRatio "n" (wVar 0)) (wFld A.kRatio "n" (wVar 1))) (wCons (wOp oMulA (wFld A.kRatio "d" (wVar 0)) (wFld A.kRatio "d" (wVar 1))) wNil))))))
def w_Ratio_times (A : Ad) : WSt :=
  (wRet (wMake A.kRatio (wLen 2 (wCons (wOp oMulA (wFld A.kRatio "n" (wVar 0)) (wVar 1)) (wCons (wFld A.kRatio "d" (wVar 0)) wNil)))))
def w_Ratio_floor (A : Ad) : WSt :=
  (wRet (wOp oDiv (wFld A.kRatio "n" (wVar 0)) (wFld A.kRatio "d" (wVar 0))))
def w_check_ratio (A : Ad) : WSt :=
  (wIf (wNot (wT (wIsi (ansCls [] A.kRatio) (wVar 0)))) (wRaise (mal A)) wNext)
def w_z_law_state (A : Ad) : WSt :=
  (wSeq (wSet 1 (wC (.int 0)))
  (wSeq (wSet 2 (wC (.int 1)))
  (wSeq (wFor (wiSeq false (wSl (wVar 0) wPn (wPs (wC (.int 63))))) (.name 3) (wSeq (wSet 1 (wOp oAdd (wOp oMulA (wVar 1) (wC (.int 1000003))) (wCall cAbs (wCons (wVar 3) wNil))))
  (wSet 2 (wOp oMod (wCall cInt (wCons (wOp oAdd (wOp oMulA (wVar 2) (wC (.int 48271))) (wVar 3)) wNil)) (wC (.int 2147483647))))))
  (wRet (wLst (wCons (wVar 1) (wCons (wIfE (wT (wOp oNe (wVar 2) (wC (.int 1973665155)))) (wVar 2) (wC (.int 7))) wNil)))))))
def w_z_law_take (A : Ad) : WSt :=
  (wSeq (wIf (wT (wOp oGt (wSt0 0) (wC (.int 0)))) (wSeq (wSet 2 (wOp oMod (wCall cInt (wCons (wSt0 0) wNil)) (wVar 1)))
  (wSeq (wSt0S 0 (wOp oDiv (wSt0 0) (wVar 1)))
  (wRet (wVar 2)))) wNext)
  (wSeq (wSt1S 0 (wOp oMod (wCall cInt (wCons (wOp oAdd (wOp oMulA (wSt1 0) (wC (.int 48271))) (wC (.int 11))) wNil)) (wC (.int 2147483647))))
  (wRet (wOp oMod (wCall cInt (wCons (wOp oDiv (wSt1 0) (wC (.int 7))) wNil)) (wVar 1)))))
def w_z_law_is_whole (A : Ad) : WSt :=
  (wRet (wAndV (wIsi (ansTy (owns A) "int") (wVar 0)) (wNotV (wIsi (ansTy (owns A) "bool") (wVar 0)))))
def w_z_law_same (A : Ad) (rec : FS) : WSt :=
  (wSeq (wIf (wT (wIsi (ansTy (owns A) "bool") (wVar 1))) (wRet (wAndV (wIsi (ansTy (owns A) "bool") (wVar 0)) (wOp oEq (wVar 0) (wVar 1)))) wNext)
  (wSeq (wIf (wT (wIsi (ansTy (owns A) "tuple") (wVar 1))) (wRet (wAndV (wIsi (ansTy (owns A) "tuple") (wVar 0)) (wAndV (wOp oEq (wCall cLen (wCons (wVar 0) wNil)) (wCall cLen (wCons (wVar 1) wNil))) (wCall cAll (wCons (wComp (wiRg1 (wCall cLen (wCons (wVar 1) wNil))) (.name 2) wYes (wCall (oFn 2 rec) (wCons (wOp oIx (wVar 0) (wVar 2)) (wCons (wOp oIx (wVar 1) (wVar 2)) wNil))) [2]) wNil))))) wNext)
  (wSeq (wIf (wT (wIsi (ansTy (owns A) "list") (wVar 1))) (wRet (wAndV (wIsi (ansTy (owns A) "tuple") (wVar 0)) (wCall (oFn 2 rec) (wCons (wVar 0) (wCons (wCall cTuple (wCons (wVar 1) wNil)) wNil))))) wNext)
  (wSeq (wIf (wT (wIsi (ansTy (owns A) "str") (wVar 1))) (wRet (wAndV (wIsi (ansTy (owns A) "str") (wVar 0)) (wOp oEq (wVar 0) (wVar 1)))) wNext)
  (wSeq (wIf (wT (wIsN (wVar 1))) (wRet (wIsN (wVar 0))) wNext)
  (wRet (wAndV (wCall (oFn 1 (fs_z_law_is_whole A)) (wCons (wVar 0) wNil)) (wOp oEq (wVar 0) (wVar 1)))))))))
theorem p_is_integer (A : Ad) (hA : A.Ok) : ∀ qs Q R, qs.length = 1 → fs_is_integer A qs Q R → w_is_integer A (fnEnds Q R) (startP 1 qs)
  | [p], Q, R, _, ⟨ho, h⟩ => by
    simp? only [w_is_integer, ho]
    cases p <;> first | (cases ho; done) | (simpa [isI, isTy] using h)
theorem p_z_law_is_whole (A : Ad) (hA : A.Ok) : ∀ qs Q R, qs.length = 1 → fs_z_law_is_whole A qs Q R → w_z_law_is_whole A (fnEnds Q R) (startP 1 qs)
  | [p], Q, R, _, ⟨ho, h⟩ => by
    simp? only [w_z_law_is_whole, ho]
    cases p <;> first | (cases ho; done) | (simpa [isI, isTy] using h)
theorem p_is_count (A : Ad) (hA : A.Ok) : ∀ qs Q R, qs.length = 3 → fs_is_count A qs Q R → w_is_count A (fnEnds Q R) (startP 3 qs)
  | [p, .int lo, .int hi], Q, R, _, ⟨ho, h⟩ => by
    have hp := okV_plain ho
    simp? only [w_is_count, ho, hp, fs_is_integer, fsIsInt]
    cases p with
    | int i =>
      simp only [cnt] at h
      simp? only [isI]
      by_cases h1 : lo ≤ i <;> simp [h1] at h ⊢ <;> exact h
    | non => exact h
    | bl _ => exact h
    | str _ => exact h
    | tup _ => exact h
    | lst _ => exact h
    | obj _ _ _ => exact h
    | _ => cases ho
theorem p_check_count (A : Ad) (hA : A.Ok) : ∀ qs Q R, qs.length = 3 → fs_check_count A qs Q R → w_check_count A (fnEnds Q R) (startP 3 qs)
  | [p, .int lo, .int hi], Q, R, _, ⟨ho, h⟩ => by
    have hp := okV_plain ho
    simp? only [w_check_count, ho, hp, fs_is_count, fsIsCount]
    cases hc : cnt p lo hi <;> simp [hc] at h ⊢ <;> exact h
theorem p_z_law_take (A : Ad) (hA : A.Ok) : ∀ qs Q R, qs.length = 2 → fs_z_law_take A qs Q R → w_z_law_take A (fnEnds Q R) (startP 3 qs)
  | [.st, .int m], Q, R, _, ⟨⟨h0, h1⟩, h⟩ => by
    simp? only [w_z_law_take]
    intro x hx
    have hm : m ≠ 0 := by omega
    split
    · exact fun y hy => ⟨hm, fun z hz => ⟨divOk_of h0 h1, fdiv_nn hz h0, h _ (fmod_b h0)⟩⟩
    · rintro y ⟨hy, hy2⟩
      refine ⟨mulOk_of (a := 31) (b := 31) (by omega) (by decide) (by decide), by decide, (fmod_b (by decide)).1, (fmod_b (by decide)).2, ?_⟩
      rintro z -
      exact ⟨divOk_7, hm, h _ (fmod_b h0)⟩
theorem p_z_law_state (A : Ad) (hA : A.Ok) : ∀ qs Q R, qs.length = 1 → fs_z_law_state A qs Q R → w_z_law_state A (fnEnds Q R) (startP 4 qs) := by
  rintro qs Q R - ⟨ns, rfl, ⟨hl, hb⟩, h⟩
  simp? only [w_z_law_state]
  have hcut : cutP (ns.map PV.int) none (some 63) = ns.map PV.int := cutP_whole (by
    rw [List.length_map]
    exact ⟨rfl, by show min (63 : Int).toNat ns.length = ns.length; omega⟩)
  rw [hcut]
  refine loopS_st (σ := Int × Int × Option PV) (fun s => [some (.scr (ns.map PV.int)), some (.int s.1), some (.int s.2.1), s.2.2]) (fun i s => 0 ≤ s.1 ∧ s.1.natAbs < 2 ^ (1048577 + 22 * i) ∧ 0 ≤ s.2.1 ∧ s.2.1 < 2147483647) (0, 1, none) ⟨rfl, by decide, Nat.pow_pos (by decide), by decide, by decide⟩ ?_ ?_
  · rintro i ⟨a, b, c⟩ p ⟨h1, h2, h3, h4⟩ hp
    have hi : i < 63 := by
      have := (List.getElem?_eq_some_iff.mp hp).1
      rw [List.length_map] at this
      omega
    rw [List.getElem?_map] at hp
    obtain ⟨z, hz, rfl⟩ := Option.map_eq_some_iff.mp hp
    have hzb := hb z (List.mem_of_getElem? hz)
    simp? only []
    dsimp only at h1 h2 h3 h4
    refine ⟨mulOk_of h2 (b := 20) (by decide) (by omega), mulOk_of (a := 31) (b := 16) (by omega) (by decide) (by decide), by decide, ⟨_, _, some (.int z)⟩, rfl, ?_, ?_, (fmod_b (by decide)).1, (fmod_b (by decide)).2⟩
    · dsimp only
      omega
    · dsimp only
      exact seed_grow h1 h2 hzb
  · rintro ⟨a, b, c⟩ ⟨h1, h2, h3, h4⟩
    dsimp only at h1 h2 h3 h4
    simp? only []
    by_cases hb : b = 1973665155
    · simp only [hb, decide_true, Bool.not_true, Bool.false_eq_true, if_false]
      exact h _ _ h1 (by decide) (by decide)
    · simp only [hb, decide_false, Bool.not_false, if_true]
      exact h _ _ h1 h3 h4
theorem p_z_law_same (A : Ad) (hA : A.Ok) (n : Nat) : ∀ qs Q R, qs.length = 2 → fsN_z_law_same A (n + 1) qs Q R → w_z_law_same A (fsN_z_law_same A n) (fnEnds Q R) (startP 3 qs)
  | [p, q], Q, R, _, ⟨⟨hp, hq, hs⟩, h⟩ => by
    match p, q, hs with
    | .bl a, .bl b, hs =>
      have e : a = b := by simpa [sm] using hs
      subst e
      simp? only [w_z_law_same, oEq_bl]
      simpa using h
    | .str a, .str b, hs =>
      have e : a = b ∧ SeqAt.shaped (.str a) = true := by simpa [sm] using hs
      obtain ⟨rfl, e⟩ := e
      simp? only [w_z_law_same, oEq_str, e]
      simpa using h
    | .int a, .int b, hs =>
      have e : a = b := by simpa [sm] using hs
      subst e
      simp? only [w_z_law_same, fs_z_law_is_whole, fsIsInt, isI]
      simpa using h
    | .non, .non, hs =>
      simp? only [w_z_law_same]
      exact h
    | .tup xs, .lst ys, hs =>
      have e : sm n (.tup xs) (.tup ys) = true := by
        have := hs
        simp only [sm, Bool.and_eq_true] at this
        exact this.2
      have hy : dat (.tup ys) = true := by rw [dat_tup]; rw [dat_lst] at hq; exact hq
      cases n with
      | zero => cases e
      | succ n =>
        simp? only [w_z_law_same, fsN_z_law_same, fsSame]
        exact ⟨⟨hp, hy, e⟩, h⟩
    | .tup xs, .tup ys, hs =>
      have e : (xs.length = ys.length ∧ ys.length ≤ 2000) ∧ ∀ k, k < ys.length → dat (xs.getD k .non) = true ∧ dat (ys.getD k .non) = true ∧ sm n (xs.getD k .non) (ys.getD k .non) = true := by
        simp only [sm, Bool.and_eq_true, decide_eq_true_eq, List.all_eq_true, List.mem_range] at hs
        exact ⟨hs.1, fun k hk => ⟨(hs.2 k hk).1.1, (hs.2 k hk).1.2, (hs.2 k hk).2⟩⟩
      obtain ⟨⟨e1, e2⟩, e3⟩ := e
      cases n with
      | zero =>
        have hy : ys = [] := by
          cases ys with
          | nil => rfl
          | cons y ys => exact absurd (e3 0 (by simp)).2.2 (by simp [sm])
        subst hy
        have hx : xs = [] := List.eq_nil_of_length_eq_zero e1
        subst hx
        simp? only [w_z_law_same]
        refine ⟨rgOk_of (by decide) (by decide), ?_⟩
        refine comp_yes [] rfl (by rw [rgP_len]; decide) (fun i p y hp _ => absurd (rgP_get hp).2 (Nat.not_lt_zero _)) ?_
        simp? only [cAll_nil]
        exact h
      | succ n =>
        have e4 : ((xs.length : Int) = ys.length) := by omega
        simp? only [w_z_law_same, e4]
        refine ⟨rgOk_of (by omega) (by omega), ?_⟩
        refine comp_yes ((List.replicate ys.length true).map .bl) (by rw [rgP_len]; simp) (by rw [rgP_len, sizeLine_eq]; omega) (fun i p y hp hy => ?_) ?_
        · obtain ⟨rfl, hi⟩ := rgP_get hp
          have hi : i < ys.length := by omega
          obtain ⟨d1, d2, d3⟩ := e3 i hi
          have g1 : xs[i]? = some (xs.getD i .non) := by rw [List.getD_eq_getElem?_getD, List.getElem?_eq_getElem (by omega)]; rfl
          have g2 : ys[i]? = some (ys.getD i .non) := by rw [List.getD_eq_getElem?_getD, List.getElem?_eq_getElem hi]; rfl
          have ey : y = .bl true := by
            rw [List.getElem?_map, List.getElem?_replicate, if_pos hi] at hy
            exact (Option.some.inj hy).symm
          subst ey
          simp? only []
          rw [Int.zero_add]
          refine ixP_at g1 ?_
          refine ixP_at g2 ?_
          generalize xs.getD i .non = u at *
          generalize ys.getD i .non = v at *
          have q1 := dat_plain d1
          have q2 := dat_plain d2
          simp? only [q1, q2, fsN_z_law_same, fsSame]
          exact ⟨d1, d2, d3⟩
        · simp? only []
          have e : (List.replicate ys.length true).all id = true := by simp
          rw [e]
          exact h
theorem p_is_whole_row (A : Ad) (hA : A.Ok) : ∀ qs Q R, qs.length = 1 → fs_is_whole_row A qs Q R → w_is_whole_row A (fnEnds Q R) (startP 2 qs)
  | [p], Q, R, _, ⟨⟨ho, ht⟩, h⟩ => by
    have hp := okV_plain ho
    simp? only [w_is_whole_row, ho]
    cases p with
    | tup xs =>
      obtain ⟨hl, hx⟩ := ht
      simp? only [isTy]
      refine comp_bl isI (by rw [sizeLine_eq]; omega) (fun p hp => ?_) ?_
      · have q2 := hx p hp
        have q1 := okV_plain q2
        simp? only [fs_is_integer, fsIsInt, q1, q2]
      · simp? only []
        have e : (xs.map isI).all id = isRow (.tup xs) := by simp [isRow, List.all_map]
        rw [e]
        exact h
    | non => exact h
    | bl _ => exact h
    | int _ => exact h
    | str _ => exact h
    | lst _ => exact h
    | obj _ _ _ => exact h
    | _ => cases ho
theorem p_common (A : Ad) (hA : A.Ok) : ∀ qs Q R, qs.length = 2 → fs_common A qs Q R → w_common A (fnEnds Q R) (startP 2 qs)
  | [.int a, .int b], Q, R, _, h => by
    simp? only [w_common]
    refine whileS_sl (σ := Nat × Nat) (fun s => [(0, some (.int s.1)), (1, some (.int s.2))]) (fun s => Nat.gcd s.1 s.2 = Int.gcd a b) (fun s => s.2) (a.natAbs, b.natAbs) ⟨rfl, rfl⟩ ?_
    rintro ⟨x, y⟩ hg
    dsimp only at hg
    simp? only []
    by_cases hy : y = 0
    · subst hy
      simp only [show ¬ ((0 : Int) < ((0 : Nat) : Int)) by decide, decide_false, Bool.false_eq_true, if_false]
      rw [Nat.gcd_zero_right] at hg
      rw [hg]
      exact h
    · have hy' : (0 : Int) < (y : Int) := by omega
      simp only [hy', decide_true, if_true]
      refine ⟨by omega, ⟨y, x % y⟩, ?_, ?_, Nat.mod_lt _ (by omega)⟩
      · rw [fmod_e (by omega)]
        rfl
      · rw [← hg, Nat.gcd_comm x y]
        exact (Nat.gcd_rec y x).symm ▸ (Nat.gcd_comm y (x % y)) ▸ rfl
theorem p_check_ratio (A : Ad) (hA : A.Ok) : ∀ qs Q R, qs.length = 1 → fs_check_ratio A qs Q R → w_check_ratio A (fnEnds Q R) (startP 1 qs)
  | [p], Q, R, _, ⟨ho, h⟩ => by
    have hp := okV_plain ho
    simp? only [w_check_ratio, hp]
    rw [oIsC_ok ho]
    simp? only []
    cases hi : isO A.kRatio p <;> rw [hi] at h <;> exact h
theorem divOk_up {j : Int} (h : 0 < j) (h2 : j.natAbs < 2 ^ 8000) : divOk j := ⟨by omega, Nat.lt_of_lt_of_le ((Nat.log2_lt (by omega)).mpr h2) (by decide)⟩
theorem p_Ratio_init (A : Ad) (hA : A.Ok) : InitPure (w1_Ratio A) (w2_Ratio A) (w3_Ratio A) (w4_Ratio A) (w5_Ratio A) := by
  intro x n d hd hd2
  have hg : 0 < Int.gcd n d := Int.gcd_pos_of_ne_zero_right _ hd
  have hgl : Int.gcd n d ≤ d.natAbs := Nat.le_of_dvd (by omega) (Nat.gcd_dvd_right _ _)
  have hdv : divOk (Int.gcd n d : Int) := divOk_up (by omega) (by
    have : ((Int.gcd n d : Nat) : Int).natAbs = Int.gcd n d := by omega
    rw [this]
    exact Nat.lt_of_le_of_lt hgl hd2)
  simp? only [w1_Ratio, w2_Ratio, w3_Ratio, nxE, fs_is_integer, fsIsInt, isI, hd, fs_common]
  refine ⟨_, rfl, ?_, ?_⟩
  · simp? only [w4_Ratio]
    unfold ratN
    by_cases h0 : 0 < d
    · simp only [h0, decide_true, if_true]
      simp? only []
      exact hdv
    · simp only [h0, decide_false, Bool.false_eq_true, if_false]
      simp? only []
      exact hdv
  · simp? only [w5_Ratio]
    unfold ratD
    exact ⟨hdv, rfl⟩
theorem p_Ratio_floor (A : Ad) (hA : A.Ok) : ∀ qs Q R, qs.length = 1 → fs_Ratio_floor A qs Q R → w_Ratio_floor A (fnEnds Q R) (startP 1 qs)
  | [.obj C ns [.int n, .int d]], Q, R, _, ⟨⟨⟨c1, c2⟩, hd⟩, h⟩ => by
    subst c1 c2
    simp? only [w_Ratio_floor]
    exact ⟨hd, h⟩
theorem p_Ratio_times (A : Ad) (hA : A.Ok) : ∀ qs Q R, qs.length = 2 → fs_Ratio_times A qs Q R → w_Ratio_times A (fnEnds Q R) (startP 2 qs)
  | [.obj C ns [.int n, .int d], .int k], Q, R, _, ⟨⟨⟨c1, c2⟩, hm, hd⟩, h⟩ => by
    subst c1 c2
    simp? only [w_Ratio_times]
    exact ⟨hm, hd, h⟩
theorem p_Ratio_sub (A : Ad) (hA : A.Ok) : ∀ qs Q R, qs.length = 2 → fs_Ratio_sub A qs Q R → w_Ratio_sub A (fnEnds Q R) (startP 2 qs)
  | [.obj C ns [.int n, .int d], .obj C2 ns2 [.int m, .int e]], Q, R, _, ⟨⟨⟨c1, c2⟩, ⟨c3, c4⟩, h1, h2, h3, h4⟩, h⟩ => by
    subst c1 c2 c3 c4
    have i0 : isO A.kRatio (rat A.kRatio m e) = true := by simp [isO]
    have i1 : okV [A.kRatio] (rat A.kRatio m e) = true := by simp [okV]
    simp? only [w_Ratio_sub, fs_check_ratio, i0, i1]
    exact ⟨h1, h2, h3, h4, h⟩
theorem p_Ratio_add (A : Ad) (hA : A.Ok) : ∀ qs Q R, qs.length = 2 → fs_Ratio_add A qs Q R → w_Ratio_add A (fnEnds Q R) (startP 2 qs)
  | [.obj C ns [.int n, .int d], .obj C2 ns2 [.int m, .int e]], Q, R, _, ⟨⟨⟨c1, c2⟩, ⟨c3, c4⟩, h1, h2, h3, h4⟩, h⟩ => by
    subst c1 c2 c3 c4
    have i0 : isO A.kRatio (rat A.kRatio m e) = true := by simp [isO]
    have i1 : okV [A.kRatio] (rat A.kRatio m e) = true := by simp [okV]
    simp? only [w_Ratio_add, fs_check_ratio, i0, i1]
    exact ⟨h1, h2, h3, h4, h⟩
theorem p_Ratio_mul (A : Ad) (hA : A.Ok) : ∀ qs Q R, qs.length = 2 → fs_Ratio_mul A qs Q R → w_Ratio_mul A (fnEnds Q R) (startP 2 qs)
  | [.obj C ns [.int n, .int d], .obj C2 ns2 [.int m, .int e]], Q, R, _, ⟨⟨⟨c1, c2⟩, ⟨c3, c4⟩, h1, h2, h3⟩, h⟩ => by
    subst c1 c2 c3 c4
    have i0 : isO A.kRatio (rat A.kRatio m e) = true := by simp [isO]
    have i1 : okV [A.kRatio] (rat A.kRatio m e) = true := by simp [okV]
    simp? only [w_Ratio_mul, fs_check_ratio, i0, i1]
    exact ⟨h1, h2, h3, h⟩
/-! ### fractions, the denominator of either sign -/
theorem rat_flip {n d : Int} (hd : d < 0) : ratN n d = ratN (-n) (-d) ∧ ratD n d = ratD (-n) (-d) := by
  constructor
  · unfold ratN
    rw [if_neg (by omega), if_pos (by omega), Int.gcd_neg, Int.neg_gcd]
  · unfold ratD
    rw [Int.natAbs_neg, Int.gcd_neg, Int.neg_gcd]
theorem ratMP {n d : Int} (hd : 0 < d) : ratN n d * d = n * ratD n d := by
  obtain ⟨g, hg, e1, e2, e3⟩ := rat_g (n := n) hd
  generalize ratN n d = N at *
  generalize ratD n d = D at *
  subst e1 e2
  grind
/-- a fraction and its least form -/
theorem ratM {n d : Int} (hd : d ≠ 0) : ratN n d * d = n * ratD n d ∧ 0 < ratD n d := by
  rcases Int.lt_or_lt_of_ne hd with h | h
  · obtain ⟨a, b⟩ := rat_flip (n := n) h
    have := ratMP (n := -n) (d := -d) (by omega)
    rw [← a, ← b, Int.mul_neg, Int.neg_mul] at this
    refine ⟨by omega, ?_⟩
    rw [b]
    exact (ratD_le (by omega)).1
  · exact ⟨ratMP h, (ratD_le h).1⟩
theorem rat_scaleP {c n d : Int} (hc : 0 < c) (hd : 0 < d) : ratN (c * n) (c * d) = ratN n d ∧ ratD (c * n) (c * d) = ratD n d := by
  have cd := Int.mul_pos hc hd
  have g : ((Int.gcd (c * n) (c * d) : Nat) : Int) = c * (Int.gcd n d : Int) := by
    rw [Int.gcd_mul_left, Int.natCast_mul, Int.natAbs_of_nonneg (by omega)]
  have hg : (0 : Int) < Int.gcd n d := by
    have := Int.gcd_pos_of_ne_zero_right n (show d ≠ 0 by omega)
    omega
  have hcg := Int.mul_pos hc hg
  have a1 : ((c * d).natAbs : Int) = c * d := by omega
  have a2 : (d.natAbs : Int) = d := by omega
  constructor
  · unfold ratN
    rw [if_pos cd, if_pos hd, g, fdiv_e (by omega), fdiv_e (by omega), Int.mul_ediv_mul_of_pos _ _ hc]
  · unfold ratD
    rw [g, a1, a2, fdiv_e (by omega), fdiv_e (by omega), Int.mul_ediv_mul_of_pos _ _ hc]
theorem rat_crossP {n d a b : Int} (h1 : 0 < d) (h2 : 0 < b) (h3 : n * b = a * d) : ratN n d = ratN a b ∧ ratD n d = ratD a b := by
  obtain ⟨s1, s2⟩ := rat_scaleP (c := b) (n := n) h2 h1
  obtain ⟨t1, t2⟩ := rat_scaleP (c := d) (n := a) h1 h2
  rw [← s1, ← s2, ← t1, ← t2, Int.mul_comm b n, h3, Int.mul_comm a d, Int.mul_comm b d]
  exact ⟨rfl, rfl⟩
theorem rat_cross {n d a b : Int} (h1 : d ≠ 0) (h2 : b ≠ 0) (h3 : n * b = a * d) : ratN n d = ratN a b ∧ ratD n d = ratD a b := by
  rcases Int.lt_or_lt_of_ne h1 with h | h <;> rcases Int.lt_or_lt_of_ne h2 with k | k
  · rw [(rat_flip (n := n) h).1, (rat_flip (n := n) h).2, (rat_flip (n := a) k).1, (rat_flip (n := a) k).2]
    exact rat_crossP (by omega) (by omega) (by rw [Int.neg_mul_neg, Int.neg_mul_neg]; exact h3)
  · rw [(rat_flip (n := n) h).1, (rat_flip (n := n) h).2]
    exact rat_crossP (by omega) k (by rw [Int.neg_mul, Int.mul_neg, h3])
  · rw [(rat_flip (n := a) k).1, (rat_flip (n := a) k).2]
    exact rat_crossP h (by omega) (by rw [Int.neg_mul, Int.mul_neg, h3])
  · exact rat_crossP h k h3
/-- two fractions are one where their least forms are -/
theorem rat_inj {n d a b : Int} (h1 : d ≠ 0) (h2 : b ≠ 0) (e : ratN n d = ratN a b) (f : ratD n d = ratD a b) : n * b = a * d := by
  obtain ⟨p1, p2⟩ := ratM (n := n) h1
  obtain ⟨q1, q2⟩ := ratM (n := a) h2
  rw [← e, ← f] at q1
  generalize ratN n d = N at *
  generalize ratD n d = D at *
  have : D * (n * b) = D * (a * d) := by grind
  exact Int.eq_of_mul_eq_mul_left (by omega) this
theorem ratN_one {n : Int} : ratN n 1 = n := by simp [ratN]
theorem ratD_one' {n : Int} : ratD n 1 = 1 := by simp [ratD]
theorem ratN_zero {n d : Int} (hd : d ≠ 0) : ratN n d = 0 ↔ n = 0 := by
  obtain ⟨p1, p2⟩ := ratM (n := n) hd
  constructor
  · intro h
    rw [h, Int.zero_mul] at p1
    rcases Int.mul_eq_zero.mp p1.symm with h | h
    · exact h
    · omega
  · intro h
    rw [h, Int.zero_mul] at p1
    rcases Int.mul_eq_zero.mp p1 with h | h
    · rw [← h]; subst_vars; rfl
    · exact absurd h hd
theorem ratFl' {n d : Int} (hd : 0 < d) : (ratN n d).fdiv (ratD n d) = n / d := ratFl hd
section
variable {n d m e x : Int}
theorem rat_sub (hd : d ≠ 0) (he : e ≠ 0) : ratN (ratN n d * ratD m e - ratN m e * ratD n d) (ratD n d * ratD m e) = ratN (n * e - m * d) (d * e) ∧ ratD (ratN n d * ratD m e - ratN m e * ratD n d) (ratD n d * ratD m e) = ratD (n * e - m * d) (d * e) := by
  obtain ⟨p1, p2⟩ := ratM (n := n) hd
  obtain ⟨q1, q2⟩ := ratM (n := m) he
  refine rat_cross (by have := Int.mul_pos p2 q2; omega) (fun z => (Int.mul_eq_zero.mp z).elim hd he) ?_
  generalize ratN n d = N at *
  generalize ratD n d = D at *
  generalize ratN m e = M at *
  generalize ratD m e = E at *
  have h1 : N * E * (d * e) = (N * d) * (E * e) := by grind
  have h2 : M * D * (d * e) = (M * e) * (D * d) := by grind
  rw [Int.sub_mul, h1, h2, p1, q1]
  grind
theorem rat_add (hd : d ≠ 0) (he : e ≠ 0) : ratN (ratN n d * ratD m e + ratN m e * ratD n d) (ratD n d * ratD m e) = ratN (n * e + m * d) (d * e) ∧ ratD (ratN n d * ratD m e + ratN m e * ratD n d) (ratD n d * ratD m e) = ratD (n * e + m * d) (d * e) := by
  obtain ⟨p1, p2⟩ := ratM (n := n) hd
  obtain ⟨q1, q2⟩ := ratM (n := m) he
  refine rat_cross (by have := Int.mul_pos p2 q2; omega) (fun z => (Int.mul_eq_zero.mp z).elim hd he) ?_
  generalize ratN n d = N at *
  generalize ratD n d = D at *
  generalize ratN m e = M at *
  generalize ratD m e = E at *
  have h1 : N * E * (d * e) = (N * d) * (E * e) := by grind
  have h2 : M * D * (d * e) = (M * e) * (D * d) := by grind
  rw [Int.add_mul, h1, h2, p1, q1]
  grind
theorem rat_mul (hd : d ≠ 0) (he : e ≠ 0) : ratN (ratN n d * ratN m e) (ratD n d * ratD m e) = ratN (n * m) (d * e) ∧ ratD (ratN n d * ratN m e) (ratD n d * ratD m e) = ratD (n * m) (d * e) := by
  obtain ⟨p1, p2⟩ := ratM (n := n) hd
  obtain ⟨q1, q2⟩ := ratM (n := m) he
  refine rat_cross (by have := Int.mul_pos p2 q2; omega) (fun z => (Int.mul_eq_zero.mp z).elim hd he) ?_
  generalize ratN n d = N at *
  generalize ratD n d = D at *
  generalize ratN m e = M at *
  generalize ratD m e = E at *
  have h1 : N * M * (d * e) = (N * d) * (M * e) := by grind
  rw [h1, p1, q1]
  grind
theorem rat_times (hd : d ≠ 0) : ratN (ratN n d * x) (ratD n d) = ratN (n * x) d ∧ ratD (ratN n d * x) (ratD n d) = ratD (n * x) d := by
  obtain ⟨p1, p2⟩ := ratM (n := n) hd
  refine rat_cross (by omega) hd ?_
  generalize ratN n d = N at *
  generalize ratD n d = D at *
  have h1 : N * x * d = (N * d) * x := by grind
  rw [h1, p1]
  grind
theorem rat_over (hd : d ≠ 0) (hx : x ≠ 0) : ratN (ratN n d) (ratD n d * x) = ratN n (d * x) ∧ ratD (ratN n d) (ratD n d * x) = ratD n (d * x) := by
  obtain ⟨p1, p2⟩ := ratM (n := n) hd
  refine rat_cross (fun z => (Int.mul_eq_zero.mp z).elim (by omega) hx) (fun z => (Int.mul_eq_zero.mp z).elim hd hx) ?_
  generalize ratN n d = N at *
  generalize ratD n d = D at *
  have h1 : N * (d * x) = (N * d) * x := by grind
  rw [h1, p1]
  grind
/-- how great a least form is -/
theorem rat_szA (hd : d ≠ 0) {k : Nat} (h1 : n.natAbs < 2 ^ k) (h2 : d.natAbs < 2 ^ k) : (ratN n d).natAbs < 2 ^ k ∧ 0 < ratD n d ∧ (ratD n d).natAbs < 2 ^ k := by
  rcases Int.lt_or_lt_of_ne hd with h | h
  · obtain ⟨a, b⟩ := rat_flip (n := n) h
    rw [a, b]
    have x1 := ratN_abs (n := -n) (d := -d) (by omega)
    have x2 := ratD_le (n := -n) (d := -d) (by omega)
    exact ⟨by omega, x2.1, by omega⟩
  · have x1 := ratN_abs (n := n) h
    have x2 := ratD_le (n := n) h
    exact ⟨by omega, x2.1, by omega⟩
end
/-! ### words in bases below nought: mathematics -/
def mu (n : Int) : Nat := 2 * n.natAbs + (if n < 0 then 1 else 0)
/-- what is left of n when its lowest digit is taken off -/
def mx (b n : Int) : Int := -(n / b)
theorem mx_eq {b n : Int} (hb : 0 < b) : n = n % b - b * mx b n := by
  unfold mx
  have := Int.mul_ediv_add_emod n b
  rw [Int.mul_neg]
  omega
theorem mx_bd {b n : Int} (hb : 2 ≤ b) : 2 * (mx b n).natAbs ≤ n.natAbs + 1 ∧ (0 < n → mx b n ≤ 0 ∧ 2 * (mx b n).natAbs ≤ n.natAbs) ∧ (n < 0 → 0 < mx b n) := by
  have e := mx_eq (b := b) (n := n) (by omega)
  have r0 := Int.emod_nonneg n (show b ≠ 0 by omega)
  have r1 := Int.emod_lt_of_pos n (show 0 < b by omega)
  generalize n % b = r at *
  generalize mx b n = m at *
  rcases Int.lt_trichotomy m 0 with h | h | h
  · have k : 2 * (-m) ≤ b * (-m) := Int.mul_le_mul_of_nonneg_right hb (by omega)
    rw [Int.mul_neg b] at k
    refine ⟨by omega, fun _ => ⟨by omega, by omega⟩, fun _ => by omega⟩
  · subst h
    rw [Int.mul_zero] at e
    refine ⟨by omega, fun _ => ⟨by omega, by omega⟩, fun _ => by omega⟩
  · have k : b ≤ b * m := by
      have := Int.mul_le_mul_of_nonneg_left (show 1 ≤ m by omega) (show 0 ≤ b by omega)
      omega
    have k2 : 2 * (m - 1) ≤ b * (m - 1) := Int.mul_le_mul_of_nonneg_right hb (by omega)
    rw [Int.mul_sub b] at k2
    refine ⟨by omega, fun _ => ⟨by omega, by omega⟩, fun _ => h⟩
theorem mu_lt {b n : Int} (hb : 2 ≤ b) (hn : n ≠ 0) : mu (mx b n) < mu n := by
  obtain ⟨h1, h2, h3⟩ := mx_bd (n := n) hb
  unfold mu
  rcases Int.lt_trichotomy n 0 with h | h | h
  · have := h3 h
    rw [if_neg (by omega), if_pos h]
    omega
  · exact absurd h hn
  · have := h2 h
    rw [if_neg (show ¬ n < 0 by omega)]
    split <;> omega
/-- the digits of n in the base -b, the lowest first -/
def mf (b n : Int) : List Int := if h : 2 ≤ b ∧ n ≠ 0 then (n % b) :: mf b (mx b n) else []
termination_by mu n
decreasing_by exact mu_lt h.1 h.2
section
variable {b n : Int}
theorem mf_0 : mf b 0 = [] := by rw [mf, dif_neg (by omega)]
theorem mf_s (hb : 2 ≤ b) (h : n ≠ 0) : mf b n = (n % b) :: mf b (mx b n) := by rw [mf, dif_pos ⟨hb, h⟩]
theorem mf_nil (hb : 2 ≤ b) (h : mf b n = []) : n = 0 := by
  rcases Int.lt_trichotomy n 0 with h' | h' | h'
  · rw [mf_s hb (by omega)] at h; cases h
  · exact h'
  · rw [mf_s hb (by omega)] at h; cases h
theorem mf_ind {P : Int → Prop} (hb : 2 ≤ b) (h0 : P 0) (hs : ∀ n, n ≠ 0 → P (mx b n) → P n) : ∀ n, P n := by
  have go : ∀ (k : Nat) (n : Int), mu n ≤ k → P n := by
    intro k
    induction k with
    | zero =>
      intro n hn
      have : n = 0 := by unfold mu at hn; omega
      rw [this]; exact h0
    | succ k ih =>
      intro n hn
      by_cases h : n = 0
      · rw [h]; exact h0
      · have := mu_lt hb h
        exact hs n h (ih _ (by omega))
  exact fun n => go _ n (Nat.le_refl _)
theorem mf_dig (hb : 2 ≤ b) : ∀ n, ∀ x ∈ mf b n, 0 ≤ x ∧ x < b := by
  refine mf_ind hb (by rw [mf_0]; simp) fun n h ih => ?_
  rw [mf_s hb h]
  intro x hx
  rcases List.mem_cons.mp hx with rfl | hx
  · exact ⟨Int.emod_nonneg _ (by omega), Int.emod_lt_of_pos _ (by omega)⟩
  · exact ih x hx
/-- the number of a row in the base -b -/
def mv (b : Int) : Int → List Int → Int
  | m, [] => m
  | m, x :: xs => mv b (-b * m + x) xs
theorem mv_snoc : ∀ (xs : List Int) (m x : Int), mv b m (xs ++ [x]) = -b * mv b m xs + x
  | [], m, x => rfl
  | y :: ys, m, x => mv_snoc ys _ x
theorem mv_mf (hb : 2 ≤ b) : ∀ n, mv b 0 (mf b n).reverse = n := by
  refine mf_ind hb (by rw [mf_0]; rfl) fun n h ih => ?_
  rw [mf_s hb h, List.reverse_cons, mv_snoc, ih]
  have := mx_eq (b := b) (n := n) (by omega)
  rw [Int.neg_mul]
  omega
theorem mf_step (hb : 2 ≤ b) {m x : Int} (hx : 0 ≤ x ∧ x < b) (h : m ≠ 0 ∨ x ≠ 0) : mf b (-b * m + x) = x :: mf b m := by
  have e1 : (-b * m + x) % b = x := by
    rw [Int.neg_mul, Int.add_comm, ← Int.mul_neg, Int.add_mul_emod_self_left]
    exact Int.emod_eq_of_lt hx.1 hx.2
  have e2 : mx b (-b * m + x) = m := by
    unfold mx
    rw [Int.neg_mul, Int.add_comm, ← Int.mul_neg, Int.add_mul_ediv_left _ _ (by omega), Int.ediv_eq_zero_of_lt hx.1 hx.2]
    omega
  have ne : -b * m + x ≠ 0 := fun z => by
    have z1 := e1
    have z2 := e2
    rw [z] at z1 z2
    simp [mx] at z1 z2
    omega
  rw [mf_s hb ne, e1, e2]
theorem mv_word (hb : 2 ≤ b) : ∀ (xs : List Int) (m : Int), m ≠ 0 → (∀ x ∈ xs, 0 ≤ x ∧ x < b) → mf b (mv b m xs) = xs.reverse ++ mf b m ∧ mv b m xs ≠ 0
  | [], m, hm, _ => ⟨rfl, hm⟩
  | x :: xs, m, hm, hx => by
    have x0 := hx x List.mem_cons_self
    have st := mf_step hb x0 (.inl hm)
    have ne : -b * m + x ≠ 0 := fun z => by rw [z, mf_0] at st; cases st
    obtain ⟨i1, i2⟩ := mv_word hb xs _ ne fun y hy => hx y (List.mem_cons_of_mem _ hy)
    refine ⟨?_, i2⟩
    show mf b (mv b (-b * m + x) xs) = _
    rw [i1, st, List.reverse_cons, List.append_assoc]
    rfl
/-- one step of adding -/
theorem mx_add (hb : 2 ≤ b) {n m c : Int} : (n + m + c) % b = (n % b + m % b + c) % b ∧ mx b (n + m + c) = mx b n + mx b m + -((n % b + m % b + c) / b) := by
  have e1 := mx_eq (b := b) (n := n) (by omega)
  have e2 := mx_eq (b := b) (n := m) (by omega)
  have e : n + m + c = (n % b + m % b + c) + b * (-(mx b n + mx b m)) := by
    rw [Int.mul_neg, Int.mul_add]
    omega
  constructor
  · rw [e, Int.add_mul_emod_self_left]
  · show -((n + m + c) / b) = _
    rw [e, Int.add_mul_ediv_left _ _ (by omega)]
    omega
end
theorem mf_len {b : Int} (hb : 2 ≤ b) : ∀ (k : Nat) (n : Int), n.natAbs ≤ 2 ^ k → (mf b n).length ≤ k + 2
  | 0, n, h => by
    have h : n.natAbs ≤ 1 := h
    by_cases h0 : n = 0
    · rw [h0, mf_0]; simp
    · obtain ⟨b1, b2, b3⟩ := mx_bd (n := n) hb
      rw [mf_s hb h0, List.length_cons]
      by_cases m0 : mx b n = 0
      · rw [m0, mf_0]; simp
      · have : n = -1 ∧ mx b n = 1 := by
          rcases Int.lt_trichotomy n 0 with h' | h' | h'
          · have := b3 h'; omega
          · exact absurd h' h0
          · have := b2 h'; omega
        rw [this.2, mf_s hb (by decide)]
        have e : mx b 1 = 0 := by unfold mx; rw [Int.ediv_eq_zero_of_lt (by decide) (by omega)]; rfl
        rw [e, mf_0]
        simp
  | k + 1, n, h => by
    by_cases h0 : n = 0
    · rw [h0, mf_0]; simp
    · obtain ⟨b1, _, _⟩ := mx_bd (n := n) hb
      have ih := mf_len hb k (mx b n) (by rw [Nat.pow_succ] at h; omega)
      rw [mf_s hb h0, List.length_cons]
      omega
/-! ### fractions in bases below nought: mathematics -/
def dgt (b D r : Int) : Int := min (b - 1) ((-b * r * (b + 1) + b * D) / (D * (b + 1)))
def nxr (b D r : Int) : Int := -b * r - dgt b D r * D
def whl (b N D : Int) : Int := (N * (b + 1) + b * D) / (D * (b + 1))
/-- what is left, over D, after n digits -/
def Fr (b N D : Int) : Nat → Int
  | 0 => N - whl b N D * D
  | n + 1 => nxr b D (Fr b N D n)
def Cont (F : Nat → Int) (n : Nat) : Prop := F n ≠ 0 ∧ ∀ i, i < n → F i ≠ F n
/-- where the walk stops, and what it comes back to -/
def Stop (F : Nat → Int) (n i : Nat) : Prop := (∀ m, m < n → Cont F m) ∧ ((F n = 0 ∧ i = n) ∨ (F n ≠ 0 ∧ i < n ∧ F i = F n))
theorem Stop.uniq {F : Nat → Int} {n i n' i' : Nat} (h : Stop F n i) (h' : Stop F n' i') : n = n' ∧ i = i' := by
  have no : ∀ {n i : Nat}, Stop F n i → ¬ Cont F n := fun {n i} s c => by
    rcases s.2 with ⟨z, _⟩ | ⟨_, l, e⟩
    · exact c.1 z
    · exact c.2 _ l e
  have e : n = n' := by
    rcases Nat.lt_trichotomy n n' with l | l | l
    · exact absurd (h'.1 _ l) (no h)
    · exact l
    · exact absurd (h.1 _ l) (no h')
  subst e
  refine ⟨rfl, ?_⟩
  rcases h.2 with ⟨z, e⟩ | ⟨z, l, e⟩ <;> rcases h'.2 with ⟨z', e'⟩ | ⟨z', l', e'⟩
  · omega
  · exact absurd z z'
  · exact absurd z' z
  · rcases Nat.lt_trichotomy i i' with y | y | y
    · exact absurd (e.trans e'.symm) ((h.1 _ l').2 _ y)
    · exact y
    · exact absurd (e'.trans e.symm) ((h.1 _ l).2 _ y)
section
variable {b N D r : Int}
/-- the bounds of what is left -/
def Bd (b D r : Int) : Prop := -(b * D) ≤ r * (b + 1) ∧ r * (b + 1) ≤ D
theorem whl_bd (hb : 2 ≤ b) (hD : 0 < D) : Bd b D (N - whl b N D * D) := by
  have hp : 0 < D * (b + 1) := Int.mul_pos hD (by omega)
  have e := Int.mul_ediv_add_emod (N * (b + 1) + b * D) (D * (b + 1))
  have r0 := Int.emod_nonneg (N * (b + 1) + b * D) (show D * (b + 1) ≠ 0 by omega)
  have r1 := Int.emod_lt_of_pos (N * (b + 1) + b * D) hp
  unfold Bd whl
  generalize (N * (b + 1) + b * D) / (D * (b + 1)) = w at *
  generalize (N * (b + 1) + b * D) % (D * (b + 1)) = t at *
  have e2 : (N - w * D) * (b + 1) = t - b * D := by grind
  have e3 : D * (b + 1) = D + b * D := by grind
  rw [e2]
  omega
theorem nx_bd (hb : 2 ≤ b) (hD : 0 < D) (h : Bd b D r) : Bd b D (nxr b D r) ∧ 0 ≤ dgt b D r ∧ dgt b D r < b := by
  have hp : 0 < D * (b + 1) := Int.mul_pos hD (by omega)
  have e := Int.mul_ediv_add_emod (-b * r * (b + 1) + b * D) (D * (b + 1))
  have r0 := Int.emod_nonneg (-b * r * (b + 1) + b * D) (show D * (b + 1) ≠ 0 by omega)
  have r1 := Int.emod_lt_of_pos (-b * r * (b + 1) + b * D) hp
  obtain ⟨h1, h2⟩ := h
  have m1 : b * (r * (b + 1)) ≤ b * D := Int.mul_le_mul_of_nonneg_left h2 (by omega)
  have m2 : b * -(b * D) ≤ b * (r * (b + 1)) := Int.mul_le_mul_of_nonneg_left h1 (by omega)
  have e1 : -b * r * (b + 1) = -(b * (r * (b + 1))) := by grind
  have e3 : D * (b + 1) = D + b * D := by grind
  have e4 : b * -(b * D) = -(b * (b * D)) := by grind
  have bD : 0 < b * D := Int.mul_pos (by omega) hD
  unfold Bd nxr dgt
  generalize hw : (-b * r * (b + 1) + b * D) / (D * (b + 1)) = w at *
  generalize (-b * r * (b + 1) + b * D) % (D * (b + 1)) = t at *
  have w0 : 0 ≤ w := by
    rw [← hw]
    exact Int.ediv_nonneg (by omega) (by omega)
  have wb : w ≤ b := by
    have : w < b + 1 := by
      rw [← hw]
      refine Int.ediv_lt_of_lt_mul hp ?_
      have e5 : (b + 1) * (D * (b + 1)) = b * (b * D) + 2 * (b * D) + D := by grind
      omega
    omega
  have e2 : (-b * r - w * D) * (b + 1) = t - b * D := by grind
  have e6 : (-b * r - (b - 1) * D) * (b + 1) = (-b * r - w * D) * (b + 1) + (w - (b - 1)) * (D * (b + 1)) := by grind
  rcases Int.lt_or_le (b - 1) w with hc | hc
  · have : w = b := by omega
    subst this
    rw [Int.min_eq_left (by omega), e6, e2]
    have e7 : (w - (w - 1)) * (D * (w + 1)) = D * (w + 1) := by grind
    rw [e7]
    have e5 : w * (D * (w + 1)) = w * (w * D) + w * D := by grind
    have e8 : D * (w + 1) * w = w * (w * D) + w * D := by grind
    refine ⟨⟨by omega, ?_⟩, by omega, by omega⟩
    omega
  · rw [Int.min_eq_right (by omega), e2]
    exact ⟨⟨by omega, by omega⟩, w0, by omega⟩
theorem Fr_bd (hb : 2 ≤ b) (hD : 0 < D) : ∀ n, Bd b D (Fr b N D n)
  | 0 => whl_bd hb hD
  | n + 1 => (nx_bd hb hD (Fr_bd hb hD n)).1
theorem Fr_dg (hb : 2 ≤ b) (hD : 0 < D) (n : Nat) : 0 ≤ dgt b D (Fr b N D n) ∧ dgt b D (Fr b N D n) < b := (nx_bd hb hD (Fr_bd hb hD n)).2
/-- all that is left lies within D + 1 numbers -/
theorem Bd.le (hb : 2 ≤ b) (hD : 0 < D) (h : Bd b D r) : -D ≤ r ∧ r ≤ D := by
  obtain ⟨h1, h2⟩ := h
  constructor
  · rcases Int.lt_or_le r (-D) with h | h
    · have : r * (b + 1) ≤ (-D - 1) * (b + 1) := Int.mul_le_mul_of_nonneg_right (by omega) (by omega)
      have e : (-D - 1) * (b + 1) = -(b * D) - D - b - 1 := by grind
      omega
    · exact h
  · rcases Int.lt_or_le D r with h | h
    · have : (D + 1) * (b + 1) ≤ r * (b + 1) := Int.mul_le_mul_of_nonneg_right (by omega) (by omega)
      have e : (D + 1) * (b + 1) = b * D + D + b + 1 := by grind
      have := Int.mul_pos (show 0 < b by omega) hD
      omega
    · exact h
end
theorem pigeon {D : Nat} : ∀ {l : List Int}, l.Nodup → (∀ x ∈ l, -(D : Int) ≤ x ∧ x ≤ D) → l.length ≤ 2 * D + 1 := by
  intro l hn hx
  have e : (l.map fun x : Int => (x + (D : Int)).toNat).Nodup := by
    rw [List.nodup_iff_pairwise_ne, List.pairwise_map]
    refine List.Pairwise.imp_of_mem (fun {a b} ha hb hne z => hne ?_) (List.nodup_iff_pairwise_ne.mp hn)
    have := hx a ha
    have := hx b hb
    omega
  have s : (l.map fun x : Int => (x + (D : Int)).toNat) ⊆ List.range (2 * D + 1) := by
    intro y hy
    obtain ⟨x, hx', rfl⟩ := List.mem_map.mp hy
    have := hx x hx'
    rw [List.mem_range]
    omega
  have := List.Nodup.length_le_of_subset e s
  rw [List.length_map, List.length_range] at this
  exact this
section
variable {b N D : Int}
theorem cont_le (hb : 2 ≤ b) (hD : 0 < D) {n : Nat} (h : ∀ m, m < n → Cont (Fr b N D) m) : n ≤ 2 * D.toNat + 1 := by
  have nd : ((List.range n).map (Fr b N D)).Nodup := by
    rw [List.nodup_iff_pairwise_ne, List.pairwise_map]
    refine List.Pairwise.imp_of_mem (fun {i j} hi hj hlt z => ?_) List.pairwise_lt_range
    exact (h j (List.mem_range.mp hj)).2 i hlt z
  have := pigeon (D := D.toNat) nd fun x hx => by
    obtain ⟨i, _, rfl⟩ := List.mem_map.mp hx
    have := (Fr_bd (N := N) hb hD i).le hb hD
    omega
  rw [List.length_map, List.length_range] at this
  exact this
/-- the digits -/
def dgs (b N D : Int) (n : Nat) : List Int := (List.range n).map fun i => dgt b D (Fr b N D i)
theorem dgs_s {n : Nat} : dgs b N D (n + 1) = dgs b N D n ++ [dgt b D (Fr b N D n)] := by
  unfold dgs
  rw [List.range_succ, List.map_append]
  rfl
theorem dgs_len {n : Nat} : (dgs b N D n).length = n := by unfold dgs; rw [List.length_map, List.length_range]
theorem dgs_take {n i : Nat} (h : i ≤ n) : (dgs b N D n).take i = dgs b N D i := by
  unfold dgs
  rw [← List.map_take, List.take_range, Nat.min_eq_left h]
theorem mv_app {b : Int} : ∀ (xs ys : List Int) (m : Int), mv b m (xs ++ ys) = mv b (mv b m xs) ys
  | [], ys, m => rfl
  | x :: xs, ys, m => mv_app xs ys _
theorem mv_lin {b : Int} : ∀ (xs : List Int) (m : Int), mv b m xs = (-b) ^ xs.length * m + mv b 0 xs
  | [], m => by simp [mv]
  | x :: xs, m => by
    show mv b (-b * m + x) xs = _
    rw [mv_lin xs (-b * m + x)]
    show _ = (-b) ^ (xs.length + 1) * m + mv b (-b * 0 + x) xs
    rw [mv_lin xs (-b * 0 + x), Int.pow_succ]
    generalize (-b) ^ xs.length = P
    grind
/-- N/D by its first digits -/
theorem val_dgs : ∀ n, N * (-b) ^ n = mv b (whl b N D) (dgs b N D n) * D + Fr b N D n
  | 0 => by
    show N * (-b) ^ 0 = whl b N D * D + (N - whl b N D * D)
    rw [Int.pow_zero]; omega
  | n + 1 => by
    have ih := val_dgs n
    rw [dgs_s, mv_snoc, Int.pow_succ]
    show _ = _ + (-b * Fr b N D n - dgt b D (Fr b N D n) * D)
    generalize mv b (whl b N D) (dgs b N D n) = M at *
    generalize (-b) ^ n = P at *
    generalize Fr b N D n = F at *
    have : N * (P * -b) = (N * P) * -b := by grind
    rw [this, ih]
    grind
/-- numerator and denominator of word, digits, digits that come again -/
def vlN (b : Int) (own ahead turn : List Int) : Int := if turn = [] then mv b 0 (own ++ ahead) else mv b 0 (own ++ ahead) * ((-b) ^ turn.length - 1) + mv b 0 turn
def vlD (b : Int) (ahead turn : List Int) : Int := if turn = [] then (-b) ^ ahead.length else (-b) ^ ahead.length * ((-b) ^ turn.length - 1)
theorem pow_nz (hb : 2 ≤ b) (n : Nat) : (-b) ^ n ≠ 0 := Int.pow_ne_zero (by omega)
theorem pow_big (hb : 2 ≤ b) : ∀ n, n ≠ 0 → 2 ≤ ((-b) ^ n).natAbs
  | 0, h => absurd rfl h
  | n + 1, _ => by
    rw [Int.pow_succ, Int.natAbs_mul]
    have : 1 ≤ ((-b) ^ n).natAbs := by have := pow_nz hb n; omega
    have h2 : 2 ≤ (-b).natAbs := by omega
    calc 2 = 1 * 2 := rfl
      _ ≤ _ := Nat.mul_le_mul this h2
theorem wide_nz (hb : 2 ≤ b) {n : Nat} (h : n ≠ 0) : (-b) ^ n - 1 ≠ 0 := by
  have := pow_big hb n h
  omega
theorem vlD_nz (hb : 2 ≤ b) {ahead turn : List Int} : vlD b ahead turn ≠ 0 := by
  unfold vlD
  split
  · exact pow_nz hb _
  · rename_i h
    exact fun z => (Int.mul_eq_zero.mp z).elim (pow_nz hb _) (wide_nz hb (fun y => h (List.length_eq_zero_iff.mp y)))
theorem val_eq (hb : 2 ≤ b) {n i : Nat} {w : List Int} (hw : mv b 0 w = whl b N D) (s : Stop (Fr b N D) n i) : vlN b w ((dgs b N D n).take i) ((dgs b N D n).drop i) * D = N * vlD b ((dgs b N D n).take i) ((dgs b N D n).drop i) := by
  rcases s.2 with ⟨z, rfl⟩ | ⟨z, l, e⟩
  · have e1 : (dgs b N D i).drop i = [] := List.drop_eq_nil_of_le (by rw [dgs_len]; exact Nat.le_refl _)
    unfold vlN vlD
    rw [e1, if_pos rfl, if_pos rfl, dgs_take (Nat.le_refl _), dgs_len, val_dgs (D := D), z, mv_app, hw]
    omega
  · have tl : ((dgs b N D n).drop i).length = n - i := by rw [List.length_drop, dgs_len]
    have ne : (dgs b N D n).drop i ≠ [] := fun y => by
      rw [y] at tl
      simp at tl
      omega
    unfold vlN vlD
    rw [if_neg ne, if_neg ne, dgs_take (Nat.le_of_lt l), dgs_len, mv_app, hw, tl]
    have v1 := val_dgs (b := b) (N := N) (D := D) i
    have v2 := val_dgs (b := b) (N := N) (D := D) n
    have sp : dgs b N D n = dgs b N D i ++ (dgs b N D n).drop i := by
      rw [← dgs_take (Nat.le_of_lt l), List.take_append_drop]
    have e3 : mv b (whl b N D) (dgs b N D n) = (-b) ^ (n - i) * mv b (whl b N D) (dgs b N D i) + mv b 0 ((dgs b N D n).drop i) := by
      have := congrArg (mv b (whl b N D)) sp
      rw [mv_app, mv_lin ((dgs b N D n).drop i), tl] at this
      exact this
    have e4 : (-b) ^ n = (-b) ^ i * (-b) ^ (n - i) := by rw [← Int.pow_add]; congr 1; omega
    rw [e3, e4] at v2
    rw [← e] at v2
    generalize mv b (whl b N D) (dgs b N D i) = M at *
    generalize mv b 0 ((dgs b N D n).drop i) = T at *
    generalize (-b) ^ (n - i) = P at *
    generalize (-b) ^ i = U at *
    generalize Fr b N D i = F at *
    have h1 : N * (U * P) = (N * U) * P := by grind
    rw [h1, v1] at v2
    have h2 : N * (U * (P - 1)) = (N * U) * (P - 1) := by grind
    rw [h2, v1]
    grind
end
def fs_Ratio_over (A : Ad) : FS := fun ps Q _ => match ps with
  | [.obj C ns [.int n, .int d], .obj C2 ns2 [.int m, .int e]] => ((C = A.kRatio ∧ ns = (["n", "d"] : List Str)) ∧ (C2 = A.kRatio ∧ ns2 = (["n", "d"] : List Str)) ∧ mulOk n e ∧ mulOk d m ∧ d * m ≠ 0 ∧ (d * m).natAbs < 2 ^ 8000) ∧ Q (rat A.kRatio (ratN (n * e) (d * m)) (ratD (n * e) (d * m)))
  | _ => False
def fs_Ratio_is_zero (A : Ad) : FS := fun ps Q _ => match ps with
  | [.obj C ns [.int n, .int d]] => (C = A.kRatio ∧ ns = (["n", "d"] : List Str)) ∧ Q (.bl (decide (n = 0)))
  | _ => False
def fs_Ratio_size (A : Ad) : FS := fun ps Q _ => match ps with
  | [.obj C ns [.int n, .int d]] => ((C = A.kRatio ∧ ns = (["n", "d"] : List Str)) ∧ d ≠ 0 ∧ d.natAbs < 2 ^ 8000) ∧ Q (rat A.kRatio (ratN n.natAbs d) (ratD n.natAbs d))
  | _ => False
/-! the law's fractions -/
def Sz (x : Int) : Prop := x.natAbs < 2 ^ 3000
def fs_z_law_common (A : Ad) : FS := fun ps Q _ => match ps with
  | [.int a, .int b] => Q (.int (Int.gcd a b))
  | _ => False
def fs_z_law_low (A : Ad) : FS := fun ps Q _ => match ps with
  | [.int n, .int d] => (d ≠ 0 ∧ d.natAbs < 2 ^ 8000) ∧ Q (.tup [.int (ratN n d), .int (ratD n d)])
  | _ => False
def fs_z_law_add (A : Ad) : FS := fun ps Q _ => match ps with
  | [.tup [.int a, .int b], .tup [.int c, .int d]] => ((b ≠ 0 ∧ d ≠ 0) ∧ Sz a ∧ Sz b ∧ Sz c ∧ Sz d) ∧ Q (.tup [.int (ratN (a * d + c * b) (b * d)), .int (ratD (a * d + c * b) (b * d))])
  | _ => False
def fs_z_law_mul (A : Ad) : FS := fun ps Q _ => match ps with
  | [.tup [.int a, .int b], .tup [.int c, .int d]] => ((b ≠ 0 ∧ d ≠ 0) ∧ Sz a ∧ Sz b ∧ Sz c ∧ Sz d) ∧ Q (.tup [.int (ratN (a * c) (b * d)), .int (ratD (a * c) (b * d))])
  | _ => False
def fs_z_law_over (A : Ad) : FS := fun ps Q _ => match ps with
  | [.tup [.int a, .int b], .tup [.int c, .int d]] => ((b ≠ 0 ∧ c ≠ 0) ∧ Sz a ∧ Sz b ∧ Sz c ∧ Sz d) ∧ Q (.tup [.int (ratN (a * d) (b * c)), .int (ratD (a * d) (b * c))])
  | _ => False
def fs_z_law_neg (A : Ad) : FS := fun ps Q _ => match ps with
  | [.tup [.int a, .int b]] => Q (.tup [.int (-a), .int b])
  | _ => False
def fs_z_law_floor (A : Ad) : FS := fun ps Q _ => match ps with
  | [.tup [.int a, .int b]] => divOk b ∧ Q (.int (a.fdiv b))
  | _ => False
def fs_z_law_ratio_is (A : Ad) : FS := fun ps Q _ => match ps with
  | [.obj C ns [.int n, .int d], .tup [.int a, .int b]] => (C = A.kRatio ∧ ns = (["n", "d"] : List Str)) ∧ Q (.bl (decide (n = a ∧ d = b)))
  | _ => False
theorem mul_sz {a b : Int} {j k : Nat} (h1 : a.natAbs < 2 ^ j) (h2 : b.natAbs < 2 ^ k) : (a * b).natAbs < 2 ^ (j + k) := by
  rw [Int.natAbs_mul, Nat.pow_add]
  exact Nat.mul_lt_mul'' h1 h2
theorem pw_up {a : Int} {j k : Nat} (h : a.natAbs < 2 ^ j) (hk : j ≤ k) : a.natAbs < 2 ^ k := Nat.lt_of_lt_of_le h (Nat.pow_le_pow_right (by decide) hk)
theorem sz_mul {a b : Int} (h1 : Sz a) (h2 : Sz b) : mulOk a b := mulOk_of h1 h2 (by decide)
theorem sz_up {a : Int} {k : Nat} (h : a.natAbs < 2 ^ k) (hk : k ≤ 3000) : Sz a := pw_up h hk
def okB (b : PV) : Bool := cnt b 2 36
def okN : PV → Bool
  | .int n => decide (n.natAbs ≤ 1000000000000000000000000000000)
  | _ => false
def mwd (b n : Int) : List Int := (mf b n).reverse
def fs_check_base (A : Ad) : FS := fun ps Q R => match ps with
  | [p] => okV (owns A) p = true ∧ (if okB p = true then Q .non else R (mal A))
  | _ => False
def fs_check_whole (A : Ad) : FS := fun ps Q R => match ps with
  | [p] => okV (owns A) p = true ∧ (if okN p = true then Q .non else R (mal A))
  | _ => False
def m_word (b n : PV) : Out := if okB b = true then (if okN n = true then .told (irow (mwd (toI b) (toI n))) else .mal) else .mal
def fs_minus_word (A : Ad) : FS := fsO2 A (fun _ _ => True) m_word
def m_number (b v : PV) : Out := if okB b = true then (if (isRow v && decide (tlen v ≤ 200)) = true then .told (.int (mv (toI b) 0 (unI v))) else .mal) else .mal
def Dg (v : PV) : Prop := ∀ x ∈ unI v, x.natAbs < 2 ^ 60
def fs_minus_number (A : Ad) : FS := fsO2 A (fun _ v => okT (owns A) v ∧ Dg v) m_number
/-- a Ratio as it may come -/
def xOk (A : Ad) : PV → Prop
  | .obj C ns [.int N, .int D] => (C = A.kRatio ∧ ns = (["n", "d"] : List Str)) ∧ (0 < D ∧ D ≤ 50) ∧ (N.natAbs < 2 ^ 95 ∨ (1000000000000000000000000000000 < (N.natAbs : Int) / D ∧ N.natAbs < 2 ^ 200))
  | .obj _ _ _ => False
  | _ => True
def expQ (b : Int) (Q : PQ) (R : EX → Prop) (m : EX) : PV → Prop
  | .obj _ _ [.int N, .int D] => if 1000000000000000000000000000000 < (N.natAbs : Int) / D then R m else ∀ n i, Stop (Fr b N D) n i → Q (.tup [irow (mwd b (whl b N D)), irow ((dgs b N D n).take i), irow ((dgs b N D n).drop i)])
  | _ => R m
def fs_minus_expand (A : Ad) : FS := fun ps Q R => match ps with
  | [b, x] => (okV (owns A) b = true ∧ okV (owns A) x = true ∧ xOk A x) ∧ (if okB b = true then expQ (toI b) Q R (mal A) x else R (mal A))
  | _ => False
def rowB (v : PV) : Bool := isRow v && decide (tlen v ≤ 200)
def m_value (A : Ad) (b o a t : PV) : Out := if okB b = true then (if (rowB o && (rowB a && rowB t)) = true then .told (rat A.kRatio (ratN (vlN (toI b) (unI o) (unI a) (unI t)) (vlD (toI b) (unI a) (unI t))) (ratD (vlN (toI b) (unI o) (unI a) (unI t)) (vlD (toI b) (unI a) (unI t)))) else .mal) else .mal
def fs_minus_value (A : Ad) : FS := fsO4 A (fun _ o a t => (okT (owns A) o ∧ Dg o) ∧ (okT (owns A) a ∧ Dg a) ∧ (okT (owns A) t ∧ Dg t)) (m_value A)
def fs_z_law_great (A : Ad) : FS := fun ps Q _ => match ps with
  | [.st] => ∀ n : Int, 0 ≤ n → n < 2 ^ 84 → Q (.int n)
  | _ => False
def fs_z_law_expand (A : Ad) : FS := fun ps Q _ => match ps with
  | [.int b, .tup [.int N, .int D]] => ((2 ≤ b ∧ b ≤ 36) ∧ (0 < D ∧ D ≤ 50) ∧ N.natAbs < 2 ^ 95) ∧ ∀ n i, Stop (Fr b N D) n i → Q (.tup [.int (whl b N D), irow ((dgs b N D n).take i), irow ((dgs b N D n).drop i)])
  | _ => False
def fs_z_law_number (A : Ad) : FS := fun ps Q _ => match ps with
  | [.int b, .tup xs] => ∃ ns : List Int, xs = ns.map .int ∧ ((2 ≤ b ∧ b ≤ 36) ∧ ns.length ≤ 200 ∧ ∀ x ∈ ns, x.natAbs < 2 ^ 60) ∧ Q (.int (mv b 0 ns))
  | _ => False
def fs_z_law_value (A : Ad) : FS := fun ps Q _ => match ps with
  | [.int b, .tup os, .tup xs, .tup ts] => ∃ o a t : List Int, os = o.map .int ∧ xs = a.map .int ∧ ts = t.map .int ∧ ((2 ≤ b ∧ b ≤ 36) ∧ (o.length ≤ 200 ∧ ∀ x ∈ o, x.natAbs < 2 ^ 60) ∧ (a.length ≤ 200 ∧ ∀ x ∈ a, x.natAbs < 2 ^ 60) ∧ (t.length ≤ 200 ∧ ∀ x ∈ t, x.natAbs < 2 ^ 60)) ∧
    Q (.tup [.int (ratN (vlN b o a t) (vlD b a t)), .int (ratD (vlN b o a t) (vlD b a t))])
  | _ => False
def w_Ratio_over (A : Ad) : WSt :=
  (wSeq (wExpr (wCall (oFn 1 (fs_check_ratio A)) (wCons (wVar 1) wNil)))
  (wRet (wMake A.kRatio (wLen 2 (wCons (wOp oMulA (wFld A.kRatio "n" (wVar 0)) (wFld A.kRatio "d" (wVar 1))) (wCons (wOp oMulA (wFld A.kRatio "d" (wVar 0)) (wFld A.kRatio "n" (wVar 1))) wNil))))))
def w_Ratio_is_zero (A : Ad) : WSt :=
  (wRet (wOp oEq (wFld A.kRatio "n" (wVar 0)) (wC (.int 0))))
def w_Ratio_size (A : Ad) : WSt :=
  (wRet (wMake A.kRatio (wLen 2 (wCons (wCall cAbs (wCons (wFld A.kRatio "n" (wVar 0)) wNil)) (wCons (wFld A.kRatio "d" (wVar 0)) wNil)))))
def w_check_base (A : Ad) : WSt :=
  (wExpr (wCall (oFn 3 (fs_check_count A)) (wCons (wVar 0) (wCons (wC (.int 2)) (wCons (wC (.int 36)) wNil)))))
def w_check_whole (A : Ad) : WSt :=
  (wIf (wOr (wNot (wT (wCall (oFn 1 (fs_is_integer A)) (wCons (wVar 0) wNil)))) (wT (wOp oGt (wCall cAbs (wCons (wVar 0) wNil)) (wC (.int 1000000000000000000000000000000))))) (wRaise (mal A)) wNext)
def w_minus_word (A : Ad) : WSt :=
  (wSeq (wExpr (wCall (oFn 1 (fs_check_base A)) (wCons (wVar 0) wNil)))
  (wSeq (wExpr (wCall (oFn 1 (fs_check_whole A)) (wCons (wVar 1) wNil)))
  (wSeq (wOwnC 2 (wLst wNil))
  (wSeq (wWhile (wT (wOp oNe (wVar 1) (wC (.int 0)))) (wSeq (wSet 3 (wOp oMod (wVar 1) (wVar 0)))
  (wSeq (wApp 2 (wVar 3))
  (wSet 1 (wNeg (wOp oDiv (wOp oSub (wVar 1) (wVar 3)) (wVar 0)))))))
  (wRet (wCall cTuple (wCons (wRev (wVar 2)) wNil)))))))
def w_minus_number (A : Ad) : WSt :=
  (wSeq (wExpr (wCall (oFn 1 (fs_check_base A)) (wCons (wVar 0) wNil)))
  (wSeq (wIf (wOr (wNot (wT (wCall (oFn 1 (fs_is_whole_row A)) (wCons (wVar 1) wNil)))) (wT (wOp oGt (wCall cLen (wCons (wVar 1) wNil)) (wC (.int 200))))) (wRaise (mal A)) wNext)
  (wSeq (wSet 2 (wC (.int 0)))
  (wSeq (wFor (wiSeq false (wVar 1)) (.name 3) (wSet 2 (wOp oAdd (wOp oMulA (wNeg (wVar 0)) (wVar 2)) (wVar 3))))
  (wRet (wVar 2))))))
def w_z_law_common (A : Ad) : WSt :=
  (wSeq (wPar 0 1 false false (wCall cAbs (wCons (wVar 0) wNil)) (wCall cAbs (wCons (wVar 1) wNil)))
  (wSeq (wWhile (wT (wOp oGt (wVar 1) (wC (.int 0)))) (wPar 0 1 false false (wVar 1) (wOp oMod (wCall cInt (wCons (wVar 0) wNil)) (wVar 1))))
  (wRet (wVar 0))))
def w_z_law_low (A : Ad) : WSt :=
  (wSeq (wSet 2 (wCall (oFn 2 (fs_z_law_common A)) (wCons (wVar 0) (wCons (wVar 1) wNil))))
  (wSeq (wSet 2 (wIfE (wT (wOp oGt (wVar 1) (wC (.int 0)))) (wVar 2) (wNeg (wVar 2))))
  (wRet (wTup (wCons (wOp oDiv (wVar 0) (wVar 2)) (wCons (wOp oDiv (wVar 1) (wVar 2)) wNil))))))
def w_z_law_add (A : Ad) : WSt :=
  (wRet (wCall (oFn 2 (fs_z_law_low A)) (wCons (wOp oAdd (wOp oMulA (wOp oIx (wVar 0) (wC (.int 0))) (wOp oIx (wVar 1) (wC (.int 1)))) (wOp oMulA (wOp oIx (wVar 1) (wC (.int 0))) (wOp oIx (wVar 0) (wC (.int 1))))) (wCons (wOp oMulA (wOp oIx (wVar 0) (wC (.int 1))) (wOp oIx (wVar 1) (wC (.int 1)))) wNil))))
def w_z_law_mul (A : Ad) : WSt :=
  (wRet (wCall (oFn 2 (fs_z_law_low A)) (wCons (wOp oMulA (wOp oIx (wVar 0) (wC (.int 0))) (wOp oIx (wVar 1) (wC (.int 0)))) (wCons (wOp oMulA (wOp oIx (wVar 0) (wC (.int 1))) (wOp oIx (wVar 1) (wC (.int 1)))) wNil))))
def w_z_law_neg (A : Ad) : WSt :=
  (wRet (wTup (wCons (wNeg (wOp oIx (wVar 0) (wC (.int 0)))) (wCons (wOp oIx (wVar 0) (wC (.int 1))) wNil))))
def w_z_law_over (A : Ad) : WSt :=
  (wRet (wCall (oFn 2 (fs_z_law_low A)) (wCons (wOp oMulA (wOp oIx (wVar 0) (wC (.int 0))) (wOp oIx (wVar 1) (wC (.int 1)))) (wCons (wOp oMulA (wOp oIx (wVar 0) (wC (.int 1))) (wOp oIx (wVar 1) (wC (.int 0)))) wNil))))
def w_z_law_ratio_is (A : Ad) : WSt :=
  (wRet (wAndV (wIsi (ansCls [] A.kRatio) (wVar 0)) (wAndV (wCall (oFn 1 (fs_z_law_is_whole A)) (wCons (wFld A.kRatio "n" (wVar 0)) wNil)) (wAndV (wCall (oFn 1 (fs_z_law_is_whole A)) (wCons (wFld A.kRatio "d" (wVar 0)) wNil)) (wOp oEq (wTup (wCons (wFld A.kRatio "n" (wVar 0)) (wCons (wFld A.kRatio "d" (wVar 0)) wNil))) (wVar 1))))))
def w_z_law_floor (A : Ad) : WSt :=
  (wRet (wOp oDiv (wOp oIx (wVar 0) (wC (.int 0))) (wOp oIx (wVar 0) (wC (.int 1)))))
theorem p_Ratio_over (A : Ad) (hA : A.Ok) : ∀ qs Q R, qs.length = 2 → fs_Ratio_over A qs Q R → w_Ratio_over A (fnEnds Q R) (startP 2 qs)
  | [.obj C ns [.int n, .int d], .obj C2 ns2 [.int m, .int e]], Q, R, _, ⟨⟨⟨c1, c2⟩, ⟨c3, c4⟩, h1, h2, h3⟩, h⟩ => by
    subst c1 c2 c3 c4
    have i0 : isO A.kRatio (rat A.kRatio m e) = true := by simp [isO]
    have i1 : okV [A.kRatio] (rat A.kRatio m e) = true := by simp [okV]
    simp? only [w_Ratio_over, fs_check_ratio, i0, i1]
    exact ⟨h1, h2, h3, h⟩
theorem p_Ratio_is_zero (A : Ad) (hA : A.Ok) : ∀ qs Q R, qs.length = 1 → fs_Ratio_is_zero A qs Q R → w_Ratio_is_zero A (fnEnds Q R) (startP 1 qs)
  | [.obj C ns [.int n, .int d]], Q, R, _, ⟨⟨c1, c2⟩, h⟩ => by
    subst c1 c2
    simp? only [w_Ratio_is_zero]
    exact h
theorem p_Ratio_size (A : Ad) (hA : A.Ok) : ∀ qs Q R, qs.length = 1 → fs_Ratio_size A qs Q R → w_Ratio_size A (fnEnds Q R) (startP 1 qs)
  | [.obj C ns [.int n, .int d]], Q, R, _, ⟨⟨⟨c1, c2⟩, hd⟩, h⟩ => by
    subst c1 c2
    simp? only [w_Ratio_size]
    exact ⟨hd, h⟩
theorem p_z_law_common (A : Ad) (hA : A.Ok) : ∀ qs Q R, qs.length = 2 → fs_z_law_common A qs Q R → w_z_law_common A (fnEnds Q R) (startP 2 qs)
  | [.int a, .int b], Q, R, _, h => by
    simp? only [w_z_law_common]
    refine whileS_sl (σ := Nat × Nat) (fun s => [(0, some (.int s.1)), (1, some (.int s.2))]) (fun s => Nat.gcd s.1 s.2 = Int.gcd a b) (fun s => s.2) (a.natAbs, b.natAbs) ⟨rfl, rfl⟩ ?_
    rintro ⟨x, y⟩ hg
    dsimp only at hg
    simp? only []
    by_cases hy : y = 0
    · subst hy
      simp only [show ¬ ((0 : Int) < ((0 : Nat) : Int)) by decide, decide_false, Bool.false_eq_true, if_false]
      rw [Nat.gcd_zero_right] at hg
      rw [hg]
      exact h
    · have hy' : (0 : Int) < (y : Int) := by omega
      simp only [hy', decide_true, if_true]
      refine ⟨by omega, ⟨y, x % y⟩, ?_, ?_, Nat.mod_lt _ (by omega)⟩
      · rw [fmod_e (by omega)]
        rfl
      · rw [← hg, Nat.gcd_comm x y]
        exact (Nat.gcd_rec y x).symm ▸ (Nat.gcd_comm y (x % y)) ▸ rfl
theorem p_z_law_low (A : Ad) (hA : A.Ok) : ∀ qs Q R, qs.length = 2 → fs_z_law_low A qs Q R → w_z_law_low A (fnEnds Q R) (startP 3 qs)
  | [.int n, .int d], Q, R, _, ⟨⟨hd, hd2⟩, h⟩ => by
    have hg : 0 < Int.gcd n d := Int.gcd_pos_of_ne_zero_right _ (by omega)
    have hgl : Int.gcd n d ≤ d.natAbs := Nat.le_of_dvd (by omega) (Nat.gcd_dvd_right _ _)
    have hg8 : ((Int.gcd n d : Nat) : Int).natAbs < 2 ^ 8000 := by
      have : ((Int.gcd n d : Nat) : Int).natAbs = Int.gcd n d := by omega
      rw [this]
      exact Nat.lt_of_le_of_lt hgl hd2
    have hdv : divOk (Int.gcd n d : Int) := divOk_up (by omega) hg8
    by_cases h0 : 0 < d
    · have e1 : n.fdiv (Int.gcd n d : Int) = ratN n d := by unfold ratN; rw [if_pos h0]
      have e2 : d.fdiv (Int.gcd n d : Int) = ratD n d := by
        unfold ratD
        rw [show (d.natAbs : Int) = d by omega]
      simp? only [w_z_law_low, fs_z_law_common, h0, hdv, e1, e2]
      exact h
    · have hdv' : divOk (-(Int.gcd n d : Int)) := ⟨by omega, by
        have := hdv.2
        rw [Int.natAbs_neg]
        exact this⟩
      have e1 : n.fdiv (-(Int.gcd n d : Int)) = ratN n d := by
        unfold ratN
        rw [if_neg h0, ← Int.neg_fdiv_neg, Int.neg_neg]
      have e2 : d.fdiv (-(Int.gcd n d : Int)) = ratD n d := by
        unfold ratD
        rw [← Int.neg_fdiv_neg, Int.neg_neg, show (d.natAbs : Int) = -d by omega]
      simp? only [w_z_law_low, fs_z_law_common, h0, hdv', e1, e2]
      exact h
theorem p_z_law_add (A : Ad) (hA : A.Ok) : ∀ qs Q R, qs.length = 2 → fs_z_law_add A qs Q R → w_z_law_add A (fnEnds Q R) (startP 2 qs)
  | [.tup [.int a, .int b], .tup [.int c, .int d]], Q, R, _, ⟨⟨⟨hb, hd⟩, s1, s2, s3, s4⟩, h⟩ => by
    simp? only [w_z_law_add, fs_z_law_low, sz_mul s1 s4, sz_mul s3 s2, sz_mul s2 s4]
    exact ⟨⟨fun z => (Int.mul_eq_zero.mp z).elim hb hd, pw_up (mul_sz s2 s4) (by decide)⟩, h⟩
theorem p_z_law_mul (A : Ad) (hA : A.Ok) : ∀ qs Q R, qs.length = 2 → fs_z_law_mul A qs Q R → w_z_law_mul A (fnEnds Q R) (startP 2 qs)
  | [.tup [.int a, .int b], .tup [.int c, .int d]], Q, R, _, ⟨⟨⟨hb, hd⟩, s1, s2, s3, s4⟩, h⟩ => by
    simp? only [w_z_law_mul, fs_z_law_low, sz_mul s1 s3, sz_mul s2 s4]
    exact ⟨⟨fun z => (Int.mul_eq_zero.mp z).elim hb hd, pw_up (mul_sz s2 s4) (by decide)⟩, h⟩
theorem p_z_law_over (A : Ad) (hA : A.Ok) : ∀ qs Q R, qs.length = 2 → fs_z_law_over A qs Q R → w_z_law_over A (fnEnds Q R) (startP 2 qs)
  | [.tup [.int a, .int b], .tup [.int c, .int d]], Q, R, _, ⟨⟨⟨hb, hd⟩, s1, s2, s3, s4⟩, h⟩ => by
    simp? only [w_z_law_over, fs_z_law_low, sz_mul s1 s4, sz_mul s2 s3]
    exact ⟨⟨fun z => (Int.mul_eq_zero.mp z).elim hb hd, pw_up (mul_sz s2 s3) (by decide)⟩, h⟩
theorem p_z_law_neg (A : Ad) (hA : A.Ok) : ∀ qs Q R, qs.length = 1 → fs_z_law_neg A qs Q R → w_z_law_neg A (fnEnds Q R) (startP 1 qs)
  | [.tup [.int a, .int b]], Q, R, _, h => by
    simp? only [w_z_law_neg]
    exact h
theorem p_z_law_floor (A : Ad) (hA : A.Ok) : ∀ qs Q R, qs.length = 1 → fs_z_law_floor A qs Q R → w_z_law_floor A (fnEnds Q R) (startP 1 qs)
  | [.tup [.int a, .int b]], Q, R, _, ⟨hd, h⟩ => by
    simp? only [w_z_law_floor]
    exact ⟨hd, h⟩
theorem p_z_law_ratio_is (A : Ad) (hA : A.Ok) : ∀ qs Q R, qs.length = 2 → fs_z_law_ratio_is A qs Q R → w_z_law_ratio_is A (fnEnds Q R) (startP 2 qs)
  | [.obj C ns [.int n, .int d], .tup [.int a, .int b]], Q, R, _, ⟨⟨c1, c2⟩, h⟩ => by
    subst c1 c2
    simp? only [w_z_law_ratio_is]
    rw [oIsC_ok (show okV [A.kRatio] (.obj A.kRatio ["n", "d"] [.int n, .int d]) = true by simp [okV])]
    simp? only [fs_z_law_is_whole, fsIsInt]
    have e : isO A.kRatio (.obj A.kRatio ["n", "d"] [.int n, .int d]) = true := by simp [isO]
    rw [e]
    simp? only [isI]
    exact h
theorem okB_iff {b : PV} (h : okB b = true) : ∃ i : Int, b = .int i ∧ 2 ≤ i ∧ i ≤ 36 := by
  obtain ⟨i, rfl, h1, h2⟩ := cnt_int h
  exact ⟨i, rfl, h1, h2⟩
theorem okN_iff {n : PV} (h : okN n = true) : ∃ i : Int, n = .int i ∧ i.natAbs ≤ 1000000000000000000000000000000 := by
  cases n with
  | int i => exact ⟨i, rfl, of_decide_eq_true h⟩
  | _ => cases h
theorem p_check_base (A : Ad) (hA : A.Ok) : ∀ qs Q R, qs.length = 1 → fs_check_base A qs Q R → w_check_base A (fnEnds Q R) (startP 1 qs)
  | [p], Q, R, _, ⟨ho, h⟩ => by
    have hp := okV_plain ho
    simp? only [w_check_base, fs_check_count, fsCheckCount, ho, hp]
    unfold okB at h
    cases hw : cnt p 2 36 <;> rw [hw] at h <;> exact h
theorem p_check_whole (A : Ad) (hA : A.Ok) : ∀ qs Q R, qs.length = 1 → fs_check_whole A qs Q R → w_check_whole A (fnEnds Q R) (startP 1 qs)
  | [p], Q, R, _, ⟨ho, h⟩ => by
    have hp := okV_plain ho
    simp? only [w_check_whole, fs_is_integer, fsIsInt, ho, hp]
    cases p with
    | int i =>
      simp? only [isI]
      by_cases hi : i.natAbs ≤ 1000000000000000000000000000000
      · have e : okN (.int i) = true := decide_eq_true hi
        rw [e] at h
        have : ¬ ((1000000000000000000000000000000 : Int) < (i.natAbs : Int)) := by omega
        simp? only [this]
        exact h
      · have e : okN (.int i) = false := decide_eq_false hi
        rw [e] at h
        have : ((1000000000000000000000000000000 : Int) < (i.natAbs : Int)) := by omega
        simp? only [this]
        exact h
    | _ => exact h
theorem p_minus_word (A : Ad) (hA : A.Ok) : ∀ qs Q R, qs.length = 2 → fs_minus_word A qs Q R → w_minus_word A (fnEnds Q R) (startP 4 qs)
  | [p, n], Q, R, _, ⟨⟨ho, ho2, _⟩, h⟩ => by
    have hp := okV_plain ho
    have hn := okV_plain ho2
    unfold m_word at h
    simp? only [w_minus_word, fs_check_base, fs_check_whole, ho, ho2, hp, hn]
    cases hb : okB p with
    | false => rw [hb] at h; exact h
    | true =>
      rw [hb] at h
      cases hw : okN n with
      | false => rw [hw] at h; exact h
      | true =>
        rw [hw] at h
        obtain ⟨b, rfl, b1, b2⟩ := okB_iff hb
        obtain ⟨i, rfl, i1⟩ := okN_iff hw
        have h : Q (irow (mwd b i)) := h
        have lb := mf_len b1 100 i (Nat.le_trans i1 (by decide))
        have dv : divOk b := divOk_of (by omega) (by omega)
        have b0 : b ≠ 0 := by omega
        simp only [if_true]
        refine whileS_sl (σ := List Int × Int × Option PV) (fun s => [(1, some (.int s.2.1)), (2, some (.own (.lst (s.1.map PV.int)))), (3, s.2.2)]) (fun s => s.1 ++ mf b s.2.1 = mf b i) (fun s => mu s.2.1) ([], i, none) ⟨rfl, rfl⟩ ?_
        rintro ⟨f, m, o⟩ k1
        dsimp only at k1
        have fl := congrArg List.length k1
        rw [List.length_append] at fl
        simp? only []
        by_cases hm : m = 0
        · subst hm
          rw [mf_0, List.append_nil] at k1
          rw [if_neg (by simp), k1, ← List.map_reverse]
          exact h
        · rw [mf_s b1 hm] at k1
          have e2 : -((m - m.fmod b).fdiv b) = mx b m := by
            rw [fmod_e (by omega), fdiv_e (by omega)]
            have := Int.mul_ediv_add_emod m b
            rw [show m - m % b = b * (m / b) by omega, Int.mul_ediv_cancel_left _ b0]
            rfl
          rw [if_pos (by rw [decide_eq_false hm]; rfl)]
          refine ⟨b0, by rw [List.length_map, sizeLine_eq]; omega, dv, (f ++ [m % b], mx b m, some (.int (m % b))), ?_, ?_, mu_lt b1 hm⟩
          · rw [e2, fmod_e (by omega)]
            simp [setE]
          · dsimp only
            rw [← k1]
            simp
theorem p_minus_number (A : Ad) (hA : A.Ok) : ∀ qs Q R, qs.length = 2 → fs_minus_number A qs Q R → w_minus_number A (fnEnds Q R) (startP 4 qs)
  | [p, v], Q, R, _, ⟨⟨ho, ho2, ht, hdg⟩, h⟩ => by
    have hp := okV_plain ho
    have hv := okV_plain ho2
    unfold m_number at h
    simp? only [w_minus_number, fs_check_base, ho, ho2, hp, hv]
    cases hb : okB p with
    | false => rw [hb] at h; exact h
    | true =>
      rw [hb] at h
      obtain ⟨b, rfl, b1, b2⟩ := okB_iff hb
      simp? only [fs_is_whole_row, ho2, ht, hv]
      cases hr : isRow v with
      | false => rw [hr] at h; exact h
      | true =>
        rw [hr] at h
        obtain ⟨ns, rfl⟩ := isRow_iff hr
        unfold Dg at hdg
        simp only [unI_row, tlen_row, Bool.true_and, if_true] at h hdg ⊢
        simp? only [List.length_map]
        by_cases hl : ns.length ≤ 200
        · have hl' : ¬ (200 < (ns.length : Int)) := by omega
          rw [decide_eq_true hl, if_pos rfl] at h
          have h : Q (.int (mv b 0 ns)) := h
          simp only [hl', if_false]
          refine loopS_sl (σ := Int × Option PV) (fun s => [(2, some (.int s.1)), (3, s.2)]) (fun i s => mv b s.1 (ns.drop i) = mv b 0 ns ∧ s.1.natAbs ≤ 2 ^ (6 * i + 61)) (0, none) ⟨rfl, rfl, by decide⟩ ?_ ?_
          · rintro i ⟨m, o⟩ z ⟨k1, k2⟩ hz
            dsimp only at k1 k2
            rw [List.getElem?_map] at hz
            obtain ⟨x, hx, rfl⟩ := Option.map_eq_some_iff.mp hz
            have hi := (List.getElem?_eq_some_iff.mp hx).1
            have dd : ns.drop i = x :: ns.drop (i + 1) := by
              rw [List.drop_eq_getElem_cons hi]
              congr 1
              exact Option.some.inj ((List.getElem?_eq_getElem hi).symm.trans hx)
            have xs := hdg x (List.mem_of_getElem? hx)
            have mm : mulOk (-b) m := mulOk_of (a := 10) (b := 2000) (by omega) (Nat.lt_of_le_of_lt k2 (Nat.pow_lt_pow_right (by decide) (by omega))) (by decide)
            rw [dd] at k1
            simp? only [mm]
            refine ⟨(-b * m + x, some (.int x)), by simp [setE], k1, ?_⟩
            dsimp only
            have a1 : (-b * m).natAbs ≤ 36 * m.natAbs := by rw [Int.natAbs_mul]; exact Nat.mul_le_mul_right _ (by omega)
            have a2 := Int.natAbs_add_le (-b * m) x
            have e1 : 2 ^ (6 * (i + 1) + 61) = 64 * 2 ^ (6 * i + 61) := by rw [show 6 * (i + 1) + 61 = 6 + (6 * i + 61) by omega, Nat.pow_add]
            have e2 : 2 ^ 60 ≤ 2 ^ (6 * i + 61) := Nat.pow_le_pow_right (by decide) (by omega)
            rw [e1]
            generalize 2 ^ (6 * i + 61) = U at *
            omega
          · rintro ⟨m, o⟩ ⟨k1, k2⟩
            dsimp only at k1
            rw [List.length_map, List.drop_length] at k1
            simp? only []
            rw [← k1] at h
            exact h
        · have hl' : (200 < (ns.length : Int)) := by omega
          rw [decide_eq_false hl] at h
          simp only [hl', if_true]
          exact h
/-! ### the steps, on what stands for the numbers -/
def lowN (b : Int) : Int := ratN (-b) (b + 1)
def lowD (b : Int) : Int := ratD (-b) (b + 1)
section
variable {b n d X D w : Int}
theorem low_m (hb : 2 ≤ b) : lowN b * (b + 1) = -b * lowD b ∧ 0 < lowD b := ratM (by omega)
theorem low_sz (hb : 2 ≤ b) (hb2 : b ≤ 36) : (lowN b).natAbs < 2 ^ 6 ∧ (lowD b).natAbs < 2 ^ 6 := by
  have := rat_szA (n := -b) (d := b + 1) (by omega) (k := 6) (by omega) (by omega)
  exact ⟨this.1, this.2.2⟩
theorem st_low (hb : 2 ≤ b) (hd : 0 < d) (hD : 0 < D) (h : n * D = X * d) : ratN (n * lowD b - lowN b * d) (d * lowD b) = ratN (X * (b + 1) + b * D) (D * (b + 1)) ∧ ratD (n * lowD b - lowN b * d) (d * lowD b) = ratD (X * (b + 1) + b * D) (D * (b + 1)) := by
  obtain ⟨l1, l2⟩ := low_m hb
  have a1 := Int.mul_pos hd l2
  have a2 := Int.mul_pos hD (show 0 < b + 1 by omega)
  refine rat_cross (by omega) (by omega) ?_
  generalize lowN b = L at *
  generalize lowD b = E at *
  have e1 : (n * E - L * d) * (D * (b + 1)) = (n * D) * (E * (b + 1)) - (L * (b + 1)) * (d * D) := by grind
  rw [e1, h, l1]
  grind
theorem st_floor (hb : 2 ≤ b) (hd : 0 < d) (hD : 0 < D) (h : n * D = X * d) : (ratN (n * lowD b - lowN b * d) (d * lowD b)).fdiv (ratD (n * lowD b - lowN b * d) (d * lowD b)) = (X * (b + 1) + b * D) / (D * (b + 1)) := by
  rw [(st_low hb hd hD h).1, (st_low hb hd hD h).2]
  exact ratFl (Int.mul_pos hD (by omega))
theorem st_int (hd : 0 < d) (hD : 0 < D) (h : n * D = X * d) : ratN (n * 1 - w * d) (d * 1) = ratN (X - w * D) D ∧ ratD (n * 1 - w * d) (d * 1) = ratD (X - w * D) D := by
  refine rat_cross (by omega) (by omega) ?_
  have e1 : (n * 1 - w * d) * D = n * D - w * (d * D) := by grind
  rw [e1, h]
  grind
theorem st_times (hd : 0 < d) (hD : 0 < D) (h : n * D = X * d) : ratN (n * -b) d = ratN (-b * X) D ∧ ratD (n * -b) d = ratD (-b * X) D := by
  refine rat_cross (by omega) (by omega) ?_
  have e1 : n * -b * D = (n * D) * -b := by grind
  rw [e1, h]
  grind
end
/-! keys -/
def kR (D r : Int) : List Key := [.inl (ratN r D), .inl (ratD r D)]
theorem kR_inj {D r s : Int} (hD : 0 < D) (h : kR D r = kR D s) : r = s := by
  unfold kR at h
  injection h with h1 h2
  injection h2 with h2 _
  have := rat_inj (n := r) (a := s) (d := D) (b := D) (by omega) (by omega) (Sum.inl.inj h1) (Sum.inl.inj h2)
  exact Int.eq_of_mul_eq_mul_right (by omega) this
def kRs (b N D : Int) (n : Nat) : List (List Key) := (List.range n).map fun i => kR D (Fr b N D i)
theorem kRs_mem {b N D : Int} (hD : 0 < D) {n : Nat} {r : Int} : kR D r ∈ kRs b N D n ↔ ∃ i, i < n ∧ Fr b N D i = r := by
  unfold kRs
  rw [List.mem_map]
  constructor
  · rintro ⟨i, hi, e⟩
    exact ⟨i, List.mem_range.mp hi, kR_inj hD e⟩
  · rintro ⟨i, hi, e⟩
    exact ⟨i, List.mem_range.mpr hi, by rw [e]⟩
theorem kRs_s {b N D : Int} {n : Nat} : kRs b N D (n + 1) = kRs b N D n ++ [kR D (Fr b N D n)] := by
  unfold kRs
  rw [List.range_succ, List.map_append]
  rfl
def nsP (n : Nat) : List PV := (List.range n).map fun i => PV.int (i : Nat)
theorem nsP_s {n : Nat} : nsP (n + 1) = nsP n ++ [.int (n : Nat)] := by
  unfold nsP
  rw [List.range_succ, List.map_append]
  rfl
theorem nsP_len {n : Nat} : (nsP n).length = n := by unfold nsP; rw [List.length_map, List.length_range]
theorem kRs_len {b N D : Int} {n : Nat} : (kRs b N D n).length = n := by unfold kRs; rw [List.length_map, List.length_range]
theorem kRs_get {b N D : Int} (hD : 0 < D) {n i : Nat} (hi : i < n) (hu : ∀ m, m < n → Cont (Fr b N D) m) : getA (kRs b N D n) (nsP n) (kR D (Fr b N D i)) = some (.int (i : Nat)) := by
  refine getA_map (List.mem_range.mpr hi) fun j hj e => ?_
  have hj := List.mem_range.mp hj
  have e := kR_inj hD e
  have : j = i := by
    rcases Nat.lt_trichotomy j i with l | l | l
    · exact absurd e ((hu i hi).2 j l)
    · exact l
    · exact absurd e.symm ((hu j hj).2 i l)
  rw [this]
theorem Fr_sz {b N D : Int} (hb : 2 ≤ b) (hD : 0 < D) (hD2 : D ≤ 50) (n : Nat) : (Fr b N D n).natAbs ≤ 50 := by
  have := (Fr_bd (N := N) hb hD n).le hb hD
  omega
theorem whl_sz {b N D : Int} (hb : 2 ≤ b) (hD : 0 < D) (hD2 : D ≤ 50) (hN : N.natAbs < 2 ^ 95) : (whl b N D).natAbs < 2 ^ 96 := by
  have f := (Fr_bd (N := N) hb hD 0).le hb hD
  have e : Fr b N D 0 = N - whl b N D * D := rfl
  rw [e] at f
  generalize whl b N D = w at *
  rcases Int.lt_or_le w 0 with h | h
  · have := Int.mul_le_mul_of_nonneg_left (show 1 ≤ D by omega) (show 0 ≤ -w by omega)
    have e2 : -w * D = -(w * D) := Int.neg_mul _ _
    omega
  · have := Int.mul_le_mul_of_nonneg_left (show 1 ≤ D by omega) h
    omega
def w_minus_expand (A : Ad) : WSt :=
  (wSeq (wExpr (wCall (oFn 1 (fs_check_base A)) (wCons (wVar 0) wNil)))
  (wSeq (wExpr (wCall (oFn 1 (fs_check_ratio A)) (wCons (wVar 1) wNil)))
  (wSeq (wIf (wT (wOp oGt (wMeth A.kRatio "floor" 1 (fs_Ratio_floor A) (wMeth A.kRatio "size" 1 (fs_Ratio_size A) (wVar 1) wNil) wNil) (wC (.int 1000000000000000000000000000000)))) (wRaise (mal A)) wNext)
  (wSeq (wSet 2 (wMake A.kRatio (wLen 2 (wCons (wNeg (wVar 0)) (wCons (wOp oAdd (wVar 0) (wC (.int 1))) wNil)))))
  (wSeq (wSet 3 (wMeth A.kRatio "floor" 1 (fs_Ratio_floor A) (wOp (oOwnB A.kRatio (fs_Ratio_sub A)) (wVar 1) (wVar 2)) wNil))
  (wSeq (wPar3 4 5 6 false true true (wOp (oOwnB A.kRatio (fs_Ratio_sub A)) (wVar 1) (wMake A.kRatio (wLen 1 (wCons (wVar 3) wNil)))) (wLst wNil) wDNewT)
  (wSeq (wWhile (wNot (wT (wMeth A.kRatio "is_zero" 1 (fs_Ratio_is_zero A) (wVar 4) wNil))) (wSeq (wSet 7 (wTup (wCons (wFld A.kRatio "n" (wVar 4)) (wCons (wFld A.kRatio "d" (wVar 4)) wNil))))
  (wSeq (wIf (wT (wOp oDIn (wVar 7) (wVar 6))) (wRet (wTup (wCons (wCall (oFn 2 (fs_minus_word A)) (wCons (wVar 0) (wCons (wVar 3) wNil))) (wCons (wCall cTuple (wCons (wSl (wVar 5) wPn (wPs (wOp oDGet (wVar 6) (wVar 7)))) wNil)) (wCons (wCall cTuple (wCons (wSl (wVar 5) (wPs (wOp oDGet (wVar 6) (wVar 7))) wPn) wNil)) wNil))))) wNext)
  (wSeq (wIf (wT (wOp oGe (wCall cLen (wCons (wVar 5) wNil)) (wC (.int 2000)))) (wRaiseF A.cR "reason" (wC (.str "long"))) wNext)
  (wSeq (wDPut 6 (wVar 7) (wCall cLen (wCons (wVar 5) wNil)))
  (wSeq (wSet 8 (wMeth A.kRatio "times" 2 (fs_Ratio_times A) (wVar 4) (wCons (wNeg (wVar 0)) wNil)))
  (wSeq (wSet 9 (wCall cMin2 (wCons (wOp oSub (wVar 0) (wC (.int 1))) (wCons (wMeth A.kRatio "floor" 1 (fs_Ratio_floor A) (wOp (oOwnB A.kRatio (fs_Ratio_sub A)) (wVar 8) (wVar 2)) wNil) wNil))))
  (wSeq (wApp 5 (wVar 9))
  (wSet 4 (wOp (oOwnB A.kRatio (fs_Ratio_sub A)) (wVar 8) (wMake A.kRatio (wLen 1 (wCons (wVar 9) wNil)))))))))))))
  (wRet (wTup (wCons (wCall (oFn 2 (fs_minus_word A)) (wCons (wVar 0) (wCons (wVar 3) wNil))) (wCons (wCall cTuple (wCons (wVar 5) wNil)) (wCons (wTup wNil) wNil))))))))))))
def w_z_law_great (A : Ad) : WSt :=
  (wSeq (wSet 1 (wCall (oFn 2 (fs_z_law_take A)) (wCons (wVar 0) (wCons (wC (.int 5)) wNil))))
  (wSeq (wSet 2 (wCall (oFn 2 (fs_z_law_take A)) (wCons (wVar 0) (wCons (wC (.int 60)) wNil))))
  (wSeq (wIf (wT (wOp oGt (wVar 1) (wC (.int 2)))) (wSet 2 (wOp oAdd (wOp oMulA (wVar 2) (wC (.int 1000))) (wCall (oFn 2 (fs_z_law_take A)) (wCons (wVar 0) (wCons (wC (.int 1000)) wNil))))) wNext)
  (wSeq (wIf (wT (wOp oEq (wVar 1) (wC (.int 4)))) (wSet 2 (wOp oAdd (wOp oMulA (wVar 2) (wC (.int 100000000000000000000))) (wOp oMulA (wCall (oFn 2 (fs_z_law_take A)) (wCons (wVar 0) (wCons (wC (.int 1000003)) wNil))) (wC (.int 1000000007))))) wNext)
  (wRet (wVar 2))))))
theorem p_z_law_great (A : Ad) (hA : A.Ok) : ∀ qs Q R, qs.length = 1 → fs_z_law_great A qs Q R → w_z_law_great A (fnEnds Q R) (startP 3 qs)
  | [.st], Q, R, _, h => by
    simp? only [w_z_law_great, fs_z_law_take, fsTake]
    intro k hk n hn
    have h : ∀ n : Int, 0 ≤ n → n < 2 ^ 84 → Q (.int n) := h
    by_cases h2 : 2 < k
    · rw [if_pos h2]
      refine ⟨mulOk_s (by omega) (by decide), fun v hv => ?_⟩
      by_cases h4 : k = 4
      · rw [if_pos h4]
        exact ⟨mulOk_s (by omega) (by decide), fun w hw => ⟨mulOk_s (by omega) (by decide), h _ (by omega) (by omega)⟩⟩
      · rw [if_neg h4]
        exact h _ (by omega) (by omega)
    · rw [if_neg h2, if_neg (by omega)]
      exact h _ (by omega) (by omega)
theorem nmF : ("floor" : Str) ∉ (["n", "d"] : List Str) := by decide
theorem nmS : ("size" : Str) ∉ (["n", "d"] : List Str) := by decide
theorem nmT : ("times" : Str) ∉ (["n", "d"] : List Str) := by decide
theorem nmZ : ("is_zero" : Str) ∉ (["n", "d"] : List Str) := by decide
theorem nmO : ("over" : Str) ∉ (["n", "d"] : List Str) := by decide
theorem mk_s {a b : Int} (h1 : a.natAbs < 2 ^ 200) (h2 : b.natAbs < 2 ^ 200) : mulOk a b := mulOk_of h1 h2 (by decide)
theorem dgt_if {b D r : Int} : (if (-b * r * (b + 1) + b * D) / (D * (b + 1)) < b - 1 then (-b * r * (b + 1) + b * D) / (D * (b + 1)) else b - 1) = dgt b D r := by
  unfold dgt
  split <;> omega
theorem p_minus_expand (A : Ad) (hA : A.Ok) : ∀ qs Q R, qs.length = 2 → fs_minus_expand A qs Q R → w_minus_expand A (fnEnds Q R) (startP 10 qs)
  | [p, x], Q, R, _, ⟨⟨ho, ho2, hx⟩, h⟩ => by
    have hp := okV_plain ho
    have hq := okV_plain ho2
    have ho3 : okV [A.kRatio] x = true := ho2
    simp? only [w_minus_expand, fs_check_base, ho, ho2, hp, hq, fs_check_ratio, ho3]
    cases hb : okB p with
    | false => rw [hb] at h; exact h
    | true =>
      rw [hb, if_pos rfl] at h
      obtain ⟨b, rfl, b1, b2⟩ := okB_iff hb
      replace h : expQ b Q R (mal A) x := h
      simp only [if_true]
      cases x with
      | obj C ns xs =>
        match xs, hx, h with
        | [.int N, .int D], ⟨⟨c1, c2⟩, ⟨d0, d50⟩, hsz⟩, h =>
          subst c1 c2
          have i0 : isO A.kRatio (rat A.kRatio N D) = true := by simp [isO]
          rw [i0, if_pos rfl]
          have N200 : N.natAbs < 2 ^ 200 := by omega
          have d8 : D.natAbs < 2 ^ 8000 := pw_up (j := 10) (by omega) (by decide)
          have rs := rat_szA (n := (N.natAbs : Int)) (d := D) (by omega) (k := 200) (by omega) (by omega)
          have dv1 : divOk (ratD (N.natAbs : Int) D) := divOk_up rs.2.1 (pw_up rs.2.2 (by decide))
          have dn : D ≠ 0 := by omega
          replace h : if 1000000000000000000000000000000 < (N.natAbs : Int) / D then R (mal A) else ∀ n i, Stop (Fr b N D) n i → Q (.tup [irow (mwd b (whl b N D)), irow ((dgs b N D n).take i), irow ((dgs b N D n).drop i)]) := h
          have l1 : b + 1 ≠ 0 ∧ (b + 1).natAbs < 2 ^ 8000 := ⟨by omega, pw_up (j := 10) (by omega) (by decide)⟩
          have ls := low_sz b1 b2
          have lm := low_m b1
          simp? only [fs_Ratio_size, fs_Ratio_floor, dn, d8, dv1, ratFl d0, methP_r nmF, methP_r nmS, l1, fs_Ratio_sub]
          by_cases hg : 1000000000000000000000000000000 < (N.natAbs : Int) / D
          · rw [if_pos hg] at h
            rw [if_pos hg]
            exact ⟨dn, h⟩
          · rw [if_neg hg] at h
            rw [if_neg hg]
            have N95 : N.natAbs < 2 ^ 95 := by omega
            rw [show ratN (-b) (b + 1) = lowN b from rfl, show ratD (-b) (b + 1) = lowD b from rfl]
            have a1 := mk_s (a := N) (b := lowD b) N200 (pw_up ls.2 (by decide))
            have a2 := mk_s (a := lowN b) (b := D) (pw_up ls.1 (by decide)) (by omega)
            have a3 := mk_s (a := D) (b := lowD b) (by omega) (pw_up ls.2 (by decide))
            have a4 := Int.mul_pos d0 lm.2
            have a5 : (D * lowD b).natAbs < 2 ^ 20 := mul_sz (j := 10) (k := 10) (by omega) (pw_up ls.2 (by decide))
            refine ⟨dn, l1.1, ⟨a1, a2, a3, by omega, pw_up a5 (by decide)⟩, ?_⟩
            have sl := st_low (b := b) b1 d0 d0 (rfl : N * D = N * D)
            have sf := st_floor (b := b) b1 d0 d0 (rfl : N * D = N * D)
            have bp := Int.mul_pos d0 (show 0 < b + 1 by omega)
            have bp2 : (D * (b + 1)).natAbs < 2 ^ 20 := mul_sz (j := 10) (k := 10) (by omega) (by omega)
            have q1 := (ratM (n := N * (b + 1) + b * D) (d := D * (b + 1)) (by omega)).2
            have q2 : (ratD (N * (b + 1) + b * D) (D * (b + 1))).natAbs < 2 ^ 20 := by
              have := ratD_le (n := N * (b + 1) + b * D) bp
              omega
            rw [sl.2] at sf
            simp? only [methP_r nmF, sl.2, sf]
            have ws := whl_sz (b := b) (N := N) b1 d0 d50 N95
            have m1 : mulOk ((N * (b + 1) + b * D) / (D * (b + 1))) D := mk_s (pw_up ws (by decide)) (by omega)
            refine ⟨divOk_up q1 (pw_up q2 (by decide)), ⟨mk_s N200 (by decide), m1, mk_s (by omega) (by decide), by omega, by rw [Int.mul_one]; exact d8⟩, ?_⟩
            have si := st_int (w := whl b N D) d0 d0 (rfl : N * D = N * D)
            rw [show (N * (b + 1) + b * D) / (D * (b + 1)) = whl b N D from rfl, si.1, si.2]
            refine whileS_sl (σ := Nat × Option PV × Option PV × Option PV) (fun s => [(4, some (rat A.kRatio (ratN (Fr b N D s.1) D) (ratD (Fr b N D s.1) D))), (5, some (.own (.lst ((dgs b N D s.1).map PV.int)))), (6, some (.own (.dt (kRs b N D s.1) (nsP s.1)))), (7, s.2.1), (8, s.2.2.1), (9, s.2.2.2)])
              (fun s => ∀ m, m < s.1 → Cont (Fr b N D) m) (fun s => 200 - s.1) (0, none, none, none) ⟨rfl, fun m hm => absurd hm (Nat.not_lt_zero m)⟩ ?_
            rintro ⟨n, o7, o8, o9⟩ hc
            dsimp only at hc
            have nl := cont_le (N := N) b1 d0 hc
            have fz := Fr_sz (N := N) b1 d0 d50 n
            have rz := rat_szA (n := Fr b N D n) (d := D) (by omega) (k := 6) (by omega) (by omega)
            have rm := ratM (n := Fr b N D n) dn
            have z0 := ratN_zero (n := Fr b N D n) dn
            have okw : okN (.int (whl b N D)) = true := decide_eq_true (by omega)
            have okb : okB (.int b) = true := hb
            have ow : okV (owns A) (.int (whl b N D)) = true := rfl
            have pl : (PV.int (whl b N D)).plain = true := rfl
            simp? only [methP_r nmZ, fs_Ratio_is_zero, z0]
            by_cases hz : Fr b N D n = 0
            · simp? only [hz, fs_minus_word, fsO2, m_word, okw, okb, toI, outK_t]
              have := h n n ⟨hc, .inl ⟨hz, rfl⟩⟩
              rw [dgs_take (Nat.le_refl _), List.drop_eq_nil_of_le (by rw [dgs_len]; exact Nat.le_refl _)] at this
              exact this
            · simp? only [hz]
              have hkl : (kRs b N D n).length = (nsP n).length := by rw [kRs_len, nsP_len]
              rw [oDIn_t (l := kR D (Fr b N D n)) hkl rfl]
              by_cases hm : ∃ i, i < n ∧ Fr b N D i = Fr b N D n
              · obtain ⟨i, hi, e⟩ := hm
                rw [memB_t ((kRs_mem d0).mpr ⟨i, hi, e⟩)]
                have gt : dGetA (PV.own (.dt (kRs b N D n) (nsP n))).unD (.tup [.int (ratN (Fr b N D n) D), .int (ratD (Fr b N D n) D)]) = some (some (.int (i : Nat))) := by
                  have := kRs_get (b := b) (N := N) d0 hi hc
                  rw [e] at this
                  show dGetA (.dt (kRs b N D n) (nsP n)) _ = _
                  rw [dg_t (l := kR D (Fr b N D n)) rfl, this]
                simp? only [fs_minus_word, fsO2, m_word, okw, okb, toI, outK_t, oDGet_ok gt]
                rw [cutP_take (Int.natCast_nonneg i), cutP_drop (Int.natCast_nonneg i), Int.toNat_natCast, ← List.map_take, ← List.map_drop]
                exact h n i ⟨hc, .inr ⟨hz, hi, e⟩⟩
              · rw [memB_f fun z => hm ((kRs_mem d0).mp z)]
                have l2 : ¬ (2000 : Int) ≤ n := by omega
                have nin : kR D (Fr b N D n) ∉ kRs b N D n := fun z => hm ((kRs_mem d0).mp z)
                have hsl : n < sizeLine := by rw [sizeLine_eq]; omega
                have mt : mulOk (ratN (Fr b N D n) D) (-b) := mk_s (pw_up rz.1 (by decide)) (by omega)
                have rm8 : (ratD (Fr b N D n) D).natAbs < 2 ^ 8000 := pw_up rz.2.2 (by decide)
                have rm0 : ratD (Fr b N D n) D ≠ 0 := by omega
                have tm := st_times (b := b) rm.2 d0 rm.1
                have oz := rat_szA (n := -b * Fr b N D n) (d := D) (by omega) (k := 20) (mul_sz (j := 10) (k := 10) (by omega) (by omega)) (by omega)
                have om := ratM (n := -b * Fr b N D n) dn
                have b1' := mk_s (a := ratN (-b * Fr b N D n) D) (b := lowD b) (pw_up oz.1 (by decide)) (pw_up ls.2 (by decide))
                have b2' := mk_s (a := lowN b) (b := ratD (-b * Fr b N D n) D) (pw_up ls.1 (by decide)) (pw_up oz.2.2 (by decide))
                have b3' := mk_s (a := ratD (-b * Fr b N D n) D) (b := lowD b) (pw_up oz.2.2 (by decide)) (pw_up ls.2 (by decide))
                have b4' := Int.mul_pos om.2 lm.2
                have b5' : (ratD (-b * Fr b N D n) D * lowD b).natAbs < 2 ^ 8000 := pw_up (mul_sz oz.2.2 ls.2) (by decide)
                have s1 := st_low (b := b) b1 om.2 d0 om.1
                have s2 := st_floor (b := b) b1 om.2 d0 om.1
                have dg := dgt_if (b := b) (D := D) (r := Fr b N D n)
                have db := Fr_dg (N := N) b1 d0 n
                have bp1 := Int.mul_pos d0 (show 0 < b + 1 by omega)
                have q1' := (ratM (n := -b * Fr b N D n * (b + 1) + b * D) (d := D * (b + 1)) (by omega)).2
                have q2' : (ratD (-b * Fr b N D n * (b + 1) + b * D) (D * (b + 1))).natAbs < 2 ^ 20 := by
                  have := ratD_le (n := -b * Fr b N D n * (b + 1) + b * D) bp1
                  omega
                have dp := fun K => dPutP_t (K := K) (kt := kRs b N D n) (ps := nsP n) (p := .int (n : Nat)) (xs := [.int (ratN (Fr b N D n) D), .int (ratD (Fr b N D n) D)]) (l := kR D (Fr b N D n)) (h := rfl)
                simp? only [List.length_map, dgs_len, l2, dp, kRs_len, hsl, putKs_new nin, putVs_new nin, methP_r nmT, fs_Ratio_times, mt, rm8, tm.1, tm.2, fs_Ratio_sub, b1', b2', b3', b5', methP_r nmF, fs_Ratio_floor, s2, dg]
                rw [s1.2]
                have dsz : (dgt b D (Fr b N D n)).natAbs < 2 ^ 200 := by omega
                refine ⟨rm0, by omega, divOk_up q1' (pw_up q2' (by decide)), ⟨mk_s (pw_up oz.1 (by decide)) (by decide), mk_s dsz (pw_up oz.2.2 (by decide)), mk_s (pw_up oz.2.2 (by decide)) (by decide), by omega, by rw [Int.mul_one]; exact pw_up oz.2.2 (by decide)⟩, ?_⟩
                have si := st_int (w := dgt b D (Fr b N D n)) om.2 d0 om.1
                rw [si.1, si.2]
                refine ⟨(n + 1, some (.tup [.int (ratN (Fr b N D n) D), .int (ratD (Fr b N D n) D)]), some (rat A.kRatio (ratN (-b * Fr b N D n) D) (ratD (-b * Fr b N D n) D)), some (.int (dgt b D (Fr b N D n)))), ?_, ?_, by dsimp only; omega⟩
                · rw [kRs_s, nsP_s, dgs_s, List.map_append]
                  rfl
                · intro m hm'
                  rcases Nat.lt_or_ge m n with l | l
                  · exact hc m l
                  · have : m = n := by dsimp only at hm'; omega
                    subst this
                    exact ⟨hz, fun i hi e => hm ⟨i, hi, e⟩⟩
        | [], hx, _ => exact hx.elim
      | _ => exact h
def w_z_law_expand (A : Ad) : WSt :=
  (wSeq (wSet 2 (wCall (oFn 2 (fs_z_law_low A)) (wCons (wNeg (wVar 0)) (wCons (wOp oAdd (wVar 0) (wC (.int 1))) wNil))))
  (wSeq (wSet 3 (wCall (oFn 1 (fs_z_law_floor A)) (wCons (wCall (oFn 2 (fs_z_law_add A)) (wCons (wVar 1) (wCons (wCall (oFn 1 (fs_z_law_neg A)) (wCons (wVar 2) wNil)) wNil))) wNil)))
  (wSeq (wPar3 4 5 6 false true true (wCall (oFn 2 (fs_z_law_add A)) (wCons (wVar 1) (wCons (wTup (wCons (wNeg (wVar 3)) (wCons (wC (.int 1)) wNil))) wNil))) (wLst wNil) (wLst wNil))
  (wSeq (wWhile (wAnd (wT (wOp oNe (wOp oIx (wVar 4) (wC (.int 0))) (wC (.int 0)))) (wT (wOp oNotIn (wVar 4) (wVar 6)))) (wSeq (wApp 6 (wVar 4))
  (wSeq (wSet 7 (wCall (oFn 2 (fs_z_law_mul A)) (wCons (wVar 4) (wCons (wTup (wCons (wNeg (wVar 0)) (wCons (wC (.int 1)) wNil))) wNil))))
  (wSeq (wSet 8 (wCall cMin2 (wCons (wOp oSub (wVar 0) (wC (.int 1))) (wCons (wCall (oFn 1 (fs_z_law_floor A)) (wCons (wCall (oFn 2 (fs_z_law_add A)) (wCons (wVar 7) (wCons (wCall (oFn 1 (fs_z_law_neg A)) (wCons (wVar 2) wNil)) wNil))) wNil)) wNil))))
  (wSeq (wApp 5 (wVar 8))
  (wSet 4 (wCall (oFn 2 (fs_z_law_add A)) (wCons (wVar 7) (wCons (wTup (wCons (wNeg (wVar 8)) (wCons (wC (.int 1)) wNil))) wNil)))))))))
  (wSeq (wSet 9 (wIfE (wT (wOp oIn (wVar 4) (wVar 6))) (wIdx (wVar 6) (wVar 4)) (wCall cLen (wCons (wVar 5) wNil))))
  (wRet (wTup (wCons (wVar 3) (wCons (wCall cTuple (wCons (wSl (wVar 5) wPn (wPs (wVar 9))) wNil)) (wCons (wCall cTuple (wCons (wSl (wVar 5) (wPs (wVar 9)) wPn) wNil)) wNil))))))))))
def pR (D r : Int) : Int × Int := (ratN r D, ratD r D)
theorem pR_inj {D r s : Int} (hD : 0 < D) (h : pR D r = pR D s) : r = s := by
  unfold pR at h
  injection h with h1 h2
  have := rat_inj (n := r) (a := s) (d := D) (b := D) (by omega) (by omega) h1 h2
  exact Int.eq_of_mul_eq_mul_right (by omega) this
def pRs (b N D : Int) (n : Nat) : List (Int × Int) := (List.range n).map fun i => pR D (Fr b N D i)
theorem pRs_mem {b N D : Int} (hD : 0 < D) {n : Nat} {r : Int} : pR D r ∈ pRs b N D n ↔ ∃ i, i < n ∧ Fr b N D i = r := by
  unfold pRs
  rw [List.mem_map]
  constructor
  · rintro ⟨i, hi, e⟩
    exact ⟨i, List.mem_range.mp hi, pR_inj hD e⟩
  · rintro ⟨i, hi, e⟩
    exact ⟨i, List.mem_range.mpr hi, by rw [e]⟩
theorem pRs_s {b N D : Int} {n : Nat} : pRs b N D (n + 1) = pRs b N D n ++ [pR D (Fr b N D n)] := by
  unfold pRs
  rw [List.range_succ, List.map_append]
  rfl
theorem pRs_at {b N D : Int} {n i : Nat} (h : i < n) : (pRs b N D n)[i]? = some (pR D (Fr b N D i)) := by
  unfold pRs
  rw [List.getElem?_map, List.getElem?_range h]
  rfl
theorem pRs_len {b N D : Int} {n : Nat} : (pRs b N D n).length = n := by unfold pRs; rw [List.length_map, List.length_range]
theorem nn_or {a c : Bool} : (!decide (a = true) || !decide (c = true)) = true ↔ ¬ (a = true ∧ c = true) := by cases a <;> cases c <;> simp
theorem p_z_law_expand (A : Ad) (hA : A.Ok) : ∀ qs Q R, qs.length = 2 → fs_z_law_expand A qs Q R → w_z_law_expand A (fnEnds Q R) (startP 10 qs)
  | [.int b, .tup [.int N, .int D]], Q, R, _, ⟨⟨⟨b1, b2⟩, ⟨d0, d50⟩, N95⟩, h⟩ => by
    have dn : D ≠ 0 := by omega
    have N200 : Sz N := sz_up N95 (by decide)
    have D200 : Sz D := sz_up (k := 10) (by omega) (by decide)
    have l1 : b + 1 ≠ 0 ∧ (b + 1).natAbs < 2 ^ 8000 := ⟨by omega, pw_up (j := 10) (by omega) (by decide)⟩
    have ls := low_sz b1 b2
    have lm := low_m b1
    have L200 : Sz (-lowN b) := sz_up (k := 10) (by rw [Int.natAbs_neg]; exact pw_up ls.1 (by decide)) (by decide)
    have E200 : Sz (lowD b) := sz_up ls.2 (by decide)
    have sl := st_low (b := b) b1 d0 d0 (rfl : N * D = N * D)
    have sf := st_floor (b := b) b1 d0 d0 (rfl : N * D = N * D)
    have bp := Int.mul_pos d0 (show 0 < b + 1 by omega)
    have bp2 : (D * (b + 1)).natAbs < 2 ^ 20 := mul_sz (j := 10) (k := 10) (by omega) (by omega)
    have q1 := (ratM (n := N * (b + 1) + b * D) (d := D * (b + 1)) (by omega)).2
    have q2 : (ratD (N * (b + 1) + b * D) (D * (b + 1))).natAbs < 2 ^ 20 := by
      have := ratD_le (n := N * (b + 1) + b * D) bp
      omega
    rw [sl.2] at sf
    have ws := whl_sz (b := b) (N := N) b1 d0 d50 N95
    have W200 : Sz (-whl b N D) := sz_up (k := 100) (by rw [Int.natAbs_neg]; exact pw_up ws (by decide)) (by decide)
    have one : Sz 1 := sz_up (k := 10) (by decide) (by decide)
    have si := st_int (w := whl b N D) d0 d0 (rfl : N * D = N * D)
    simp? only [w_z_law_expand, fs_z_law_low]
    refine ⟨l1, ?_⟩
    rw [show ratN (-b) (b + 1) = lowN b from rfl, show ratD (-b) (b + 1) = lowD b from rfl]
    simp? only [fs_z_law_neg, fs_z_law_add, fs_z_law_floor]
    refine ⟨⟨⟨dn, by omega⟩, N200, D200, L200, E200⟩, ?_⟩
    rw [Int.neg_mul, ← Int.sub_eq_add_neg, sl.2, sf, show (N * (b + 1) + b * D) / (D * (b + 1)) = whl b N D from rfl, Int.neg_mul, ← Int.sub_eq_add_neg, si.1, si.2]
    refine ⟨divOk_up q1 (pw_up q2 (by decide)), ⟨⟨dn, by decide⟩, N200, D200, W200, one⟩, ?_⟩
    refine whileS_sl (σ := Nat × Option PV × Option PV) (fun s => [(4, some (ppV (pR D (Fr b N D s.1)))), (5, some (.own (.lst ((dgs b N D s.1).map PV.int)))), (6, some (.own (.lst ((pRs b N D s.1).map ppV)))), (7, s.2.1), (8, s.2.2)])
      (fun s => ∀ m, m < s.1 → Cont (Fr b N D) m) (fun s => 200 - s.1) (0, none, none) ⟨rfl, fun m hm => absurd hm (Nat.not_lt_zero m)⟩ ?_
    rintro ⟨n, o7, o8⟩ hc
    dsimp only at hc
    have nl := cont_le (N := N) b1 d0 hc
    have fz := Fr_sz (N := N) b1 d0 d50 n
    have rz := rat_szA (n := Fr b N D n) (d := D) (by omega) (k := 6) (by omega) (by omega)
    have rm := ratM (n := Fr b N D n) dn
    have z0 := ratN_zero (n := Fr b N D n) dn
    have epp : ppV (pR D (Fr b N D n)) = .tup [.int (ratN (Fr b N D n) D), .int (ratD (Fr b N D n) D)] := rfl
    have oin : ∀ (Q : PQ) (R : XQ), oNotIn (.tup [.int (ratN (Fr b N D n) D), .int (ratD (Fr b N D n) D)]) (.own (.lst ((pRs b N D n).map ppV))) Q R = Q (.bl (!decide (pR D (Fr b N D n) ∈ pRs b N D n))) := fun Q R => by
      rw [← epp]
      exact oIn_opp
    have oin2 : ∀ (Q : PQ) (R : XQ), oIn (.tup [.int (ratN (Fr b N D n) D), .int (ratD (Fr b N D n) D)]) (.own (.lst ((pRs b N D n).map ppV))) Q R = Q (.bl (decide (pR D (Fr b N D n) ∈ pRs b N D n))) := fun Q R => by
      rw [← epp]
      exact oIn_opp
    rw [epp]
    by_cases hz : Fr b N D n = 0
    · have nin : pR D (Fr b N D n) ∉ pRs b N D n := fun z => by
        obtain ⟨i, hi, e⟩ := (pRs_mem d0).mp z
        exact (hc i hi).1 (e.trans hz)
      have zd : decide (ratN (Fr b N D n) D = 0) = true := decide_eq_true (z0.mpr hz)
      simp? only [zd, oin2, nin, List.length_map, dgs_len]
      rw [cutP_take (Int.natCast_nonneg n), cutP_drop (Int.natCast_nonneg n), Int.toNat_natCast, ← List.map_take, ← List.map_drop]
      exact h n n ⟨hc, .inl ⟨hz, rfl⟩⟩
    · have zd : decide (ratN (Fr b N D n) D = 0) = false := decide_eq_false fun z => hz (z0.mp z)
      by_cases hm : ∃ i, i < n ∧ Fr b N D i = Fr b N D n
      · have yin : pR D (Fr b N D n) ∈ pRs b N D n := (pRs_mem d0).mpr hm
        simp? only [zd, oin, oin2, yin]
        obtain ⟨i, hi, e⟩ := hm
        refine ⟨⟨_, toD_opp⟩, lIdx_opp (j := i) (by rw [pRs_at hi, e]) (fun m hm' z => ?_) ?_⟩
        · rw [pRs_at (Nat.lt_trans hm' hi)] at z
          have := pR_inj d0 (Option.some.inj z)
          exact (hc i hi).2 m hm' (this.trans e.symm)
        simp? only []
        rw [cutP_take (Int.natCast_nonneg i), cutP_drop (Int.natCast_nonneg i), Int.toNat_natCast, ← List.map_take, ← List.map_drop]
        exact h n i ⟨hc, .inr ⟨hz, hi, e⟩⟩
      · have nin : pR D (Fr b N D n) ∉ pRs b N D n := fun z => hm ((pRs_mem d0).mp z)
        have hsl : n < sizeLine := by rw [sizeLine_eq]; omega
        have tm := st_times (b := b) rm.2 d0 rm.1
        have tm1 : ratN (ratN (Fr b N D n) D * -b) (ratD (Fr b N D n) D * 1) = ratN (-b * Fr b N D n) D ∧ ratD (ratN (Fr b N D n) D * -b) (ratD (Fr b N D n) D * 1) = ratD (-b * Fr b N D n) D := by
          rw [Int.mul_one]
          exact tm
        have oz := rat_szA (n := -b * Fr b N D n) (d := D) (by omega) (k := 20) (mul_sz (j := 10) (k := 10) (by omega) (by omega)) (by omega)
        have om := ratM (n := -b * Fr b N D n) dn
        have b4' := Int.mul_pos om.2 lm.2
        have s1 := st_low (b := b) b1 om.2 d0 om.1
        have s2 := st_floor (b := b) b1 om.2 d0 om.1
        have neg : ∀ x y : Int, x * lowD b + -lowN b * y = x * lowD b - lowN b * y := fun x y => by rw [Int.neg_mul, ← Int.sub_eq_add_neg]
        have neg1 : ∀ x y w : Int, x * 1 + -w * y = x * 1 - w * y := fun x y w => by rw [Int.neg_mul, ← Int.sub_eq_add_neg]
        have dg := dgt_if (b := b) (D := D) (r := Fr b N D n)
        have db := Fr_dg (N := N) b1 d0 n
        have bp1 := Int.mul_pos d0 (show 0 < b + 1 by omega)
        have q1' := (ratM (n := -b * Fr b N D n * (b + 1) + b * D) (d := D * (b + 1)) (by omega)).2
        have q2' : (ratD (-b * Fr b N D n * (b + 1) + b * D) (D * (b + 1))).natAbs < 2 ^ 20 := by
          have := ratD_le (n := -b * Fr b N D n * (b + 1) + b * D) bp1
          omega
        simp? only [zd, oin, nin, List.length_map, pRs_len, dgs_len, hsl, fs_z_law_mul, tm1.1, tm1.2, fs_z_law_neg, fs_z_law_add, neg, neg1, fs_z_law_floor, s2, dg]
        rw [s1.2]
        have si := st_int (w := dgt b D (Fr b N D n)) om.2 d0 om.1
        rw [si.1, si.2]
        have O1 : Sz (ratN (-b * Fr b N D n) D) := sz_up oz.1 (by decide)
        have O2 : Sz (ratD (-b * Fr b N D n) D) := sz_up oz.2.2 (by decide)
        have dd : Sz (-dgt b D (Fr b N D n)) := sz_up (k := 10) (by rw [Int.natAbs_neg]; omega) (by decide)
        refine ⟨⟨⟨by omega, by decide⟩, sz_up rz.1 (by decide), sz_up rz.2.2 (by decide), sz_up (k := 10) (by omega) (by decide), one⟩, ⟨⟨by omega, by omega⟩, O1, O2, L200, E200⟩, divOk_up q1' (pw_up q2' (by decide)), ⟨⟨by omega, by decide⟩, O1, O2, dd, one⟩, ?_⟩
        refine ⟨(n + 1, some (ppV (pR D (-b * Fr b N D n))), some (.int (dgt b D (Fr b N D n)))), ?_, ?_, by dsimp only; omega⟩
        · rw [pRs_s, dgs_s, List.map_append, List.map_append]
          rfl
        · intro m hm'
          rcases Nat.lt_or_ge m n with l | l
          · exact hc m l
          · have : m = n := by dsimp only at hm'; omega
            subst this
            exact ⟨hz, fun i hi e => hm ⟨i, hi, e⟩⟩
def w_z_law_number (A : Ad) : WSt :=
  (wSeq (wSet 2 (wC (.int 0)))
  (wSeq (wFor (wiSeq false (wVar 1)) (.name 3) (wSet 2 (wOp oAdd (wOp oMulA (wNeg (wVar 0)) (wVar 2)) (wVar 3))))
  (wRet (wVar 2))))
def w_z_law_value (A : Ad) : WSt :=
  (wSeq (wPar 4 5 false false (wTup (wCons (wCall (oFn 2 (fs_z_law_number A)) (wCons (wVar 0) (wCons (wVar 1) wNil))) (wCons (wC (.int 1)) wNil))) (wTup (wCons (wC (.int 1)) (wCons (wC (.int 1)) wNil))))
  (wSeq (wFor (wiSeq false (wVar 2)) (.name 6) (wSeq (wSet 5 (wCall (oFn 2 (fs_z_law_over A)) (wCons (wVar 5) (wCons (wTup (wCons (wNeg (wVar 0)) (wCons (wC (.int 1)) wNil))) wNil))))
  (wSet 4 (wCall (oFn 2 (fs_z_law_add A)) (wCons (wVar 4) (wCons (wCall (oFn 2 (fs_z_law_mul A)) (wCons (wVar 5) (wCons (wTup (wCons (wVar 6) (wCons (wC (.int 1)) wNil))) wNil))) wNil))))))
  (wSeq (wSet 7 (wC (.int 1)))
  (wSeq (wFor (wiSeq false (wVar 3)) (.name 6) (wSet 7 (wOp oMulA (wNeg (wVar 0)) (wVar 7))))
  (wRet (wIfE (wT (wOp oEq (wCall cLen (wCons (wVar 3) wNil)) (wC (.int 0)))) (wVar 4) (wCall (oFn 2 (fs_z_law_add A)) (wCons (wVar 4) (wCons (wCall (oFn 2 (fs_z_law_mul A)) (wCons (wVar 5) (wCons (wCall (oFn 2 (fs_z_law_low A)) (wCons (wCall (oFn 2 (fs_z_law_number A)) (wCons (wVar 0) (wCons (wVar 3) wNil))) (wCons (wOp oSub (wVar 7) (wC (.int 1))) wNil))) wNil))) wNil)))))))))
/-! ### the value of a word, digits, and digits that come again -/
section
variable {b : Int}
theorem pwB (hb : 2 ≤ b ∧ b ≤ 36) : ∀ n : Nat, ((-b) ^ n).natAbs ≤ 2 ^ (6 * n)
  | 0 => by simp
  | n + 1 => by
    have := pwB hb n
    rw [Int.pow_succ, Int.natAbs_mul, show 6 * (n + 1) = 6 * n + 6 by omega, Nat.pow_add]
    exact Nat.mul_le_mul this (by omega)
theorem mv_st (hb : 2 ≤ b ∧ b ≤ 36) {i : Nat} {m x : Int} (k2 : m.natAbs ≤ 2 ^ (6 * i + 61)) (xs : x.natAbs < 2 ^ 60) : (-b * m + x).natAbs ≤ 2 ^ (6 * (i + 1) + 61) := by
  have a1 : (-b * m).natAbs ≤ 36 * m.natAbs := by rw [Int.natAbs_mul]; exact Nat.mul_le_mul_right _ (by omega)
  have a2 := Int.natAbs_add_le (-b * m) x
  have e1 : 2 ^ (6 * (i + 1) + 61) = 64 * 2 ^ (6 * i + 61) := by rw [show 6 * (i + 1) + 61 = 6 + (6 * i + 61) by omega, Nat.pow_add]
  have e2 : 2 ^ 60 ≤ 2 ^ (6 * i + 61) := Nat.pow_le_pow_right (by decide) (by omega)
  rw [e1]
  generalize 2 ^ (6 * i + 61) = U at *
  omega
theorem mvB (hb : 2 ≤ b ∧ b ≤ 36) : ∀ (ns : List Int) (m : Int) (i : Nat), (∀ x ∈ ns, x.natAbs < 2 ^ 60) → m.natAbs ≤ 2 ^ (6 * i + 61) → (mv b m ns).natAbs ≤ 2 ^ (6 * (i + ns.length) + 61)
  | [], m, i, _, h => h
  | x :: ns, m, i, hx, h => by
    have := mvB hb ns (-b * m + x) (i + 1) (fun y hy => hx y (List.mem_cons_of_mem _ hy)) (mv_st hb h (hx x List.mem_cons_self))
    rw [List.length_cons, show i + (ns.length + 1) = i + 1 + ns.length by omega]
    exact this
theorem mv_sz (hb : 2 ≤ b ∧ b ≤ 36) {ns : List Int} (hl : ns.length ≤ 400) (hx : ∀ x ∈ ns, x.natAbs < 2 ^ 60) : (mv b 0 ns).natAbs < 2 ^ 2500 := by
  have := mvB hb ns 0 0 hx (Nat.zero_le _)
  exact Nat.lt_of_le_of_lt this (Nat.pow_lt_pow_right (by decide) (by omega))
theorem pw_sz (hb : 2 ≤ b ∧ b ≤ 36) {n : Nat} (hl : n ≤ 200) : ((-b) ^ n).natAbs < 2 ^ 1201 := Nat.lt_of_le_of_lt (pwB hb n) (Nat.pow_lt_pow_right (by decide) (by omega))
theorem sub1_sz {x : Int} {k : Nat} (h : x.natAbs < 2 ^ k) : (x - 1).natAbs < 2 ^ (k + 1) := by
  rw [Nat.pow_succ]
  omega
variable {M P x T w : Int}
/-- one more digit behind -/
theorem vl_step (hb : 2 ≤ b) (hP : P ≠ 0) : ratN (ratN M P * ratD (1 * x) (P * -b) + ratN (1 * x) (P * -b) * ratD M P) (ratD M P * ratD (1 * x) (P * -b)) = ratN (-b * M + x) (P * -b) ∧
    ratD (ratN M P * ratD (1 * x) (P * -b) + ratN (1 * x) (P * -b) * ratD M P) (ratD M P * ratD (1 * x) (P * -b)) = ratD (-b * M + x) (P * -b) := by
  have hQ : P * -b ≠ 0 := fun z => (Int.mul_eq_zero.mp z).elim hP (by omega)
  rw [(rat_add hP hQ).1, (rat_add hP hQ).2]
  refine rat_cross (fun z => (Int.mul_eq_zero.mp z).elim hP hQ) hQ ?_
  grind
theorem vl_end (hP : P ≠ 0) (hw : w ≠ 0) : ratN (ratN M P * ratD (1 * T) (P * w) + ratN (1 * T) (P * w) * ratD M P) (ratD M P * ratD (1 * T) (P * w)) = ratN (M * w + T) (P * w) ∧
    ratD (ratN M P * ratD (1 * T) (P * w) + ratN (1 * T) (P * w) * ratD M P) (ratD M P * ratD (1 * T) (P * w)) = ratD (M * w + T) (P * w) := by
  have hQ : P * w ≠ 0 := fun z => (Int.mul_eq_zero.mp z).elim hP hw
  rw [(rat_add hP hQ).1, (rat_add hP hQ).2]
  refine rat_cross (fun z => (Int.mul_eq_zero.mp z).elim hP hQ) hQ ?_
  grind
end
theorem at_take {ns : List Int} {i : Nat} {x : Int} (h : ns[i]? = some x) : ns.take (i + 1) = ns.take i ++ [x] := by
  rw [List.take_succ, h]
  rfl
theorem p_z_law_number (A : Ad) (hA : A.Ok) : ∀ qs Q R, qs.length = 2 → fs_z_law_number A qs Q R → w_z_law_number A (fnEnds Q R) (startP 4 qs)
  | [.int b, .tup ps], Q, R, _, ⟨ns, e, ⟨hb, hl, hdg⟩, h⟩ => by
    subst e
    simp? only [w_z_law_number]
    refine loopS_sl (σ := Int × Option PV) (fun s => [(2, some (.int s.1)), (3, s.2)]) (fun i s => s.1 = mv b 0 (ns.take i)) (0, none) ⟨rfl, rfl⟩ ?_ ?_
    · rintro i ⟨m, o⟩ z k1 hz
      dsimp only at k1
      rw [List.getElem?_map] at hz
      obtain ⟨x, hx, rfl⟩ := Option.map_eq_some_iff.mp hz
      have hi := (List.getElem?_eq_some_iff.mp hx).1
      have xs := hdg x (List.mem_of_getElem? hx)
      have sz := mv_sz hb (ns := ns.take i) (by rw [List.length_take]; omega) fun x hx => hdg x (List.mem_of_mem_take hx)
      rw [← k1] at sz
      have mm : mulOk (-b) m := mulOk_of (a := 10) (b := 2500) (by omega) sz (by decide)
      simp? only [mm]
      refine ⟨(-b * m + x, some (.int x)), by simp [setE], ?_⟩
      show -b * m + x = mv b 0 (ns.take (i + 1))
      rw [at_take hx, mv_snoc, k1]
    · rintro ⟨m, o⟩ k1
      dsimp only at k1
      rw [List.length_map, List.take_length] at k1
      simp? only []
      rw [k1]
      exact h
theorem p_z_law_value (A : Ad) (hA : A.Ok) : ∀ qs Q R, qs.length = 4 → fs_z_law_value A qs Q R → w_z_law_value A (fnEnds Q R) (startP 8 qs)
  | [.int b, .tup os, .tup xs, .tup ts], Q, R, _, ⟨o, a, t, e1, e2, e3, ⟨hb, ⟨ol, od⟩, ⟨al, ad⟩, ⟨tl, td⟩⟩, h⟩ => by
    subst e1 e2 e3
    have one : Sz 1 := sz_up (k := 10) (by decide) (by decide)
    have nb : Sz (-b) := sz_up (k := 10) (by omega) (by decide)
    have b0 : -b ≠ 0 := by omega
    simp? only [w_z_law_value, fs_z_law_number]
    refine ⟨o, rfl, ⟨hb, ol, od⟩, ?_⟩
    refine loopS_sl (σ := Nat × Option PV) (fun s => [(4, some (.tup [.int (ratN (mv b 0 (o ++ a.take s.1)) ((-b) ^ s.1)), .int (ratD (mv b 0 (o ++ a.take s.1)) ((-b) ^ s.1))])), (5, some (.tup [.int (ratN 1 ((-b) ^ s.1)), .int (ratD 1 ((-b) ^ s.1))])), (6, s.2)])
      (fun i s => s.1 = i) (0, none) ⟨?_, rfl⟩ ?_ ?_
    · simp [setE, ratN_one, ratD_one']
    · rintro i ⟨n, q⟩ z hn hz
      dsimp only at hn
      subst hn
      rw [List.getElem?_map] at hz
      obtain ⟨x, hx, rfl⟩ := Option.map_eq_some_iff.mp hz
      have hi := (List.getElem?_eq_some_iff.mp hx).1
      have xs := ad x (List.mem_of_getElem? hx)
      have P0 := pow_nz hb.1 n
      have P1 := pow_nz hb.1 (n + 1)
      have Ps := pw_sz hb (n := n) (by omega)
      have Ps1 := pw_sz hb (n := n + 1) (by omega)
      have ov := rat_over (n := 1) (x := -b) P0 b0
      rw [← Int.pow_succ] at ov
      have tm := rat_times (n := 1) (x := x) P1
      have st := vl_step (x := x) (M := mv b 0 (o ++ a.take n)) hb.1 P0
      rw [← Int.pow_succ] at st
      have Ms := mv_sz hb (ns := o ++ a.take n) (by rw [List.length_append, List.length_take]; omega) fun y hy => by
        rcases List.mem_append.mp hy with hy | hy
        · exact od y hy
        · exact ad y (List.mem_of_mem_take hy)
      have z1 := rat_szA (n := mv b 0 (o ++ a.take n)) P0 Ms (pw_up Ps (by decide))
      have z2 := rat_szA (n := 1) P0 (k := 1201) (Nat.lt_of_lt_of_le (show (1 : Int).natAbs < 2 ^ 1 by decide) (Nat.pow_le_pow_right (by decide) (by decide))) Ps
      have z3 := rat_szA (n := 1) P1 (k := 1201) (Nat.lt_of_lt_of_le (show (1 : Int).natAbs < 2 ^ 1 by decide) (Nat.pow_le_pow_right (by decide) (by decide))) Ps1
      have z4 := rat_szA (n := 1 * x) P1 (k := 1201) (pw_up (k := 1201) (show (1 * x).natAbs < 2 ^ 60 by rw [Int.one_mul]; exact xs) (by decide)) Ps1
      have xS : Sz x := sz_up xs (by decide)
      have ov1 : ratN (ratN 1 ((-b) ^ n) * 1) (ratD 1 ((-b) ^ n) * -b) = ratN 1 ((-b) ^ (n + 1)) := by rw [Int.mul_one]; exact ov.1
      have ov2 : ratD (ratN 1 ((-b) ^ n) * 1) (ratD 1 ((-b) ^ n) * -b) = ratD 1 ((-b) ^ (n + 1)) := by rw [Int.mul_one]; exact ov.2
      have tm1 : ratN (ratN 1 ((-b) ^ (n + 1)) * x) (ratD 1 ((-b) ^ (n + 1)) * 1) = ratN (1 * x) ((-b) ^ (n + 1)) := by rw [Int.mul_one]; exact tm.1
      have tm2 : ratD (ratN 1 ((-b) ^ (n + 1)) * x) (ratD 1 ((-b) ^ (n + 1)) * 1) = ratD (1 * x) ((-b) ^ (n + 1)) := by rw [Int.mul_one]; exact tm.2
      simp? only [fs_z_law_over, fs_z_law_mul, fs_z_law_add, ov1, ov2, tm1, tm2, st.1, st.2]
      refine ⟨⟨⟨by omega, b0⟩, sz_up z2.1 (by decide), sz_up z2.2.2 (by decide), nb, one⟩, ⟨⟨by omega, by decide⟩, sz_up z3.1 (by decide), sz_up z3.2.2 (by decide), xS, one⟩, ⟨⟨by omega, by omega⟩, sz_up z1.1 (by decide), sz_up z1.2.2 (by decide), sz_up z4.1 (by decide), sz_up z4.2.2 (by decide)⟩, ?_⟩
      refine ⟨(n + 1, some (.int x)), ?_, rfl⟩
      rw [at_take hx, ← List.append_assoc, mv_snoc]
      rfl
    · rintro ⟨n, q⟩ hn
      dsimp only at hn
      rw [List.length_map] at hn
      subst hn
      rw [List.take_length]
      have P0 := pow_nz hb.1 a.length
      have Ps := pw_sz hb (n := a.length) al
      simp? only []
      refine loopS_sl (σ := Nat × Option PV) (fun s => [(7, some (.int ((-b) ^ s.1))), (6, s.2)]) (fun i s => s.1 = i) (0, q) ⟨by simp [setE], rfl⟩ ?_ ?_
      · rintro i ⟨n, q'⟩ z hn hz
        dsimp only at hn
        subst hn
        have hi := (List.getElem?_eq_some_iff.mp hz).1
        rw [List.length_map] at hi
        have Ps := pw_sz hb (n := n) (by omega)
        have mm : mulOk (-b) ((-b) ^ n) := mulOk_of (a := 10) (b := 1201) (by omega) Ps (by decide)
        simp? only [mm]
        refine ⟨(n + 1, some z), ?_, rfl⟩
        rw [Int.pow_succ, Int.mul_comm]
        rfl
      · rintro ⟨n, q'⟩ hn
        dsimp only at hn
        rw [List.length_map] at hn
        subst hn
        have Ms := mv_sz hb (ns := o ++ a) (by rw [List.length_append]; omega) fun y hy => by
          rcases List.mem_append.mp hy with hy | hy
          · exact od y hy
          · exact ad y hy
        by_cases ht : t = []
        · subst ht
          simp? only []
          have : vlN b o a [] = mv b 0 (o ++ a) ∧ vlD b a [] = (-b) ^ a.length := ⟨if_pos rfl, if_pos rfl⟩
          rw [this.1, this.2] at h
          exact h
        · have tn : ¬ ((t.length : Int) = 0) := fun z => ht (List.length_eq_zero_iff.mp (by omega))
          have wn := wide_nz hb.1 (n := t.length) (fun z => ht (List.length_eq_zero_iff.mp z))
          have ws := sub1_sz (pw_sz hb (n := t.length) tl)
          have Ts := mv_sz hb (ns := t) (by omega) td
          have z1 := rat_szA (n := mv b 0 (o ++ a)) P0 Ms (pw_up Ps (by decide))
          have z2 := rat_szA (n := 1) P0 (k := 1201) (Nat.lt_of_lt_of_le (show (1 : Int).natAbs < 2 ^ 1 by decide) (Nat.pow_le_pow_right (by decide) (by decide))) Ps
          have z3 := rat_szA (n := mv b 0 t) wn (k := 2500) Ts (pw_up ws (by decide))
          have PW : (-b) ^ a.length * ((-b) ^ t.length - 1) ≠ 0 := fun z => (Int.mul_eq_zero.mp z).elim P0 wn
          have z4 := rat_szA (n := 1 * mv b 0 t) PW (k := 2500) (by rw [Int.one_mul]; exact Ts) (pw_up (mul_sz Ps ws) (by decide))
          have ml := rat_mul (n := 1) (m := mv b 0 t) P0 wn
          have en := vl_end (M := mv b 0 (o ++ a)) (T := mv b 0 t) P0 wn
          simp? only [List.length_map, tn]
          refine ⟨t, rfl, ⟨hb, tl, td⟩, ?_⟩
          simp? only [fs_z_law_low, fs_z_law_mul, fs_z_law_add, ml.1, ml.2, en.1, en.2]
          refine ⟨⟨wn, pw_up ws (by decide)⟩, ⟨⟨by omega, by omega⟩, sz_up z2.1 (by decide), sz_up z2.2.2 (by decide), sz_up z3.1 (by decide), sz_up z3.2.2 (by decide)⟩, ⟨⟨by omega, by omega⟩, sz_up z1.1 (by decide), sz_up z1.2.2 (by decide), sz_up z4.1 (by decide), sz_up z4.2.2 (by decide)⟩, ?_⟩
          have : vlN b o a t = mv b 0 (o ++ a) * ((-b) ^ t.length - 1) + mv b 0 t ∧ vlD b a t = (-b) ^ a.length * ((-b) ^ t.length - 1) := ⟨if_neg ht, if_neg ht⟩
          rw [this.1, this.2] at h
          exact h
def w_minus_value (A : Ad) : WSt :=
  (wSeq (wExpr (wCall (oFn 1 (fs_check_base A)) (wCons (wVar 0) wNil)))
  (wSeq (wFor (wiSeq false (wTup (wCons (wVar 1) (wCons (wVar 2) (wCons (wVar 3) wNil))))) (.name 4) (wIf (wOr (wNot (wT (wCall (oFn 1 (fs_is_whole_row A)) (wCons (wVar 4) wNil)))) (wT (wOp oGt (wCall cLen (wCons (wVar 4) wNil)) (wC (.int 200))))) (wRaise (mal A)) wNext))
  (wSeq (wPar 5 6 false false (wMake A.kRatio (wLen 1 (wCons (wCall (oFn 2 (fs_minus_number A)) (wCons (wVar 0) (wCons (wVar 1) wNil))) wNil))) (wMake A.kRatio (wLen 1 (wCons (wC (.int 1)) wNil))))
  (wSeq (wFor (wiSeq false (wVar 2)) (.name 7) (wSeq (wSet 6 (wMeth A.kRatio "over" 2 (fs_Ratio_over A) (wVar 6) (wCons (wMake A.kRatio (wLen 1 (wCons (wNeg (wVar 0)) wNil))) wNil)))
  (wSet 5 (wOp (oOwnB A.kRatio (fs_Ratio_add A)) (wVar 5) (wMeth A.kRatio "times" 2 (fs_Ratio_times A) (wVar 6) (wCons (wVar 7) wNil))))))
  (wSeq (wIf (wT (wOp oGt (wCall cLen (wCons (wVar 3) wNil)) (wC (.int 0)))) (wSeq (wSet 8 (wC (.int 1)))
  (wSeq (wFor (wiSeq false (wVar 3)) (.name 9) (wSet 8 (wOp oMulA (wNeg (wVar 0)) (wVar 8))))
  (wSet 5 (wOp (oOwnB A.kRatio (fs_Ratio_add A)) (wVar 5) (wOp (oOwnB A.kRatio (fs_Ratio_mul A)) (wVar 6) (wMake A.kRatio (wLen 2 (wCons (wCall (oFn 2 (fs_minus_number A)) (wCons (wVar 0) (wCons (wVar 3) wNil))) (wCons (wOp oSub (wVar 8) (wC (.int 1))) wNil))))))))) wNext)
  (wRet (wVar 5)))))))
theorem rowB_iff {v : PV} (h : rowB v = true) : ∃ ns : List Int, v = irow ns ∧ ns.length ≤ 200 := by
  unfold rowB at h
  obtain ⟨h1, h2⟩ := Bool.and_eq_true_iff.mp h
  obtain ⟨ns, rfl⟩ := isRow_iff h1
  exact ⟨ns, rfl, by have := of_decide_eq_true h2; rwa [tlen_row] at this⟩
theorem p_minus_value (A : Ad) (hA : A.Ok) : ∀ qs Q R, qs.length = 4 → fs_minus_value A qs Q R → w_minus_value A (fnEnds Q R) (startP 10 qs)
  | [p, vo, va, vt], Q, R, _, ⟨⟨ho, ho1, ho2, ho3, ⟨t1, g1⟩, ⟨t2, g2⟩, ⟨t3, g3⟩⟩, h⟩ => by
    have hp := okV_plain ho
    have hp1 := okV_plain ho1
    have hp2 := okV_plain ho2
    have hp3 := okV_plain ho3
    unfold m_value at h
    simp? only [w_minus_value, fs_check_base, ho, hp, hp1, hp2, hp3]
    cases hb : okB p with
    | false => rw [hb] at h; exact h
    | true =>
      rw [hb] at h
      have okb : okB p = true := hb
      obtain ⟨b, rfl, b1, b2⟩ := okB_iff hb
      have hb : 2 ≤ b ∧ b ≤ 36 := ⟨b1, b2⟩
      simp only [toI, if_true] at h ⊢
      refine loopS_sl (σ := Option PV) (fun s => [(4, s)]) (fun i _ => ∀ j v, j < i → [vo, va, vt][j]? = some v → rowB v = true) none ⟨rfl, fun j v hj => absurd hj (Nat.not_lt_zero j)⟩ ?_ ?_
      · rintro i o z k1 hz
        have hk : okV (owns A) z = true ∧ okT (owns A) z := by
          have hm := List.mem_of_getElem? hz
          simp only [List.mem_cons, List.not_mem_nil, or_false] at hm
          rcases hm with rfl | rfl | rfl
          · exact ⟨ho1, t1⟩
          · exact ⟨ho2, t2⟩
          · exact ⟨ho3, t3⟩
        have hz' := okV_plain hk.1
        have bad : rowB z = false → (rowB vo && (rowB va && rowB vt)) = false := fun e => by
          have hm := List.mem_of_getElem? hz
          simp only [List.mem_cons, List.not_mem_nil, or_false] at hm
          rcases hm with rfl | rfl | rfl
          · rw [e]; rfl
          · rw [e]; simp
          · rw [e]; simp
        simp? only [fs_is_whole_row, hk.1, hk.2, hz']
        cases hr : isRow z with
        | false =>
          rw [bad (by unfold rowB; rw [hr]; rfl)] at h
          exact h
        | true =>
          obtain ⟨ns, rfl⟩ := isRow_iff hr
          by_cases hl : ns.length ≤ 200
          · have hl' : ¬ (200 < (ns.length : Int)) := by omega
            simp? only [List.length_map, hl']
            refine ⟨some (irow ns), rfl, fun j v hj hv => ?_⟩
            rcases Nat.lt_or_ge j i with l | l
            · exact k1 j v l hv
            · have : j = i := by omega
              subst this
              rw [hz] at hv
              cases hv
              unfold rowB
              rw [isRow_row, tlen_row, decide_eq_true hl]
              rfl
          · have hl' : (200 < (ns.length : Int)) := by omega
            rw [bad (by unfold rowB; rw [isRow_row, tlen_row, decide_eq_false hl]; rfl)] at h
            simp? only [List.length_map, hl']
            exact h
      · rintro o4 k1
        have r1 := k1 0 vo (by simp) rfl
        have r2 := k1 1 va (by simp) rfl
        have r3 := k1 2 vt (by simp) rfl
        rw [r1, r2, r3] at h
        obtain ⟨o, rfl, ol⟩ := rowB_iff r1
        obtain ⟨a, rfl, al⟩ := rowB_iff r2
        obtain ⟨t, rfl, tl⟩ := rowB_iff r3
        have g1' := g1
        have g3' := g3
        unfold Dg at g1 g2 g3
        rw [unI_row] at g1 g2 g3
        simp only [unI_row] at h
        replace h : Q (rat A.kRatio (ratN (vlN b o a t) (vlD b a t)) (ratD (vlN b o a t) (vlD b a t))) := h
        have one : Sz 1 := sz_up (k := 10) (by decide) (by decide)
        have nb : Sz (-b) := sz_up (k := 10) (by omega) (by decide)
        have b0 : -b ≠ 0 := by omega
        have mno : m_number (.int b) (irow o) = .told (.int (mv b 0 o)) := by
          unfold m_number
          rw [okb, if_pos rfl, if_pos (by rw [isRow_row, tlen_row, decide_eq_true ol]; rfl), unI_row]
          rfl
        have mnt : m_number (.int b) (irow t) = .told (.int (mv b 0 t)) := by
          unfold m_number
          rw [okb, if_pos rfl, if_pos (by rw [isRow_row, tlen_row, decide_eq_true tl]; rfl), unI_row]
          rfl
        simp? only [fs_minus_number, fsO2, ho1, ho2, ho3, t1, t3, g1', g3', mno, mnt, outK_t]
        refine loopS_sl (σ := Nat × Option PV) (fun s => [(5, some (rat A.kRatio (ratN (mv b 0 (o ++ a.take s.1)) ((-b) ^ s.1)) (ratD (mv b 0 (o ++ a.take s.1)) ((-b) ^ s.1)))), (6, some (rat A.kRatio (ratN 1 ((-b) ^ s.1)) (ratD 1 ((-b) ^ s.1)))), (7, s.2)])
          (fun i s => s.1 = i) (0, none) ⟨?_, rfl⟩ ?_ ?_
        · simp [setE, ratN_one, ratD_one']
        · rintro i ⟨n, q⟩ z hn hz
          dsimp only at hn
          subst hn
          rw [List.getElem?_map] at hz
          obtain ⟨x, hx, rfl⟩ := Option.map_eq_some_iff.mp hz
          have hi := (List.getElem?_eq_some_iff.mp hx).1
          have xs := g2 x (List.mem_of_getElem? hx)
          have P0 := pow_nz hb.1 n
          have P1 := pow_nz hb.1 (n + 1)
          have Ps := pw_sz hb (n := n) (by omega)
          have Ps1 := pw_sz hb (n := n + 1) (by omega)
          have ov := rat_over (n := 1) (x := -b) P0 b0
          rw [← Int.pow_succ] at ov
          have tm := rat_times (n := 1) (x := x) P1
          have st := vl_step (x := x) (M := mv b 0 (o ++ a.take n)) hb.1 P0
          rw [← Int.pow_succ] at st
          have Ms := mv_sz hb (ns := o ++ a.take n) (by rw [List.length_append, List.length_take]; omega) fun y hy => by
            rcases List.mem_append.mp hy with hy | hy
            · exact g1 y hy
            · exact g2 y (List.mem_of_mem_take hy)
          have z1 := rat_szA (n := mv b 0 (o ++ a.take n)) P0 Ms (pw_up Ps (by decide))
          have z2 := rat_szA (n := 1) P0 (k := 1201) (Nat.lt_of_lt_of_le (show (1 : Int).natAbs < 2 ^ 1 by decide) (Nat.pow_le_pow_right (by decide) (by decide))) Ps
          have z3 := rat_szA (n := 1) P1 (k := 1201) (Nat.lt_of_lt_of_le (show (1 : Int).natAbs < 2 ^ 1 by decide) (Nat.pow_le_pow_right (by decide) (by decide))) Ps1
          have z4 := rat_szA (n := 1 * x) P1 (k := 1201) (pw_up (k := 1201) (show (1 * x).natAbs < 2 ^ 60 by rw [Int.one_mul]; exact xs) (by decide)) Ps1
          have xS : Sz x := sz_up xs (by decide)
          have ov1 : ratN (ratN 1 ((-b) ^ n) * 1) (ratD 1 ((-b) ^ n) * -b) = ratN 1 ((-b) ^ (n + 1)) := by rw [Int.mul_one]; exact ov.1
          have ov2 : ratD (ratN 1 ((-b) ^ n) * 1) (ratD 1 ((-b) ^ n) * -b) = ratD 1 ((-b) ^ (n + 1)) := by rw [Int.mul_one]; exact ov.2
          have c1 : ratD 1 ((-b) ^ n) * -b ≠ 0 := fun z => (Int.mul_eq_zero.mp z).elim (by omega) b0
          have c2 : (ratD 1 ((-b) ^ n) * -b).natAbs < 2 ^ 8000 := pw_up (mul_sz z2.2.2 (show (-b).natAbs < 2 ^ 10 by omega)) (by decide)
          have c3 := Int.mul_pos z1.2.1 z4.2.1
          have c4 : (ratD (mv b 0 (o ++ a.take n)) ((-b) ^ n) * ratD (1 * x) ((-b) ^ (n + 1))).natAbs < 2 ^ 8000 := pw_up (mul_sz z1.2.2 z4.2.2) (by decide)
          simp? only [methP_r nmO, methP_r nmT, fs_Ratio_over, fs_Ratio_times, fs_Ratio_add, ov1, ov2, tm.1, tm.2, st.1, st.2]
          refine ⟨⟨sz_mul (sz_up z2.1 (by decide)) one, sz_mul (sz_up z2.2.2 (by decide)) nb, c1, c2⟩, ⟨sz_mul (sz_up z3.1 (by decide)) xS, by omega, pw_up z3.2.2 (by decide)⟩,
            ⟨sz_mul (sz_up z1.1 (by decide)) (sz_up z4.2.2 (by decide)), sz_mul (sz_up z4.1 (by decide)) (sz_up z1.2.2 (by decide)), sz_mul (sz_up z1.2.2 (by decide)) (sz_up z4.2.2 (by decide)), by omega, c4⟩, ?_⟩
          refine ⟨(n + 1, some (.int x)), ?_, rfl⟩
          rw [at_take hx, ← List.append_assoc, mv_snoc]
          rfl
        · rintro ⟨n, q⟩ hn
          dsimp only at hn
          rw [List.length_map] at hn
          subst hn
          rw [List.take_length]
          have P0 := pow_nz hb.1 a.length
          have Ps := pw_sz hb (n := a.length) al
          by_cases ht : t = []
          · subst ht
            simp? only []
            have : vlN b o a [] = mv b 0 (o ++ a) ∧ vlD b a [] = (-b) ^ a.length := ⟨if_pos rfl, if_pos rfl⟩
            rw [this.1, this.2] at h
            exact h
          · have tn : (0 : Int) < t.length := by
              have : t.length ≠ 0 := fun z => ht (List.length_eq_zero_iff.mp z)
              omega
            simp? only [List.length_map, tn]
            refine loopS_sl (σ := Nat × Option PV) (fun s => [(8, some (.int ((-b) ^ s.1))), (9, s.2)]) (fun i s => s.1 = i) (0, none) ⟨by simp [setE], rfl⟩ ?_ ?_
            · rintro i ⟨n, q'⟩ z hn hz
              dsimp only at hn
              subst hn
              have hi := (List.getElem?_eq_some_iff.mp hz).1
              rw [List.length_map] at hi
              have Ps := pw_sz hb (n := n) (by omega)
              have mm : mulOk (-b) ((-b) ^ n) := mulOk_of (a := 10) (b := 1201) (by omega) Ps (by decide)
              simp? only [mm]
              refine ⟨(n + 1, some z), ?_, rfl⟩
              rw [Int.pow_succ, Int.mul_comm]
              rfl
            · rintro ⟨n, q'⟩ hn
              dsimp only at hn
              rw [List.length_map] at hn
              subst hn
              have Ms := mv_sz hb (ns := o ++ a) (by rw [List.length_append]; omega) fun y hy => by
                rcases List.mem_append.mp hy with hy | hy
                · exact g1 y hy
                · exact g2 y hy
              have wn := wide_nz hb.1 (n := t.length) (fun z => ht (List.length_eq_zero_iff.mp z))
              have ws := sub1_sz (pw_sz hb (n := t.length) tl)
              have Ts := mv_sz hb (ns := t) (by omega) g3
              have z1 := rat_szA (n := mv b 0 (o ++ a)) P0 Ms (pw_up Ps (by decide))
              have z2 := rat_szA (n := 1) P0 (k := 1201) (Nat.lt_of_lt_of_le (show (1 : Int).natAbs < 2 ^ 1 by decide) (Nat.pow_le_pow_right (by decide) (by decide))) Ps
              have z3 := rat_szA (n := mv b 0 t) wn (k := 2500) Ts (pw_up ws (by decide))
              have PW : (-b) ^ a.length * ((-b) ^ t.length - 1) ≠ 0 := fun z => (Int.mul_eq_zero.mp z).elim P0 wn
              have z4 := rat_szA (n := 1 * mv b 0 t) PW (k := 2500) (by rw [Int.one_mul]; exact Ts) (pw_up (mul_sz Ps ws) (by decide))
              have ml := rat_mul (n := 1) (m := mv b 0 t) P0 wn
              have en := vl_end (M := mv b 0 (o ++ a)) (T := mv b 0 t) P0 wn
              have c1 := Int.mul_pos z2.2.1 z3.2.1
              have c2 : (ratD 1 ((-b) ^ a.length) * ratD (mv b 0 t) ((-b) ^ t.length - 1)).natAbs < 2 ^ 8000 := pw_up (mul_sz z2.2.2 z3.2.2) (by decide)
              have c3 := Int.mul_pos z1.2.1 z4.2.1
              have c4 : (ratD (mv b 0 (o ++ a)) ((-b) ^ a.length) * ratD (1 * mv b 0 t) ((-b) ^ a.length * ((-b) ^ t.length - 1))).natAbs < 2 ^ 8000 := pw_up (mul_sz z1.2.2 z4.2.2) (by decide)
              simp? only [fs_minus_number, fsO2, ho3, t3, g3', mnt, outK_t, fs_Ratio_mul, fs_Ratio_add, ml.1, ml.2, en.1, en.2]
              refine ⟨⟨wn, pw_up ws (by decide)⟩, ⟨sz_mul (sz_up z2.1 (by decide)) (sz_up z3.1 (by decide)), sz_mul (sz_up z2.2.2 (by decide)) (sz_up z3.2.2 (by decide)), by omega, c2⟩,
                ⟨sz_mul (sz_up z1.1 (by decide)) (sz_up z4.2.2 (by decide)), sz_mul (sz_up z4.1 (by decide)) (sz_up z1.2.2 (by decide)), sz_mul (sz_up z1.2.2 (by decide)) (sz_up z4.2.2 (by decide)), by omega, c4⟩, ?_⟩
              have : vlN b o a t = mv b 0 (o ++ a) * ((-b) ^ t.length - 1) + mv b 0 t ∧ vlD b a t = (-b) ^ a.length * ((-b) ^ t.length - 1) := ⟨if_neg ht, if_neg ht⟩
              rw [this.1, this.2] at h
              exact h
def acts (A : Ad) : Addr → Option (Nat × FS) := fun f => if f = A.minus_expand then some (2, fs_minus_expand A) else if f = A.minus_value then some (4, fs_minus_value A) else none
theorem acts_minus_expand (A : Ad) (hA : A.Ok) : acts A A.minus_expand = some (2, fs_minus_expand A) := by
  have h := hA.fs
  unfold acts
  repeat (first | rw [if_pos rfl] | rw [if_neg (by intro e; simp [e] at h)])
theorem acts_minus_value (A : Ad) (hA : A.Ok) : acts A A.minus_value = some (4, fs_minus_value A) := by
  have h := hA.fs
  unfold acts
  repeat (first | rw [if_pos rfl] | rw [if_neg (by intro e; simp [e] at h)])
/-! a def held by a name, told by what it gives -/
def Tells (A : Ad) (f : Addr) (args : List PV) (o : Out) : Prop := ∃ n fs, acts A f = some (n, fs) ∧ args.length = n ∧ (1 ≤ n ∧ n ≤ 5) ∧ (∀ p ∈ args, p.plain = true) ∧ (∀ p, o = .told p → p.plain = true) ∧ ∀ Q R, outK A Q R o → fs args Q R
def fs_z_law_told (A : Ad) : FS := fun ps Q _ => match ps with
  | [.adr f, .tup args] => ∃ o, Tells A f args o ∧ Q (outV o)
  | _ => False
def Mal (A : Ad) (x : PV) : Prop := ∃ f args, x = .tup [.adr f, .tup args] ∧ Tells A f args .mal
def fs_z_law_all_malformed (A : Ad) : FS := fun ps Q _ => match ps with
  | [.lst xs] => (xs.length ≤ 1000 ∧ ∀ x ∈ xs, Mal A x) ∧ Q (.bl true)
  | _ => False
section
variable {A : Ad} {f : Addr} {p q r s : PV}
theorem tell1 {pre m} (hS : acts A f = some (1, fsO1 A pre m)) (hp : okV (owns A) p = true) (h : pre p) (ho : ∀ v, m p = .told v → v.plain = true) : Tells A f [p] (m p) :=
  ⟨1, _, hS, rfl, by omega, mc (okV_plain hp) mn, ho, fun Q R hk => ⟨⟨hp, h⟩, hk⟩⟩
theorem tell2 {pre m} (hS : acts A f = some (2, fsO2 A pre m)) (hp : okV (owns A) p = true) (hq : okV (owns A) q = true) (h : pre p q) (ho : ∀ v, m p q = .told v → v.plain = true) : Tells A f [p, q] (m p q) :=
  ⟨2, _, hS, rfl, by omega, mc (okV_plain hp) (mc (okV_plain hq) mn), ho, fun Q R hk => ⟨⟨hp, hq, h⟩, hk⟩⟩
theorem tell3 {pre m} (hS : acts A f = some (3, fsO3 A pre m)) (hp : okV (owns A) p = true) (hq : okV (owns A) q = true) (hr : okV (owns A) r = true) (h : pre p q r) (ho : ∀ v, m p q r = .told v → v.plain = true) : Tells A f [p, q, r] (m p q r) :=
  ⟨3, _, hS, rfl, by omega, mc (okV_plain hp) (mc (okV_plain hq) (mc (okV_plain hr) mn)), ho, fun Q R hk => ⟨⟨hp, hq, hr, h⟩, hk⟩⟩
theorem tell4 {pre m} (hS : acts A f = some (4, fsO4 A pre m)) (hp : okV (owns A) p = true) (hq : okV (owns A) q = true) (hr : okV (owns A) r = true) (hs : okV (owns A) s = true) (h : pre p q r s) (ho : ∀ v, m p q r s = .told v → v.plain = true) : Tells A f [p, q, r, s] (m p q r s) :=
  ⟨4, _, hS, rfl, by omega, mc (okV_plain hp) (mc (okV_plain hq) (mc (okV_plain hr) (mc (okV_plain hs) mn))), ho, fun Q R hk => ⟨⟨hp, hq, hr, hs, h⟩, hk⟩⟩
theorem mal1 {pre m} (hS : acts A f = some (1, fsO1 A pre m)) (hp : okV (owns A) p = true) (h : pre p) (e : m p = .mal) : Mal A (.tup [.adr f, .tup [p]]) := ⟨_, _, rfl, by
  have := tell1 hS hp h (fun v z => by rw [e] at z; cases z)
  rwa [e] at this⟩
theorem mal2 {pre m} (hS : acts A f = some (2, fsO2 A pre m)) (hp : okV (owns A) p = true) (hq : okV (owns A) q = true) (h : pre p q) (e : m p q = .mal) : Mal A (.tup [.adr f, .tup [p, q]]) := ⟨_, _, rfl, by
  have := tell2 hS hp hq h (fun v z => by rw [e] at z; cases z)
  rwa [e] at this⟩
theorem mal3 {pre m} (hS : acts A f = some (3, fsO3 A pre m)) (hp : okV (owns A) p = true) (hq : okV (owns A) q = true) (hr : okV (owns A) r = true) (h : pre p q r) (e : m p q r = .mal) : Mal A (.tup [.adr f, .tup [p, q, r]]) := ⟨_, _, rfl, by
  have := tell3 hS hp hq hr h (fun v z => by rw [e] at z; cases z)
  rwa [e] at this⟩
theorem mal4 {pre m} (hS : acts A f = some (4, fsO4 A pre m)) (hp : okV (owns A) p = true) (hq : okV (owns A) q = true) (hr : okV (owns A) r = true) (hs : okV (owns A) s = true) (h : pre p q r s) (e : m p q r s = .mal) : Mal A (.tup [.adr f, .tup [p, q, r, s]]) := ⟨_, _, rfl, by
  have := tell4 hS hp hq hr hs h (fun v z => by rw [e] at z; cases z)
  rwa [e] at this⟩
end
def w_z_law_told (A : Ad) : WSt :=
  (wTry (wSeq (wIf (wT (wOp oGt (wCall cLen (wCons (wVar 1) wNil)) (wC (.int 3)))) (wRet (wTup (wCons (wC (.str "told")) (wCons (wIfE (wT (wOp oEq (wCall cLen (wCons (wVar 1) wNil)) (wC (.int 4)))) (wCallV 0 (acts A) (wCons (wOp oIx (wVar 1) (wC (.int 0))) (wCons (wOp oIx (wVar 1) (wC (.int 1))) (wCons (wOp oIx (wVar 1) (wC (.int 2))) (wCons (wOp oIx (wVar 1) (wC (.int 3))) wNil))))) (wCallV 0 (acts A) (wCons (wOp oIx (wVar 1) (wC (.int 0))) (wCons (wOp oIx (wVar 1) (wC (.int 1))) (wCons (wOp oIx (wVar 1) (wC (.int 2))) (wCons (wOp oIx (wVar 1) (wC (.int 3))) (wCons (wOp oIx (wVar 1) (wC (.int 4))) wNil))))))) wNil)))) wNext)
  (wRet (wTup (wCons (wC (.str "told")) (wCons (wIfE (wT (wOp oEq (wCall cLen (wCons (wVar 1) wNil)) (wC (.int 1)))) (wCallV 0 (acts A) (wCons (wOp oIx (wVar 1) (wC (.int 0))) wNil)) (wIfE (wT (wOp oEq (wCall cLen (wCons (wVar 1) wNil)) (wC (.int 2)))) (wCallV 0 (acts A) (wCons (wOp oIx (wVar 1) (wC (.int 0))) (wCons (wOp oIx (wVar 1) (wC (.int 1))) wNil))) (wCallV 0 (acts A) (wCons (wOp oIx (wVar 1) (wC (.int 0))) (wCons (wOp oIx (wVar 1) (wC (.int 1))) (wCons (wOp oIx (wVar 1) (wC (.int 2))) wNil)))))) wNil))))) (whOnly (ansM A) (wRet (wTup (wCons (wC (.str "malformed")) (wCons (wC .non) wNil)))) (whRet 2 (ansR A) A.cR "reason" "refused" (fun D x ρ => D.ex x ρ))))
def w_z_law_all_malformed (A : Ad) : WSt :=
  (wRet (wCall cAll (wCons (wComp (wiSeq true (wVar 0)) (.tup 2 (.cons (.name 1) (.cons (.name 2) .nil))) wYes (wOp oEq (wCall (oFn 2 (fs_z_law_told A)) (wCons (wVar 1) (wCons (wVar 2) wNil))) (wTup (wCons (wC (.str "malformed")) (wCons (wC .non) wNil)))) [1, 2]) wNil)))
theorem ansM_M (A : Ad) : ansM A A.cM = some true := by unfold ansM; simp
theorem ansM_R (A : Ad) (hA : A.Ok) : ansM A A.cR = some false := by
  have h := hA.cs
  simp only [List.nodup_cons, List.mem_cons, List.not_mem_nil, or_false, not_or] at h
  have n : A.cR ≠ A.cM := fun e => by simp [e] at h
  unfold ansM
  rw [if_neg n, if_pos rfl]
theorem ansR_R (A : Ad) (hA : A.Ok) : ansR A A.cR = some true := by
  have h := hA.cs
  simp only [List.nodup_cons, List.mem_cons, List.not_mem_nil, or_false, not_or] at h
  have n : A.cR ≠ A.cM := fun e => by simp [e] at h
  unfold ansR
  rw [if_neg n, if_pos rfl]
theorem p_z_law_told (A : Ad) (hA : A.Ok) : ∀ qs Q R, qs.length = 2 → fs_z_law_told A qs Q R → w_z_law_told A (fnEnds Q R) (startP 3 qs)
  | [.adr f, .tup args], Q, R, _, ⟨o, ⟨n, fs, hS, hl, ⟨hn1, hn5⟩, hp, ho, hk⟩, hq⟩ => by
    have end_ : ∀ (s : WSt) (D : PEnds) (ρ : PEnv) (g : PV → Prop), ρ.length = 3 → D.rt = Q → (∀ p, o = .told p → g p) → outK A g (fun x => whOnly (ansM A) (wRet (wTup (wCons (wC (.str "malformed")) (wCons (wC .non) wNil)))) (whRet 2 (ansR A) A.cR "reason" "refused" (fun D x ρ => D.ex x ρ)) D x ρ) o := by
      intro s D ρ g hρ hD hg
      cases o with
      | told p => exact hg p rfl
      | mal =>
        refine ⟨true, ansM_M A, fun _ => ?_, (fun z => nomatch z)⟩
        simp? only [hD]
        exact hq
      | refused r =>
        refine ⟨false, ansM_R A hA, (fun z => nomatch z), fun _ => ⟨true, ansR_R A hA, fun _ => ⟨by rw [hρ]; decide, rfl, r, rfl, ?_⟩, (fun z => nomatch z)⟩⟩
        rw [hD]
        exact hq
    have told_ : ∀ p, o = .told p → stP p fun q => Q (.tup [.str "told", q]) := by
      intro p e
      subst e
      rw [stP_v (ho p rfl)]
      exact hq
    match args, n, hl, hn1, hn5 with
    | [a], _, rfl, _, _ =>
      have ha := hp a (by simp)
      simp? only [w_z_law_told, wCallV_v hS, ha]
      exact hk _ _ (end_ wNext _ _ _ rfl rfl told_)
    | [a, b], _, rfl, _, _ =>
      have ha := hp a (by simp)
      have hb := hp b (by simp)
      simp? only [w_z_law_told, wCallV_v hS, ha, hb]
      exact hk _ _ (end_ wNext _ _ _ rfl rfl told_)
    | [a, b, c], _, rfl, _, _ =>
      have ha := hp a (by simp)
      have hb := hp b (by simp)
      have hc := hp c (by simp)
      simp? only [w_z_law_told, wCallV_v hS, ha, hb, hc]
      exact hk _ _ (end_ wNext _ _ _ rfl rfl told_)
    | [a, b, c, d], _, rfl, _, _ =>
      have ha := hp a (by simp)
      have hb := hp b (by simp)
      have hc := hp c (by simp)
      have hd := hp d (by simp)
      simp? only [w_z_law_told, wCallV_v hS, ha, hb, hc, hd]
      exact hk _ _ (end_ wNext _ _ _ rfl rfl told_)
    | [a, b, c, d, e], _, rfl, _, _ =>
      have ha := hp a (by simp)
      have hb := hp b (by simp)
      have hc := hp c (by simp)
      have hd := hp d (by simp)
      have he := hp e (by simp)
      simp? only [w_z_law_told, wCallV_v hS, ha, hb, hc, hd, he]
      exact hk _ _ (end_ wNext _ _ _ rfl rfl told_)
theorem p_z_law_all_malformed (A : Ad) (hA : A.Ok) : ∀ qs Q R, qs.length = 1 → fs_z_law_all_malformed A qs Q R → w_z_law_all_malformed A (fnEnds Q R) (startP 3 qs)
  | [.lst xs], Q, R, _, ⟨⟨hl, hx⟩, hq⟩ => by
    simp? only [w_z_law_all_malformed]
    refine comp_yes ((List.replicate xs.length true).map .bl) (by simp) (by rw [sizeLine_eq]; omega) (fun i p y hp hy => ?_) ?_
    · obtain ⟨f, args, rfl, ht⟩ := hx p (List.mem_of_getElem? hp)
      simp? only [fs_z_law_told]
      refine ⟨.mal, ht, ?_⟩
      rw [List.getElem?_map] at hy
      obtain ⟨b, hb, rfl⟩ := Option.map_eq_some_iff.mp hy
      rw [List.getElem?_replicate] at hb
      split at hb
      · cases hb
        simp? only [outV]
      · cases hb
    · simp? only []
      have e : (List.replicate xs.length true).all id = true := by simp
      rw [e]
      exact hq
/-! sameness, told -/
section
variable {A : Ad} {Q : PQ} {R : XQ} {a b : Int} {ns ms : List Int}
theorem same_i : fs_z_law_same A [.int a, .int b] Q R = (a = b ∧ Q (.bl true)) := by
  refine propext ⟨fun ⟨⟨_, _, h⟩, hq⟩ => ⟨by simpa [sm] using h, hq⟩, fun ⟨h, hq⟩ => ⟨⟨dat_int, dat_int, by simp [sm, h]⟩, hq⟩⟩
theorem same_n : fs_z_law_same A [.non, .non] Q R = Q (.bl true) := propext ⟨fun h => h.2, fun h => ⟨⟨dat_non, dat_non, rfl⟩, h⟩⟩
theorem same_b {x y : Bool} : fs_z_law_same A [.bl x, .bl y] Q R = (x = y ∧ Q (.bl true)) := by
  refine propext ⟨fun ⟨⟨_, _, h⟩, hq⟩ => ⟨by simpa [sm] using h, hq⟩, fun ⟨h, hq⟩ => ⟨⟨dat_bl, dat_bl, by simp [sm, h]⟩, hq⟩⟩
theorem same_self {p : PV} (h : dat p = true) (h2 : dp 5 p = true) : fs_z_law_same A [p, p] Q R = Q (.bl true) := propext ⟨fun h => h.2, fun hq => ⟨⟨h, h, sm_self h h2⟩, hq⟩⟩
theorem same_row : fs_z_law_same A [irow ns, irow ms] Q R = ((ns = ms ∧ ns.length ≤ 2000) ∧ Q (.bl true)) := by
  refine propext ⟨fun ⟨⟨hd, _, h⟩, hq⟩ => ⟨⟨?_, ?_⟩, hq⟩, fun ⟨⟨h, hl⟩, hq⟩ => ?_⟩
  · simp only [sm, Bool.and_eq_true, decide_eq_true_eq, List.all_eq_true, List.mem_range, List.length_map] at h
    obtain ⟨⟨h1, h2⟩, h3⟩ := h
    refine List.ext_getElem h1 fun i hi hi2 => ?_
    have := (h3 i hi2).2
    have e1 : (ns.map PV.int).getD i .non = .int ns[i] := by rw [List.getD_eq_getElem?_getD, List.getElem?_map, List.getElem?_eq_getElem hi]; rfl
    have e2 : (ms.map PV.int).getD i .non = .int ms[i] := by rw [List.getD_eq_getElem?_getD, List.getElem?_map, List.getElem?_eq_getElem hi2]; rfl
    rw [e1, e2] at this
    simpa [sm] using this
  · have := (dat_tup_mem hd).1
    rwa [List.length_map] at this
  · subst h
    exact ⟨⟨dat_ints hl, dat_ints hl, sm_ints hl⟩, hq⟩
theorem same_rowl : fs_z_law_same A [irow ns, .lst (ms.map .int)] Q R ↔ ((ns = ms ∧ ns.length ≤ 2000) ∧ Q (.bl true)) := by
  constructor
  · rintro ⟨⟨hd, _, h⟩, hq⟩
    have h2 : sm 4 (irow ns) (irow ms) = true := by
      have h' : (decide (dat (irow ns) = true) && sm 4 (irow ns) (irow ms)) = true := h
      exact (Bool.and_eq_true_iff.mp h').2
    simp only [sm, Bool.and_eq_true, decide_eq_true_eq, List.all_eq_true, List.mem_range, List.length_map] at h2
    obtain ⟨⟨h1, h2⟩, h3⟩ := h2
    refine ⟨⟨List.ext_getElem h1 fun i hi hi2 => ?_, by omega⟩, hq⟩
    have := (h3 i hi2).2
    have e1 : (ns.map PV.int).getD i .non = .int ns[i] := by rw [List.getD_eq_getElem?_getD, List.getElem?_map, List.getElem?_eq_getElem hi]; rfl
    have e2 : (ms.map PV.int).getD i .non = .int ms[i] := by rw [List.getD_eq_getElem?_getD, List.getElem?_map, List.getElem?_eq_getElem hi2]; rfl
    rw [e1, e2] at this
    simpa [sm] using this
  · rintro ⟨⟨rfl, hl⟩, hq⟩
    refine ⟨⟨dat_ints hl, ?_, ?_⟩, hq⟩
    · have := dat_ints hl; rw [dat_lst]; rw [dat_tup] at this; exact this
    · show (decide (dat (irow ns) = true) && sm 4 (irow ns) (irow ns)) = true
      rw [dat_ints hl, sm_ints hl]
      rfl
theorem ixL {l l' : List Int} {z : Int} (e : l = l' ++ [z]) : ixP (l.map .int) (-1) Q = Q (.int z) := by rw [e, List.map_append]; exact ixP_m1
end
theorem sh_told : SeqAt.shaped (.str "told") = true := by first | rfl | decide | decide +kernel | simp [SeqAt.shaped]
theorem same_told {A : Ad} {Q : PQ} {R : XQ} {p : PV} (h : dat p = true) (h2 : dp 4 p = true) : fs_z_law_same A [.tup [.str "told", p], .tup [.str "told", p]] Q R = Q (.bl true) :=
  same_self (dat_tup_of (by simp) (mc dat_str (mc h mn))) (by
    show ([PV.str "told", p].all fun x => dp 4 x) = true
    rw [List.all_cons, List.all_cons, h2, show dp 4 (.str "told") = true from sh_told]
    rfl)
theorem oNe_pair {Q : PQ} {R : XQ} {a b : Str} (h : SeqAt.shaped (PyData.tuple [PyData.str a, PyData.str b]) = true) (e : PyData.eqv (PyData.tuple [PyData.str a, PyData.str b]) (PyData.tuple [PyData.str a, PyData.str b]) = true) : oNe (.tup [.str a, .str b]) (.tup [.str a, .str b]) Q R = Q (.bl false) := by
  rw [oNe_d rfl rfl h h, e]
  rfl
theorem okB_i {b : Int} (b1 : 2 ≤ b) (b2 : b ≤ 36) : okB (.int b) = true := cnt_of b1 b2
theorem mwd_len {b k : Int} : (mwd b k).length = (mf b k).length := by unfold mwd; rw [List.length_reverse]
theorem mwd_dig {b k : Int} (hb : 2 ≤ b) : ∀ x ∈ mwd b k, 0 ≤ x ∧ x < b := fun x hx => mf_dig hb k x (List.mem_reverse.mp hx)
theorem rat_idem {n d : Int} (hd : d ≠ 0) : ratN (ratN n d) (ratD n d) = ratN n d ∧ ratD (ratN n d) (ratD n d) = ratD n d := by
  obtain ⟨p1, p2⟩ := ratM (n := n) hd
  exact rat_cross (by omega) hd p1
/-- a fraction in its least form -/
def Red (N D : Int) : Prop := ratN N D = N ∧ ratD N D = D
theorem mal_e {A : Ad} (hA : A.Ok) {p x : PV} (h1 : okV (owns A) p = true) (h2 : okV (owns A) x = true) (h3 : xOk A x) (hk : ∀ (Q : PQ) (R : EX → Prop), R (mal A) → (if okB p = true then expQ (toI p) Q R (mal A) x else R (mal A))) : Mal A (.tup [.adr A.minus_expand, .tup [p, x]]) :=
  ⟨_, _, rfl, 2, _, acts_minus_expand A hA, rfl, by omega, mc (okV_plain h1) (mc (okV_plain h2) mn), (fun _ z => nomatch z), fun Q R hR => ⟨⟨h1, h2, h3⟩, hk Q R hR⟩⟩
theorem all_dig {b : Int} {ds : List Int} (h : ∀ x ∈ ds, 0 ≤ x ∧ x < b) : (ds.map fun x => decide (0 ≤ x) && decide (x < b)).all id = true := by
  rw [List.all_map, List.all_eq_true]
  intro x hx
  have := h x hx
  simp [this.1, this.2]
theorem expQ_o {b N D : Int} {Q : PQ} {R : EX → Prop} {m : EX} {C : Addr} : expQ b Q R m (rat C N D) = if 1000000000000000000000000000000 < (N.natAbs : Int) / D then R m else ∀ n i, Stop (Fr b N D) n i → Q (.tup [irow (mwd b (whl b N D)), irow ((dgs b N D n).take i), irow ((dgs b N D n).drop i)]) := rfl
theorem same_r {A : Ad} {Q : PQ} {R : XQ} {ns : List Int} (h : ns.length ≤ 2000) : fs_z_law_same A [.tup (ns.map .int), .tup (ns.map .int)] Q R = Q (.bl true) := same_self (dat_ints h) dp_ints
theorem numb {A : Ad} {Q : PQ} {R : XQ} {b : Int} {ns : List Int} (hb : 2 ≤ b ∧ b ≤ 36) (hl : ns.length ≤ 200) (hx : ∀ x ∈ ns, x.natAbs < 2 ^ 60) : fs_z_law_number A [.int b, .tup (ns.map .int)] Q R = Q (.int (mv b 0 ns)) := by
  refine propext ⟨fun ⟨ms, e, _, h⟩ => ?_, fun h => ⟨_, rfl, ⟨hb, hl, hx⟩, h⟩⟩
  have : ns = ms := by have := congrArg (fun l => unI (.tup l)) e; rwa [show unI (.tup (ns.map .int)) = ns from unI_row, show unI (.tup (ms.map .int)) = ms from unI_row] at this
  rw [this]
  exact h
theorem ints_inj {ns ms : List Int} (e : ns.map PV.int = ms.map PV.int) : ns = ms := by have := congrArg (fun l => unI (.tup l)) e; rwa [show unI (.tup (ns.map .int)) = ns from unI_row, show unI (.tup (ms.map .int)) = ms from unI_row] at this
def SmR (ns : List Int) : Prop := ns.length ≤ 200 ∧ ∀ x ∈ ns, x.natAbs < 2 ^ 60
theorem valu {A : Ad} {Q : PQ} {R : XQ} {b : Int} {o a t : List Int} (hb : 2 ≤ b ∧ b ≤ 36) (ho : SmR o) (ha : SmR a) (ht : SmR t) : fs_z_law_value A [.int b, .tup (o.map .int), .tup (a.map .int), .tup (t.map .int)] Q R = Q (.tup [.int (ratN (vlN b o a t) (vlD b a t)), .int (ratD (vlN b o a t) (vlD b a t))]) := by
  refine propext ⟨fun ⟨o', a', t', e1, e2, e3, _, h⟩ => ?_, fun h => ⟨_, _, _, rfl, rfl, rfl, ⟨hb, ho, ha, ht⟩, h⟩⟩
  rw [ints_inj e1, ints_inj e2, ints_inj e3]
  exact h
theorem rowB_row {ns : List Int} (h : SmR ns) : rowB (irow ns) = true := by
  unfold rowB
  rw [isRow_row, tlen_row, decide_eq_true h.1]
  rfl
theorem okT_sm {own : List Addr} {ns : List Int} (h : SmR ns) : okT own (irow ns) := okT_row (by have := h.1; omega)
theorem dg_sm {ns : List Int} (h : SmR ns) : Dg (irow ns) := by
  unfold Dg
  rw [unI_row]
  exact h.2
theorem okV_irow {own : List Addr} {ns : List Int} (h : SmR ns) : okV own (irow ns) = true := dat_okV (dat_ints (by have := h.1; omega))
theorem mvalu {A : Ad} {Q : PQ} {R : XQ} {b : Int} {o a t : List Int} (hb : 2 ≤ b ∧ b ≤ 36) (ho : SmR o) (ha : SmR a) (ht : SmR t) : fs_minus_value A [.int b, .tup (o.map .int), .tup (a.map .int), .tup (t.map .int)] Q R = Q (rat A.kRatio (ratN (vlN b o a t) (vlD b a t)) (ratD (vlN b o a t) (vlD b a t))) := by
  have e : m_value A (.int b) (irow o) (irow a) (irow t) = .told (rat A.kRatio (ratN (vlN b o a t) (vlD b a t)) (ratD (vlN b o a t) (vlD b a t))) := by
    unfold m_value
    rw [if_pos (okB_i hb.1 hb.2), rowB_row ho, rowB_row ha, rowB_row ht, if_pos (show (true && (true && true)) = true from rfl), unI_row, unI_row, unI_row]
    rfl
  refine propext ⟨fun ⟨_, h⟩ => ?_, fun h => ⟨⟨rfl, okV_irow ho, okV_irow ha, okV_irow ht, ⟨okT_sm ho, dg_sm ho⟩, ⟨okT_sm ha, dg_sm ha⟩, ⟨okT_sm ht, dg_sm ht⟩⟩, ?_⟩⟩
  · replace h : outK A Q R (m_value A (.int b) (irow o) (irow a) (irow t)) := h
    rw [e] at h
    exact h
  · show outK A Q R (m_value A (.int b) (irow o) (irow a) (irow t))
    rw [e]
    exact h
def bodyW (A : Ad) : WSt :=
  (wSeq (wAsg (wCall (oFn 2 (fs_z_law_expand A)) (wCons (wVar 2) (wCons (wVar 6) wNil))) (.tup 3 (.cons (.name 7) (.cons (.name 8) (.cons (.name 9) .nil)))))
  (wSeq (wSet 10 (wCall (oFn 2 (fs_minus_expand A)) (wCons (wVar 2) (wCons (wMake A.kRatio (wLen 2 (wCons (wOp oIx (wVar 6) (wC (.int 0))) (wCons (wOp oIx (wVar 6) (wC (.int 1))) wNil)))) wNil))))
  (wSeq (wIf (wOr (wNot (wT (wIsi (ansTy (owns A) "tuple") (wVar 10)))) (wOr (wT (wOp oNe (wCall cLen (wCons (wVar 10) wNil)) (wC (.int 3)))) (wOr (wNot (wT (wCall (oFn 2 (fs_z_law_same A)) (wCons (wOp oIx (wVar 10) (wC (.int 0))) (wCons (wCall (oFn 2 (fs_minus_word A)) (wCons (wVar 2) (wCons (wVar 7) wNil))) wNil))))) (wOr (wNot (wT (wCall (oFn 2 (fs_z_law_same A)) (wCons (wOp oIx (wVar 10) (wC (.int 1))) (wCons (wVar 8) wNil))))) (wNot (wT (wCall (oFn 2 (fs_z_law_same A)) (wCons (wOp oIx (wVar 10) (wC (.int 2))) (wCons (wVar 9) wNil))))))))) (wRet (wC (.bl false))) wNext)
  (wSeq (wIf (wOr (wNot (wT (wCall cAll (wCons (wComp (wiSeq true (wOp oAdd (wVar 8) (wVar 9))) (.name 11) wYes (wChain oLe oLt (wC (.int 0)) (wVar 11) (wVar 2)) [11]) wNil)))) (wOr (wT (wOp oNe (wCall (oFn 2 (fs_z_law_number A)) (wCons (wVar 2) (wCons (wOp oIx (wVar 10) (wC (.int 0))) wNil))) (wVar 7))) (wT (wOp oNe (wCall (oFn 4 (fs_z_law_value A)) (wCons (wVar 2) (wCons (wOp oIx (wVar 10) (wC (.int 0))) (wCons (wVar 8) (wCons (wVar 9) wNil))))) (wVar 6))))) (wRet (wC (.bl false))) wNext)
  (wIf (wNot (wT (wCall (oFn 2 (fs_z_law_ratio_is A)) (wCons (wCall (oFn 4 (fs_minus_value A)) (wCons (wVar 2) (wCons (wOp oIx (wVar 10) (wC (.int 0))) (wCons (wOp oIx (wVar 10) (wC (.int 1))) (wCons (wOp oIx (wVar 10) (wC (.int 2))) wNil))))) (wCons (wVar 6) wNil))))) (wRet (wC (.bl false))) wNext)))))
theorem sbody (A : Ad) (hA : A.Ok) {b N D : Int} {D' : PEnds} (b1 : 2 ≤ b) (b2 : b ≤ 12) (d0 : 0 < D) (d50 : D ≤ 50) (hN : N.natAbs < 2 ^ 95) (hr : Red N D) {o0 o3 o4 o5 o7 o8 o9 o10 o11 o12 o13 o14 o15 : Option PV} (hm : nmp o11)
    (h : ∀ p7 p8 p9 p10 : Option PV, D'.nx [o0, some PV.st, some (.int b), o3, o4, o5, some (.tup [.int N, .int D]), p7, p8, p9, p10, o11, o12, o13, o14, o15]) :
    bodyW A D'
      [o0, some PV.st, some (.int b), o3, o4, o5, some (.tup [.int N, .int D]), o7, o8, o9, o10, o11, o12, o13, o14, o15] := by
  have ob := okB_i b1 (show b ≤ 36 by omega)
  have hb : 2 ≤ b ∧ b ≤ 36 := ⟨b1, by omega⟩
  have dn : D ≠ 0 := by omega
  have ng : ¬ 1000000000000000000000000000000 < (N.natAbs : Int) / D := by
    have : (N.natAbs : Int) / D ≤ N.natAbs := Int.ediv_le_self _ (Int.natCast_nonneg _)
    omega
  unfold bodyW
  simp? only [fs_z_law_expand]
  refine ⟨⟨hb, ⟨d0, d50⟩, hN⟩, fun n i hs => ?_⟩
  have nl := cont_le (N := N) b1 d0 hs.1
  have hi : i ≤ n := by rcases hs.2 with ⟨_, e⟩ | ⟨_, l, _⟩ <;> omega
  have tk : ((dgs b N D n).take i).length = i := by rw [List.length_take, dgs_len]; omega
  have tk2 : ((dgs b N D n).drop i).length = n - i := by rw [List.length_drop, dgs_len]
  have dgB : ∀ x ∈ dgs b N D n, 0 ≤ x ∧ x < b := fun x hx => by
    unfold dgs at hx
    obtain ⟨j, _, rfl⟩ := List.mem_map.mp hx
    exact Fr_dg b1 d0 j
  have dgT : ∀ x ∈ (dgs b N D n).take i, 0 ≤ x ∧ x < b := fun x hx => dgB x (List.mem_of_mem_take hx)
  have dgU : ∀ x ∈ (dgs b N D n).drop i, 0 ≤ x ∧ x < b := fun x hx => dgB x (List.mem_of_mem_drop hx)
  have ws := whl_sz (b := b) (N := N) b1 d0 d50 hN
  have wl : (mwd b (whl b N D)).length ≤ 98 := by
    rw [mwd_len]
    exact mf_len b1 96 _ (Nat.le_of_lt ws)
  have mw : m_word (.int b) (.int (whl b N D)) = .told (irow (mwd b (whl b N D))) := by
    unfold m_word
    rw [ob, if_pos rfl, if_pos (show okN (.int (whl b N D)) = true from decide_eq_true (by omega))]
    rfl
  have mvw : mv b 0 (mwd b (whl b N D)) = whl b N D := mv_mf b1 _
  have o1 : okV (owns A) (.int b) = true := rfl
  have o2 : okV (owns A) (rat A.kRatio N D) = true := by simp [okV, owns]
  have xo : xOk A (rat A.kRatio N D) := ⟨⟨rfl, rfl⟩, ⟨d0, d50⟩, .inl hN⟩
  have d8 : D.natAbs < 2 ^ 8000 := pw_up (j := 10) (by omega) (by decide)
  simp? only [fs_minus_expand, o1, o2, hr.1, hr.2, ob, d8]
  refine ⟨dn, xo, ?_⟩
  rw [show toI (.int b) = b from rfl, expQ_o, if_neg ng]
  rintro n' i' hs'
  obtain ⟨rfl, rfl⟩ := hs.uniq hs'
  have smw := fun Q R => same_r (A := A) (Q := Q) (R := R) (ns := mwd b (whl b N D)) (by omega)
  have smt := fun Q R => same_r (A := A) (Q := Q) (R := R) (ns := (dgs b N D n).take i) (by omega)
  have smu := fun Q R => same_r (A := A) (Q := Q) (R := R) (ns := (dgs b N D n).drop i) (by omega)
  have bw : ∀ x ∈ mwd b (whl b N D), x.natAbs < 2 ^ 60 := fun x hx => by have := mwd_dig b1 x hx; omega
  have bt : ∀ x ∈ (dgs b N D n).take i, x.natAbs < 2 ^ 60 := fun x hx => by have := dgT x hx; omega
  have bu : ∀ x ∈ (dgs b N D n).drop i, x.natAbs < 2 ^ 60 := fun x hx => by have := dgU x hx; omega
  simp? only [fs_minus_word, fsO2, o1, mw, outK_t, smw, smt, smu, List.length_map]
  refine ⟨by rw [sizeLine_eq]; omega, nm1_p hm, ?_⟩
  refine comp_bl (fun x => decide (0 ≤ toI x) && decide (toI x < b)) (by rw [List.length_append, List.length_map, List.length_map, tk, tk2, sizeLine_eq]; omega) (fun x hx => ?_) ?_
  · obtain ⟨y, hy, rfl⟩ : ∃ y ∈ dgs b N D n, x = .int y := by
      rcases List.mem_append.mp hx with hx | hx <;> obtain ⟨y, hy, rfl⟩ := List.mem_map.mp hx
      · exact ⟨y, List.mem_of_mem_take hy, rfl⟩
      · exact ⟨y, List.mem_of_mem_drop hy, rfl⟩
    have := dgB y hy
    simp? only [this.1, this.2, toI]
  have e1 : (List.map (fun x => decide (0 ≤ toI x) && decide (toI x < b)) (List.map PV.int (List.take i (dgs b N D n)) ++ List.map PV.int (List.drop i (dgs b N D n)))).all id = true := by
    rw [← List.map_append, List.take_append_drop, List.map_map]
    exact all_dig dgB
  have S1 : SmR (mwd b (whl b N D)) := ⟨by omega, bw⟩
  have S2 : SmR ((dgs b N D n).take i) := ⟨by omega, bt⟩
  have S3 : SmR ((dgs b N D n).drop i) := ⟨by omega, bu⟩
  have ve := rat_cross (vlD_nz b1) dn (val_eq (D := D) b1 mvw hs)
  rw [hr.1, hr.2] at ve
  simp? only [e1, numb hb S1.1 S1.2, mvw, valu hb S1 S2 S3, ve.1, ve.2, mvalu hb S1 S2 S3, fs_z_law_ratio_is]
  exact h ..
def GoodX (p : PV) : Prop := ∃ N D : Int, p = .tup [.int N, .int D] ∧ 0 < D ∧ D ≤ 50 ∧ N.natAbs < 2 ^ 95 ∧ Red N D
theorem good_r {n d : Int} (d0 : 0 < d) (d50 : d ≤ 50) (hn : n.natAbs < 2 ^ 95) : GoodX (.tup [.int (ratN n d), .int (ratD n d)]) := by
  have z := rat_szA (n := n) (d := d) (k := 95) (by omega) hn (by omega)
  have := ratD_le (n := n) d0
  exact ⟨_, _, rfl, z.2.1, by omega, z.1, rat_idem (by omega)⟩
theorem good_1 {n : Int} (hn : n.natAbs < 2 ^ 95) : GoodX (.tup [.int n, .int 1]) := by
  have := good_r (n := n) (d := 1) (by decide) (by decide) hn
  rwa [ratN_one, ratD_one'] at this
theorem sfor (A : Ad) (hA : A.Ok) {b : Int} {xs : List PV} {Q : PQ} {R : XQ} {o0 o3 o4 o5 : Option PV} {r : WSt} (b1 : 2 ≤ b) (b2 : b ≤ 12) (hx : ∀ p ∈ xs, GoodX p)
    (h : ∀ p6 p7 p8 p9 p10 : Option PV, r (fnEnds Q R) [o0, some PV.st, some (.int b), o3, o4, o5, p6, p7, p8, p9, p10, none, none, none, none, none]) :
    loopS xs (.name 6) (bodyW A) r (fnEnds Q R) [o0, some PV.st, some (.int b), o3, o4, o5, none, none, none, none, none, none, none, none, none, none] := by
  refine loopS_sl (σ := Option PV × Option PV × Option PV × Option PV × Option PV) (fun s => [(6, s.1), (7, s.2.1), (8, s.2.2.1), (9, s.2.2.2.1), (10, s.2.2.2.2)]) (fun _ _ => True) (none, none, none, none, none) ⟨rfl, trivial⟩ ?_ ?_
  · rintro i ⟨p6, p7, p8, p9, p10⟩ p - hp
    obtain ⟨N, D, rfl, d0, d50, hN, hr⟩ := hx p (List.mem_of_getElem? hp)
    simp? only []
    exact sbody A hA b1 b2 d0 d50 hN hr nmp_n fun q7 q8 q9 q10 => ⟨(_, q7, q8, q9, q10), rfl⟩
  · rintro ⟨p6, p7, p8, p9, p10⟩ -
    simp? only []
    exact h ..
def w_law_8 (A : Ad) : WSt :=
  (wSeq (wSet 14 (wOp oAdd (wComp (wiSeq true (wLst (wCons (wC .non) (wCons (wC (.int 5)) (wCons (wC (.str "1/2")) (wCons (wTup (wCons (wC (.int 1)) (wCons (wC (.int 2)) wNil))) (wCons (wMake A.kRatio (wLen 1 (wCons (wC (.int 1000000000000000000000000000001)) wNil))) wNil))))))) (.name 15) wYes (wTup (wCons (wC (.adr A.minus_expand)) (wCons (wTup (wCons (wVar 2) (wCons (wVar 15) wNil))) wNil))) [15]) (wComp (wiSeq true (wLst (wCons (wC (.int 1)) (wCons (wC (.int 37)) (wCons (wC (.bl true)) (wCons (wC .non) wNil)))))) (.name 15) wYes (wTup (wCons (wC (.adr A.minus_expand)) (wCons (wTup (wCons (wVar 15) (wCons (wMake A.kRatio (wLen 2 (wCons (wC (.int 1)) (wCons (wC (.int 2)) wNil)))) wNil))) wNil))) [15])))
  (wSeq (wFor (wiSeq false (wLst (wCons (wC .non) (wCons (wC (.int 5)) (wCons (wLst (wCons (wC (.int 1)) wNil)) (wCons (wTup (wCons (wC (.bl true)) wNil)) (wCons (wOp oMulA (wTup (wCons (wC (.int 1)) wNil)) (wC (.int 201))) wNil))))))) (.name 15) (wSet 14 (wOp oAdd (wVar 14) (wLst (wCons (wTup (wCons (wC (.adr A.minus_value)) (wCons (wTup (wCons (wVar 2) (wCons (wVar 15) (wCons (wTup wNil) (wCons (wTup wNil) wNil))))) wNil))) (wCons (wTup (wCons (wC (.adr A.minus_value)) (wCons (wTup (wCons (wVar 2) (wCons (wTup wNil) (wCons (wVar 15) (wCons (wTup wNil) wNil))))) wNil))) (wCons (wTup (wCons (wC (.adr A.minus_value)) (wCons (wTup (wCons (wVar 2) (wCons (wTup wNil) (wCons (wTup wNil) (wCons (wVar 15) wNil))))) wNil))) wNil)))))))
  (wRet (wCall (oFn 1 (fs_z_law_all_malformed A)) (wCons (wOp oAdd (wVar 14) (wLst (wCons (wTup (wCons (wC (.adr A.minus_value)) (wCons (wTup (wCons (wC (.int 1)) (wCons (wTup wNil) (wCons (wTup wNil) (wCons (wTup wNil) wNil))))) wNil))) (wCons (wTup (wCons (wC (.adr A.minus_value)) (wCons (wTup (wCons (wC .non) (wCons (wTup wNil) (wCons (wTup wNil) (wCons (wTup wNil) wNil))))) wNil))) wNil)))) wNil)))))
def w_law_5 (A : Ad) : WSt :=
  (wSeq (wPar 12 8 false false (wCall cTuple (wCons (wComp (wiRg1 (wCall (oFn 2 (fs_z_law_take A)) (wCons (wVar 1) (wCons (wC (.int 5)) wNil)))) (.name 13) wYes (wOp oSub (wCall (oFn 2 (fs_z_law_take A)) (wCons (wVar 1) (wCons (wC (.int 9)) wNil))) (wC (.int 4))) [13]) wNil)) (wCall cTuple (wCons (wComp (wiRg1 (wCall (oFn 2 (fs_z_law_take A)) (wCons (wVar 1) (wCons (wC (.int 5)) wNil)))) (.name 13) wYes (wOp oSub (wCall (oFn 2 (fs_z_law_take A)) (wCons (wVar 1) (wCons (wC (.int 9)) wNil))) (wC (.int 4))) [13]) wNil)))
  (wSeq (wSet 9 (wCall cTuple (wCons (wComp (wiRg1 (wCall (oFn 2 (fs_z_law_take A)) (wCons (wVar 1) (wCons (wC (.int 4)) wNil)))) (.name 13) wYes (wOp oSub (wCall (oFn 2 (fs_z_law_take A)) (wCons (wVar 1) (wCons (wC (.int 9)) wNil))) (wC (.int 4))) [13]) wNil)))
  (wSeq (wIf (wNot (wT (wCall (oFn 2 (fs_z_law_ratio_is A)) (wCons (wCall (oFn 4 (fs_minus_value A)) (wCons (wVar 2) (wCons (wVar 12) (wCons (wVar 8) (wCons (wVar 9) wNil))))) (wCons (wCall (oFn 4 (fs_z_law_value A)) (wCons (wVar 2) (wCons (wVar 12) (wCons (wVar 8) (wCons (wVar 9) wNil))))) wNil))))) (wRet (wC (.bl false))) wNext)
  (w_law_8 A))))
def w_law (A : Ad) : WSt :=
  (wSeq (wStSC 1 (wCall (oFn 1 (fs_z_law_state A)) (wCons (wVar 0) wNil)))
  (wSeq (wSet 2 (wOp oAdd (wC (.int 2)) (wCall (oFn 2 (fs_z_law_take A)) (wCons (wVar 1) (wCons (wC (.int 11)) wNil)))))
  (wSeq (wPar 3 4 false false (wOp oSub (wCall (oFn 2 (fs_z_law_take A)) (wCons (wVar 1) (wCons (wC (.int 4001)) wNil))) (wC (.int 2000))) (wOp oAdd (wC (.int 1)) (wCall (oFn 2 (fs_z_law_take A)) (wCons (wVar 1) (wCons (wC (.int 40)) wNil)))))
  (wSeq (wSet 5 (wCall (oFn 1 (fs_z_law_great A)) (wCons (wVar 1) wNil)))
  (wSeq (wFor (wiSeq false (wLst (wCons (wCall (oFn 2 (fs_z_law_low A)) (wCons (wVar 3) (wCons (wVar 4) wNil))) (wCons (wCall (oFn 2 (fs_z_law_low A)) (wCons (wVar 3) (wCons (wC (.int 1)) wNil))) (wCons (wCall (oFn 2 (fs_z_law_low A)) (wCons (wNeg (wVar 2)) (wCons (wOp oAdd (wVar 2) (wC (.int 1))) wNil))) (wCons (wCall (oFn 2 (fs_z_law_low A)) (wCons (wC (.int 1)) (wCons (wOp oAdd (wVar 2) (wC (.int 1))) wNil))) (wCons (wTup (wCons (wOp oMulA (wVar 5) (wIfE (wT (wOp oEq (wCall (oFn 2 (fs_z_law_take A)) (wCons (wVar 1) (wCons (wC (.int 2)) wNil))) (wC (.int 0)))) (wC (.int 1)) (wNeg (wC (.int 1))))) (wCons (wC (.int 1)) wNil))) (wCons (wCall (oFn 2 (fs_z_law_low A)) (wCons (wOp oAdd (wOp oMulA (wVar 5) (wVar 4)) (wC (.int 1))) (wCons (wVar 4) wNil))) wNil)))))))) (.name 6) (wSeq (wAsg (wCall (oFn 2 (fs_z_law_expand A)) (wCons (wVar 2) (wCons (wVar 6) wNil))) (.tup 3 (.cons (.name 7) (.cons (.name 8) (.cons (.name 9) .nil)))))
  (wSeq (wSet 10 (wCall (oFn 2 (fs_minus_expand A)) (wCons (wVar 2) (wCons (wMake A.kRatio (wLen 2 (wCons (wOp oIx (wVar 6) (wC (.int 0))) (wCons (wOp oIx (wVar 6) (wC (.int 1))) wNil)))) wNil))))
  (wSeq (wIf (wOr (wNot (wT (wIsi (ansTy (owns A) "tuple") (wVar 10)))) (wOr (wT (wOp oNe (wCall cLen (wCons (wVar 10) wNil)) (wC (.int 3)))) (wOr (wNot (wT (wCall (oFn 2 (fs_z_law_same A)) (wCons (wOp oIx (wVar 10) (wC (.int 0))) (wCons (wCall (oFn 2 (fs_minus_word A)) (wCons (wVar 2) (wCons (wVar 7) wNil))) wNil))))) (wOr (wNot (wT (wCall (oFn 2 (fs_z_law_same A)) (wCons (wOp oIx (wVar 10) (wC (.int 1))) (wCons (wVar 8) wNil))))) (wNot (wT (wCall (oFn 2 (fs_z_law_same A)) (wCons (wOp oIx (wVar 10) (wC (.int 2))) (wCons (wVar 9) wNil))))))))) (wRet (wC (.bl false))) wNext)
  (wSeq (wIf (wOr (wNot (wT (wCall cAll (wCons (wComp (wiSeq true (wOp oAdd (wVar 8) (wVar 9))) (.name 11) wYes (wChain oLe oLt (wC (.int 0)) (wVar 11) (wVar 2)) [11]) wNil)))) (wOr (wT (wOp oNe (wCall (oFn 2 (fs_z_law_number A)) (wCons (wVar 2) (wCons (wOp oIx (wVar 10) (wC (.int 0))) wNil))) (wVar 7))) (wT (wOp oNe (wCall (oFn 4 (fs_z_law_value A)) (wCons (wVar 2) (wCons (wOp oIx (wVar 10) (wC (.int 0))) (wCons (wVar 8) (wCons (wVar 9) wNil))))) (wVar 6))))) (wRet (wC (.bl false))) wNext)
  (wIf (wNot (wT (wCall (oFn 2 (fs_z_law_ratio_is A)) (wCons (wCall (oFn 4 (fs_minus_value A)) (wCons (wVar 2) (wCons (wOp oIx (wVar 10) (wC (.int 0))) (wCons (wOp oIx (wVar 10) (wC (.int 1))) (wCons (wOp oIx (wVar 10) (wC (.int 2))) wNil))))) (wCons (wVar 6) wNil))))) (wRet (wC (.bl false))) wNext))))))
  (w_law_5 A))))))
theorem rep_nat {i : Int} {k : Nat} : (List.replicate k [PV.int i]).flatten = (List.replicate k i).map .int := by
  induction k with
  | zero => rfl
  | succ k ih => rw [List.replicate_succ, List.flatten_cons, ih, List.replicate_succ, List.map_cons]; rfl
theorem ints_of {P : Int → Prop} : ∀ {zs : List PV}, (∀ z ∈ zs, ∃ i : Int, z = .int i ∧ P i) → ∃ ns : List Int, zs = ns.map .int ∧ ∀ x ∈ ns, P x
  | [], _ => ⟨[], rfl, fun _ h => nomatch h⟩
  | z :: zs, h => by
    obtain ⟨i, rfl, hi⟩ := h z List.mem_cons_self
    obtain ⟨ns, rfl, hn⟩ := ints_of fun y hy => h y (List.mem_cons_of_mem _ hy)
    exact ⟨i :: ns, rfl, fun x hx => by rcases List.mem_cons.mp hx with rfl | hx; exact hi; exact hn x hx⟩
theorem drawn {v : Int} {Q : PQ} {o0 o2 o3 o4 o5 o6 o7 o8 o9 o10 o11 o12 o13 o14 o15 : Option PV} (h0 : 0 ≤ v) (h1 : v ≤ 100) (h : ∀ ns : List Int, SmR ns → Q (.new (.lst (ns.map .int)))) :
    compP (rgP 0 v.toNat) (.name 13) wYes (wOp oSub (wCall (oFn 2 fsTake) (wCons (wVar 1) (wCons (wC (.int 9)) wNil))) (wC (.int 4))) [o0, some .st, o2, o3, o4, o5, o6, o7, o8, o9, o10, o11, o12, o13, o14, o15] Q := by
  refine comp_inv (fun p => ∃ i : Int, p = .int i ∧ i.natAbs < 2 ^ 60) (by rw [rgP_len, sizeLine_eq]; omega) (fun i p hp => ?_) (fun zs hl hP => ?_)
  · simp? only [fsTake]
    exact fun w hw => ⟨_, rfl, by omega⟩
  · rw [rgP_len] at hl
    obtain ⟨ns, rfl, hn⟩ := ints_of hP
    rw [List.length_map] at hl
    exact h ns ⟨by omega, hn⟩
theorem s8 (A : Ad) (hA : A.Ok) {b : Int} {Q : PQ} {R : XQ} (b1 : 2 ≤ b) (b2 : b ≤ 12) (h : Q (.bl true)) (o0 o3 o4 o5 o6 o7 o8 o9 o10 o12 : Option PV) :
    w_law_8 A (fnEnds Q R) [o0, some PV.st, some (.int b), o3, o4, o5, o6, o7, o8, o9, o10, none, o12, none, none, none] := by
  have hb : 2 ≤ b ∧ b ≤ 36 := ⟨b1, by omega⟩
  have ob := okB_i b1 (show b ≤ 36 by omega)
  have E1 : ∀ {x : PV}, okV (owns A) x = true → xOk A x → (∀ C ns xs, x ≠ .obj C ns xs) → Mal A (.tup [.adr A.minus_expand, .tup [.int b, x]]) := fun h2 h3 hn => mal_e hA rfl h2 h3 fun Q R hR => by
    rw [ob, if_pos rfl]
    rename_i x
    cases x with
    | obj C ns xs => exact absurd rfl (hn C ns xs)
    | _ => exact hR
  have R1 : okV (owns A) (rat A.kRatio 1000000000000000000000000000001 1) = true := by simp [okV, owns]
  have R2 : okV (owns A) (rat A.kRatio 1 2) = true := by simp [okV, owns]
  have X2 : xOk A (rat A.kRatio 1 2) := ⟨⟨rfl, rfl⟩, ⟨by decide, by decide⟩, .inl (by decide)⟩
  have E2 : Mal A (.tup [.adr A.minus_expand, .tup [.int b, rat A.kRatio 1000000000000000000000000000001 1]]) := mal_e hA rfl R1 ⟨⟨rfl, rfl⟩, ⟨by decide, by decide⟩, .inr ⟨by decide, by decide⟩⟩ fun Q R hR => by
    rw [ob, if_pos rfl, expQ_o, if_pos (by decide)]
    exact hR
  have E3 : ∀ {p : PV}, okV (owns A) p = true → okB p = false → Mal A (.tup [.adr A.minus_expand, .tup [p, rat A.kRatio 1 2]]) := fun h1 h2 => mal_e hA h1 R2 X2 fun Q R hR => by
    rw [if_neg (by rw [h2]; decide)]
    exact hR
  simp? only [w_law_8]
  refine comp_inv (Mal A) (by simp [sizeLine_eq]) (fun i p hp => ?_) (fun zs hl hP => ?_)
  · have hm := List.mem_of_getElem? hp
    simp only [List.mem_cons, List.not_mem_nil, or_false] at hm
    rcases hm with rfl | rfl | rfl | rfl | rfl
    · simp? only []; exact E1 rfl trivial (fun _ _ _ z => nomatch z)
    · simp? only []; exact E1 rfl trivial (fun _ _ _ z => nomatch z)
    · simp? only []; exact E1 okV_stR trivial (fun _ _ _ z => nomatch z)
    · simp? only []; exact E1 rfl trivial (fun _ _ _ z => nomatch z)
    · simp? only []; exact E2
  refine comp_inv (Mal A) (by simp [sizeLine_eq]) (fun i p hp => ?_) (fun ys hl2 hP2 => ?_)
  · have hm := List.mem_of_getElem? hp
    simp only [List.mem_cons, List.not_mem_nil, or_false] at hm
    rcases hm with rfl | rfl | rfl | rfl
    · simp? only []; exact ⟨⟨by decide, pw_up (j := 10) (by decide) (by decide)⟩, E3 (by rfl) (by rfl)⟩
    · simp? only []; exact ⟨⟨by decide, pw_up (j := 10) (by decide) (by decide)⟩, E3 (by rfl) (by rfl)⟩
    · simp? only []; exact ⟨⟨by decide, pw_up (j := 10) (by decide) (by decide)⟩, E3 (by rfl) (by rfl)⟩
    · simp? only []; exact ⟨⟨by decide, pw_up (j := 10) (by decide) (by decide)⟩, E3 (by rfl) (by rfl)⟩
  simp only [List.length_cons, List.length_nil] at hl hl2
  obtain ⟨us, hu, hu1, eu⟩ : ∃ us : List Int, us.length = 201 ∧ (∀ x ∈ us, x = 1) ∧ (List.replicate (201 : Int).toNat [PV.int 1]).flatten = us.map .int := ⟨List.replicate 201 1, List.length_replicate, fun x hx => List.eq_of_mem_replicate hx, rep_nat⟩
  have bigB : rowB (irow us) = false := by
    unfold rowB
    rw [isRow_row, tlen_row, hu]
    rfl
  have nil : SmR [] := ⟨by decide, fun _ h => nomatch h⟩
  have t0 : okT (owns A) (.tup []) := okT_sm nil
  have g0 : Dg (.tup []) := dg_sm nil
  have r0 : rowB (.tup []) = true := rowB_row nil
  have Z : ∀ {p o a t : PV}, okV (owns A) p = true → okV (owns A) o = true → okV (owns A) a = true → okV (owns A) t = true → okT (owns A) o ∧ Dg o → okT (owns A) a ∧ Dg a → okT (owns A) t ∧ Dg t → (okB p = false ∨ (rowB o && (rowB a && rowB t)) = false) → Mal A (.tup [.adr A.minus_value, .tup [p, o, a, t]]) :=
    fun h1 h2 h3 h4 k1 k2 k3 hf => mal4 (acts_minus_value A hA) h1 h2 h3 h4 ⟨k1, k2, k3⟩ (by
      unfold m_value
      rcases hf with hf | hf
      · rw [if_neg (by rw [hf]; decide)]
      · split
        · rw [if_neg (by rw [hf]; decide)]
        · rfl)
  simp? only []
  rw [eu]
  refine ⟨by rw [sizeLine_eq]; omega, ⟨by simp, by decide⟩, ?_⟩
  refine loopS_sl (σ := List PV × Option PV) (fun s => [(14, some (.lst s.1)), (15, s.2)]) (fun i s => s.1.length = 9 + 3 * i ∧ ∀ z ∈ s.1, Mal A z) (_, none) ⟨rfl, by simp [hl, hl2], fun z hz => ?_⟩ ?_ ?_
  · rcases List.mem_append.mp hz with hz | hz
    · exact hP z hz
    · exact hP2 z hz
  · rintro i ⟨xs, o⟩ pp ⟨hl, hx⟩ hp
    dsimp only at hl hx
    have i5 : i < 5 := (List.getElem?_eq_some_iff.mp hp).1
    have hm := List.mem_of_getElem? hp
    simp only [List.mem_cons, List.not_mem_nil, or_false] at hm
    have hv : okV (owns A) pp = true ∧ (okT (owns A) pp ∧ Dg pp) ∧ rowB pp = false := by
      rcases hm with rfl | rfl | rfl | rfl | rfl
      · exact ⟨rfl, ⟨trivial, fun _ h => nomatch h⟩, rfl⟩
      · exact ⟨rfl, ⟨trivial, fun _ h => nomatch h⟩, rfl⟩
      · exact ⟨rfl, ⟨trivial, fun _ h => nomatch h⟩, rfl⟩
      · exact ⟨rfl, ⟨⟨by decide, mc rfl mn⟩, by intro x hx; simp [unI, toI] at hx; subst hx; decide⟩, rfl⟩
      · exact ⟨dat_okV (dat_ints (by omega)), ⟨okT_row (by omega), by unfold Dg; rw [unI_row]; intro x hx; rw [hu1 x hx]; decide⟩, bigB⟩
    have pl := okV_plain hv.1
    simp? only [pl]
    refine ⟨by rw [sizeLine_eq]; simp; omega, ?_⟩
    refine ⟨(xs ++ _, _), rfl, by simp [hl]; omega, fun z hz => ?_⟩
    rcases List.mem_append.mp hz with hz | hz
    · exact hx z hz
    · have e1 : (rowB pp && (rowB (.tup []) && rowB (.tup []))) = false := by rw [hv.2.2]; rfl
      have e2 : (rowB (.tup []) && (rowB pp && rowB (.tup []))) = false := by rw [hv.2.2, r0]; rfl
      have e3 : (rowB (.tup []) && (rowB (.tup []) && rowB pp)) = false := by rw [hv.2.2, r0]; rfl
      have bd : ∀ z ∈ [PV.tup [.adr A.minus_value, .tup [.int b, pp, .tup [], .tup []]], .tup [.adr A.minus_value, .tup [.int b, .tup [], pp, .tup []]], .tup [.adr A.minus_value, .tup [.int b, .tup [], .tup [], pp]]], Mal A z :=
        mc (Z rfl hv.1 rfl rfl hv.2.1 ⟨t0, g0⟩ ⟨t0, g0⟩ (.inr e1)) (mc (Z rfl rfl hv.1 rfl ⟨t0, g0⟩ hv.2.1 ⟨t0, g0⟩ (.inr e2)) (mc (Z rfl rfl rfl hv.1 ⟨t0, g0⟩ ⟨t0, g0⟩ hv.2.1 (.inr e3)) mn))
      exact bd z hz
  · rintro ⟨xs, o⟩ ⟨hl, hx⟩
    dsimp only at hl hx
    simp only [List.length_cons, List.length_nil] at hl
    simp? only [fs_z_law_all_malformed]
    refine ⟨by rw [sizeLine_eq]; simp; omega, ⟨by simp; omega, fun z hz => ?_⟩, h⟩
    rcases List.mem_append.mp hz with hz | hz
    · exact hx z hz
    · have bd : ∀ z ∈ [PV.tup [.adr A.minus_value, .tup [.int 1, .tup [], .tup [], .tup []]], .tup [.adr A.minus_value, .tup [.non, .tup [], .tup [], .tup []]]], Mal A z :=
        mc (Z rfl rfl rfl rfl ⟨t0, g0⟩ ⟨t0, g0⟩ ⟨t0, g0⟩ (.inl rfl)) (mc (Z rfl rfl rfl rfl ⟨t0, g0⟩ ⟨t0, g0⟩ ⟨t0, g0⟩ (.inl rfl)) mn)
      exact bd z hz
theorem s5 (A : Ad) (hA : A.Ok) {b : Int} {Q : PQ} {R : XQ} (b1 : 2 ≤ b) (b2 : b ≤ 12) (h : Q (.bl true)) (o0 o3 o4 o5 o6 o7 o8 o9 o10 : Option PV) :
    w_law_5 A (fnEnds Q R) [o0, some PV.st, some (.int b), o3, o4, o5, o6, o7, o8, o9, o10, none, none, none, none, none] := by
  have hb : 2 ≤ b ∧ b ≤ 36 := ⟨b1, by omega⟩
  simp? only [w_law_5, fs_z_law_take, fsTake]
  intro v hv
  refine ⟨rgOk_of (by omega) (by omega), drawn hv.1 (by omega) fun o ho => ?_⟩
  simp? only []
  intro v hv
  refine ⟨rgOk_of (by omega) (by omega), drawn hv.1 (by omega) fun a ha => ?_⟩
  simp? only []
  intro v hv
  refine ⟨rgOk_of (by omega) (by omega), drawn hv.1 (by omega) fun t ht => ?_⟩
  simp? only [mvalu hb ho ha ht, valu hb ho ha ht, fs_z_law_ratio_is]
  exact s8 A hA b1 b2 h ..
theorem p_law (A : Ad) (hA : A.Ok) : ∀ qs Q R, qs.length = 1 → fs_law A qs Q R → w_law A (fnEnds Q R) (startP 16 qs) := by
  rintro qs Q R - ⟨ns, rfl, hs, h⟩
  simp? only [w_law, fs_z_law_state, fsState]
  refine ⟨ns, rfl, hs, fun x y hx hy hy2 => ?_⟩
  refine ⟨⟨hx, hy, hy2⟩, ?_⟩
  simp? only [fs_z_law_great, fs_z_law_take, fsTake, fs_z_law_low]
  intro k hk n hn d hd g g0 g1
  have up : ∀ {z : Int}, z.natAbs < 2 ^ 10 → z.natAbs < 2 ^ 8000 := fun hz => pw_up hz (by decide)
  have m1 : mulOk g 1 := mk_s (by omega) (by decide)
  have m2 : mulOk g (-1) := mk_s (by omega) (by decide)
  have m3 : mulOk g (1 + d) := mk_s (by omega) (by omega)
  have gd : (g * (1 + d)).natAbs < 2 ^ 90 := mul_sz (j := 84) (k := 6) (by omega) (by omega)
  refine ⟨⟨by omega, up (by omega)⟩, ⟨by decide, by decide⟩, ⟨by omega, up (by omega)⟩, ⟨by omega, up (by omega)⟩, fun c hc => ?_⟩
  have G1 := good_r (n := n - 2000) (d := 1 + d) (by omega) (by omega) (by omega)
  have G2 := good_r (n := n - 2000) (d := 1) (by decide) (by decide) (by omega)
  have G3 := good_r (n := -(2 + k)) (d := 2 + k + 1) (by omega) (by omega) (by omega)
  have G4 := good_r (n := 1) (d := 2 + k + 1) (by omega) (by omega) (by decide)
  have G6 := good_r (n := g * (1 + d) + 1) (d := 1 + d) (by omega) (by omega) (by omega)
  by_cases h0 : c = 0
  · rw [if_pos h0]
    refine ⟨m1, m3, ⟨by omega, up (by omega)⟩, ?_⟩
    exact sfor A hA (b := 2 + k) (by omega) (by omega) (mc G1 (mc G2 (mc G3 (mc G4 (mc (good_1 (n := g * 1) (by omega)) (mc G6 mn)))))) fun _ _ _ _ _ => s5 A hA (by omega) (by omega) h ..
  · rw [if_neg h0]
    refine ⟨m2, m3, ⟨by omega, up (by omega)⟩, ?_⟩
    exact sfor A hA (b := 2 + k) (by omega) (by omega) (mc G1 (mc G2 (mc G3 (mc G4 (mc (good_1 (n := g * -1) (by omega)) (mc G6 mn)))))) fun _ _ _ _ _ => s5 A hA (by omega) (by omega) h ..
/-! ### the text -/
def top (i : Nat) : Stmt := PySem.Challenge.pw_radixroads_k38_whole_fractions_in_bases.main.body.getD i (.Pass ⟨0, 0, 0, 0⟩)
def inC (i j : Nat) : Stmt := match top i with
  | .ClassDef _ _ _ b _ _ _ _ _ _ _ => b.getD j (.Pass ⟨0, 0, 0, 0⟩)
  | s => s
abbrev s_is_integer : Stmt := top 6
theorem sc_is_integer : FnScope ["value"] ["value"] (defScope s_is_integer) := ⟨rfl, rfl, rfl, by decide +kernel, rfl, by decide +kernel, by decide +kernel⟩
abbrev s_is_count : Stmt := top 7
theorem sc_is_count : FnScope ["value", "low", "high"] ["value", "low", "high"] (defScope s_is_count) := ⟨rfl, rfl, rfl, by decide +kernel, rfl, by decide +kernel, by decide +kernel⟩
abbrev s_check_count : Stmt := top 8
theorem sc_check_count : FnScope ["value", "low", "high"] ["value", "low", "high"] (defScope s_check_count) := ⟨rfl, rfl, rfl, by decide +kernel, rfl, by decide +kernel, by decide +kernel⟩
abbrev s_is_whole_row : Stmt := top 9
theorem sc_is_whole_row : FnScope ["value", "x"] ["value"] (defScope s_is_whole_row) := ⟨rfl, rfl, rfl, by decide +kernel, rfl, by decide +kernel, by decide +kernel⟩
abbrev s_common : Stmt := top 10
theorem sc_common : FnScope ["a", "b"] ["a", "b"] (defScope s_common) := ⟨rfl, rfl, rfl, by decide +kernel, rfl, by decide +kernel, by decide +kernel⟩
abbrev s_Ratio_init : Stmt := inC 13 0
theorem sc_Ratio_init : FnScope ["self", "n", "d", "g"] ["self", "n", "d"] (defScope s_Ratio_init) := ⟨rfl, rfl, rfl, by decide +kernel, rfl, by decide +kernel, by decide +kernel⟩
abbrev s_Ratio_add : Stmt := inC 13 1
theorem sc_Ratio_add : FnScope ["self", "other"] ["self", "other"] (defScope s_Ratio_add) := ⟨rfl, rfl, rfl, by decide +kernel, rfl, by decide +kernel, by decide +kernel⟩
abbrev s_Ratio_sub : Stmt := inC 13 2
theorem sc_Ratio_sub : FnScope ["self", "other"] ["self", "other"] (defScope s_Ratio_sub) := ⟨rfl, rfl, rfl, by decide +kernel, rfl, by decide +kernel, by decide +kernel⟩
abbrev s_Ratio_mul : Stmt := inC 13 3
theorem sc_Ratio_mul : FnScope ["self", "other"] ["self", "other"] (defScope s_Ratio_mul) := ⟨rfl, rfl, rfl, by decide +kernel, rfl, by decide +kernel, by decide +kernel⟩
abbrev s_Ratio_over : Stmt := inC 13 8
theorem sc_Ratio_over : FnScope ["self", "other"] ["self", "other"] (defScope s_Ratio_over) := ⟨rfl, rfl, rfl, by decide +kernel, rfl, by decide +kernel, by decide +kernel⟩
abbrev s_Ratio_times : Stmt := inC 13 9
theorem sc_Ratio_times : FnScope ["self", "k"] ["self", "k"] (defScope s_Ratio_times) := ⟨rfl, rfl, rfl, by decide +kernel, rfl, by decide +kernel, by decide +kernel⟩
abbrev s_Ratio_is_zero : Stmt := inC 13 11
theorem sc_Ratio_is_zero : FnScope ["self"] ["self"] (defScope s_Ratio_is_zero) := ⟨rfl, rfl, rfl, by decide +kernel, rfl, by decide +kernel, by decide +kernel⟩
abbrev s_Ratio_floor : Stmt := inC 13 13
theorem sc_Ratio_floor : FnScope ["self"] ["self"] (defScope s_Ratio_floor) := ⟨rfl, rfl, rfl, by decide +kernel, rfl, by decide +kernel, by decide +kernel⟩
abbrev s_Ratio_size : Stmt := inC 13 14
theorem sc_Ratio_size : FnScope ["self"] ["self"] (defScope s_Ratio_size) := ⟨rfl, rfl, rfl, by decide +kernel, rfl, by decide +kernel, by decide +kernel⟩
abbrev s_check_ratio : Stmt := top 15
theorem sc_check_ratio : FnScope ["value"] ["value"] (defScope s_check_ratio) := ⟨rfl, rfl, rfl, by decide +kernel, rfl, by decide +kernel, by decide +kernel⟩
abbrev s_check_base : Stmt := top 20
theorem sc_check_base : FnScope ["b"] ["b"] (defScope s_check_base) := ⟨rfl, rfl, rfl, by decide +kernel, rfl, by decide +kernel, by decide +kernel⟩
abbrev s_check_whole : Stmt := top 21
theorem sc_check_whole : FnScope ["n"] ["n"] (defScope s_check_whole) := ⟨rfl, rfl, rfl, by decide +kernel, rfl, by decide +kernel, by decide +kernel⟩
abbrev s_minus_word : Stmt := top 22
theorem sc_minus_word : FnScope ["b", "n", "found", "x"] ["b", "n"] (defScope s_minus_word) := ⟨rfl, rfl, rfl, by decide +kernel, rfl, by decide +kernel, by decide +kernel⟩
abbrev s_minus_number : Stmt := top 23
theorem sc_minus_number : FnScope ["b", "own", "found", "x"] ["b", "own"] (defScope s_minus_number) := ⟨rfl, rfl, rfl, by decide +kernel, rfl, by decide +kernel, by decide +kernel⟩
abbrev s_minus_expand : Stmt := top 24
theorem sc_minus_expand : FnScope ["b", "x", "low", "whole", "rest", "found", "seen", "key", "own", "digit"] ["b", "x"] (defScope s_minus_expand) := ⟨rfl, rfl, rfl, by decide +kernel, rfl, by decide +kernel, by decide +kernel⟩
abbrev s_minus_value : Stmt := top 25
theorem sc_minus_value : FnScope ["b", "own", "ahead", "turn", "row", "found", "low", "x", "wide", "_"] ["b", "own", "ahead", "turn"] (defScope s_minus_value) := ⟨rfl, rfl, rfl, by decide +kernel, rfl, by decide +kernel, by decide +kernel⟩
abbrev s_z_law_state : Stmt := top 27
theorem sc_z_law_state : FnScope ["script", "seed", "total", "cell"] ["script"] (defScope s_z_law_state) := ⟨rfl, rfl, rfl, by decide +kernel, rfl, by decide +kernel, by decide +kernel⟩
abbrev s_z_law_take : Stmt := top 28
theorem sc_z_law_take : FnScope ["state", "m", "value"] ["state", "m"] (defScope s_z_law_take) := ⟨rfl, rfl, rfl, by decide +kernel, rfl, by decide +kernel, by decide +kernel⟩
abbrev s_z_law_is_whole : Stmt := top 29
theorem sc_z_law_is_whole : FnScope ["value"] ["value"] (defScope s_z_law_is_whole) := ⟨rfl, rfl, rfl, by decide +kernel, rfl, by decide +kernel, by decide +kernel⟩
abbrev s_z_law_same : Stmt := top 30
theorem sc_z_law_same : FnScope ["one", "two", "k"] ["one", "two"] (defScope s_z_law_same) := ⟨rfl, rfl, rfl, by decide +kernel, rfl, by decide +kernel, by decide +kernel⟩
abbrev s_z_law_told : Stmt := top 31
theorem sc_z_law_told : FnScope ["act", "given", "refused"] ["act", "given"] (defScope s_z_law_told) := ⟨rfl, rfl, rfl, by decide +kernel, rfl, by decide +kernel, by decide +kernel⟩
abbrev s_z_law_all_malformed : Stmt := top 32
theorem sc_z_law_all_malformed : FnScope ["tried", "act", "given"] ["tried"] (defScope s_z_law_all_malformed) := ⟨rfl, rfl, rfl, by decide +kernel, rfl, by decide +kernel, by decide +kernel⟩
abbrev s_z_law_common : Stmt := top 33
theorem sc_z_law_common : FnScope ["a", "b"] ["a", "b"] (defScope s_z_law_common) := ⟨rfl, rfl, rfl, by decide +kernel, rfl, by decide +kernel, by decide +kernel⟩
abbrev s_z_law_low : Stmt := top 34
theorem sc_z_law_low : FnScope ["n", "d", "g"] ["n", "d"] (defScope s_z_law_low) := ⟨rfl, rfl, rfl, by decide +kernel, rfl, by decide +kernel, by decide +kernel⟩
abbrev s_z_law_add : Stmt := top 35
theorem sc_z_law_add : FnScope ["x", "y"] ["x", "y"] (defScope s_z_law_add) := ⟨rfl, rfl, rfl, by decide +kernel, rfl, by decide +kernel, by decide +kernel⟩
abbrev s_z_law_mul : Stmt := top 36
theorem sc_z_law_mul : FnScope ["x", "y"] ["x", "y"] (defScope s_z_law_mul) := ⟨rfl, rfl, rfl, by decide +kernel, rfl, by decide +kernel, by decide +kernel⟩
abbrev s_z_law_neg : Stmt := top 37
theorem sc_z_law_neg : FnScope ["x"] ["x"] (defScope s_z_law_neg) := ⟨rfl, rfl, rfl, by decide +kernel, rfl, by decide +kernel, by decide +kernel⟩
abbrev s_z_law_over : Stmt := top 38
theorem sc_z_law_over : FnScope ["x", "y"] ["x", "y"] (defScope s_z_law_over) := ⟨rfl, rfl, rfl, by decide +kernel, rfl, by decide +kernel, by decide +kernel⟩
abbrev s_z_law_ratio_is : Stmt := top 39
theorem sc_z_law_ratio_is : FnScope ["told", "due"] ["told", "due"] (defScope s_z_law_ratio_is) := ⟨rfl, rfl, rfl, by decide +kernel, rfl, by decide +kernel, by decide +kernel⟩
abbrev s_z_law_great : Stmt := top 40
theorem sc_z_law_great : FnScope ["state", "k", "n"] ["state"] (defScope s_z_law_great) := ⟨rfl, rfl, rfl, by decide +kernel, rfl, by decide +kernel, by decide +kernel⟩
abbrev s_z_law_floor : Stmt := top 41
theorem sc_z_law_floor : FnScope ["x"] ["x"] (defScope s_z_law_floor) := ⟨rfl, rfl, rfl, by decide +kernel, rfl, by decide +kernel, by decide +kernel⟩
abbrev s_z_law_expand : Stmt := top 42
theorem sc_z_law_expand : FnScope ["b", "x", "low", "whole", "rest", "found", "seen", "own", "digit", "at"] ["b", "x"] (defScope s_z_law_expand) := ⟨rfl, rfl, rfl, by decide +kernel, rfl, by decide +kernel, by decide +kernel⟩
abbrev s_z_law_number : Stmt := top 43
theorem sc_z_law_number : FnScope ["b", "own", "found", "x"] ["b", "own"] (defScope s_z_law_number) := ⟨rfl, rfl, rfl, by decide +kernel, rfl, by decide +kernel, by decide +kernel⟩
abbrev s_z_law_value : Stmt := top 44
theorem sc_z_law_value : FnScope ["b", "own", "ahead", "turn", "found", "low", "x", "wide"] ["b", "own", "ahead", "turn"] (defScope s_z_law_value) := ⟨rfl, rfl, rfl, by decide +kernel, rfl, by decide +kernel, by decide +kernel⟩
abbrev s_law : Stmt := top 45
theorem sc_law : FnScope ["script", "state", "b", "n", "d", "great", "x", "whole", "ahead", "turn", "told", "c", "own", "k", "tried", "bad"] ["script"] (defScope s_law) := ⟨rfl, rfl, rfl, by decide +kernel, rfl, by decide +kernel, by decide +kernel⟩
abbrev s_initR : Stmt := inC 4 0
theorem sc_initR : FnScope ["self", "reason"] ["self", "reason"] (defScope s_initR) := ⟨rfl, rfl, rfl, by decide +kernel, rfl, by decide +kernel, by decide +kernel⟩
def fn0 : List He.DefD := [L3.dfL ("is_integer", none) "is_integer" "is_integer" s_is_integer, L3.dfL ("is_count", none) "is_count" "is_count" s_is_count, L3.dfL ("check_count", none) "check_count" "check_count" s_check_count, L3.dfL ("is_whole_row", none) "is_whole_row" "is_whole_row" s_is_whole_row, L3.dfL ("common", none) "common" "common" s_common, ⟨("Ratio", some "__init__"), "__init__", "Ratio.__init__", defArgs s_Ratio_init, defBody s_Ratio_init, defScope s_Ratio_init, [.int 1], []⟩, L3.dfL ("Ratio", some "__add__") "__add__" "Ratio.__add__" s_Ratio_add, L3.dfL ("Ratio", some "__sub__") "__sub__" "Ratio.__sub__" s_Ratio_sub, L3.dfL ("Ratio", some "__mul__") "__mul__" "Ratio.__mul__" s_Ratio_mul, L3.dfL ("Ratio", some "over") "over" "Ratio.over" s_Ratio_over, L3.dfL ("Ratio", some "times") "times" "Ratio.times" s_Ratio_times, L3.dfL ("Ratio", some "is_zero") "is_zero" "Ratio.is_zero" s_Ratio_is_zero, L3.dfL ("Ratio", some "floor") "floor" "Ratio.floor" s_Ratio_floor, L3.dfL ("Ratio", some "size") "size" "Ratio.size" s_Ratio_size, L3.dfL ("check_ratio", none) "check_ratio" "check_ratio" s_check_ratio, L3.dfL ("check_base", none) "check_base" "check_base" s_check_base, L3.dfL ("check_whole", none) "check_whole" "check_whole" s_check_whole, L3.dfL ("minus_word", none) "minus_word" "minus_word" s_minus_word, L3.dfL ("minus_number", none) "minus_number" "minus_number" s_minus_number, L3.dfL ("minus_expand", none) "minus_expand" "minus_expand" s_minus_expand, L3.dfL ("minus_value", none) "minus_value" "minus_value" s_minus_value, L3.dfL ("_law_state", none) "_law_state" "_law_state" s_z_law_state, L3.dfL ("_law_take", none) "_law_take" "_law_take" s_z_law_take, L3.dfL ("_law_is_whole", none) "_law_is_whole" "_law_is_whole" s_z_law_is_whole, L3.dfL ("_law_same", none) "_law_same" "_law_same" s_z_law_same, L3.dfL ("_law_told", none) "_law_told" "_law_told" s_z_law_told, L3.dfL ("_law_all_malformed", none) "_law_all_malformed" "_law_all_malformed" s_z_law_all_malformed, L3.dfL ("_law_common", none) "_law_common" "_law_common" s_z_law_common, L3.dfL ("_law_low", none) "_law_low" "_law_low" s_z_law_low, L3.dfL ("_law_add", none) "_law_add" "_law_add" s_z_law_add]
def fn1 : List He.DefD := [L3.dfL ("_law_mul", none) "_law_mul" "_law_mul" s_z_law_mul, L3.dfL ("_law_neg", none) "_law_neg" "_law_neg" s_z_law_neg, L3.dfL ("_law_over", none) "_law_over" "_law_over" s_z_law_over, L3.dfL ("_law_ratio_is", none) "_law_ratio_is" "_law_ratio_is" s_z_law_ratio_is, L3.dfL ("_law_great", none) "_law_great" "_law_great" s_z_law_great, L3.dfL ("_law_floor", none) "_law_floor" "_law_floor" s_z_law_floor, L3.dfL ("_law_expand", none) "_law_expand" "_law_expand" s_z_law_expand, L3.dfL ("_law_number", none) "_law_number" "_law_number" s_z_law_number, L3.dfL ("_law_value", none) "_law_value" "_law_value" s_z_law_value, L3.dfL ("law", none) "law" "law" s_law, L3.dfL ("Refused", some "__init__") "__init__" "Refused.__init__" s_initR]
def fn : List He.DefD := fn0 ++ fn1
def fa0 : List FaL := [gB "is_integer", gB "is_count", gB "check_count", gB "is_whole_row", gB "common", methB "Ratio" "__add__", methB "Ratio" "__sub__", methB "Ratio" "__mul__", methB "Ratio" "over", methB "Ratio" "times", methB "Ratio" "is_zero", methB "Ratio" "floor", methB "Ratio" "size", gB "check_ratio", gB "check_base", gB "check_whole", gB "minus_word", gB "minus_number", gB "minus_expand", gB "minus_value", gB "_law_state", gB "_law_take", gB "_law_is_whole", gB "_law_same", gB "_law_told", gB "_law_all_malformed", gB "_law_common", gB "_law_low", gB "_law_add", gB "_law_mul"]
def fa1 : List FaL := [gB "_law_neg", gB "_law_over", gB "_law_ratio_is", gB "_law_great", gB "_law_floor", gB "_law_expand", gB "_law_number", gB "_law_value", gB "law", frB "abs", frB "all", frB "bool", frB "int", frB "isinstance", frB "len", frB "list", frB "min", frB "range", frB "str", frB "tuple", intB "MOST_BASE" 36, intB "MOST_NUMBER" 1000000000000000000000000000000, intB "MOST_DIGITS" 2000, gB "Ratio", clsB "Ratio", noatB "Ratio" "n", noatB "Ratio" "d", mkrB "Ratio", clsoB "Ratio", selfB "Ratio"]
def fa2 : List FaL := [ownSB "Ratio", kitsB "Ratio", ownTB "Ratio" "int", ownTB "Ratio" "bool", ownTB "Ratio" "tuple", ownTB "Ratio" "list", ownTB "Ratio" "str", gB "Malformed", excB "Malformed", gB "Refused", oexB "Refused" "reason", gB "Fault", fauB "Fault", exmB "Malformed" "Malformed" true, exmB "Refused" "Malformed" false, exmB "Malformed" "Refused" false, exmB "Refused" "Refused" true, fun K => decide ([He.ga K "minus_expand", He.ga K "minus_value"] : List Addr).Nodup, fun K => decide ([He.ga K "Malformed", He.ga K "Refused", He.ga K "Ratio"] : List Addr).Nodup]
def fa : List FaL := fa0 ++ fa1 ++ fa2
def adOf (K : PySem.W.Frag) : Ad := ⟨He.ga K "is_integer", He.ga K "is_count", He.ga K "check_count", He.ga K "is_whole_row", He.ga K "common", He.ga K "check_ratio", He.ga K "check_base", He.ga K "check_whole", He.ga K "minus_word", He.ga K "minus_number", He.ga K "minus_expand", He.ga K "minus_value", He.ga K "_law_state", He.ga K "_law_take", He.ga K "_law_is_whole", He.ga K "_law_same", He.ga K "_law_told", He.ga K "_law_all_malformed", He.ga K "_law_common", He.ga K "_law_low", He.ga K "_law_add", He.ga K "_law_mul", He.ga K "_law_neg", He.ga K "_law_over", He.ga K "_law_ratio_is", He.ga K "_law_great", He.ga K "_law_floor", He.ga K "_law_expand", He.ga K "_law_number", He.ga K "_law_value", He.ga K "law", He.ga K "Malformed", He.ga K "Refused", He.ga K "Ratio"⟩
structure Txt (K : PySem.W.Frag) (mg : Str → Option Value) : Prop where
  c : SaysL fa fn K
  g : ∀ x u, PySem.W.nsIn K mainGlobals x = some (some u) → mg x = some u
  z : ∀ x, PySem.W.nsIn K mainGlobals x = some none → mg x = none
section
variable {K : PySem.W.Frag} {mg : Str → Option Value}
theorem Txt.g_is_integer (T : Txt K mg) : mg "is_integer" = some (.ref (adOf K).is_integer) := T.g _ _ (He.eqO_ok (T.c.fact 0))
theorem Txt.F_is_integer (T : Txt K mg) : Fun K "is_integer" "is_integer" s_is_integer (adOf K).is_integer (fdOf K ("is_integer", none)) := T.c.def_ 0
theorem Txt.b_is_integer (T : Txt K mg) : Binds K (fdOf K ("is_integer", none)) ["value"] [] := T.F_is_integer.binds fun _ _ _ _ _ _ us hl => match us, hl with | [_], _ => rfl
theorem Txt.g_is_count (T : Txt K mg) : mg "is_count" = some (.ref (adOf K).is_count) := T.g _ _ (He.eqO_ok (T.c.fact 1))
theorem Txt.F_is_count (T : Txt K mg) : Fun K "is_count" "is_count" s_is_count (adOf K).is_count (fdOf K ("is_count", none)) := T.c.def_ 1
theorem Txt.b_is_count (T : Txt K mg) : Binds K (fdOf K ("is_count", none)) ["value", "low", "high"] [] := T.F_is_count.binds fun _ _ _ _ _ _ us hl => match us, hl with | [_, _, _], _ => rfl
theorem Txt.g_check_count (T : Txt K mg) : mg "check_count" = some (.ref (adOf K).check_count) := T.g _ _ (He.eqO_ok (T.c.fact 2))
theorem Txt.F_check_count (T : Txt K mg) : Fun K "check_count" "check_count" s_check_count (adOf K).check_count (fdOf K ("check_count", none)) := T.c.def_ 2
theorem Txt.b_check_count (T : Txt K mg) : Binds K (fdOf K ("check_count", none)) ["value", "low", "high"] [] := T.F_check_count.binds fun _ _ _ _ _ _ us hl => match us, hl with | [_, _, _], _ => rfl
theorem Txt.g_is_whole_row (T : Txt K mg) : mg "is_whole_row" = some (.ref (adOf K).is_whole_row) := T.g _ _ (He.eqO_ok (T.c.fact 3))
theorem Txt.F_is_whole_row (T : Txt K mg) : Fun K "is_whole_row" "is_whole_row" s_is_whole_row (adOf K).is_whole_row (fdOf K ("is_whole_row", none)) := T.c.def_ 3
theorem Txt.b_is_whole_row (T : Txt K mg) : Binds K (fdOf K ("is_whole_row", none)) ["value"] [] := T.F_is_whole_row.binds fun _ _ _ _ _ _ us hl => match us, hl with | [_], _ => rfl
theorem Txt.g_common (T : Txt K mg) : mg "common" = some (.ref (adOf K).common) := T.g _ _ (He.eqO_ok (T.c.fact 4))
theorem Txt.F_common (T : Txt K mg) : Fun K "common" "common" s_common (adOf K).common (fdOf K ("common", none)) := T.c.def_ 4
theorem Txt.b_common (T : Txt K mg) : Binds K (fdOf K ("common", none)) ["a", "b"] [] := T.F_common.binds fun _ _ _ _ _ _ us hl => match us, hl with | [_, _], _ => rfl
theorem Txt.F_Ratio_init (T : Txt K mg) : FunD K "__init__" "Ratio.__init__" (defArgs s_Ratio_init) (defBody s_Ratio_init) (defScope s_Ratio_init) [.int 1] [] (He.ma K (He.ga K "Ratio") "__init__") (fdOf K ("Ratio", some "__init__")) := T.c.defD_ 5
theorem Txt.b1_Ratio (T : Txt K mg) : ∃ ds, Vals [.int 1] ds ∧ Binds K (fdOf K ("Ratio", some "__init__")) ["self", "n", "d"] ds := T.F_Ratio_init.binds1 2 0 (by intro z; cases z) rfl fun T kV doc pm an cdv ct us its hl hi => match us, its, hl, hi with | [_, _], [_], _, _ => ⟨_, rfl, rfl⟩
theorem Txt.b2_Ratio (T : Txt K mg) : Binds K (fdOf K ("Ratio", some "__init__")) ["self", "n", "d"] [] := by
  obtain ⟨ds, hv, hb⟩ := T.F_Ratio_init.binds1 (ps := ["self", "n", "d"]) 3 1 (by intro z; cases z) rfl fun T kV doc pm an cdv ct us its hl hi => match us, its, hl, hi with | [_, _, _], [_], _, _ => ⟨_, rfl, rfl⟩
  cases hv
  exact hb
theorem Txt.m_Ratio_add (T : Txt K mg) : Meth K (adOf K).kRatio "__add__" (He.ma K (He.ga K "Ratio") "__add__") := He.meth_ok (T.c.fact 5)
theorem Txt.F_Ratio_add (T : Txt K mg) : Fun K "__add__" "Ratio.__add__" s_Ratio_add (He.ma K (He.ga K "Ratio") "__add__") (fdOf K ("Ratio", some "__add__")) := T.c.def_ 6
theorem Txt.b_Ratio_add (T : Txt K mg) : Binds K (fdOf K ("Ratio", some "__add__")) ["self", "other"] [] := T.F_Ratio_add.binds fun _ _ _ _ _ _ us hl => match us, hl with | [_, _], _ => rfl
theorem Txt.m_Ratio_sub (T : Txt K mg) : Meth K (adOf K).kRatio "__sub__" (He.ma K (He.ga K "Ratio") "__sub__") := He.meth_ok (T.c.fact 6)
theorem Txt.F_Ratio_sub (T : Txt K mg) : Fun K "__sub__" "Ratio.__sub__" s_Ratio_sub (He.ma K (He.ga K "Ratio") "__sub__") (fdOf K ("Ratio", some "__sub__")) := T.c.def_ 7
theorem Txt.b_Ratio_sub (T : Txt K mg) : Binds K (fdOf K ("Ratio", some "__sub__")) ["self", "other"] [] := T.F_Ratio_sub.binds fun _ _ _ _ _ _ us hl => match us, hl with | [_, _], _ => rfl
theorem Txt.m_Ratio_mul (T : Txt K mg) : Meth K (adOf K).kRatio "__mul__" (He.ma K (He.ga K "Ratio") "__mul__") := He.meth_ok (T.c.fact 7)
theorem Txt.F_Ratio_mul (T : Txt K mg) : Fun K "__mul__" "Ratio.__mul__" s_Ratio_mul (He.ma K (He.ga K "Ratio") "__mul__") (fdOf K ("Ratio", some "__mul__")) := T.c.def_ 8
theorem Txt.b_Ratio_mul (T : Txt K mg) : Binds K (fdOf K ("Ratio", some "__mul__")) ["self", "other"] [] := T.F_Ratio_mul.binds fun _ _ _ _ _ _ us hl => match us, hl with | [_, _], _ => rfl
theorem Txt.m_Ratio_over (T : Txt K mg) : Meth K (adOf K).kRatio "over" (He.ma K (He.ga K "Ratio") "over") := He.meth_ok (T.c.fact 8)
theorem Txt.F_Ratio_over (T : Txt K mg) : Fun K "over" "Ratio.over" s_Ratio_over (He.ma K (He.ga K "Ratio") "over") (fdOf K ("Ratio", some "over")) := T.c.def_ 9
theorem Txt.b_Ratio_over (T : Txt K mg) : Binds K (fdOf K ("Ratio", some "over")) ["self", "other"] [] := T.F_Ratio_over.binds fun _ _ _ _ _ _ us hl => match us, hl with | [_, _], _ => rfl
theorem Txt.m_Ratio_times (T : Txt K mg) : Meth K (adOf K).kRatio "times" (He.ma K (He.ga K "Ratio") "times") := He.meth_ok (T.c.fact 9)
theorem Txt.F_Ratio_times (T : Txt K mg) : Fun K "times" "Ratio.times" s_Ratio_times (He.ma K (He.ga K "Ratio") "times") (fdOf K ("Ratio", some "times")) := T.c.def_ 10
theorem Txt.b_Ratio_times (T : Txt K mg) : Binds K (fdOf K ("Ratio", some "times")) ["self", "k"] [] := T.F_Ratio_times.binds fun _ _ _ _ _ _ us hl => match us, hl with | [_, _], _ => rfl
theorem Txt.m_Ratio_is_zero (T : Txt K mg) : Meth K (adOf K).kRatio "is_zero" (He.ma K (He.ga K "Ratio") "is_zero") := He.meth_ok (T.c.fact 10)
theorem Txt.F_Ratio_is_zero (T : Txt K mg) : Fun K "is_zero" "Ratio.is_zero" s_Ratio_is_zero (He.ma K (He.ga K "Ratio") "is_zero") (fdOf K ("Ratio", some "is_zero")) := T.c.def_ 11
theorem Txt.b_Ratio_is_zero (T : Txt K mg) : Binds K (fdOf K ("Ratio", some "is_zero")) ["self"] [] := T.F_Ratio_is_zero.binds fun _ _ _ _ _ _ us hl => match us, hl with | [_], _ => rfl
theorem Txt.m_Ratio_floor (T : Txt K mg) : Meth K (adOf K).kRatio "floor" (He.ma K (He.ga K "Ratio") "floor") := He.meth_ok (T.c.fact 11)
theorem Txt.F_Ratio_floor (T : Txt K mg) : Fun K "floor" "Ratio.floor" s_Ratio_floor (He.ma K (He.ga K "Ratio") "floor") (fdOf K ("Ratio", some "floor")) := T.c.def_ 12
theorem Txt.b_Ratio_floor (T : Txt K mg) : Binds K (fdOf K ("Ratio", some "floor")) ["self"] [] := T.F_Ratio_floor.binds fun _ _ _ _ _ _ us hl => match us, hl with | [_], _ => rfl
theorem Txt.m_Ratio_size (T : Txt K mg) : Meth K (adOf K).kRatio "size" (He.ma K (He.ga K "Ratio") "size") := He.meth_ok (T.c.fact 12)
theorem Txt.F_Ratio_size (T : Txt K mg) : Fun K "size" "Ratio.size" s_Ratio_size (He.ma K (He.ga K "Ratio") "size") (fdOf K ("Ratio", some "size")) := T.c.def_ 13
theorem Txt.b_Ratio_size (T : Txt K mg) : Binds K (fdOf K ("Ratio", some "size")) ["self"] [] := T.F_Ratio_size.binds fun _ _ _ _ _ _ us hl => match us, hl with | [_], _ => rfl
theorem Txt.g_check_ratio (T : Txt K mg) : mg "check_ratio" = some (.ref (adOf K).check_ratio) := T.g _ _ (He.eqO_ok (T.c.fact 13))
theorem Txt.F_check_ratio (T : Txt K mg) : Fun K "check_ratio" "check_ratio" s_check_ratio (adOf K).check_ratio (fdOf K ("check_ratio", none)) := T.c.def_ 14
theorem Txt.b_check_ratio (T : Txt K mg) : Binds K (fdOf K ("check_ratio", none)) ["value"] [] := T.F_check_ratio.binds fun _ _ _ _ _ _ us hl => match us, hl with | [_], _ => rfl
theorem Txt.g_check_base (T : Txt K mg) : mg "check_base" = some (.ref (adOf K).check_base) := T.g _ _ (He.eqO_ok (T.c.fact 14))
theorem Txt.F_check_base (T : Txt K mg) : Fun K "check_base" "check_base" s_check_base (adOf K).check_base (fdOf K ("check_base", none)) := T.c.def_ 15
theorem Txt.b_check_base (T : Txt K mg) : Binds K (fdOf K ("check_base", none)) ["b"] [] := T.F_check_base.binds fun _ _ _ _ _ _ us hl => match us, hl with | [_], _ => rfl
theorem Txt.g_check_whole (T : Txt K mg) : mg "check_whole" = some (.ref (adOf K).check_whole) := T.g _ _ (He.eqO_ok (T.c.fact 15))
theorem Txt.F_check_whole (T : Txt K mg) : Fun K "check_whole" "check_whole" s_check_whole (adOf K).check_whole (fdOf K ("check_whole", none)) := T.c.def_ 16
theorem Txt.b_check_whole (T : Txt K mg) : Binds K (fdOf K ("check_whole", none)) ["n"] [] := T.F_check_whole.binds fun _ _ _ _ _ _ us hl => match us, hl with | [_], _ => rfl
theorem Txt.g_minus_word (T : Txt K mg) : mg "minus_word" = some (.ref (adOf K).minus_word) := T.g _ _ (He.eqO_ok (T.c.fact 16))
theorem Txt.F_minus_word (T : Txt K mg) : Fun K "minus_word" "minus_word" s_minus_word (adOf K).minus_word (fdOf K ("minus_word", none)) := T.c.def_ 17
theorem Txt.b_minus_word (T : Txt K mg) : Binds K (fdOf K ("minus_word", none)) ["b", "n"] [] := T.F_minus_word.binds fun _ _ _ _ _ _ us hl => match us, hl with | [_, _], _ => rfl
theorem Txt.g_minus_number (T : Txt K mg) : mg "minus_number" = some (.ref (adOf K).minus_number) := T.g _ _ (He.eqO_ok (T.c.fact 17))
theorem Txt.F_minus_number (T : Txt K mg) : Fun K "minus_number" "minus_number" s_minus_number (adOf K).minus_number (fdOf K ("minus_number", none)) := T.c.def_ 18
theorem Txt.b_minus_number (T : Txt K mg) : Binds K (fdOf K ("minus_number", none)) ["b", "own"] [] := T.F_minus_number.binds fun _ _ _ _ _ _ us hl => match us, hl with | [_, _], _ => rfl
theorem Txt.g_minus_expand (T : Txt K mg) : mg "minus_expand" = some (.ref (adOf K).minus_expand) := T.g _ _ (He.eqO_ok (T.c.fact 18))
theorem Txt.F_minus_expand (T : Txt K mg) : Fun K "minus_expand" "minus_expand" s_minus_expand (adOf K).minus_expand (fdOf K ("minus_expand", none)) := T.c.def_ 19
theorem Txt.b_minus_expand (T : Txt K mg) : Binds K (fdOf K ("minus_expand", none)) ["b", "x"] [] := T.F_minus_expand.binds fun _ _ _ _ _ _ us hl => match us, hl with | [_, _], _ => rfl
theorem Txt.g_minus_value (T : Txt K mg) : mg "minus_value" = some (.ref (adOf K).minus_value) := T.g _ _ (He.eqO_ok (T.c.fact 19))
theorem Txt.F_minus_value (T : Txt K mg) : Fun K "minus_value" "minus_value" s_minus_value (adOf K).minus_value (fdOf K ("minus_value", none)) := T.c.def_ 20
theorem Txt.b_minus_value (T : Txt K mg) : Binds K (fdOf K ("minus_value", none)) ["b", "own", "ahead", "turn"] [] := T.F_minus_value.binds fun _ _ _ _ _ _ us hl => match us, hl with | [_, _, _, _], _ => rfl
theorem Txt.g_z_law_state (T : Txt K mg) : mg "_law_state" = some (.ref (adOf K).z_law_state) := T.g _ _ (He.eqO_ok (T.c.fact 20))
theorem Txt.F_z_law_state (T : Txt K mg) : Fun K "_law_state" "_law_state" s_z_law_state (adOf K).z_law_state (fdOf K ("_law_state", none)) := T.c.def_ 21
theorem Txt.b_z_law_state (T : Txt K mg) : Binds K (fdOf K ("_law_state", none)) ["script"] [] := T.F_z_law_state.binds fun _ _ _ _ _ _ us hl => match us, hl with | [_], _ => rfl
theorem Txt.g_z_law_take (T : Txt K mg) : mg "_law_take" = some (.ref (adOf K).z_law_take) := T.g _ _ (He.eqO_ok (T.c.fact 21))
theorem Txt.F_z_law_take (T : Txt K mg) : Fun K "_law_take" "_law_take" s_z_law_take (adOf K).z_law_take (fdOf K ("_law_take", none)) := T.c.def_ 22
theorem Txt.b_z_law_take (T : Txt K mg) : Binds K (fdOf K ("_law_take", none)) ["state", "m"] [] := T.F_z_law_take.binds fun _ _ _ _ _ _ us hl => match us, hl with | [_, _], _ => rfl
theorem Txt.g_z_law_is_whole (T : Txt K mg) : mg "_law_is_whole" = some (.ref (adOf K).z_law_is_whole) := T.g _ _ (He.eqO_ok (T.c.fact 22))
theorem Txt.F_z_law_is_whole (T : Txt K mg) : Fun K "_law_is_whole" "_law_is_whole" s_z_law_is_whole (adOf K).z_law_is_whole (fdOf K ("_law_is_whole", none)) := T.c.def_ 23
theorem Txt.b_z_law_is_whole (T : Txt K mg) : Binds K (fdOf K ("_law_is_whole", none)) ["value"] [] := T.F_z_law_is_whole.binds fun _ _ _ _ _ _ us hl => match us, hl with | [_], _ => rfl
theorem Txt.g_z_law_same (T : Txt K mg) : mg "_law_same" = some (.ref (adOf K).z_law_same) := T.g _ _ (He.eqO_ok (T.c.fact 23))
theorem Txt.F_z_law_same (T : Txt K mg) : Fun K "_law_same" "_law_same" s_z_law_same (adOf K).z_law_same (fdOf K ("_law_same", none)) := T.c.def_ 24
theorem Txt.b_z_law_same (T : Txt K mg) : Binds K (fdOf K ("_law_same", none)) ["one", "two"] [] := T.F_z_law_same.binds fun _ _ _ _ _ _ us hl => match us, hl with | [_, _], _ => rfl
theorem Txt.g_z_law_told (T : Txt K mg) : mg "_law_told" = some (.ref (adOf K).z_law_told) := T.g _ _ (He.eqO_ok (T.c.fact 24))
theorem Txt.F_z_law_told (T : Txt K mg) : Fun K "_law_told" "_law_told" s_z_law_told (adOf K).z_law_told (fdOf K ("_law_told", none)) := T.c.def_ 25
theorem Txt.b_z_law_told (T : Txt K mg) : Binds K (fdOf K ("_law_told", none)) ["act", "given"] [] := T.F_z_law_told.binds fun _ _ _ _ _ _ us hl => match us, hl with | [_, _], _ => rfl
theorem Txt.g_z_law_all_malformed (T : Txt K mg) : mg "_law_all_malformed" = some (.ref (adOf K).z_law_all_malformed) := T.g _ _ (He.eqO_ok (T.c.fact 25))
theorem Txt.F_z_law_all_malformed (T : Txt K mg) : Fun K "_law_all_malformed" "_law_all_malformed" s_z_law_all_malformed (adOf K).z_law_all_malformed (fdOf K ("_law_all_malformed", none)) := T.c.def_ 26
theorem Txt.b_z_law_all_malformed (T : Txt K mg) : Binds K (fdOf K ("_law_all_malformed", none)) ["tried"] [] := T.F_z_law_all_malformed.binds fun _ _ _ _ _ _ us hl => match us, hl with | [_], _ => rfl
theorem Txt.g_z_law_common (T : Txt K mg) : mg "_law_common" = some (.ref (adOf K).z_law_common) := T.g _ _ (He.eqO_ok (T.c.fact 26))
theorem Txt.F_z_law_common (T : Txt K mg) : Fun K "_law_common" "_law_common" s_z_law_common (adOf K).z_law_common (fdOf K ("_law_common", none)) := T.c.def_ 27
theorem Txt.b_z_law_common (T : Txt K mg) : Binds K (fdOf K ("_law_common", none)) ["a", "b"] [] := T.F_z_law_common.binds fun _ _ _ _ _ _ us hl => match us, hl with | [_, _], _ => rfl
theorem Txt.g_z_law_low (T : Txt K mg) : mg "_law_low" = some (.ref (adOf K).z_law_low) := T.g _ _ (He.eqO_ok (T.c.fact 27))
theorem Txt.F_z_law_low (T : Txt K mg) : Fun K "_law_low" "_law_low" s_z_law_low (adOf K).z_law_low (fdOf K ("_law_low", none)) := T.c.def_ 28
theorem Txt.b_z_law_low (T : Txt K mg) : Binds K (fdOf K ("_law_low", none)) ["n", "d"] [] := T.F_z_law_low.binds fun _ _ _ _ _ _ us hl => match us, hl with | [_, _], _ => rfl
theorem Txt.g_z_law_add (T : Txt K mg) : mg "_law_add" = some (.ref (adOf K).z_law_add) := T.g _ _ (He.eqO_ok (T.c.fact 28))
theorem Txt.F_z_law_add (T : Txt K mg) : Fun K "_law_add" "_law_add" s_z_law_add (adOf K).z_law_add (fdOf K ("_law_add", none)) := T.c.def_ 29
theorem Txt.b_z_law_add (T : Txt K mg) : Binds K (fdOf K ("_law_add", none)) ["x", "y"] [] := T.F_z_law_add.binds fun _ _ _ _ _ _ us hl => match us, hl with | [_, _], _ => rfl
theorem Txt.g_z_law_mul (T : Txt K mg) : mg "_law_mul" = some (.ref (adOf K).z_law_mul) := T.g _ _ (He.eqO_ok (T.c.fact 29))
theorem Txt.F_z_law_mul (T : Txt K mg) : Fun K "_law_mul" "_law_mul" s_z_law_mul (adOf K).z_law_mul (fdOf K ("_law_mul", none)) := T.c.def_ 30
theorem Txt.b_z_law_mul (T : Txt K mg) : Binds K (fdOf K ("_law_mul", none)) ["x", "y"] [] := T.F_z_law_mul.binds fun _ _ _ _ _ _ us hl => match us, hl with | [_, _], _ => rfl
theorem Txt.g_z_law_neg (T : Txt K mg) : mg "_law_neg" = some (.ref (adOf K).z_law_neg) := T.g _ _ (He.eqO_ok (T.c.fact 30))
theorem Txt.F_z_law_neg (T : Txt K mg) : Fun K "_law_neg" "_law_neg" s_z_law_neg (adOf K).z_law_neg (fdOf K ("_law_neg", none)) := T.c.def_ 31
theorem Txt.b_z_law_neg (T : Txt K mg) : Binds K (fdOf K ("_law_neg", none)) ["x"] [] := T.F_z_law_neg.binds fun _ _ _ _ _ _ us hl => match us, hl with | [_], _ => rfl
theorem Txt.g_z_law_over (T : Txt K mg) : mg "_law_over" = some (.ref (adOf K).z_law_over) := T.g _ _ (He.eqO_ok (T.c.fact 31))
theorem Txt.F_z_law_over (T : Txt K mg) : Fun K "_law_over" "_law_over" s_z_law_over (adOf K).z_law_over (fdOf K ("_law_over", none)) := T.c.def_ 32
theorem Txt.b_z_law_over (T : Txt K mg) : Binds K (fdOf K ("_law_over", none)) ["x", "y"] [] := T.F_z_law_over.binds fun _ _ _ _ _ _ us hl => match us, hl with | [_, _], _ => rfl
theorem Txt.g_z_law_ratio_is (T : Txt K mg) : mg "_law_ratio_is" = some (.ref (adOf K).z_law_ratio_is) := T.g _ _ (He.eqO_ok (T.c.fact 32))
theorem Txt.F_z_law_ratio_is (T : Txt K mg) : Fun K "_law_ratio_is" "_law_ratio_is" s_z_law_ratio_is (adOf K).z_law_ratio_is (fdOf K ("_law_ratio_is", none)) := T.c.def_ 33
theorem Txt.b_z_law_ratio_is (T : Txt K mg) : Binds K (fdOf K ("_law_ratio_is", none)) ["told", "due"] [] := T.F_z_law_ratio_is.binds fun _ _ _ _ _ _ us hl => match us, hl with | [_, _], _ => rfl
theorem Txt.g_z_law_great (T : Txt K mg) : mg "_law_great" = some (.ref (adOf K).z_law_great) := T.g _ _ (He.eqO_ok (T.c.fact 33))
theorem Txt.F_z_law_great (T : Txt K mg) : Fun K "_law_great" "_law_great" s_z_law_great (adOf K).z_law_great (fdOf K ("_law_great", none)) := T.c.def_ 34
theorem Txt.b_z_law_great (T : Txt K mg) : Binds K (fdOf K ("_law_great", none)) ["state"] [] := T.F_z_law_great.binds fun _ _ _ _ _ _ us hl => match us, hl with | [_], _ => rfl
theorem Txt.g_z_law_floor (T : Txt K mg) : mg "_law_floor" = some (.ref (adOf K).z_law_floor) := T.g _ _ (He.eqO_ok (T.c.fact 34))
theorem Txt.F_z_law_floor (T : Txt K mg) : Fun K "_law_floor" "_law_floor" s_z_law_floor (adOf K).z_law_floor (fdOf K ("_law_floor", none)) := T.c.def_ 35
theorem Txt.b_z_law_floor (T : Txt K mg) : Binds K (fdOf K ("_law_floor", none)) ["x"] [] := T.F_z_law_floor.binds fun _ _ _ _ _ _ us hl => match us, hl with | [_], _ => rfl
theorem Txt.g_z_law_expand (T : Txt K mg) : mg "_law_expand" = some (.ref (adOf K).z_law_expand) := T.g _ _ (He.eqO_ok (T.c.fact 35))
theorem Txt.F_z_law_expand (T : Txt K mg) : Fun K "_law_expand" "_law_expand" s_z_law_expand (adOf K).z_law_expand (fdOf K ("_law_expand", none)) := T.c.def_ 36
theorem Txt.b_z_law_expand (T : Txt K mg) : Binds K (fdOf K ("_law_expand", none)) ["b", "x"] [] := T.F_z_law_expand.binds fun _ _ _ _ _ _ us hl => match us, hl with | [_, _], _ => rfl
theorem Txt.g_z_law_number (T : Txt K mg) : mg "_law_number" = some (.ref (adOf K).z_law_number) := T.g _ _ (He.eqO_ok (T.c.fact 36))
theorem Txt.F_z_law_number (T : Txt K mg) : Fun K "_law_number" "_law_number" s_z_law_number (adOf K).z_law_number (fdOf K ("_law_number", none)) := T.c.def_ 37
theorem Txt.b_z_law_number (T : Txt K mg) : Binds K (fdOf K ("_law_number", none)) ["b", "own"] [] := T.F_z_law_number.binds fun _ _ _ _ _ _ us hl => match us, hl with | [_, _], _ => rfl
theorem Txt.g_z_law_value (T : Txt K mg) : mg "_law_value" = some (.ref (adOf K).z_law_value) := T.g _ _ (He.eqO_ok (T.c.fact 37))
theorem Txt.F_z_law_value (T : Txt K mg) : Fun K "_law_value" "_law_value" s_z_law_value (adOf K).z_law_value (fdOf K ("_law_value", none)) := T.c.def_ 38
theorem Txt.b_z_law_value (T : Txt K mg) : Binds K (fdOf K ("_law_value", none)) ["b", "own", "ahead", "turn"] [] := T.F_z_law_value.binds fun _ _ _ _ _ _ us hl => match us, hl with | [_, _, _, _], _ => rfl
theorem Txt.g_law (T : Txt K mg) : mg "law" = some (.ref (adOf K).law) := T.g _ _ (He.eqO_ok (T.c.fact 38))
theorem Txt.F_law (T : Txt K mg) : Fun K "law" "law" s_law (adOf K).law (fdOf K ("law", none)) := T.c.def_ 39
theorem Txt.b_law (T : Txt K mg) : Binds K (fdOf K ("law", none)) ["script"] [] := T.F_law.binds fun _ _ _ _ _ _ us hl => match us, hl with | [_], _ => rfl
theorem Txt.m_abs (T : Txt K mg) : mg "abs" = none := T.z _ (He.eqO_ok (T.c.fact 39))
theorem Txt.m_all (T : Txt K mg) : mg "all" = none := T.z _ (He.eqO_ok (T.c.fact 40))
theorem Txt.m_bool (T : Txt K mg) : mg "bool" = none := T.z _ (He.eqO_ok (T.c.fact 41))
theorem Txt.m_int (T : Txt K mg) : mg "int" = none := T.z _ (He.eqO_ok (T.c.fact 42))
theorem Txt.m_isinstance (T : Txt K mg) : mg "isinstance" = none := T.z _ (He.eqO_ok (T.c.fact 43))
theorem Txt.m_len (T : Txt K mg) : mg "len" = none := T.z _ (He.eqO_ok (T.c.fact 44))
theorem Txt.m_list (T : Txt K mg) : mg "list" = none := T.z _ (He.eqO_ok (T.c.fact 45))
theorem Txt.m_min (T : Txt K mg) : mg "min" = none := T.z _ (He.eqO_ok (T.c.fact 46))
theorem Txt.m_range (T : Txt K mg) : mg "range" = none := T.z _ (He.eqO_ok (T.c.fact 47))
theorem Txt.m_str (T : Txt K mg) : mg "str" = none := T.z _ (He.eqO_ok (T.c.fact 48))
theorem Txt.m_tuple (T : Txt K mg) : mg "tuple" = none := T.z _ (He.eqO_ok (T.c.fact 49))
theorem Txt.c_MOST_BASE (T : Txt K mg) : ∃ t, mg "MOST_BASE" = some (.int 36 t) := int_of T.g (T.c.fact 50)
theorem Txt.c_MOST_NUMBER (T : Txt K mg) : ∃ t, mg "MOST_NUMBER" = some (.int 1000000000000000000000000000000 t) := int_of T.g (T.c.fact 51)
theorem Txt.c_MOST_DIGITS (T : Txt K mg) : ∃ t, mg "MOST_DIGITS" = some (.int 2000 t) := int_of T.g (T.c.fact 52)
theorem Txt.g_Ratio (T : Txt K mg) : mg "Ratio" = some (.ref (adOf K).kRatio) := T.g _ _ (He.eqO_ok (T.c.fact 53))
theorem Txt.c_Ratio (T : Txt K mg) : Cls K (adOf K).kRatio := He.cls_ok (T.c.fact 54)
theorem Txt.n_Ratio_n (T : Txt K mg) : NoAttr K (adOf K).kRatio "n" := He.noat_ok (T.c.fact 55)
theorem Txt.n_Ratio_d (T : Txt K mg) : NoAttr K (adOf K).kRatio "d" := He.noat_ok (T.c.fact 56)
theorem Txt.k_Ratio (T : Txt K mg) : Mk K (adOf K).kRatio (He.ma K (He.ga K "Ratio") "__init__") := He.mkr_ok (T.c.fact 57)
theorem Txt.o_Ratio (T : Txt K mg) : ObjC K (adOf K).kRatio := objC_ok (T.c.fact 54) (T.c.fact 58)
theorem Txt.f_Ratio (T : Txt K mg) : PySem.W.selfFirst K (adOf K).kRatio = true := T.c.fact 59
theorem Txt.s_Ratio (T : Txt K mg) : PySem.W.kitOne K (.ref (adOf K).kRatio) (.ref (adOf K).kRatio) = some true := of_decide_eq_true (T.c.fact 60)
theorem Txt.q_Ratio (T : Txt K mg) : kinds.all (fun n => decide (PySem.W.kitOne K (.type n) (.ref (adOf K).kRatio) = some false)) = true := T.c.fact 61
theorem Txt.own_int (T : Txt K mg) : ∀ C ∈ owns (adOf K), ObjC K C ∧ PySem.W.kitOne K (.ref C) (.type "int") = some false := by
  intro C h
  simp only [owns, List.mem_cons, List.not_mem_nil, or_false] at h
  subst h
  exact ⟨T.o_Ratio, of_decide_eq_true (T.c.fact 62)⟩
theorem Txt.own_bool (T : Txt K mg) : ∀ C ∈ owns (adOf K), ObjC K C ∧ PySem.W.kitOne K (.ref C) (.type "bool") = some false := by
  intro C h
  simp only [owns, List.mem_cons, List.not_mem_nil, or_false] at h
  subst h
  exact ⟨T.o_Ratio, of_decide_eq_true (T.c.fact 63)⟩
theorem Txt.own_tuple (T : Txt K mg) : ∀ C ∈ owns (adOf K), ObjC K C ∧ PySem.W.kitOne K (.ref C) (.type "tuple") = some false := by
  intro C h
  simp only [owns, List.mem_cons, List.not_mem_nil, or_false] at h
  subst h
  exact ⟨T.o_Ratio, of_decide_eq_true (T.c.fact 64)⟩
theorem Txt.own_list (T : Txt K mg) : ∀ C ∈ owns (adOf K), ObjC K C ∧ PySem.W.kitOne K (.ref C) (.type "list") = some false := by
  intro C h
  simp only [owns, List.mem_cons, List.not_mem_nil, or_false] at h
  subst h
  exact ⟨T.o_Ratio, of_decide_eq_true (T.c.fact 65)⟩
theorem Txt.own_str (T : Txt K mg) : ∀ C ∈ owns (adOf K), ObjC K C ∧ PySem.W.kitOne K (.ref C) (.type "str") = some false := by
  intro C h
  simp only [owns, List.mem_cons, List.not_mem_nil, or_false] at h
  subst h
  exact ⟨T.o_Ratio, of_decide_eq_true (T.c.fact 66)⟩
theorem Txt.gM (T : Txt K mg) : mg "Malformed" = some (.ref (adOf K).cM) := T.g _ _ (He.eqO_ok (T.c.fact 67))
theorem Txt.xM (T : Txt K mg) : PySem.W.excIn K (adOf K).cM veBm "ValueError.__new__" = true := (excB_ok (T.c.fact 68)).1
theorem Txt.kM (T : Txt K mg) : PySem.W.keepIn K (.ref (adOf K).cM) = true := (excB_ok (T.c.fact 68)).2.1
theorem Txt.bM (T : Txt K mg) : PySem.W.subIn K (.ref (adOf K).cM) (.type "BaseException") = some true := (excB_ok (T.c.fact 68)).2.2.1
theorem Txt.tM (T : Txt K mg) : PySem.W.typeIn K (.ref (adOf K).cM) = some (.type "type") := (excB_ok (T.c.fact 68)).2.2.2
theorem Txt.gR (T : Txt K mg) : mg "Refused" = some (.ref (adOf K).cR) := T.g _ _ (He.eqO_ok (T.c.fact 69))
theorem Txt.xR (T : Txt K mg) : OexC K (adOf K).cR := (oexB_ok (T.c.fact 70)).x
theorem Txt.iR (T : Txt K mg) : PySem.W.findIn K (.ref (adOf K).cR) "__init__" = some (some (.ref (He.ma K (He.ga K "Refused") "__init__"))) := (oexB_ok (T.c.fact 70)).i
theorem Txt.tRI (T : Txt K mg) : PySem.W.typeIn K (.ref (He.ma K (He.ga K "Refused") "__init__")) = some (.type "function") := (oexB_ok (T.c.fact 70)).t
theorem Txt.nR (T : Txt K mg) : PySem.W.findIn K (.ref (adOf K).cR) "reason" = some none := (oexB_ok (T.c.fact 70)).n
theorem Txt.yR (T : Txt K mg) : XfC K (adOf K).cR := (oexB_ok (T.c.fact 70)).y
theorem Txt.F_initR (T : Txt K mg) : Fun K "__init__" "Refused.__init__" s_initR (He.ma K (He.ga K "Refused") "__init__") (fdOf K ("Refused", some "__init__")) := T.c.def_ 40
theorem Txt.bRI (T : Txt K mg) : Binds K (fdOf K ("Refused", some "__init__")) ["self", "reason"] [] := T.F_initR.binds fun _ _ _ _ _ _ us hl => match us, hl with | [_, _], _ => rfl
theorem Txt.gF (T : Txt K mg) : mg "Fault" = some (.ref (He.ga K "Fault")) := T.g _ _ (He.eqO_ok (T.c.fact 71))
theorem Txt.fau (T : Txt K mg) : PySem.W.specialIn K (.ref (He.ga K "Fault")) "__getattribute__" = some (some (.builtin "type.__getattribute__")) ∧ PySem.W.readsIn K (He.ga K "Fault") (.type "type") = true ∧ PySem.W.findCls K (.ref (He.ga K "Fault")) (.type "type") "__init__" = some (.val (.builtin "ValueError.__init__")) := fauB_ok (T.c.fact 72)
theorem Txt.eM (T : Txt K mg) : ∀ a b, ansM (adOf K) a = some b → PySem.W.exmOne K (.ref a) (.ref (adOf K).cM) = some b := by
  intro a b h
  unfold ansM at h
  split at h
  · rename_i e; cases h; rw [e]; exact exmB_ok (T.c.fact 73)
  split at h
  · rename_i e; cases h; rw [e]; exact exmB_ok (T.c.fact 74)
  cases h
theorem Txt.eR (T : Txt K mg) : ∀ a b, ansR (adOf K) a = some b → PySem.W.exmOne K (.ref a) (.ref (adOf K).cR) = some b := by
  intro a b h
  unfold ansR at h
  split at h
  · rename_i e; cases h; rw [e]; exact exmB_ok (T.c.fact 75)
  split at h
  · rename_i e; cases h; rw [e]; exact exmB_ok (T.c.fact 76)
  cases h
theorem Txt.ok (T : Txt K mg) : (adOf K).Ok := ⟨of_decide_eq_true (T.c.fact 77), of_decide_eq_true (T.c.fact 78)⟩
end
/-! ### each def keeps its promise -/
section
variable {P : Program} {w : World} {K : PySem.W.Frag} {mg : Str → Option Value} {base : Heap}
theorem ok_initR (T : Txt K mg) : FnOk P w K mg base (L2.CX P w) 1 (He.ma K (He.ga K "Refused") "__init__") (fdOf K ("Refused", some "__init__")) ["self", "reason"] (spErr K (adOf K).cR "reason") := init_rule T.F_initR sc_initR rfl (fun cdv A outer s H E hr => pss_cons (ps_expr (pe_bInit rfl T.gF T.fau.1 T.fau.2.1 T.fau.2.2 (pa_cons (pv 0) (pa_cons (pv 1) pa_nil)))) (pss_one (ps_ost (pv 0) (pv 1))))
theorem ok_is_integer (T : Txt K mg) : FnOk P w K mg base (L2.CX P w) 1 (adOf K).is_integer (fdOf K ("is_integer", none)) ["value"] (spL K 1 (fs_is_integer (adOf K))) :=
  fn_rule2 (k := 0) T.F_is_integer sc_is_integer rfl (p_is_integer (adOf K) T.ok) fun cdv Aa outer s H E hr tk hp nd =>
  (vss_one (vs_ret (ve_and (ve_isT (owns (adOf K)) T.m_isinstance T.m_int (ve_var 0) (by decide +kernel) T.own_int (by decide +kernel)) (ve_one (ve_not (ve_isT (owns (adOf K)) T.m_isinstance T.m_bool (ve_var 0) (by decide +kernel) T.own_bool (by decide +kernel)))))))
theorem ok_common (T : Txt K mg) : FnOk P w K mg base (L2.CX P w) 1 (adOf K).common (fdOf K ("common", none)) ["a", "b"] (spL K 2 (fs_common (adOf K))) :=
  fn_rule2 (k := 0) T.F_common sc_common rfl (p_common (adOf K) T.ok) fun cdv Aa outer s H E hr tk hp nd =>
  (vss_cons (vs_par false false rfl nd rfl rfl (by decide) rfl rfl (ve_callB call_abs cv_abs rfl T.m_abs (by decide +kernel) (va_cons (ve_var 0) va_nil)) (ve_callB call_abs cv_abs rfl T.m_abs (by decide +kernel) (va_cons (ve_var 1) va_nil)) rfl)
  (vss_cons (vs_while hp (vt_cmp op_gt ov_cmp (ve_var 1) ve_int (nobehind _ (by decide) (by decide))) (vss_one (vs_par false false rfl nd rfl rfl (by decide) rfl rfl (ve_var 1) (ve_mod (ve_var 0) (ve_var 1)) rfl)))
  (vss_one (vs_ret (ve_var 0)))))
theorem ok_Ratio_is_zero (T : Txt K mg) : FnOk P w K mg base (L2.CX P w) 1 (He.ma K (He.ga K "Ratio") "is_zero") (fdOf K ("Ratio", some "is_zero")) ["self"] (spL K 1 (fs_Ratio_is_zero (adOf K))) :=
  fn_rule2 (k := 0) T.F_Ratio_is_zero sc_Ratio_is_zero rfl (p_Ratio_is_zero (adOf K) T.ok) fun cdv Aa outer s H E hr tk hp nd =>
  (vss_one (vs_ret (ve_cmp (op_eqD hr.units) ov_eq (ve_fld T.c_Ratio T.n_Ratio_n (ve_var 0)) ve_int (nobehind _ (by decide) (by decide)))))
theorem ok_Ratio_floor (T : Txt K mg) : FnOk P w K mg base (L2.CX P w) 1 (He.ma K (He.ga K "Ratio") "floor") (fdOf K ("Ratio", some "floor")) ["self"] (spL K 1 (fs_Ratio_floor (adOf K))) :=
  fn_rule2 (k := 0) T.F_Ratio_floor sc_Ratio_floor rfl (p_Ratio_floor (adOf K) T.ok) fun cdv Aa outer s H E hr tk hp nd =>
  (vss_one (vs_ret (ve_div (ve_fld T.c_Ratio T.n_Ratio_n (ve_var 0)) (ve_fld T.c_Ratio T.n_Ratio_d (ve_var 0)))))
theorem ok_z_law_state (T : Txt K mg) : FnOk P w K mg base (L2.CX P w) 1 (adOf K).z_law_state (fdOf K ("_law_state", none)) ["script"] (spL K 1 (fs_z_law_state (adOf K))) :=
  fn_rule2 (k := 0) T.F_z_law_state sc_z_law_state rfl (p_z_law_state (adOf K) T.ok) fun cdv Aa outer s H E hr tk hp nd =>
  (vss_cons (vs_set (i := 1) ve_int nd rfl (by first | exact .inl rfl | exact .inr rfl))
  (vss_cons (vs_set (i := 2) ve_int nd rfl (by first | exact .inl rfl | exact .inr rfl))
  (vss_cons (vs_for hp rfl (vi_seq false (ve_slice (ve_var 0) vp_none (vp_some ve_int))) (vg_name 3 nd) (vss_cons (vs_set (i := 1) (ve_add (ve_mulA (ve_var 1) ve_int) (ve_callB call_abs cv_abs rfl T.m_abs (by decide +kernel) (va_cons (ve_var 3) va_nil))) nd rfl (by first | exact .inl rfl | exact .inr rfl))
  (vss_one (vs_set (i := 2) (ve_mod (ve_callTy call_int1 cv_int rfl T.m_int (by decide +kernel) (va_cons (ve_add (ve_mulA (ve_var 2) ve_int) (ve_var 3)) va_nil)) ve_int) nd rfl (by first | exact .inl rfl | exact .inr rfl)))))
  (vss_one (vs_ret (ve_lst (va_cons (ve_var 1) (va_cons (ve_ifE (vt_cmp (op_neD hr.units) ov_ne (ve_var 2) ve_int (nobehind _ (by decide) (by decide))) (ve_var 2) ve_int) va_nil))))))))
theorem ok_z_law_take (T : Txt K mg) : FnOk P w K mg base (L2.CX P w) 1 (adOf K).z_law_take (fdOf K ("_law_take", none)) ["state", "m"] (spL K 2 (fs_z_law_take (adOf K))) :=
  fn_rule2 (k := 0) T.F_z_law_take sc_z_law_take rfl (p_z_law_take (adOf K) T.ok) fun cdv Aa outer s H E hr tk hp nd =>
  (vss_cons (vs_if (vt_cmp op_gt ov_cmp (ve_st0 (i := 0) rfl (by first | exact Or.inl rfl | exact Or.inr (Or.inl rfl)) (fun _ _ => rfl)) ve_int (nobehind _ (by decide) (by decide))) (vss_cons (vs_set (i := 2) (ve_mod (ve_callTy call_int1 cv_int rfl T.m_int (by decide +kernel) (va_cons (ve_st0 (i := 0) rfl (by first | exact Or.inl rfl | exact Or.inr (Or.inl rfl)) (fun _ _ => rfl)) va_nil)) (ve_var 1)) nd rfl (by first | exact .inl rfl | exact .inr rfl))
  (vss_cons (vs_st0 (i := 0) rfl (by first | exact Or.inl rfl | exact Or.inr (Or.inl rfl)) (ve_div (ve_st0 (i := 0) rfl (by first | exact Or.inl rfl | exact Or.inr (Or.inl rfl)) (fun _ _ => rfl)) (ve_var 1)))
  (vss_one (vs_ret (ve_var 2))))) vss_nil)
  (vss_cons (vs_st1 (i := 0) rfl (by first | exact Or.inl rfl | exact Or.inr (Or.inl rfl)) (ve_mod (ve_callTy call_int1 cv_int rfl T.m_int (by decide +kernel) (va_cons (ve_add (ve_mulA (ve_st1 (i := 0) rfl (by first | exact Or.inl rfl | exact Or.inr (Or.inl rfl)) (fun _ _ => rfl)) ve_int) ve_int) va_nil)) ve_int))
  (vss_one (vs_ret (ve_mod (ve_callTy call_int1 cv_int rfl T.m_int (by decide +kernel) (va_cons (ve_div (ve_st1 (i := 0) rfl (by first | exact Or.inl rfl | exact Or.inr (Or.inl rfl)) (fun _ _ => rfl)) ve_int) va_nil)) (ve_var 1))))))
theorem ok_z_law_is_whole (T : Txt K mg) : FnOk P w K mg base (L2.CX P w) 1 (adOf K).z_law_is_whole (fdOf K ("_law_is_whole", none)) ["value"] (spL K 1 (fs_z_law_is_whole (adOf K))) :=
  fn_rule2 (k := 0) T.F_z_law_is_whole sc_z_law_is_whole rfl (p_z_law_is_whole (adOf K) T.ok) fun cdv Aa outer s H E hr tk hp nd =>
  (vss_one (vs_ret (ve_and (ve_isT (owns (adOf K)) T.m_isinstance T.m_int (ve_var 0) (by decide +kernel) T.own_int (by decide +kernel)) (ve_one (ve_not (ve_isT (owns (adOf K)) T.m_isinstance T.m_bool (ve_var 0) (by decide +kernel) T.own_bool (by decide +kernel)))))))
theorem ok_z_law_common (T : Txt K mg) : FnOk P w K mg base (L2.CX P w) 1 (adOf K).z_law_common (fdOf K ("_law_common", none)) ["a", "b"] (spL K 2 (fs_z_law_common (adOf K))) :=
  fn_rule2 (k := 0) T.F_z_law_common sc_z_law_common rfl (p_z_law_common (adOf K) T.ok) fun cdv Aa outer s H E hr tk hp nd =>
  (vss_cons (vs_par false false rfl nd rfl rfl (by decide) rfl rfl (ve_callB call_abs cv_abs rfl T.m_abs (by decide +kernel) (va_cons (ve_var 0) va_nil)) (ve_callB call_abs cv_abs rfl T.m_abs (by decide +kernel) (va_cons (ve_var 1) va_nil)) rfl)
  (vss_cons (vs_while hp (vt_cmp op_gt ov_cmp (ve_var 1) ve_int (nobehind _ (by decide) (by decide))) (vss_one (vs_par false false rfl nd rfl rfl (by decide) rfl rfl (ve_var 1) (ve_mod (ve_callTy call_int1 cv_int rfl T.m_int (by decide +kernel) (va_cons (ve_var 0) va_nil)) (ve_var 1)) rfl)))
  (vss_one (vs_ret (ve_var 0)))))
theorem ok_z_law_neg (T : Txt K mg) : FnOk P w K mg base (L2.CX P w) 1 (adOf K).z_law_neg (fdOf K ("_law_neg", none)) ["x"] (spL K 1 (fs_z_law_neg (adOf K))) :=
  fn_rule2 (k := 0) T.F_z_law_neg sc_z_law_neg rfl (p_z_law_neg (adOf K) T.ok) fun cdv Aa outer s H E hr tk hp nd =>
  (vss_one (vs_ret (ve_tup (va_cons (ve_neg (ve_ix (ve_var 0) ve_int (fun _ _ => rfl))) (va_cons (ve_ix (ve_var 0) ve_int (fun _ _ => rfl)) va_nil)))))
theorem ok_z_law_floor (T : Txt K mg) : FnOk P w K mg base (L2.CX P w) 1 (adOf K).z_law_floor (fdOf K ("_law_floor", none)) ["x"] (spL K 1 (fs_z_law_floor (adOf K))) :=
  fn_rule2 (k := 0) T.F_z_law_floor sc_z_law_floor rfl (p_z_law_floor (adOf K) T.ok) fun cdv Aa outer s H E hr tk hp nd =>
  (vss_one (vs_ret (ve_div (ve_ix (ve_var 0) ve_int (fun _ _ => rfl)) (ve_ix (ve_var 0) ve_int (fun _ _ => rfl)))))
theorem ok_z_law_number (T : Txt K mg) : FnOk P w K mg base (L2.CX P w) 1 (adOf K).z_law_number (fdOf K ("_law_number", none)) ["b", "own"] (spL K 2 (fs_z_law_number (adOf K))) :=
  fn_rule2 (k := 0) T.F_z_law_number sc_z_law_number rfl (p_z_law_number (adOf K) T.ok) fun cdv Aa outer s H E hr tk hp nd =>
  (vss_cons (vs_set (i := 2) ve_int nd rfl (by first | exact .inl rfl | exact .inr rfl))
  (vss_cons (vs_for hp rfl (vi_seq false (ve_var 1)) (vg_name 3 nd) (vss_one (vs_set (i := 2) (ve_add (ve_mulA (ve_neg (ve_var 0)) (ve_var 2)) (ve_var 3)) nd rfl (by first | exact .inl rfl | exact .inr rfl))))
  (vss_one (vs_ret (ve_var 2)))))
theorem ok_is_count (T : Txt K mg) : FnOk P w K mg base (L2.CX P w) 2 (adOf K).is_count (fdOf K ("is_count", none)) ["value", "low", "high"] (spL K 3 (fs_is_count (adOf K))) :=
  fn_rule2 (k := 1) T.F_is_count sc_is_count rfl (p_is_count (adOf K) T.ok) fun cdv Aa outer s H E hr tk hp nd =>
  (vss_one (vs_ret (ve_and (ve_fn (ok_is_integer T) (hr.mono (by decide)) tk rfl T.g_is_integer T.F_is_integer.kp T.b_is_integer (va_cons (ve_var 0) va_nil)) (ve_one (ve_chain op_le op_le ov_cmp ov_cmp (ve_var 1) (ve_var 0) (ve_var 2))))))
theorem ok_is_whole_row (T : Txt K mg) : FnOk P w K mg base (L2.CX P w) 2 (adOf K).is_whole_row (fdOf K ("is_whole_row", none)) ["value"] (spL K 1 (fs_is_whole_row (adOf K))) :=
  fn_rule2 (k := 1) T.F_is_whole_row sc_is_whole_row rfl (p_is_whole_row (adOf K) T.ok) fun cdv Aa outer s H E hr tk hp nd =>
  (vss_one (vs_ret (ve_and (ve_isT (owns (adOf K)) T.m_isinstance T.m_tuple (ve_var 0) (by decide +kernel) T.own_tuple (by decide +kernel)) (ve_one (ve_callB (cr_all rfl) cv_all rfl T.m_all (by decide +kernel) (va_cons (ve_comp (own := [("x", 1)]) rfl nd (vi_seq true (ve_var 0)) (blkOk_by rfl) (by decide) (fun _ _ _ _ _ => (vg_name 1 nd)) (fun _ _ _ _ _ => vifs_nil) (fun _ _ _ _ _ => (ve_fn (ok_is_integer T) (hr.mono (by decide)) takes0 rfl T.g_is_integer T.F_is_integer.kp T.b_is_integer (va_cons (ve_var 1) va_nil)))) va_nil))))))
theorem ok_z_law_low (T : Txt K mg) : FnOk P w K mg base (L2.CX P w) 2 (adOf K).z_law_low (fdOf K ("_law_low", none)) ["n", "d"] (spL K 2 (fs_z_law_low (adOf K))) :=
  fn_rule2 (k := 1) T.F_z_law_low sc_z_law_low rfl (p_z_law_low (adOf K) T.ok) fun cdv Aa outer s H E hr tk hp nd =>
  (vss_cons (vs_set (i := 2) (ve_fn (ok_z_law_common T) (hr.mono (by decide)) tk rfl T.g_z_law_common T.F_z_law_common.kp T.b_z_law_common (va_cons (ve_var 0) (va_cons (ve_var 1) va_nil))) nd rfl (by first | exact .inl rfl | exact .inr rfl))
  (vss_cons (vs_set (i := 2) (ve_ifE (vt_cmp op_gt ov_cmp (ve_var 1) ve_int (nobehind _ (by decide) (by decide))) (ve_var 2) (ve_neg (ve_var 2))) nd rfl (by first | exact .inl rfl | exact .inr rfl))
  (vss_one (vs_ret (ve_tup (va_cons (ve_div (ve_var 0) (ve_var 2)) (va_cons (ve_div (ve_var 1) (ve_var 2)) va_nil)))))))
theorem ok_z_law_ratio_is (T : Txt K mg) : FnOk P w K mg base (L2.CX P w) 2 (adOf K).z_law_ratio_is (fdOf K ("_law_ratio_is", none)) ["told", "due"] (spL K 2 (fs_z_law_ratio_is (adOf K))) :=
  fn_rule2 (k := 1) T.F_z_law_ratio_is sc_z_law_ratio_is rfl (p_z_law_ratio_is (adOf K) T.ok) fun cdv Aa outer s H E hr tk hp nd =>
  (vss_one (vs_ret (ve_and (ve_isiC [] rfl T.m_isinstance (ve_var 0) rfl T.g_Ratio T.o_Ratio T.s_Ratio (fun _ z => nomatch z) T.q_Ratio) (ve_and (ve_fn (ok_z_law_is_whole T) (hr.mono (by decide)) tk rfl T.g_z_law_is_whole T.F_z_law_is_whole.kp T.b_z_law_is_whole (va_cons (ve_fld T.c_Ratio T.n_Ratio_n (ve_var 0)) va_nil)) (ve_and (ve_fn (ok_z_law_is_whole T) (hr.mono (by decide)) tk rfl T.g_z_law_is_whole T.F_z_law_is_whole.kp T.b_z_law_is_whole (va_cons (ve_fld T.c_Ratio T.n_Ratio_d (ve_var 0)) va_nil)) (ve_one (ve_cmp (op_eqD hr.units) ov_eq (ve_tup (va_cons (ve_fld T.c_Ratio T.n_Ratio_n (ve_var 0)) (va_cons (ve_fld T.c_Ratio T.n_Ratio_d (ve_var 0)) va_nil))) (ve_var 1) (nobehind _ (by decide) (by decide)))))))))
theorem ok_z_law_great (T : Txt K mg) : FnOk P w K mg base (L2.CX P w) 2 (adOf K).z_law_great (fdOf K ("_law_great", none)) ["state"] (spL K 1 (fs_z_law_great (adOf K))) :=
  fn_rule2 (k := 1) T.F_z_law_great sc_z_law_great rfl (p_z_law_great (adOf K) T.ok) fun cdv Aa outer s H E hr tk hp nd =>
  (vss_cons (vs_set (i := 1) (ve_fn (ok_z_law_take T) (hr.mono (by decide)) tk rfl T.g_z_law_take T.F_z_law_take.kp T.b_z_law_take (va_cons (ve_var 0) (va_cons ve_int va_nil))) nd rfl (by first | exact .inl rfl | exact .inr rfl))
  (vss_cons (vs_set (i := 2) (ve_fn (ok_z_law_take T) (hr.mono (by decide)) tk rfl T.g_z_law_take T.F_z_law_take.kp T.b_z_law_take (va_cons (ve_var 0) (va_cons ve_int va_nil))) nd rfl (by first | exact .inl rfl | exact .inr rfl))
  (vss_cons (vs_if (vt_cmp op_gt ov_cmp (ve_var 1) ve_int (nobehind _ (by decide) (by decide))) (vss_one (vs_set (i := 2) (ve_add (ve_mulA (ve_var 2) ve_int) (ve_fn (ok_z_law_take T) (hr.mono (by decide)) tk rfl T.g_z_law_take T.F_z_law_take.kp T.b_z_law_take (va_cons (ve_var 0) (va_cons ve_int va_nil)))) nd rfl (by first | exact .inl rfl | exact .inr rfl))) vss_nil)
  (vss_cons (vs_if (vt_cmp (op_eqD hr.units) ov_eq (ve_var 1) ve_int (nobehind _ (by decide) (by decide))) (vss_one (vs_set (i := 2) (ve_add (ve_mulA (ve_var 2) ve_int) (ve_mulA (ve_fn (ok_z_law_take T) (hr.mono (by decide)) tk rfl T.g_z_law_take T.F_z_law_take.kp T.b_z_law_take (va_cons (ve_var 0) (va_cons ve_int va_nil))) ve_int)) nd rfl (by first | exact .inl rfl | exact .inr rfl))) vss_nil)
  (vss_one (vs_ret (ve_var 2)))))))
theorem ok_check_count (T : Txt K mg) : FnOk P w K mg base (L2.CX P w) 3 (adOf K).check_count (fdOf K ("check_count", none)) ["value", "low", "high"] (spL K 3 (fs_check_count (adOf K))) :=
  fn_rule2 (k := 2) T.F_check_count sc_check_count rfl (p_check_count (adOf K) T.ok) fun cdv Aa outer s H E hr tk hp nd =>
  (vss_one (vs_if (vt_not (vt_val (ve_fn (ok_is_count T) (hr.mono (by decide)) tk rfl T.g_is_count T.F_is_count.kp T.b_is_count (va_cons (ve_var 0) (va_cons (ve_var 1) (va_cons (ve_var 2) va_nil)))))) (vss_one (vs_raise rfl tk PySem.F.excBase_ValueError T.xM T.gM T.kM (raises_own T.bM T.tM) rfl)) vss_nil))
theorem ok_Ratio_init (T : Txt K mg) : FnOk P w K mg base (L2.CX P w) 3 (He.ma K (He.ga K "Ratio") "__init__") (fdOf K ("Ratio", some "__init__")) ["self", "n", "d"] (spInit (adOf K).kRatio) :=
  init_ok (k := 2) T.F_Ratio_init sc_Ratio_init T.c_Ratio T.n_Ratio_n T.n_Ratio_d (p_Ratio_init (adOf K) T.ok) fun cdv Aa outer s H E hr tk hp nd =>
  pss_cons (VS.ps (vs_if (vt_bool (vw_or (vt_not (vt_val (ve_fn (ok_is_integer T) (hr.mono (by decide)) tk rfl T.g_is_integer T.F_is_integer.kp T.b_is_integer (va_cons (ve_var 1) va_nil)))) (vw_or1 (vt_not (vt_val (ve_fn (ok_is_integer T) (hr.mono (by decide)) tk rfl T.g_is_integer T.F_is_integer.kp T.b_is_integer (va_cons (ve_var 2) va_nil))))))) (vss_one (vs_raise rfl tk PySem.F.excBase_ValueError T.xM T.gM T.kM (raises_own T.bM T.tM) rfl)) vss_nil)) (pss_cons (VS.ps (vs_if (vt_cmp (op_eqD hr.units) ov_eq (ve_var 2) ve_int (nobehind _ (by decide) (by decide))) (vss_one (vs_raiseF rfl tk T.xR T.iR T.tRI T.nR (ok_initR T) (hr.mono (by decide)) T.bRI (passes_call tk fun _ _ _ _ z => z.elim) rfl T.gR ve_str)) vss_nil)) (pss_cons (VS.ps (vs_set (i := 3) (ve_fn (ok_common T) (hr.mono (by decide)) tk rfl T.g_common T.F_common.kp T.b_common (va_cons (ve_var 1) (va_cons (ve_var 2) va_nil))) nd rfl (by first | exact .inl rfl | exact .inr rfl))) (pss_cons (ps_fld (pv 0) (VE.pe (ve_ifE (vt_cmp op_gt ov_cmp (ve_var 2) ve_int (nobehind _ (by decide) (by decide))) (ve_div (ve_var 1) (ve_var 3)) (ve_div (ve_neg (ve_var 1)) (ve_var 3)))) rfl) (pss_one (ps_fld (pv 0) (VE.pe (ve_div (ve_callB call_abs cv_abs rfl T.m_abs (by decide +kernel) (va_cons (ve_var 2) va_nil)) (ve_var 3))) rfl)))))
theorem ok_check_ratio (T : Txt K mg) : FnOk P w K mg base (L2.CX P w) 3 (adOf K).check_ratio (fdOf K ("check_ratio", none)) ["value"] (spL K 1 (fs_check_ratio (adOf K))) :=
  fn_rule2 (k := 2) T.F_check_ratio sc_check_ratio rfl (p_check_ratio (adOf K) T.ok) fun cdv Aa outer s H E hr tk hp nd =>
  (vss_one (vs_if (vt_not (vt_val (ve_isiC [] rfl T.m_isinstance (ve_var 0) rfl T.g_Ratio T.o_Ratio T.s_Ratio (fun _ z => nomatch z) T.q_Ratio))) (vss_one (vs_raise rfl tk PySem.F.excBase_ValueError T.xM T.gM T.kM (raises_own T.bM T.tM) rfl)) vss_nil))
theorem ok_check_whole (T : Txt K mg) : FnOk P w K mg base (L2.CX P w) 3 (adOf K).check_whole (fdOf K ("check_whole", none)) ["n"] (spL K 1 (fs_check_whole (adOf K))) :=
  fn_rule2 (k := 2) T.F_check_whole sc_check_whole rfl (p_check_whole (adOf K) T.ok) fun cdv Aa outer s H E hr tk hp nd =>
  (vss_one (vs_if (vt_bool (vw_or (vt_not (vt_val (ve_fn (ok_is_integer T) (hr.mono (by decide)) tk rfl T.g_is_integer T.F_is_integer.kp T.b_is_integer (va_cons (ve_var 0) va_nil)))) (vw_or1 (vt_cmp op_gt ov_cmp (ve_callB call_abs cv_abs rfl T.m_abs (by decide +kernel) (va_cons (ve_var 0) va_nil)) (ve_gint rfl T.c_MOST_NUMBER) (nobehind _ (by decide) (by decide)))))) (vss_one (vs_raise rfl tk PySem.F.excBase_ValueError T.xM T.gM T.kM (raises_own T.bM T.tM) rfl)) vss_nil))
theorem ok_z_law_add (T : Txt K mg) : FnOk P w K mg base (L2.CX P w) 3 (adOf K).z_law_add (fdOf K ("_law_add", none)) ["x", "y"] (spL K 2 (fs_z_law_add (adOf K))) :=
  fn_rule2 (k := 2) T.F_z_law_add sc_z_law_add rfl (p_z_law_add (adOf K) T.ok) fun cdv Aa outer s H E hr tk hp nd =>
  (vss_one (vs_ret (ve_fn (ok_z_law_low T) (hr.mono (by decide)) tk rfl T.g_z_law_low T.F_z_law_low.kp T.b_z_law_low (va_cons (ve_add (ve_mulA (ve_ix (ve_var 0) ve_int (fun _ _ => rfl)) (ve_ix (ve_var 1) ve_int (fun _ _ => rfl))) (ve_mulA (ve_ix (ve_var 1) ve_int (fun _ _ => rfl)) (ve_ix (ve_var 0) ve_int (fun _ _ => rfl)))) (va_cons (ve_mulA (ve_ix (ve_var 0) ve_int (fun _ _ => rfl)) (ve_ix (ve_var 1) ve_int (fun _ _ => rfl))) va_nil)))))
theorem ok_z_law_mul (T : Txt K mg) : FnOk P w K mg base (L2.CX P w) 3 (adOf K).z_law_mul (fdOf K ("_law_mul", none)) ["x", "y"] (spL K 2 (fs_z_law_mul (adOf K))) :=
  fn_rule2 (k := 2) T.F_z_law_mul sc_z_law_mul rfl (p_z_law_mul (adOf K) T.ok) fun cdv Aa outer s H E hr tk hp nd =>
  (vss_one (vs_ret (ve_fn (ok_z_law_low T) (hr.mono (by decide)) tk rfl T.g_z_law_low T.F_z_law_low.kp T.b_z_law_low (va_cons (ve_mulA (ve_ix (ve_var 0) ve_int (fun _ _ => rfl)) (ve_ix (ve_var 1) ve_int (fun _ _ => rfl))) (va_cons (ve_mulA (ve_ix (ve_var 0) ve_int (fun _ _ => rfl)) (ve_ix (ve_var 1) ve_int (fun _ _ => rfl))) va_nil)))))
theorem ok_z_law_over (T : Txt K mg) : FnOk P w K mg base (L2.CX P w) 3 (adOf K).z_law_over (fdOf K ("_law_over", none)) ["x", "y"] (spL K 2 (fs_z_law_over (adOf K))) :=
  fn_rule2 (k := 2) T.F_z_law_over sc_z_law_over rfl (p_z_law_over (adOf K) T.ok) fun cdv Aa outer s H E hr tk hp nd =>
  (vss_one (vs_ret (ve_fn (ok_z_law_low T) (hr.mono (by decide)) tk rfl T.g_z_law_low T.F_z_law_low.kp T.b_z_law_low (va_cons (ve_mulA (ve_ix (ve_var 0) ve_int (fun _ _ => rfl)) (ve_ix (ve_var 1) ve_int (fun _ _ => rfl))) (va_cons (ve_mulA (ve_ix (ve_var 0) ve_int (fun _ _ => rfl)) (ve_ix (ve_var 1) ve_int (fun _ _ => rfl))) va_nil)))))
theorem ok_check_base (T : Txt K mg) : FnOk P w K mg base (L2.CX P w) 4 (adOf K).check_base (fdOf K ("check_base", none)) ["b"] (spL K 1 (fs_check_base (adOf K))) :=
  fn_rule2 (k := 3) T.F_check_base sc_check_base rfl (p_check_base (adOf K) T.ok) fun cdv Aa outer s H E hr tk hp nd =>
  (vss_one (vs_expr (ve_fn (ok_check_count T) (hr.mono (by decide)) tk rfl T.g_check_count T.F_check_count.kp T.b_check_count (va_cons (ve_var 0) (va_cons ve_int (va_cons (ve_gint rfl T.c_MOST_BASE) va_nil))))))
theorem ok_z_law_expand (T : Txt K mg) : FnOk P w K mg base (L2.CX P w) 4 (adOf K).z_law_expand (fdOf K ("_law_expand", none)) ["b", "x"] (spL K 2 (fs_z_law_expand (adOf K))) :=
  fn_rule2 (k := 3) T.F_z_law_expand sc_z_law_expand rfl (p_z_law_expand (adOf K) T.ok) fun cdv Aa outer s H E hr tk hp nd =>
  (vss_cons (vs_set (i := 2) (ve_fn (ok_z_law_low T) (hr.mono (by decide)) tk rfl T.g_z_law_low T.F_z_law_low.kp T.b_z_law_low (va_cons (ve_neg (ve_var 0)) (va_cons (ve_add (ve_var 0) ve_int) va_nil))) nd rfl (by first | exact .inl rfl | exact .inr rfl))
  (vss_cons (vs_set (i := 3) (ve_fn (ok_z_law_floor T) (hr.mono (by decide)) tk rfl T.g_z_law_floor T.F_z_law_floor.kp T.b_z_law_floor (va_cons (ve_fn (ok_z_law_add T) (hr.mono (by decide)) tk rfl T.g_z_law_add T.F_z_law_add.kp T.b_z_law_add (va_cons (ve_var 1) (va_cons (ve_fn (ok_z_law_neg T) (hr.mono (by decide)) tk rfl T.g_z_law_neg T.F_z_law_neg.kp T.b_z_law_neg (va_cons (ve_var 2) va_nil)) va_nil))) va_nil)) nd rfl (by first | exact .inl rfl | exact .inr rfl))
  (vss_cons (vs_par3 false true true rfl nd rfl rfl rfl (by decide) (by decide) (by decide) rfl rfl rfl (ve_fn (ok_z_law_add T) (hr.mono (by decide)) tk rfl T.g_z_law_add T.F_z_law_add.kp T.b_z_law_add (va_cons (ve_var 1) (va_cons (ve_tup (va_cons (ve_neg (ve_var 3)) (va_cons ve_int va_nil))) va_nil))) (ve_lst va_nil) (ve_lst va_nil) rfl)
  (vss_cons (vs_while hp (vt_bool (vw_and (vt_cmp (op_neD hr.units) ov_ne (ve_ix (ve_var 4) ve_int (fun _ _ => rfl)) ve_int (nobehind _ (by decide) (by decide))) (vw_and1 (vt_cmp (op_notInB (room65 hr)) ov_notIn (ve_var 4) (ve_var 6) rfl)))) (vss_cons (vs_app (i := 6) rfl (by first | exact Or.inl rfl | exact Or.inr (Or.inl rfl)) (ve_var 4))
  (vss_cons (vs_set (i := 7) (ve_fn (ok_z_law_mul T) (hr.mono (by decide)) tk rfl T.g_z_law_mul T.F_z_law_mul.kp T.b_z_law_mul (va_cons (ve_var 4) (va_cons (ve_tup (va_cons (ve_neg (ve_var 0)) (va_cons ve_int va_nil))) va_nil))) nd rfl (by first | exact .inl rfl | exact .inr rfl))
  (vss_cons (vs_set (i := 8) (ve_callB (call_min2 rfl) cv_min2 rfl T.m_min (by decide +kernel) (va_cons (ve_sub (ve_var 0) ve_int) (va_cons (ve_fn (ok_z_law_floor T) (hr.mono (by decide)) tk rfl T.g_z_law_floor T.F_z_law_floor.kp T.b_z_law_floor (va_cons (ve_fn (ok_z_law_add T) (hr.mono (by decide)) tk rfl T.g_z_law_add T.F_z_law_add.kp T.b_z_law_add (va_cons (ve_var 7) (va_cons (ve_fn (ok_z_law_neg T) (hr.mono (by decide)) tk rfl T.g_z_law_neg T.F_z_law_neg.kp T.b_z_law_neg (va_cons (ve_var 2) va_nil)) va_nil))) va_nil)) va_nil))) nd rfl (by first | exact .inl rfl | exact .inr rfl))
  (vss_cons (vs_app (i := 5) rfl (by first | exact Or.inl rfl | exact Or.inr (Or.inl rfl)) (ve_var 8))
  (vss_one (vs_set (i := 4) (ve_fn (ok_z_law_add T) (hr.mono (by decide)) tk rfl T.g_z_law_add T.F_z_law_add.kp T.b_z_law_add (va_cons (ve_var 7) (va_cons (ve_tup (va_cons (ve_neg (ve_var 8)) (va_cons ve_int va_nil))) va_nil))) nd rfl (by first | exact .inl rfl | exact .inr rfl))))))))
  (vss_cons (vs_set (i := 9) (ve_ifE (vt_cmp (op_inB (room65 hr)) ov_in (ve_var 4) (ve_var 6) rfl) (ve_index (room65 hr) (ve_var 6) (ve_var 4)) (ve_callB cr_lenV cv_len rfl T.m_len (by decide +kernel) (va_cons (ve_var 5) va_nil))) nd rfl (by first | exact .inl rfl | exact .inr rfl))
  (vss_one (vs_ret (ve_tup (va_cons (ve_var 3) (va_cons (ve_callTy call_tuple_of cv_tuple rfl T.m_tuple (by decide +kernel) (va_cons (ve_slice (ve_var 5) vp_none (vp_some (ve_var 9))) va_nil)) (va_cons (ve_callTy call_tuple_of cv_tuple rfl T.m_tuple (by decide +kernel) (va_cons (ve_slice (ve_var 5) (vp_some (ve_var 9)) vp_none) va_nil)) va_nil)))))))))))
theorem ok_z_law_value (T : Txt K mg) : FnOk P w K mg base (L2.CX P w) 4 (adOf K).z_law_value (fdOf K ("_law_value", none)) ["b", "own", "ahead", "turn"] (spL K 4 (fs_z_law_value (adOf K))) :=
  fn_rule2 (k := 3) T.F_z_law_value sc_z_law_value rfl (p_z_law_value (adOf K) T.ok) fun cdv Aa outer s H E hr tk hp nd =>
  (vss_cons (vs_par false false rfl nd rfl rfl (by decide) rfl rfl (ve_tup (va_cons (ve_fn (ok_z_law_number T) (hr.mono (by decide)) tk rfl T.g_z_law_number T.F_z_law_number.kp T.b_z_law_number (va_cons (ve_var 0) (va_cons (ve_var 1) va_nil))) (va_cons ve_int va_nil))) (ve_tup (va_cons ve_int (va_cons ve_int va_nil))) rfl)
  (vss_cons (vs_for hp rfl (vi_seq false (ve_var 2)) (vg_name 6 nd) (vss_cons (vs_set (i := 5) (ve_fn (ok_z_law_over T) (hr.mono (by decide)) tk rfl T.g_z_law_over T.F_z_law_over.kp T.b_z_law_over (va_cons (ve_var 5) (va_cons (ve_tup (va_cons (ve_neg (ve_var 0)) (va_cons ve_int va_nil))) va_nil))) nd rfl (by first | exact .inl rfl | exact .inr rfl))
  (vss_one (vs_set (i := 4) (ve_fn (ok_z_law_add T) (hr.mono (by decide)) tk rfl T.g_z_law_add T.F_z_law_add.kp T.b_z_law_add (va_cons (ve_var 4) (va_cons (ve_fn (ok_z_law_mul T) (hr.mono (by decide)) tk rfl T.g_z_law_mul T.F_z_law_mul.kp T.b_z_law_mul (va_cons (ve_var 5) (va_cons (ve_tup (va_cons (ve_var 6) (va_cons ve_int va_nil))) va_nil))) va_nil))) nd rfl (by first | exact .inl rfl | exact .inr rfl)))))
  (vss_cons (vs_set (i := 7) ve_int nd rfl (by first | exact .inl rfl | exact .inr rfl))
  (vss_cons (vs_for hp rfl (vi_seq false (ve_var 3)) (vg_name 6 nd) (vss_one (vs_set (i := 7) (ve_mulA (ve_neg (ve_var 0)) (ve_var 7)) nd rfl (by first | exact .inl rfl | exact .inr rfl))))
  (vss_one (vs_ret (ve_ifE (vt_cmp (op_eqD hr.units) ov_eq (ve_callB cr_lenV cv_len rfl T.m_len (by decide +kernel) (va_cons (ve_var 3) va_nil)) ve_int (nobehind _ (by decide) (by decide))) (ve_var 4) (ve_fn (ok_z_law_add T) (hr.mono (by decide)) tk rfl T.g_z_law_add T.F_z_law_add.kp T.b_z_law_add (va_cons (ve_var 4) (va_cons (ve_fn (ok_z_law_mul T) (hr.mono (by decide)) tk rfl T.g_z_law_mul T.F_z_law_mul.kp T.b_z_law_mul (va_cons (ve_var 5) (va_cons (ve_fn (ok_z_law_low T) (hr.mono (by decide)) tk rfl T.g_z_law_low T.F_z_law_low.kp T.b_z_law_low (va_cons (ve_fn (ok_z_law_number T) (hr.mono (by decide)) tk rfl T.g_z_law_number T.F_z_law_number.kp T.b_z_law_number (va_cons (ve_var 0) (va_cons (ve_var 3) va_nil))) (va_cons (ve_sub (ve_var 7) ve_int) va_nil))) va_nil))) va_nil))))))))))
theorem ok_Ratio_add (T : Txt K mg) : FnOk P w K mg base (L2.CX P w) 5 (He.ma K (He.ga K "Ratio") "__add__") (fdOf K ("Ratio", some "__add__")) ["self", "other"] (spL K 2 (fs_Ratio_add (adOf K))) :=
  fn_rule2 (k := 4) T.F_Ratio_add sc_Ratio_add rfl (p_Ratio_add (adOf K) T.ok) fun cdv Aa outer s H E hr tk hp nd =>
  (vss_cons (vs_expr (ve_fn (ok_check_ratio T) (hr.mono (by decide)) tk rfl T.g_check_ratio T.F_check_ratio.kp T.b_check_ratio (va_cons (ve_var 1) va_nil)))
  (vss_one (vs_ret (ve_make2 T.k_Ratio (ok_Ratio_init T) (hr.mono (by decide)) rfl T.g_Ratio T.b2_Ratio (va_cons (ve_add (ve_mulA (ve_fld T.c_Ratio T.n_Ratio_n (ve_var 0)) (ve_fld T.c_Ratio T.n_Ratio_d (ve_var 1))) (ve_mulA (ve_fld T.c_Ratio T.n_Ratio_n (ve_var 1)) (ve_fld T.c_Ratio T.n_Ratio_d (ve_var 0)))) (va_cons (ve_mulA (ve_fld T.c_Ratio T.n_Ratio_d (ve_var 0)) (ve_fld T.c_Ratio T.n_Ratio_d (ve_var 1))) va_nil))))))
theorem ok_Ratio_sub (T : Txt K mg) : FnOk P w K mg base (L2.CX P w) 5 (He.ma K (He.ga K "Ratio") "__sub__") (fdOf K ("Ratio", some "__sub__")) ["self", "other"] (spL K 2 (fs_Ratio_sub (adOf K))) :=
  fn_rule2 (k := 4) T.F_Ratio_sub sc_Ratio_sub rfl (p_Ratio_sub (adOf K) T.ok) fun cdv Aa outer s H E hr tk hp nd =>
  (vss_cons (vs_expr (ve_fn (ok_check_ratio T) (hr.mono (by decide)) tk rfl T.g_check_ratio T.F_check_ratio.kp T.b_check_ratio (va_cons (ve_var 1) va_nil)))
  (vss_one (vs_ret (ve_make2 T.k_Ratio (ok_Ratio_init T) (hr.mono (by decide)) rfl T.g_Ratio T.b2_Ratio (va_cons (ve_sub (ve_mulA (ve_fld T.c_Ratio T.n_Ratio_n (ve_var 0)) (ve_fld T.c_Ratio T.n_Ratio_d (ve_var 1))) (ve_mulA (ve_fld T.c_Ratio T.n_Ratio_n (ve_var 1)) (ve_fld T.c_Ratio T.n_Ratio_d (ve_var 0)))) (va_cons (ve_mulA (ve_fld T.c_Ratio T.n_Ratio_d (ve_var 0)) (ve_fld T.c_Ratio T.n_Ratio_d (ve_var 1))) va_nil))))))
theorem ok_Ratio_mul (T : Txt K mg) : FnOk P w K mg base (L2.CX P w) 5 (He.ma K (He.ga K "Ratio") "__mul__") (fdOf K ("Ratio", some "__mul__")) ["self", "other"] (spL K 2 (fs_Ratio_mul (adOf K))) :=
  fn_rule2 (k := 4) T.F_Ratio_mul sc_Ratio_mul rfl (p_Ratio_mul (adOf K) T.ok) fun cdv Aa outer s H E hr tk hp nd =>
  (vss_cons (vs_expr (ve_fn (ok_check_ratio T) (hr.mono (by decide)) tk rfl T.g_check_ratio T.F_check_ratio.kp T.b_check_ratio (va_cons (ve_var 1) va_nil)))
  (vss_one (vs_ret (ve_make2 T.k_Ratio (ok_Ratio_init T) (hr.mono (by decide)) rfl T.g_Ratio T.b2_Ratio (va_cons (ve_mulA (ve_fld T.c_Ratio T.n_Ratio_n (ve_var 0)) (ve_fld T.c_Ratio T.n_Ratio_n (ve_var 1))) (va_cons (ve_mulA (ve_fld T.c_Ratio T.n_Ratio_d (ve_var 0)) (ve_fld T.c_Ratio T.n_Ratio_d (ve_var 1))) va_nil))))))
theorem ok_Ratio_over (T : Txt K mg) : FnOk P w K mg base (L2.CX P w) 5 (He.ma K (He.ga K "Ratio") "over") (fdOf K ("Ratio", some "over")) ["self", "other"] (spL K 2 (fs_Ratio_over (adOf K))) :=
  fn_rule2 (k := 4) T.F_Ratio_over sc_Ratio_over rfl (p_Ratio_over (adOf K) T.ok) fun cdv Aa outer s H E hr tk hp nd =>
  (vss_cons (vs_expr (ve_fn (ok_check_ratio T) (hr.mono (by decide)) tk rfl T.g_check_ratio T.F_check_ratio.kp T.b_check_ratio (va_cons (ve_var 1) va_nil)))
  (vss_one (vs_ret (ve_make2 T.k_Ratio (ok_Ratio_init T) (hr.mono (by decide)) rfl T.g_Ratio T.b2_Ratio (va_cons (ve_mulA (ve_fld T.c_Ratio T.n_Ratio_n (ve_var 0)) (ve_fld T.c_Ratio T.n_Ratio_d (ve_var 1))) (va_cons (ve_mulA (ve_fld T.c_Ratio T.n_Ratio_d (ve_var 0)) (ve_fld T.c_Ratio T.n_Ratio_n (ve_var 1))) va_nil))))))
theorem ok_Ratio_times (T : Txt K mg) : FnOk P w K mg base (L2.CX P w) 5 (He.ma K (He.ga K "Ratio") "times") (fdOf K ("Ratio", some "times")) ["self", "k"] (spL K 2 (fs_Ratio_times (adOf K))) :=
  fn_rule2 (k := 4) T.F_Ratio_times sc_Ratio_times rfl (p_Ratio_times (adOf K) T.ok) fun cdv Aa outer s H E hr tk hp nd =>
  (vss_one (vs_ret (ve_make2 T.k_Ratio (ok_Ratio_init T) (hr.mono (by decide)) rfl T.g_Ratio T.b2_Ratio (va_cons (ve_mulA (ve_fld T.c_Ratio T.n_Ratio_n (ve_var 0)) (ve_var 1)) (va_cons (ve_fld T.c_Ratio T.n_Ratio_d (ve_var 0)) va_nil)))))
theorem ok_Ratio_size (T : Txt K mg) : FnOk P w K mg base (L2.CX P w) 5 (He.ma K (He.ga K "Ratio") "size") (fdOf K ("Ratio", some "size")) ["self"] (spL K 1 (fs_Ratio_size (adOf K))) :=
  fn_rule2 (k := 4) T.F_Ratio_size sc_Ratio_size rfl (p_Ratio_size (adOf K) T.ok) fun cdv Aa outer s H E hr tk hp nd =>
  (vss_one (vs_ret (ve_make2 T.k_Ratio (ok_Ratio_init T) (hr.mono (by decide)) rfl T.g_Ratio T.b2_Ratio (va_cons (ve_callB call_abs cv_abs rfl T.m_abs (by decide +kernel) (va_cons (ve_fld T.c_Ratio T.n_Ratio_n (ve_var 0)) va_nil)) (va_cons (ve_fld T.c_Ratio T.n_Ratio_d (ve_var 0)) va_nil)))))
theorem ok_minus_word (T : Txt K mg) : FnOk P w K mg base (L2.CX P w) 5 (adOf K).minus_word (fdOf K ("minus_word", none)) ["b", "n"] (spL K 2 (fs_minus_word (adOf K))) :=
  fn_rule2 (k := 4) T.F_minus_word sc_minus_word rfl (p_minus_word (adOf K) T.ok) fun cdv Aa outer s H E hr tk hp nd =>
  (vss_cons (vs_expr (ve_fn (ok_check_base T) (hr.mono (by decide)) tk rfl T.g_check_base T.F_check_base.kp T.b_check_base (va_cons (ve_var 0) va_nil)))
  (vss_cons (vs_expr (ve_fn (ok_check_whole T) (hr.mono (by decide)) tk rfl T.g_check_whole T.F_check_whole.kp T.b_check_whole (va_cons (ve_var 1) va_nil)))
  (vss_cons (vs_own (i := 2) (ve_lst va_nil) nd rfl (by first | exact .inl rfl | exact .inr rfl))
  (vss_cons (vs_while hp (vt_cmp (op_neD hr.units) ov_ne (ve_var 1) ve_int (nobehind _ (by decide) (by decide))) (vss_cons (vs_set (i := 3) (ve_mod (ve_var 1) (ve_var 0)) nd rfl (by first | exact .inl rfl | exact .inr rfl))
  (vss_cons (vs_app (i := 2) rfl (by first | exact Or.inl rfl | exact Or.inr (Or.inl rfl)) (ve_var 3))
  (vss_one (vs_set (i := 1) (ve_neg (ve_div (ve_sub (ve_var 1) (ve_var 3)) (ve_var 0))) nd rfl (by first | exact .inl rfl | exact .inr rfl))))))
  (vss_one (vs_ret (ve_callTy call_tuple_of cv_tuple rfl T.m_tuple (by decide +kernel) (va_cons (ve_rev (ve_var 2)) va_nil))))))))
theorem ok_minus_number (T : Txt K mg) : FnOk P w K mg base (L2.CX P w) 5 (adOf K).minus_number (fdOf K ("minus_number", none)) ["b", "own"] (spL K 2 (fs_minus_number (adOf K))) :=
  fn_rule2 (k := 4) T.F_minus_number sc_minus_number rfl (p_minus_number (adOf K) T.ok) fun cdv Aa outer s H E hr tk hp nd =>
  (vss_cons (vs_expr (ve_fn (ok_check_base T) (hr.mono (by decide)) tk rfl T.g_check_base T.F_check_base.kp T.b_check_base (va_cons (ve_var 0) va_nil)))
  (vss_cons (vs_if (vt_bool (vw_or (vt_not (vt_val (ve_fn (ok_is_whole_row T) (hr.mono (by decide)) tk rfl T.g_is_whole_row T.F_is_whole_row.kp T.b_is_whole_row (va_cons (ve_var 1) va_nil)))) (vw_or1 (vt_cmp op_gt ov_cmp (ve_callB cr_lenV cv_len rfl T.m_len (by decide +kernel) (va_cons (ve_var 1) va_nil)) ve_int (nobehind _ (by decide) (by decide)))))) (vss_one (vs_raise rfl tk PySem.F.excBase_ValueError T.xM T.gM T.kM (raises_own T.bM T.tM) rfl)) vss_nil)
  (vss_cons (vs_set (i := 2) ve_int nd rfl (by first | exact .inl rfl | exact .inr rfl))
  (vss_cons (vs_for hp rfl (vi_seq false (ve_var 1)) (vg_name 3 nd) (vss_one (vs_set (i := 2) (ve_add (ve_mulA (ve_neg (ve_var 0)) (ve_var 2)) (ve_var 3)) nd rfl (by first | exact .inl rfl | exact .inr rfl))))
  (vss_one (vs_ret (ve_var 2)))))))
theorem ok_minus_expand (T : Txt K mg) : FnOk P w K mg base (L2.CX P w) 6 (adOf K).minus_expand (fdOf K ("minus_expand", none)) ["b", "x"] (spL K 2 (fs_minus_expand (adOf K))) :=
  fn_rule2 (k := 5) T.F_minus_expand sc_minus_expand rfl (p_minus_expand (adOf K) T.ok) fun cdv Aa outer s H E hr tk hp nd =>
  (vss_cons (vs_expr (ve_fn (ok_check_base T) (hr.mono (by decide)) tk rfl T.g_check_base T.F_check_base.kp T.b_check_base (va_cons (ve_var 0) va_nil)))
  (vss_cons (vs_expr (ve_fn (ok_check_ratio T) (hr.mono (by decide)) tk rfl T.g_check_ratio T.F_check_ratio.kp T.b_check_ratio (va_cons (ve_var 1) va_nil)))
  (vss_cons (vs_if (vt_cmp op_gt ov_cmp (ve_meth0 T.c_Ratio T.m_Ratio_floor (ok_Ratio_floor T) (hr.mono (by decide)) tk T.b_Ratio_floor (ve_meth0 T.c_Ratio T.m_Ratio_size (ok_Ratio_size T) (hr.mono (by decide)) tk T.b_Ratio_size (ve_var 1))) (ve_gint rfl T.c_MOST_NUMBER) (nobehind _ (by decide) (by decide))) (vss_one (vs_raise rfl tk PySem.F.excBase_ValueError T.xM T.gM T.kM (raises_own T.bM T.tM) rfl)) vss_nil)
  (vss_cons (vs_set (i := 2) (ve_make2 T.k_Ratio (ok_Ratio_init T) (hr.mono (by decide)) rfl T.g_Ratio T.b2_Ratio (va_cons (ve_neg (ve_var 0)) (va_cons (ve_add (ve_var 0) ve_int) va_nil))) nd rfl (by first | exact .inl rfl | exact .inr rfl))
  (vss_cons (vs_set (i := 3) (ve_meth0 T.c_Ratio T.m_Ratio_floor (ok_Ratio_floor T) (hr.mono (by decide)) tk T.b_Ratio_floor (ve_op (op_ownB T.f_Ratio T.m_Ratio_sub.at_ T.m_Ratio_sub.fn (ok_Ratio_sub T) (hr.mono (by decide)) T.b_Ratio_sub) ov_ownB (ve_var 1) (ve_var 2))) nd rfl (by first | exact .inl rfl | exact .inr rfl))
  (vss_cons (vs_par3 false true true rfl nd rfl rfl rfl (by decide) (by decide) (by decide) rfl rfl rfl (ve_op (op_ownB T.f_Ratio T.m_Ratio_sub.at_ T.m_Ratio_sub.fn (ok_Ratio_sub T) (hr.mono (by decide)) T.b_Ratio_sub) ov_ownB (ve_var 1) (ve_make1 T.k_Ratio (ok_Ratio_init T) (hr.mono (by decide)) rfl T.g_Ratio T.b1_Ratio (va_cons (ve_var 3) va_nil))) (ve_lst va_nil) ve_dnewT rfl)
  (vss_cons (vs_while hp (vt_not (vt_val (ve_meth0 T.c_Ratio T.m_Ratio_is_zero (ok_Ratio_is_zero T) (hr.mono (by decide)) tk T.b_Ratio_is_zero (ve_var 4)))) (vss_cons (vs_set (i := 7) (ve_tup (va_cons (ve_fld T.c_Ratio T.n_Ratio_n (ve_var 4)) (va_cons (ve_fld T.c_Ratio T.n_Ratio_d (ve_var 4)) va_nil))) nd rfl (by first | exact .inl rfl | exact .inr rfl))
  (vss_cons (vs_if (vt_cmp (op_dIn (room1 hr)) ov_dIn (ve_var 7) (ve_var 6) rfl) (vss_one (vs_ret (ve_tup (va_cons (ve_fn (ok_minus_word T) (hr.mono (by decide)) tk rfl T.g_minus_word T.F_minus_word.kp T.b_minus_word (va_cons (ve_var 0) (va_cons (ve_var 3) va_nil))) (va_cons (ve_callTy call_tuple_of cv_tuple rfl T.m_tuple (by decide +kernel) (va_cons (ve_slice (ve_var 5) vp_none (vp_some (ve_dget (room1 hr) (ve_var 6) (ve_var 7)))) va_nil)) (va_cons (ve_callTy call_tuple_of cv_tuple rfl T.m_tuple (by decide +kernel) (va_cons (ve_slice (ve_var 5) (vp_some (ve_dget (room1 hr) (ve_var 6) (ve_var 7))) vp_none) va_nil)) va_nil)))))) vss_nil)
  (vss_cons (vs_if (vt_cmp op_ge ov_cmp (ve_callB cr_lenV cv_len rfl T.m_len (by decide +kernel) (va_cons (ve_var 5) va_nil)) (ve_gint rfl T.c_MOST_DIGITS) (nobehind _ (by decide) (by decide))) (vss_one (vs_raiseF rfl tk T.xR T.iR T.tRI T.nR (ok_initR T) (hr.mono (by decide)) T.bRI (passes_call tk fun _ _ _ _ z => z.elim) rfl T.gR ve_str)) vss_nil)
  (vss_cons (vs_dput (i := 6) (room1 hr) rfl (by first | exact Or.inl rfl | exact Or.inr (Or.inl rfl)) (ve_var 7) (ve_callB cr_lenV cv_len rfl T.m_len (by decide +kernel) (va_cons (ve_var 5) va_nil)))
  (vss_cons (vs_set (i := 8) (ve_meth T.c_Ratio T.m_Ratio_times (ok_Ratio_times T) (hr.mono (by decide)) tk T.b_Ratio_times (ve_var 4) (va_cons (ve_neg (ve_var 0)) va_nil)) nd rfl (by first | exact .inl rfl | exact .inr rfl))
  (vss_cons (vs_set (i := 9) (ve_callB (call_min2 rfl) cv_min2 rfl T.m_min (by decide +kernel) (va_cons (ve_sub (ve_var 0) ve_int) (va_cons (ve_meth0 T.c_Ratio T.m_Ratio_floor (ok_Ratio_floor T) (hr.mono (by decide)) tk T.b_Ratio_floor (ve_op (op_ownB T.f_Ratio T.m_Ratio_sub.at_ T.m_Ratio_sub.fn (ok_Ratio_sub T) (hr.mono (by decide)) T.b_Ratio_sub) ov_ownB (ve_var 8) (ve_var 2))) va_nil))) nd rfl (by first | exact .inl rfl | exact .inr rfl))
  (vss_cons (vs_app (i := 5) rfl (by first | exact Or.inl rfl | exact Or.inr (Or.inl rfl)) (ve_var 9))
  (vss_one (vs_set (i := 4) (ve_op (op_ownB T.f_Ratio T.m_Ratio_sub.at_ T.m_Ratio_sub.fn (ok_Ratio_sub T) (hr.mono (by decide)) T.b_Ratio_sub) ov_ownB (ve_var 8) (ve_make1 T.k_Ratio (ok_Ratio_init T) (hr.mono (by decide)) rfl T.g_Ratio T.b1_Ratio (va_cons (ve_var 9) va_nil))) nd rfl (by first | exact .inl rfl | exact .inr rfl)))))))))))
  (vss_one (vs_ret (ve_tup (va_cons (ve_fn (ok_minus_word T) (hr.mono (by decide)) tk rfl T.g_minus_word T.F_minus_word.kp T.b_minus_word (va_cons (ve_var 0) (va_cons (ve_var 3) va_nil))) (va_cons (ve_callTy call_tuple_of cv_tuple rfl T.m_tuple (by decide +kernel) (va_cons (ve_var 5) va_nil)) (va_cons (ve_tup va_nil) va_nil)))))))))))))
theorem ok_minus_value (T : Txt K mg) : FnOk P w K mg base (L2.CX P w) 6 (adOf K).minus_value (fdOf K ("minus_value", none)) ["b", "own", "ahead", "turn"] (spL K 4 (fs_minus_value (adOf K))) :=
  fn_rule2 (k := 5) T.F_minus_value sc_minus_value rfl (p_minus_value (adOf K) T.ok) fun cdv Aa outer s H E hr tk hp nd =>
  (vss_cons (vs_expr (ve_fn (ok_check_base T) (hr.mono (by decide)) tk rfl T.g_check_base T.F_check_base.kp T.b_check_base (va_cons (ve_var 0) va_nil)))
  (vss_cons (vs_for hp rfl (vi_seq false (ve_tup (va_cons (ve_var 1) (va_cons (ve_var 2) (va_cons (ve_var 3) va_nil))))) (vg_name 4 nd) (vss_one (vs_if (vt_bool (vw_or (vt_not (vt_val (ve_fn (ok_is_whole_row T) (hr.mono (by decide)) tk rfl T.g_is_whole_row T.F_is_whole_row.kp T.b_is_whole_row (va_cons (ve_var 4) va_nil)))) (vw_or1 (vt_cmp op_gt ov_cmp (ve_callB cr_lenV cv_len rfl T.m_len (by decide +kernel) (va_cons (ve_var 4) va_nil)) ve_int (nobehind _ (by decide) (by decide)))))) (vss_one (vs_raise rfl tk PySem.F.excBase_ValueError T.xM T.gM T.kM (raises_own T.bM T.tM) rfl)) vss_nil)))
  (vss_cons (vs_par false false rfl nd rfl rfl (by decide) rfl rfl (ve_make1 T.k_Ratio (ok_Ratio_init T) (hr.mono (by decide)) rfl T.g_Ratio T.b1_Ratio (va_cons (ve_fn (ok_minus_number T) (hr.mono (by decide)) tk rfl T.g_minus_number T.F_minus_number.kp T.b_minus_number (va_cons (ve_var 0) (va_cons (ve_var 1) va_nil))) va_nil)) (ve_make1 T.k_Ratio (ok_Ratio_init T) (hr.mono (by decide)) rfl T.g_Ratio T.b1_Ratio (va_cons ve_int va_nil)) rfl)
  (vss_cons (vs_for hp rfl (vi_seq false (ve_var 2)) (vg_name 7 nd) (vss_cons (vs_set (i := 6) (ve_meth T.c_Ratio T.m_Ratio_over (ok_Ratio_over T) (hr.mono (by decide)) tk T.b_Ratio_over (ve_var 6) (va_cons (ve_make1 T.k_Ratio (ok_Ratio_init T) (hr.mono (by decide)) rfl T.g_Ratio T.b1_Ratio (va_cons (ve_neg (ve_var 0)) va_nil)) va_nil)) nd rfl (by first | exact .inl rfl | exact .inr rfl))
  (vss_one (vs_set (i := 5) (ve_op (op_ownB T.f_Ratio T.m_Ratio_add.at_ T.m_Ratio_add.fn (ok_Ratio_add T) (hr.mono (by decide)) T.b_Ratio_add) ov_ownB (ve_var 5) (ve_meth T.c_Ratio T.m_Ratio_times (ok_Ratio_times T) (hr.mono (by decide)) tk T.b_Ratio_times (ve_var 6) (va_cons (ve_var 7) va_nil))) nd rfl (by first | exact .inl rfl | exact .inr rfl)))))
  (vss_cons (vs_if (vt_cmp op_gt ov_cmp (ve_callB cr_lenV cv_len rfl T.m_len (by decide +kernel) (va_cons (ve_var 3) va_nil)) ve_int (nobehind _ (by decide) (by decide))) (vss_cons (vs_set (i := 8) ve_int nd rfl (by first | exact .inl rfl | exact .inr rfl))
  (vss_cons (vs_for hp rfl (vi_seq false (ve_var 3)) (vg_name 9 nd) (vss_one (vs_set (i := 8) (ve_mulA (ve_neg (ve_var 0)) (ve_var 8)) nd rfl (by first | exact .inl rfl | exact .inr rfl))))
  (vss_one (vs_set (i := 5) (ve_op (op_ownB T.f_Ratio T.m_Ratio_add.at_ T.m_Ratio_add.fn (ok_Ratio_add T) (hr.mono (by decide)) T.b_Ratio_add) ov_ownB (ve_var 5) (ve_op (op_ownB T.f_Ratio T.m_Ratio_mul.at_ T.m_Ratio_mul.fn (ok_Ratio_mul T) (hr.mono (by decide)) T.b_Ratio_mul) ov_ownB (ve_var 6) (ve_make2 T.k_Ratio (ok_Ratio_init T) (hr.mono (by decide)) rfl T.g_Ratio T.b2_Ratio (va_cons (ve_fn (ok_minus_number T) (hr.mono (by decide)) tk rfl T.g_minus_number T.F_minus_number.kp T.b_minus_number (va_cons (ve_var 0) (va_cons (ve_var 3) va_nil))) (va_cons (ve_sub (ve_var 8) ve_int) va_nil))))) nd rfl (by first | exact .inl rfl | exact .inr rfl))))) vss_nil)
  (vss_one (vs_ret (ve_var 5))))))))
theorem step_z_law_same (T : Txt K mg) (n : Nat) (rec : FS) (fs : FS) (hp : ∀ qs Q R, qs.length = 2 → fs qs Q R → w_z_law_same (adOf K) rec (fnEnds Q R) (startP 3 qs)) (ih : FnOk P w K mg base (L2.CX P w) (n + 3) (adOf K).z_law_same (fdOf K ("_law_same", none)) ["one", "two"] (spL K 2 rec)) : FnOk P w K mg base (L2.CX P w) (n + 3 + 1) (adOf K).z_law_same (fdOf K ("_law_same", none)) ["one", "two"] (spL K 2 fs) :=
  fn_rule2 T.F_z_law_same sc_z_law_same rfl hp fun cdv Aa outer s H E hr tk hp nd =>
  (vss_cons (vs_if (vt_val (ve_isT (owns (adOf K)) T.m_isinstance T.m_bool (ve_var 1) (by decide +kernel) T.own_bool (by decide +kernel))) (vss_one (vs_ret (ve_and (ve_isT (owns (adOf K)) T.m_isinstance T.m_bool (ve_var 0) (by decide +kernel) T.own_bool (by decide +kernel)) (ve_one (ve_cmp (op_eqD hr.units) ov_eq (ve_var 0) (ve_var 1) (nobehind _ (by decide) (by decide))))))) vss_nil)
  (vss_cons (vs_if (vt_val (ve_isT (owns (adOf K)) T.m_isinstance T.m_tuple (ve_var 1) (by decide +kernel) T.own_tuple (by decide +kernel))) (vss_one (vs_ret (ve_and (ve_isT (owns (adOf K)) T.m_isinstance T.m_tuple (ve_var 0) (by decide +kernel) T.own_tuple (by decide +kernel)) (ve_and (ve_cmp (op_eqD hr.units) ov_eq (ve_callB cr_lenV cv_len rfl T.m_len (by decide +kernel) (va_cons (ve_var 0) va_nil)) (ve_callB cr_lenV cv_len rfl T.m_len (by decide +kernel) (va_cons (ve_var 1) va_nil)) (nobehind _ (by decide) (by decide))) (ve_one (ve_callB (cr_all rfl) cv_all rfl T.m_all (by decide +kernel) (va_cons (ve_comp (own := [("k", 2)]) rfl nd (vi_rg1 true rfl T.m_range (ve_callB cr_lenV cv_len rfl T.m_len (by decide +kernel) (va_cons (ve_var 1) va_nil))) (blkOk_by rfl) (by decide) (fun _ _ _ _ _ => (vg_name 2 nd)) (fun _ _ _ _ _ => vifs_nil) (fun _ _ _ _ _ => (ve_fn ih (hr.mono (by first | decide | omega)) takes0 rfl T.g_z_law_same T.F_z_law_same.kp T.b_z_law_same (va_cons (ve_ix (ve_var 0) (ve_var 2) (fun _ _ => rfl)) (va_cons (ve_ix (ve_var 1) (ve_var 2) (fun _ _ => rfl)) va_nil))))) va_nil))))))) vss_nil)
  (vss_cons (vs_if (vt_val (ve_isT (owns (adOf K)) T.m_isinstance T.m_list (ve_var 1) (by decide +kernel) T.own_list (by decide +kernel))) (vss_one (vs_ret (ve_and (ve_isT (owns (adOf K)) T.m_isinstance T.m_tuple (ve_var 0) (by decide +kernel) T.own_tuple (by decide +kernel)) (ve_one (ve_fn ih (hr.mono (by first | decide | omega)) tk rfl T.g_z_law_same T.F_z_law_same.kp T.b_z_law_same (va_cons (ve_var 0) (va_cons (ve_callTy call_tuple_of cv_tuple rfl T.m_tuple (by decide +kernel) (va_cons (ve_var 1) va_nil)) va_nil))))))) vss_nil)
  (vss_cons (vs_if (vt_val (ve_isT (owns (adOf K)) T.m_isinstance T.m_str (ve_var 1) (by decide +kernel) T.own_str (by decide +kernel))) (vss_one (vs_ret (ve_and (ve_isT (owns (adOf K)) T.m_isinstance T.m_str (ve_var 0) (by decide +kernel) T.own_str (by decide +kernel)) (ve_one (ve_cmp (op_eqD hr.units) ov_eq (ve_var 0) (ve_var 1) (nobehind _ (by decide) (by decide))))))) vss_nil)
  (vss_cons (vs_if (vt_isN (ve_var 1)) (vss_one (vs_ret (ve_isN (ve_var 0)))) vss_nil)
  (vss_one (vs_ret (ve_and (ve_fn (ok_z_law_is_whole T) (hr.mono (by first | decide | omega)) tk rfl T.g_z_law_is_whole T.F_z_law_is_whole.kp T.b_z_law_is_whole (va_cons (ve_var 0) va_nil)) (ve_one (ve_cmp (op_eqD hr.units) ov_eq (ve_var 0) (ve_var 1) (nobehind _ (by decide) (by decide))))))))))))
theorem okN_z_law_same (T : Txt K mg) : ∀ n, FnOk P w K mg base (L2.CX P w) (n + 3) (adOf K).z_law_same (fdOf K ("_law_same", none)) ["one", "two"] (spL K 2 (fsN_z_law_same (adOf K) n))
  | 0 => fnOk_none rfl
  | n + 1 => step_z_law_same T n _ _ (p_z_law_same (adOf K) T.ok n) (okN_z_law_same T n)
theorem ok_z_law_same (T : Txt K mg) : FnOk P w K mg base (L2.CX P w) 8 (adOf K).z_law_same (fdOf K ("_law_same", none)) ["one", "two"] (spL K 2 (fs_z_law_same (adOf K))) := okN_z_law_same T 5
theorem hA (T : Txt K mg) : ∀ f n fs, acts (adOf K) f = some (n, fs) → HeldF P w K mg base 6 f n fs := by
  intro f n fs h
  unfold acts at h
  split at h
  · rename_i e; cases h; rw [e]; exact ⟨_, _, (ok_minus_expand T).mono (by decide), T.F_minus_expand.kp, T.b_minus_expand⟩
  split at h
  · rename_i e; cases h; rw [e]; exact ⟨_, _, (ok_minus_value T).mono (by decide), T.F_minus_value.kp, T.b_minus_value⟩
  cases h
theorem ok_z_law_told (T : Txt K mg) : FnOk P w K mg base (L2.CX P w) 13 (adOf K).z_law_told (fdOf K ("_law_told", none)) ["act", "given"] (spL K 2 (fs_z_law_told (adOf K))) :=
  fn_rule2 (k := 12) T.F_z_law_told sc_z_law_told rfl (p_z_law_told (adOf K) T.ok) fun cdv Aa outer s H E hr tk hp nd =>
  (vss_one (vs_try rfl rfl tk (fun W' pn xe tk' hp' => (vss_cons (vs_if (vt_cmp op_gt ov_cmp (ve_callB cr_lenV cv_len rfl T.m_len (by decide +kernel) (va_cons (ve_var 1) va_nil)) ve_int (nobehind _ (by decide) (by decide))) (vss_one (vs_ret (ve_tup (va_cons ve_str (va_cons (ve_ifE (vt_cmp (op_eqD hr.units) ov_eq (ve_callB cr_lenV cv_len rfl T.m_len (by decide +kernel) (va_cons (ve_var 1) va_nil)) ve_int (nobehind _ (by decide) (by decide))) (ve_fnV (i := 0) (hA T) (hr.mono (by decide)) tk' rfl (by first | exact Or.inl rfl | exact Or.inr (Or.inl rfl)) (va_cons (ve_ix (ve_var 1) ve_int (fun _ _ => rfl)) (va_cons (ve_ix (ve_var 1) ve_int (fun _ _ => rfl)) (va_cons (ve_ix (ve_var 1) ve_int (fun _ _ => rfl)) (va_cons (ve_ix (ve_var 1) ve_int (fun _ _ => rfl)) va_nil))))) (ve_fnV (i := 0) (hA T) (hr.mono (by decide)) tk' rfl (by first | exact Or.inl rfl | exact Or.inr (Or.inl rfl)) (va_cons (ve_ix (ve_var 1) ve_int (fun _ _ => rfl)) (va_cons (ve_ix (ve_var 1) ve_int (fun _ _ => rfl)) (va_cons (ve_ix (ve_var 1) ve_int (fun _ _ => rfl)) (va_cons (ve_ix (ve_var 1) ve_int (fun _ _ => rfl)) (va_cons (ve_ix (ve_var 1) ve_int (fun _ _ => rfl)) va_nil))))))) va_nil))))) vss_nil)
  (vss_one (vs_ret (ve_tup (va_cons ve_str (va_cons (ve_ifE (vt_cmp (op_eqD hr.units) ov_eq (ve_callB cr_lenV cv_len rfl T.m_len (by decide +kernel) (va_cons (ve_var 1) va_nil)) ve_int (nobehind _ (by decide) (by decide))) (ve_fnV (i := 0) (hA T) (hr.mono (by decide)) tk' rfl (by first | exact Or.inl rfl | exact Or.inr (Or.inl rfl)) (va_cons (ve_ix (ve_var 1) ve_int (fun _ _ => rfl)) va_nil)) (ve_ifE (vt_cmp (op_eqD hr.units) ov_eq (ve_callB cr_lenV cv_len rfl T.m_len (by decide +kernel) (va_cons (ve_var 1) va_nil)) ve_int (nobehind _ (by decide) (by decide))) (ve_fnV (i := 0) (hA T) (hr.mono (by decide)) tk' rfl (by first | exact Or.inl rfl | exact Or.inr (Or.inl rfl)) (va_cons (ve_ix (ve_var 1) ve_int (fun _ _ => rfl)) (va_cons (ve_ix (ve_var 1) ve_int (fun _ _ => rfl)) va_nil))) (ve_fnV (i := 0) (hA T) (hr.mono (by decide)) tk' rfl (by first | exact Or.inl rfl | exact Or.inr (Or.inl rfl)) (va_cons (ve_ix (ve_var 1) ve_int (fun _ _ => rfl)) (va_cons (ve_ix (ve_var 1) ve_int (fun _ _ => rfl)) (va_cons (ve_ix (ve_var 1) ve_int (fun _ _ => rfl)) va_nil)))))) va_nil))))))) (vh_only (ansM (adOf K)) ⟨rfl, by decide, .inl T.gM⟩ T.eM (fun a pn => (vss_one (vs_ret (ve_tup (va_cons ve_str (va_cons ve_non va_nil)))))) (vh_ret (i := 2) (ansR (adOf K)) ⟨rfl, by decide, .inl T.gR⟩ T.eR nd rfl rfl T.yR T.nR (.inl rfl) vh_nil))))
theorem ok_z_law_all_malformed (T : Txt K mg) : FnOk P w K mg base (L2.CX P w) 14 (adOf K).z_law_all_malformed (fdOf K ("_law_all_malformed", none)) ["tried"] (spL K 1 (fs_z_law_all_malformed (adOf K))) :=
  fn_rule2 (k := 13) T.F_z_law_all_malformed sc_z_law_all_malformed rfl (p_z_law_all_malformed (adOf K) T.ok) fun cdv Aa outer s H E hr tk hp nd =>
  (vss_one (vs_ret (ve_callB (cr_all rfl) cv_all rfl T.m_all (by decide +kernel) (va_cons (ve_comp (own := [("act", 1), ("given", 2)]) rfl nd (vi_seq true (ve_var 0)) (blkOk_by rfl) (by decide) (fun _ _ _ _ _ => (vg_tup rfl (vgs_cons (vg_name 1 nd) (vgs_cons (vg_name 2 nd) vgs_nil)))) (fun _ _ _ _ _ => vifs_nil) (fun _ _ _ _ _ => (ve_cmp (op_eqD hr.units) ov_eq (ve_fn (ok_z_law_told T) (hr.mono (by decide)) takes0 rfl T.g_z_law_told T.F_z_law_told.kp T.b_z_law_told (va_cons (ve_var 1) (va_cons (ve_var 2) va_nil))) (ve_tup (va_cons ve_str (va_cons ve_non va_nil))) (nobehind _ (by decide) (by decide))))) va_nil))))
theorem ok_law (T : Txt K mg) : FnOk P w K mg base (L2.CX P w) 15 (adOf K).law (fdOf K ("law", none)) ["script"] (spL K 1 (fs_law (adOf K))) :=
  fn_rule2 (k := 14) T.F_law sc_law rfl (p_law (adOf K) T.ok) fun cdv Aa outer s H E hr tk hp nd =>
  (vss_cons (vs_stS (i := 1) (ve_fn (ok_z_law_state T) (hr.mono (by decide)) tk rfl T.g_z_law_state T.F_z_law_state.kp T.b_z_law_state (va_cons (ve_var 0) va_nil)) nd rfl (by first | exact .inl rfl | exact .inr rfl))
  (vss_cons (vs_set (i := 2) (ve_add ve_int (ve_fn (ok_z_law_take T) (hr.mono (by decide)) tk rfl T.g_z_law_take T.F_z_law_take.kp T.b_z_law_take (va_cons (ve_var 1) (va_cons ve_int va_nil)))) nd rfl (by first | exact .inl rfl | exact .inr rfl))
  (vss_cons (vs_par false false rfl nd rfl rfl (by decide) rfl rfl (ve_sub (ve_fn (ok_z_law_take T) (hr.mono (by decide)) tk rfl T.g_z_law_take T.F_z_law_take.kp T.b_z_law_take (va_cons (ve_var 1) (va_cons ve_int va_nil))) ve_int) (ve_add ve_int (ve_fn (ok_z_law_take T) (hr.mono (by decide)) tk rfl T.g_z_law_take T.F_z_law_take.kp T.b_z_law_take (va_cons (ve_var 1) (va_cons ve_int va_nil)))) rfl)
  (vss_cons (vs_set (i := 5) (ve_fn (ok_z_law_great T) (hr.mono (by decide)) tk rfl T.g_z_law_great T.F_z_law_great.kp T.b_z_law_great (va_cons (ve_var 1) va_nil)) nd rfl (by first | exact .inl rfl | exact .inr rfl))
  (vss_cons (vs_for hp rfl (vi_seq false (ve_lst (va_cons (ve_fn (ok_z_law_low T) (hr.mono (by decide)) tk rfl T.g_z_law_low T.F_z_law_low.kp T.b_z_law_low (va_cons (ve_var 3) (va_cons (ve_var 4) va_nil))) (va_cons (ve_fn (ok_z_law_low T) (hr.mono (by decide)) tk rfl T.g_z_law_low T.F_z_law_low.kp T.b_z_law_low (va_cons (ve_var 3) (va_cons ve_int va_nil))) (va_cons (ve_fn (ok_z_law_low T) (hr.mono (by decide)) tk rfl T.g_z_law_low T.F_z_law_low.kp T.b_z_law_low (va_cons (ve_neg (ve_var 2)) (va_cons (ve_add (ve_var 2) ve_int) va_nil))) (va_cons (ve_fn (ok_z_law_low T) (hr.mono (by decide)) tk rfl T.g_z_law_low T.F_z_law_low.kp T.b_z_law_low (va_cons ve_int (va_cons (ve_add (ve_var 2) ve_int) va_nil))) (va_cons (ve_tup (va_cons (ve_mulA (ve_var 5) (ve_ifE (vt_cmp (op_eqD hr.units) ov_eq (ve_fn (ok_z_law_take T) (hr.mono (by decide)) tk rfl T.g_z_law_take T.F_z_law_take.kp T.b_z_law_take (va_cons (ve_var 1) (va_cons ve_int va_nil))) ve_int (nobehind _ (by decide) (by decide))) ve_int (ve_neg ve_int))) (va_cons ve_int va_nil))) (va_cons (ve_fn (ok_z_law_low T) (hr.mono (by decide)) tk rfl T.g_z_law_low T.F_z_law_low.kp T.b_z_law_low (va_cons (ve_add (ve_mulA (ve_var 5) (ve_var 4)) ve_int) (va_cons (ve_var 4) va_nil))) va_nil)))))))) (vg_name 6 nd) (vss_cons (vs_asg (ve_fn (ok_z_law_expand T) (hr.mono (by decide)) tk rfl T.g_z_law_expand T.F_z_law_expand.kp T.b_z_law_expand (va_cons (ve_var 2) (va_cons (ve_var 6) va_nil))) (vg_tup rfl (vgs_cons (vg_name 7 nd) (vgs_cons (vg_name 8 nd) (vgs_cons (vg_name 9 nd) vgs_nil)))))
  (vss_cons (vs_set (i := 10) (ve_fn (ok_minus_expand T) (hr.mono (by decide)) tk rfl T.g_minus_expand T.F_minus_expand.kp T.b_minus_expand (va_cons (ve_var 2) (va_cons (ve_make2 T.k_Ratio (ok_Ratio_init T) (hr.mono (by decide)) rfl T.g_Ratio T.b2_Ratio (va_cons (ve_ix (ve_var 6) ve_int (fun _ _ => rfl)) (va_cons (ve_ix (ve_var 6) ve_int (fun _ _ => rfl)) va_nil))) va_nil))) nd rfl (by first | exact .inl rfl | exact .inr rfl))
  (vss_cons (vs_if (vt_bool (vw_or (vt_not (vt_val (ve_isT (owns (adOf K)) T.m_isinstance T.m_tuple (ve_var 10) (by decide +kernel) T.own_tuple (by decide +kernel)))) (vw_or (vt_cmp (op_neD hr.units) ov_ne (ve_callB cr_lenV cv_len rfl T.m_len (by decide +kernel) (va_cons (ve_var 10) va_nil)) ve_int (nobehind _ (by decide) (by decide))) (vw_or (vt_not (vt_val (ve_fn (ok_z_law_same T) (hr.mono (by decide)) tk rfl T.g_z_law_same T.F_z_law_same.kp T.b_z_law_same (va_cons (ve_ix (ve_var 10) ve_int (fun _ _ => rfl)) (va_cons (ve_fn (ok_minus_word T) (hr.mono (by decide)) tk rfl T.g_minus_word T.F_minus_word.kp T.b_minus_word (va_cons (ve_var 2) (va_cons (ve_var 7) va_nil))) va_nil))))) (vw_or (vt_not (vt_val (ve_fn (ok_z_law_same T) (hr.mono (by decide)) tk rfl T.g_z_law_same T.F_z_law_same.kp T.b_z_law_same (va_cons (ve_ix (ve_var 10) ve_int (fun _ _ => rfl)) (va_cons (ve_var 8) va_nil))))) (vw_or1 (vt_not (vt_val (ve_fn (ok_z_law_same T) (hr.mono (by decide)) tk rfl T.g_z_law_same T.F_z_law_same.kp T.b_z_law_same (va_cons (ve_ix (ve_var 10) ve_int (fun _ _ => rfl)) (va_cons (ve_var 9) va_nil))))))))))) (vss_one (vs_ret ve_bl)) vss_nil)
  (vss_cons (vs_if (vt_bool (vw_or (vt_not (vt_val (ve_callB (cr_all rfl) cv_all rfl T.m_all (by decide +kernel) (va_cons (ve_comp (own := [("c", 11)]) rfl nd (vi_seq true (ve_add (ve_var 8) (ve_var 9))) (blkOk_by rfl) (by decide) (fun _ _ _ _ _ => (vg_name 11 nd)) (fun _ _ _ _ _ => vifs_nil) (fun _ _ _ _ _ => (ve_chain op_le op_lt ov_cmp ov_cmp ve_int (ve_var 11) (ve_var 2)))) va_nil)))) (vw_or (vt_cmp (op_neD hr.units) ov_ne (ve_fn (ok_z_law_number T) (hr.mono (by decide)) tk rfl T.g_z_law_number T.F_z_law_number.kp T.b_z_law_number (va_cons (ve_var 2) (va_cons (ve_ix (ve_var 10) ve_int (fun _ _ => rfl)) va_nil))) (ve_var 7) (nobehind _ (by decide) (by decide))) (vw_or1 (vt_cmp (op_neD hr.units) ov_ne (ve_fn (ok_z_law_value T) (hr.mono (by decide)) tk rfl T.g_z_law_value T.F_z_law_value.kp T.b_z_law_value (va_cons (ve_var 2) (va_cons (ve_ix (ve_var 10) ve_int (fun _ _ => rfl)) (va_cons (ve_var 8) (va_cons (ve_var 9) va_nil))))) (ve_var 6) (nobehind _ (by decide) (by decide))))))) (vss_one (vs_ret ve_bl)) vss_nil)
  (vss_one (vs_if (vt_not (vt_val (ve_fn (ok_z_law_ratio_is T) (hr.mono (by decide)) tk rfl T.g_z_law_ratio_is T.F_z_law_ratio_is.kp T.b_z_law_ratio_is (va_cons (ve_fn (ok_minus_value T) (hr.mono (by decide)) tk rfl T.g_minus_value T.F_minus_value.kp T.b_minus_value (va_cons (ve_var 2) (va_cons (ve_ix (ve_var 10) ve_int (fun _ _ => rfl)) (va_cons (ve_ix (ve_var 10) ve_int (fun _ _ => rfl)) (va_cons (ve_ix (ve_var 10) ve_int (fun _ _ => rfl)) va_nil))))) (va_cons (ve_var 6) va_nil))))) (vss_one (vs_ret ve_bl)) vss_nil)))))))
  (vss_cons (vs_par false false rfl nd rfl rfl (by decide) rfl rfl (ve_callTy call_tuple_of cv_tuple rfl T.m_tuple (by decide +kernel) (va_cons (ve_comp (own := [("k", 13)]) rfl nd (vi_rg1 true rfl T.m_range (ve_fn (ok_z_law_take T) (hr.mono (by decide)) tk rfl T.g_z_law_take T.F_z_law_take.kp T.b_z_law_take (va_cons (ve_var 1) (va_cons ve_int va_nil)))) (blkOk_by rfl) (by decide) (fun _ _ _ _ _ => (vg_name 13 nd)) (fun _ _ _ _ _ => vifs_nil) (fun _ _ _ _ _ => (ve_sub (ve_fn (ok_z_law_take T) (hr.mono (by decide)) takes0 rfl T.g_z_law_take T.F_z_law_take.kp T.b_z_law_take (va_cons (ve_var 1) (va_cons ve_int va_nil))) ve_int))) va_nil)) (ve_callTy call_tuple_of cv_tuple rfl T.m_tuple (by decide +kernel) (va_cons (ve_comp (own := [("k", 13)]) rfl nd (vi_rg1 true rfl T.m_range (ve_fn (ok_z_law_take T) (hr.mono (by decide)) tk rfl T.g_z_law_take T.F_z_law_take.kp T.b_z_law_take (va_cons (ve_var 1) (va_cons ve_int va_nil)))) (blkOk_by rfl) (by decide) (fun _ _ _ _ _ => (vg_name 13 nd)) (fun _ _ _ _ _ => vifs_nil) (fun _ _ _ _ _ => (ve_sub (ve_fn (ok_z_law_take T) (hr.mono (by decide)) takes0 rfl T.g_z_law_take T.F_z_law_take.kp T.b_z_law_take (va_cons (ve_var 1) (va_cons ve_int va_nil))) ve_int))) va_nil)) rfl)
  (vss_cons (vs_set (i := 9) (ve_callTy call_tuple_of cv_tuple rfl T.m_tuple (by decide +kernel) (va_cons (ve_comp (own := [("k", 13)]) rfl nd (vi_rg1 true rfl T.m_range (ve_fn (ok_z_law_take T) (hr.mono (by decide)) tk rfl T.g_z_law_take T.F_z_law_take.kp T.b_z_law_take (va_cons (ve_var 1) (va_cons ve_int va_nil)))) (blkOk_by rfl) (by decide) (fun _ _ _ _ _ => (vg_name 13 nd)) (fun _ _ _ _ _ => vifs_nil) (fun _ _ _ _ _ => (ve_sub (ve_fn (ok_z_law_take T) (hr.mono (by decide)) takes0 rfl T.g_z_law_take T.F_z_law_take.kp T.b_z_law_take (va_cons (ve_var 1) (va_cons ve_int va_nil))) ve_int))) va_nil)) nd rfl (by first | exact .inl rfl | exact .inr rfl))
  (vss_cons (vs_if (vt_not (vt_val (ve_fn (ok_z_law_ratio_is T) (hr.mono (by decide)) tk rfl T.g_z_law_ratio_is T.F_z_law_ratio_is.kp T.b_z_law_ratio_is (va_cons (ve_fn (ok_minus_value T) (hr.mono (by decide)) tk rfl T.g_minus_value T.F_minus_value.kp T.b_minus_value (va_cons (ve_var 2) (va_cons (ve_var 12) (va_cons (ve_var 8) (va_cons (ve_var 9) va_nil))))) (va_cons (ve_fn (ok_z_law_value T) (hr.mono (by decide)) tk rfl T.g_z_law_value T.F_z_law_value.kp T.b_z_law_value (va_cons (ve_var 2) (va_cons (ve_var 12) (va_cons (ve_var 8) (va_cons (ve_var 9) va_nil))))) va_nil))))) (vss_one (vs_ret ve_bl)) vss_nil)
  (vss_cons (vs_set (i := 14) (ve_add (ve_comp (own := [("bad", 15)]) rfl nd (vi_seq true (ve_lst (va_cons ve_non (va_cons ve_int (va_cons ve_str (va_cons (ve_tup (va_cons ve_int (va_cons ve_int va_nil))) (va_cons (ve_make1 T.k_Ratio (ok_Ratio_init T) (hr.mono (by decide)) rfl T.g_Ratio T.b1_Ratio (va_cons ve_int va_nil)) va_nil))))))) (blkOk_by rfl) (by decide) (fun _ _ _ _ _ => (vg_name 15 nd)) (fun _ _ _ _ _ => vifs_nil) (fun _ _ _ _ _ => (ve_tup (va_cons (ve_gdef rfl T.g_minus_expand) (va_cons (ve_tup (va_cons (ve_var 2) (va_cons (ve_var 15) va_nil))) va_nil))))) (ve_comp (own := [("bad", 15)]) rfl nd (vi_seq true (ve_lst (va_cons ve_int (va_cons ve_int (va_cons ve_bl (va_cons ve_non va_nil)))))) (blkOk_by rfl) (by decide) (fun _ _ _ _ _ => (vg_name 15 nd)) (fun _ _ _ _ _ => vifs_nil) (fun _ _ _ _ _ => (ve_tup (va_cons (ve_gdef rfl T.g_minus_expand) (va_cons (ve_tup (va_cons (ve_var 15) (va_cons (ve_make2 T.k_Ratio (ok_Ratio_init T) (hr.mono (by decide)) rfl T.g_Ratio T.b2_Ratio (va_cons ve_int (va_cons ve_int va_nil))) va_nil))) va_nil)))))) nd rfl (by first | exact .inl rfl | exact .inr rfl))
  (vss_cons (vs_for hp rfl (vi_seq false (ve_lst (va_cons ve_non (va_cons ve_int (va_cons (ve_lst (va_cons ve_int va_nil)) (va_cons (ve_tup (va_cons ve_bl va_nil)) (va_cons (ve_mulA (ve_tup (va_cons ve_int va_nil)) ve_int) va_nil))))))) (vg_name 15 nd) (vss_one (vs_set (i := 14) (ve_add (ve_var 14) (ve_lst (va_cons (ve_tup (va_cons (ve_gdef rfl T.g_minus_value) (va_cons (ve_tup (va_cons (ve_var 2) (va_cons (ve_var 15) (va_cons (ve_tup va_nil) (va_cons (ve_tup va_nil) va_nil))))) va_nil))) (va_cons (ve_tup (va_cons (ve_gdef rfl T.g_minus_value) (va_cons (ve_tup (va_cons (ve_var 2) (va_cons (ve_tup va_nil) (va_cons (ve_var 15) (va_cons (ve_tup va_nil) va_nil))))) va_nil))) (va_cons (ve_tup (va_cons (ve_gdef rfl T.g_minus_value) (va_cons (ve_tup (va_cons (ve_var 2) (va_cons (ve_tup va_nil) (va_cons (ve_tup va_nil) (va_cons (ve_var 15) va_nil))))) va_nil))) va_nil))))) nd rfl (by first | exact .inl rfl | exact .inr rfl))))
  (vss_one (vs_ret (ve_fn (ok_z_law_all_malformed T) (hr.mono (by decide)) tk rfl T.g_z_law_all_malformed T.F_z_law_all_malformed.kp T.b_z_law_all_malformed (va_cons (ve_add (ve_var 14) (ve_lst (va_cons (ve_tup (va_cons (ve_gdef rfl T.g_minus_value) (va_cons (ve_tup (va_cons ve_int (va_cons (ve_tup va_nil) (va_cons (ve_tup va_nil) (va_cons (ve_tup va_nil) va_nil))))) va_nil))) (va_cons (ve_tup (va_cons (ve_gdef rfl T.g_minus_value) (va_cons (ve_tup (va_cons ve_non (va_cons (ve_tup va_nil) (va_cons (ve_tup va_nil) (va_cons (ve_tup va_nil) va_nil))))) va_nil))) va_nil)))) va_nil))))))))))))))
end
/-! ### the head -/
def nms0 : List Str := ["_wall", "is_integer", "is_count", "check_count", "is_whole_row", "common", "power", "is_short", "check_ratio", "check_base", "check_whole", "minus_word", "minus_number", "minus_expand", "minus_value", "_law_state", "_law_take", "_law_is_whole", "_law_same", "_law_told", "_law_all_malformed", "_law_common", "_law_low", "_law_add", "_law_mul", "_law_neg", "_law_over", "_law_ratio_is", "_law_great", "_law_floor"]
def nms1 : List Str := ["_law_expand", "_law_number", "_law_value", "Fault", "Malformed", "Refused", "Ratio", "MOST_BASE", "MOST_NUMBER", "MOST_DIGITS"]
def nms : List Str := nms0 ++ nms1
abbrev Rw : PySem.W.OpenRow := PySem.W.OpenLaw.row PySem.Challenge.rw_radixroads_k38_whole_fractions_in_bases
abbrev hk : PySem.W.Hook := hookL 5 fa fn
def ob (s : PySem.W.SharedT) : He.AlD := obsLG 5 fa fn (HandSHeadRun.getT s)
theorem ob_eq (s : PySem.W.SharedT) : ob s = hk.obs s.abs := obsLG_eq (HandSHeadRun.getT_eq s)
theorem run (w : World) : HandSHeadRun.RunEq Rw (PySem.W.view Rw.prog [45]) hk ob 8000 nms w := by
  intro os
  kernel_rfl
theorem nm_law : (HandSHeadRun.topDef Rw.prog 45).name = ("law" : Str) := by kernel_rfl
theorem at_law {w : World} {K : PySem.W.Frag} {mg : Str → Option Value} {fa' : Addr} {h : Heap} (X : K.In h) (G : h.Ns mainGlobals mg) (hfa : mg ("law" : Str) = some (.ref fa')) (c : SaysL fa fn K) : LamX.LawAtS PySem.Challenge.rw_radixroads_k38_whole_fractions_in_bases w K (L2.CX PySem.Challenge.rw_radixroads_k38_whole_fractions_in_bases.prog w) 15 63 "script" mg fa' h := by
  have T : Txt K mg := ⟨c, fun x u e => PySem.W.mg_of X G e, fun x e => PySem.W.mg_none_of X G e⟩
  have e := hfa.symm.trans T.g_law
  cases e
  have b := T.b_law
  refine ⟨_, [], _, fun p z => (nomatch z), fun p z => (nomatch z), fun p z => (nomatch z), fun s u => law_binds T.F_law (fun _ _ _ _ _ _ _ => rfl) s u, fun H a ns hl hbits _ hS => law_sp (scr_of hl hbits) hS, fun base hb hn _ => ok_law T⟩
end K38
open PySem PySem.W PySem.Calls PyProof.Rows
set_option maxHeartbeats 0 in
theorem PySem.Challenge.cw_radixroads_k38_whole_fractions_in_bases_holds : PySem.Challenge.rw_radixroads_k38_whole_fractions_in_bases.Holds := by
  w_on; o_law
  refine HandSHeadRun.head_any (r := OpenLaw.row PySem.Challenge.rw_radixroads_k38_whole_fractions_in_bases) (q := view (OpenLaw.row PySem.Challenge.rw_radixroads_k38_whole_fractions_in_bases).prog [45]) (H := K38.hk) (ob := K38.ob) (M := 8000) (loose := K38.nms) (d := HandSHeadRun.topDef (OpenLaw.row PySem.Challenge.rw_radixroads_k38_whole_fractions_in_bases).prog 45) (kwd := []) K38.ob_eq
    (by kernel_rfl) (fun s => by kernel_rfl) K38.run (by kernel_rfl) (by kernel_rfl) (by kernel_rfl) (by rfl) (by first | assumption | decide +kernel) (by decide +kernel) ⟨rfl, rfl, rfl, rfl, rfl, by decide +kernel⟩ ?hw ?hc
  case hw => w_witness2
  case hc =>
    refine LamX.walk_ofTsE (l := PySem.Challenge.rw_radixroads_k38_whole_fractions_in_bases) (n := 63) (k := 15) (x := "script") (CX := fun w => L2.CX (PySem.Challenge.rw_radixroads_k38_whole_fractions_in_bases).prog w) rfl (by decide) (by kernel_rfl) ⟨rfl, by decide, by decide⟩ ?F (fun w H s e s' h => L3.law_cx h)
    intro w mg fa h Y G hmg0
    obtain ⟨K, KX, c⟩ := Y
    have hmg : mg ("law" : PySem.Str) = some (.ref fa) := by
      rw [← K38.nm_law]
      exact hmg0
    exact ⟨K, KX, K38.at_law KX G hmg c⟩
#print axioms PySem.Challenge.cw_radixroads_k38_whole_fractions_in_bases_holds
