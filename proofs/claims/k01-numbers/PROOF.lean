import PyProof.Rows.All
import Wide.All
import OpenK.AllK
import Wide.FinOn
import HandS.ForMost
import HandS.ForExc
import HandS.Wide
import HandS.Zip
import HandS.More
import HandS.Flow
import HandS.IsInst
import HandS.Style
import HandS.HeadHook2
import HandS.HeadEnd
import HandS.Head0
import HandS.Head1
import HandS.Head2
import HandS.Defaults
import HandS.TupLe
import HandS.WideBits
import PySem.Challenge.RW_coastersafe_k01_whole_numbers_and_interv
set_option Elab.async false
set_option linter.all false
set_option maxRecDepth 100000
set_option maxHeartbeats 0
/-! Core, part 1: plain data, what represents it in the heap, the frame's slots. -/
namespace Cr
open PySem PySem.Spec PyProof.Rows L2
/-- plain data -/
inductive D where
  | non
  | bl (b : Bool)
  | int (i : Int)
  | str (x : Str)
  | tup (xs : List D)
  | lst (xs : List D)
  | obj (c : Nat) (xs : List D)
  | scr (ns : List Int)
/-- the classes: where they stand, their fields in the order of __init__ -/
structure CT where
  addr : Nat → Addr
/-- the program's classes by number: their fields in the order of __init__ -/
def flds : Nat → List Str
  | 20 => ["segments", "metres", "begins", "brakes", "heights"]
  | 21 => ["length", "friction", "brake", "lift", "drive"]
  | 22 => ["ways", "over", "trains"]
  | 23 => ["inputs", "bits", "timers", "order", "statements", "limits", "starts", "slots"]
  | _ => []
/-- the one field of an error with an __init__ -/
def low : Nat → Str
  | 5 => "line"
  | 7 => "name"
  | 8 => "limit"
  | _ => ""
structure Gx where
  K : PySem.W.Frag
  T : CT
def KTup (K : PySem.W.Frag) (a : Addr) (xs : List V) : Prop :=
  ∃ (o : Obj) (its : Array Value) (n : Nat), K.lookup a = some o ∧ o.cls = .type "tuple" ∧ o.data = .seq its n ∧ its.size ≤ sizeLine ∧ Vals xs its.toList
def KLst (K : PySem.W.Frag) (a : Addr) (xs : List V) : Prop :=
  ∃ (o : Obj) (its : Array Value) (n : Nat), K.lookup a = some o ∧ o.cls = .type "list" ∧ o.dict = none ∧ o.data = .seq its n ∧ its.size ≤ sizeLine ∧ Vals xs its.toList
mutual
/-- v stands for the data d, nothing of it lies at a place of Av -/
def Rep (G : Gx) (H : Hp) (Av : Addr → Prop) : D → V → Prop
  | .non, v => v = .non
  | .bl b, v => v = .bl b
  | .int i, v => v = .int i
  | .str x, v => v = .str x
  | .tup ds, v => ∃ a vs, v = .ref a ∧ ((H a = some (.tup vs) ∧ ¬ Av a) ∨ KTup G.K a vs) ∧ RepL G H Av ds vs
  | .lst ds, v => ∃ a vs, v = .ref a ∧ (H a = some (.lst vs) ∧ ¬ Av a) ∧ RepL G H Av ds vs
  | .obj c ds, v => ∃ a dx vs, v = .ref a ∧ (H a = some (.ins (G.T.addr c) dx ((flds c).zip vs)) ∧ ¬ Av a) ∧ vs.length = (flds c).length ∧ RepL G H Av ds vs
  | .scr ns, v => ∃ a, v = .ref a ∧ ((Rd H a (.lst (ns.map V.int)) ∧ ¬ Av a) ∨ KLst G.K a (ns.map V.int))
def RepL (G : Gx) (H : Hp) (Av : Addr → Prop) : List D → List V → Prop
  | [], vs => vs = []
  | d :: ds, vs => ∃ v vr, vs = v :: vr ∧ Rep G H Av d v ∧ RepL G H Av ds vr
end
structure Kept (H H' : Hp) (Av Av' : Addr → Prop) : Prop where
  keep : ∀ a o, H a = some o → ¬ Av a → H' a = some o
  av : ∀ a, Av' a → Av a ∨ H a = none
theorem Kept.no {H H' : Hp} {Av Av' : Addr → Prop} (k : Kept H H' Av Av') {a : Addr} {o : HO} (h : H a = some o) (n : ¬ Av a) : ¬ Av' a := fun z => by
  rcases k.av a z with q | q
  · exact n q
  · rw [h] at q; cases q
theorem Kept.trans {H H1 H2 : Hp} {A A1 A2 : Addr → Prop} (k : Kept H H1 A A1) (k2 : Kept H1 H2 A1 A2) : Kept H H2 A A2 := by
  refine ⟨fun a o h n => k2.keep a o (k.keep a o h n) (k.no h n), fun a z => ?_⟩
  rcases k2.av a z with q | q
  · exact k.av a q
  · by_cases hA : A a
    · exact .inl hA
    · cases e : H a with
      | none => exact .inr rfl
      | some o => rw [k.keep a o e hA] at q; cases q
mutual
theorem Rep.mono {G : Gx} {H H' : Hp} {Av Av' : Addr → Prop} (k : Kept H H' Av Av') : ∀ (d : D) {v : V}, Rep G H Av d v → Rep G H' Av' d v
  | .non, v, h => h
  | .bl b, v, h => h
  | .int i, v, h => h
  | .str x, v, h => h
  | .tup ds, v, h => by
    obtain ⟨a, vs, e, h1, h2⟩ := h
    refine ⟨a, vs, e, ?_, RepL.mono k ds h2⟩
    rcases h1 with ⟨h1, n⟩ | h1
    · exact .inl ⟨k.keep _ _ h1 n, k.no h1 n⟩
    · exact .inr h1
  | .lst ds, v, h => by
    obtain ⟨a, vs, e, ⟨h1, n⟩, h2⟩ := h
    exact ⟨a, vs, e, ⟨k.keep _ _ h1 n, k.no h1 n⟩, RepL.mono k ds h2⟩
  | .obj c ds, v, h => by
    obtain ⟨a, dx, vs, e, ⟨h1, n⟩, hl, h2⟩ := h
    exact ⟨a, dx, vs, e, ⟨k.keep _ _ h1 n, k.no h1 n⟩, hl, RepL.mono k ds h2⟩
  | .scr ns, v, h => by
    obtain ⟨a, e, h1⟩ := h
    refine ⟨a, e, ?_⟩
    rcases h1 with ⟨h1 | ⟨o, h1⟩, n⟩ | h1
    · exact .inl ⟨.inl (k.keep _ _ h1 n), k.no h1 n⟩
    · exact .inl ⟨.inr ⟨o, k.keep _ _ h1 n⟩, k.no h1 n⟩
    · exact .inr h1
theorem RepL.mono {G : Gx} {H H' : Hp} {Av Av' : Addr → Prop} (k : Kept H H' Av Av') : ∀ (ds : List D) {vs : List V}, RepL G H Av ds vs → RepL G H' Av' ds vs
  | [], vs, h => h
  | d :: ds, vs, h => by
    obtain ⟨v, vr, e, h1, h2⟩ := h
    exact ⟨v, vr, e, Rep.mono k d h1, RepL.mono k ds h2⟩
end
section
variable {G : Gx} {H H' : Hp} {Av Av' : Addr → Prop}
theorem RepL.length : ∀ {ds : List D} {vs : List V}, RepL G H Av ds vs → vs.length = ds.length
  | [], _, h => by
    have e : _ = [] := h
    rw [e]; rfl
  | d :: ds, _, h => by
    obtain ⟨v, vr, e, _, h2⟩ := h
    rw [e, List.length_cons, List.length_cons, RepL.length h2]
theorem RepL.nil_iff {vs : List V} : RepL G H Av [] vs ↔ vs = [] := Iff.rfl
theorem RepL.cons {d : D} {ds : List D} {v : V} {vs : List V} (h1 : Rep G H Av d v) (h2 : RepL G H Av ds vs) : RepL G H Av (d :: ds) (v :: vs) := ⟨v, vs, rfl, h1, h2⟩
theorem RepL.get : ∀ {ds : List D} {vs : List V} {i : Nat} {d : D}, RepL G H Av ds vs → ds[i]? = some d → ∃ v, vs[i]? = some v ∧ Rep G H Av d v
  | [], _, _, _, _, e => by simp at e
  | d :: ds, _, 0, _, h, e => by
    obtain ⟨v, vr, rfl, h1, _⟩ := h
    simp at e
    subst e
    exact ⟨v, rfl, h1⟩
  | d :: ds, _, i + 1, _, h, e => by
    obtain ⟨v, vr, rfl, _, h2⟩ := h
    obtain ⟨w, e1, e2⟩ := RepL.get (i := i) h2 (by simpa using e)
    exact ⟨w, by simpa using e1, e2⟩
theorem RepL.getV : ∀ {ds : List D} {vs : List V} {i : Nat} {v : V}, RepL G H Av ds vs → vs[i]? = some v → ∃ d, ds[i]? = some d ∧ Rep G H Av d v := fun {ds vs i v} h e => by
  have hl := h.length
  have hi : i < ds.length := by rw [← hl]; exact (List.getElem?_eq_some_iff.mp e).1
  obtain ⟨w, e1, e2⟩ := h.get (List.getElem?_eq_getElem hi)
  rw [e] at e1; cases e1
  exact ⟨_, List.getElem?_eq_getElem hi, e2⟩
theorem RepL.append : ∀ {ds es : List D} {vs ws : List V}, RepL G H Av ds vs → RepL G H Av es ws → RepL G H Av (ds ++ es) (vs ++ ws)
  | [], _, _, _, h, h' => by
    have e : _ = [] := h
    subst e; exact h'
  | d :: ds, _, _, _, h, h' => by
    obtain ⟨v, vr, rfl, h1, h2⟩ := h
    exact ⟨v, vr ++ _, rfl, h1, RepL.append h2 h'⟩
theorem RepL.take : ∀ {ds : List D} {vs : List V} (n : Nat), RepL G H Av ds vs → RepL G H Av (ds.take n) (vs.take n)
  | _, _, 0, _ => by simp; rfl
  | [], _, n + 1, h => by
    have e : _ = [] := h
    subst e; rfl
  | d :: ds, _, n + 1, h => by
    obtain ⟨v, vr, rfl, h1, h2⟩ := h
    exact ⟨v, vr.take n, rfl, h1, RepL.take n h2⟩
theorem RepL.drop : ∀ {ds : List D} {vs : List V} (n : Nat), RepL G H Av ds vs → RepL G H Av (ds.drop n) (vs.drop n)
  | _, _, 0, h => h
  | [], _, n + 1, h => by
    have e : _ = [] := h
    subst e; rfl
  | d :: ds, _, n + 1, h => by
    obtain ⟨v, vr, rfl, _, h2⟩ := h
    exact RepL.drop n h2
theorem RepL.set : ∀ {ds : List D} {vs : List V} (i : Nat) {d : D} {v : V}, RepL G H Av ds vs → Rep G H Av d v → RepL G H Av (ds.set i d) (vs.set i v)
  | [], _, _, _, _, h, _ => by
    have e : _ = [] := h
    subst e; rfl
  | d :: ds, _, 0, _, _, h, r => by
    obtain ⟨v, vr, rfl, _, h2⟩ := h
    exact ⟨_, vr, rfl, r, h2⟩
  | d :: ds, _, i + 1, _, _, h, r => by
    obtain ⟨v, vr, rfl, h1, h2⟩ := h
    exact ⟨v, _, rfl, h1, RepL.set i h2 r⟩
theorem RepL.rep {ds : List D} {vs : List V} (h : RepL G H Av ds vs) : ∀ k : Nat, RepL G H Av (List.replicate k ds).flatten (List.replicate k vs).flatten
  | 0 => rfl
  | k + 1 => by
    rw [List.replicate_succ, List.replicate_succ, List.flatten_cons, List.flatten_cons]
    exact h.append (RepL.rep h k)
theorem RepL.reverse : ∀ {ds : List D} {vs : List V}, RepL G H Av ds vs → RepL G H Av ds.reverse vs.reverse
  | [], _, h => by
    have e : _ = [] := h
    subst e; rfl
  | d :: ds, _, h => by
    obtain ⟨v, vr, rfl, h1, h2⟩ := h
    rw [List.reverse_cons, List.reverse_cons]
    exact (RepL.reverse h2).append ⟨v, [], rfl, h1, rfl⟩
/-! ### slots -/
inductive Fd where
  | d (x : D)
  | ol (xs : List D)
inductive Sl where
  | no
  | v (f : Fd)
  | oo (c : Nat) (fs : List (Str × Fd))
abbrev Env := List Sl
def RepFd (G : Gx) (H : Hp) (Av : Addr → Prop) : Fd → V → List Addr → Prop
  | .d x, v, fp => fp = [] ∧ Rep G H Av x v
  | .ol xs, v, fp => ∃ a vs, v = .ref a ∧ fp = [a] ∧ H a = some (.lst vs) ∧ RepL G H Av xs vs
def RepFs (G : Gx) (H : Hp) (Av : Addr → Prop) : List (Str × Fd) → List (Str × V) → List Addr → Prop
  | [], vs, fp => vs = [] ∧ fp = []
  | (n, f) :: fs, vs, fp => ∃ v vr p q, vs = (n, v) :: vr ∧ fp = p ++ q ∧ RepFd G H Av f v p ∧ RepFs G H Av fs vr q
def RepSl (G : Gx) (H : Hp) (Av : Addr → Prop) : Sl → Option V → List Addr → Prop
  | .no, _, fp => fp = []
  | .v f, o, fp => ∃ v, o = some v ∧ RepFd G H Av f v fp
  | .oo c fs, o, fp => ∃ a dx vs p, o = some (.ref a) ∧ fp = a :: p ∧ H a = some (.ins (G.T.addr c) dx vs) ∧ RepFs G H Av fs vs p
def RepEnv (G : Gx) (H : Hp) (Av : Addr → Prop) : Env → List (Option V) → List Addr → Prop
  | [], σ, F => σ = [] ∧ F = []
  | s :: ρ, σ, F => ∃ o σr p q, σ = o :: σr ∧ F = p ++ q ∧ RepSl G H Av s o p ∧ RepEnv G H Av ρ σr q
/-- Kept, and the owned ones too -/
theorem RepFd.mono (k : Kept H H' Av Av') {f : Fd} {v : V} {fp : List Addr} (hf : ∀ a ∈ fp, H' a = H a) (h : RepFd G H Av f v fp) : RepFd G H' Av' f v fp := by
  cases f with
  | d x => exact ⟨h.1, Rep.mono k x h.2⟩
  | ol xs =>
    obtain ⟨a, vs, e, e2, h1, h2⟩ := h
    refine ⟨a, vs, e, e2, ?_, RepL.mono k xs h2⟩
    rw [hf a (by rw [e2]; exact List.mem_singleton.mpr rfl)]
    exact h1
theorem RepFs.mono (k : Kept H H' Av Av') : ∀ {fs : List (Str × Fd)} {vs : List (Str × V)} {fp : List Addr}, (∀ a ∈ fp, H' a = H a) → RepFs G H Av fs vs fp → RepFs G H' Av' fs vs fp
  | [], _, _, _, h => h
  | (n, f) :: fs, _, _, hf, h => by
    obtain ⟨v, vr, p, q, e1, e2, h1, h2⟩ := h
    exact ⟨v, vr, p, q, e1, e2, h1.mono k fun a ha => hf a (by rw [e2]; exact List.mem_append_left _ ha), RepFs.mono k (fun a ha => hf a (by rw [e2]; exact List.mem_append_right _ ha)) h2⟩
theorem RepSl.mono (k : Kept H H' Av Av') {s : Sl} {o : Option V} {fp : List Addr} (hf : ∀ a ∈ fp, H' a = H a) (h : RepSl G H Av s o fp) : RepSl G H' Av' s o fp := by
  cases s with
  | no => exact h
  | v f => obtain ⟨v, e, h⟩ := h; exact ⟨v, e, h.mono k hf⟩
  | oo c fs =>
    obtain ⟨a, dx, vs, p, e1, e2, h1, h2⟩ := h
    refine ⟨a, dx, vs, p, e1, e2, ?_, h2.mono k fun b hb => hf b (by rw [e2]; exact List.mem_cons_of_mem _ hb)⟩
    rw [hf a (by rw [e2]; exact List.mem_cons_self)]
    exact h1
theorem RepEnv.mono (k : Kept H H' Av Av') : ∀ {ρ : Env} {σ : List (Option V)} {F : List Addr}, (∀ a ∈ F, H' a = H a) → RepEnv G H Av ρ σ F → RepEnv G H' Av' ρ σ F
  | [], _, _, _, h => h
  | s :: ρ, _, _, hf, h => by
    obtain ⟨o, σr, p, q, e1, e2, h1, h2⟩ := h
    exact ⟨o, σr, p, q, e1, e2, h1.mono k fun a ha => hf a (by rw [e2]; exact List.mem_append_left _ ha), RepEnv.mono k (fun a ha => hf a (by rw [e2]; exact List.mem_append_right _ ha)) h2⟩
theorem RepEnv.length : ∀ {ρ : Env} {σ : List (Option V)} {F : List Addr}, RepEnv G H Av ρ σ F → σ.length = ρ.length
  | [], _, _, h => by rw [h.1]; rfl
  | s :: ρ, _, _, h => by
    obtain ⟨o, σr, p, q, e1, e2, h1, h2⟩ := h
    rw [e1, List.length_cons, List.length_cons, RepEnv.length h2]
/-- every owned place is tracked -/
theorem RepFd.dom {f : Fd} {v : V} {fp : List Addr} (h : RepFd G H Av f v fp) : ∀ a ∈ fp, H a ≠ none := fun a ha => by
  cases f with
  | d x => rw [h.1] at ha; cases ha
  | ol xs =>
    obtain ⟨b, vs, _, e2, h1, _⟩ := h
    rw [e2] at ha
    rw [List.mem_singleton.mp ha, h1]
    exact fun z => by cases z
theorem RepFs.dom : ∀ {fs : List (Str × Fd)} {vs : List (Str × V)} {fp : List Addr}, RepFs G H Av fs vs fp → ∀ a ∈ fp, H a ≠ none
  | [], _, _, h, a, ha => by rw [h.2] at ha; cases ha
  | (n, f) :: fs, _, _, h, a, ha => by
    obtain ⟨v, vr, p, q, e1, e2, h1, h2⟩ := h
    rw [e2] at ha
    rcases List.mem_append.mp ha with z | z
    · exact h1.dom a z
    · exact RepFs.dom h2 a z
theorem RepSl.dom {s : Sl} {o : Option V} {fp : List Addr} (h : RepSl G H Av s o fp) : ∀ a ∈ fp, H a ≠ none := fun a ha => by
  cases s with
  | no => rw [show fp = [] from h] at ha; cases ha
  | v f => obtain ⟨v, e, h⟩ := h; exact h.dom a ha
  | oo c fs =>
    obtain ⟨b, dx, vs, p, e1, e2, h1, h2⟩ := h
    rw [e2] at ha
    rcases List.mem_cons.mp ha with z | z
    · rw [z, h1]; exact fun z => by cases z
    · exact h2.dom a z
theorem RepEnv.dom : ∀ {ρ : Env} {σ : List (Option V)} {F : List Addr}, RepEnv G H Av ρ σ F → ∀ a ∈ F, H a ≠ none
  | [], _, _, h, a, ha => by rw [h.2] at ha; cases ha
  | s :: ρ, _, _, h, a, ha => by
    obtain ⟨o, σr, p, q, e1, e2, h1, h2⟩ := h
    rw [e2] at ha
    rcases List.mem_append.mp ha with z | z
    · exact h1.dom a z
    · exact RepEnv.dom h2 a z
/-- one slot brought out -/
theorem RepEnv.focus : ∀ {ρ : Env} {σ : List (Option V)} {F : List Addr} {i : Nat} {s : Sl}, RepEnv G H Av ρ σ F → ρ[i]? = some s →
    ∃ o p1 p p2, σ[i]? = some o ∧ F = p1 ++ p ++ p2 ∧ RepSl G H Av s o p ∧
      ∀ {H' : Hp} {Av' : Addr → Prop} {s' : Sl} {o' : Option V} {p' : List Addr}, Kept H H' Av Av' → (∀ a ∈ p1, H' a = H a) → (∀ a ∈ p2, H' a = H a) → RepSl G H' Av' s' o' p' → RepEnv G H' Av' (ρ.set i s') (σ.set i o') (p1 ++ p' ++ p2)
  | [], _, _, _, _, _, e => by simp at e
  | t :: ρ, _, _, 0, s, h, e => by
    obtain ⟨o, σr, p, q, rfl, rfl, h1, h2⟩ := h
    simp at e
    subst e
    refine ⟨o, [], p, q, rfl, by simp, h1, fun {H' Av' s' o' p'} k k1 k2 r => ?_⟩
    exact ⟨o', σr, p', q, rfl, by simp, r, h2.mono k k2⟩
  | t :: ρ, _, _, i + 1, s, h, e => by
    obtain ⟨o, σr, p, q, rfl, rfl, h1, h2⟩ := h
    obtain ⟨o2, p1, pp, p2, e1, e2, r, f⟩ := RepEnv.focus (i := i) h2 (by simpa using e)
    refine ⟨o2, p ++ p1, pp, p2, by simpa using e1, by rw [e2]; simp [List.append_assoc], r, fun {H' Av' s' o' p'} k k1 k2 r' => ?_⟩
    exact ⟨o, σr.set i o', p, p1 ++ p' ++ p2, rfl, by simp [List.append_assoc], h1.mono k fun a ha => k1 a (List.mem_append_left _ ha), f k (fun a ha => k1 a (List.mem_append_right _ ha)) k2 r'⟩
end
/-- what the frame may not touch; where its self stands, if it makes one -/
structure Gh where
  fb : Addr → Prop
  me : Option Addr := none
/-- what the frame may not touch, and its own: av -/
def avo (Fb : Gh) (F : List Addr) : Addr → Prop := fun a => a ∈ F ∨ Fb.fb a
structure StR (G : Gx) (Fb : Gh) (H : Hp) (σ : L2.St) (ρ : Env) (F : List Addr) : Prop where
  ex : ∃ F0, RepEnv G H (avo Fb F) ρ σ F0 ∧ F0.Nodup ∧ ∀ a ∈ F0, a ∈ F
  dom : ∀ a ∈ F, H a ≠ none
  fb : ∀ a, Fb.fb a → H a ≠ none ∧ a ∉ F
  sf : ∀ a, Fb.me = some a → σ[0]? = some (some (.ref a)) ∧ ∃ c fs, ρ[0]? = some (.oo c fs)
theorem StR.av {G : Gx} {Fb : Gh} {H : Hp} {σ : L2.St} {ρ : Env} {F : List Addr} (S : StR G Fb H σ ρ F) : ∀ a, avo Fb F a → H a ≠ none := fun a h => by
  rcases h with h | h
  · exact S.dom a h
  · exact (S.fb a h).1
theorem StR.length {G : Gx} {Fb : Gh} {H : Hp} {σ : L2.St} {ρ : Env} {F : List Addr} (S : StR G Fb H σ ρ F) : σ.length = ρ.length := by
  obtain ⟨F0, e, _⟩ := S.ex
  exact e.length
theorem Kept.same {H H' : Hp} {Av : Addr → Prop} (s : Same H H') : Kept H H' Av Av := ⟨fun a o h _ => s a o h, fun _ h => .inl h⟩
theorem Rep.same {G : Gx} {H H' : Hp} {Av : Addr → Prop} {d : D} {v : V} (h : Rep G H Av d v) (s : Same H H') : Rep G H' Av d v := Rep.mono (Kept.same s) d h
theorem RepL.same {G : Gx} {H H' : Hp} {Av : Addr → Prop} {d : List D} {v : List V} (h : RepL G H Av d v) (s : Same H H') : RepL G H' Av d v := RepL.mono (Kept.same s) d h
theorem same_upd {H : Hp} {p : Addr} {o : HO} (h : H p = none) : Same H (upd H p o) := fun b u e => by rw [upd_ne (ne_of_none e h)]; exact e
theorem same_at {H H' : Hp} (s : Same H H') {a : Addr} (h : H a ≠ none) : H' a = H a := by
  cases e : H a with
  | none => exact absurd e h
  | some o => exact s a o e
theorem StR.same {G : Gx} {Fb : Gh} {H H' : Hp} {σ : L2.St} {ρ : Env} {F : List Addr} (S : StR G Fb H σ ρ F) (s : Same H H') : StR G Fb H' σ ρ F := by
  obtain ⟨F0, e, nd, sub⟩ := S.ex
  exact ⟨⟨F0, e.mono (Kept.same s) (fun a ha => same_at s (e.dom a ha)), nd, sub⟩, fun a h => by rw [same_at s (S.dom a h)]; exact S.dom a h, fun a ha => ⟨by rw [same_at s (S.fb a ha).1]; exact (S.fb a ha).1, (S.fb a ha).2⟩, S.sf⟩
/-- one slot: read -/
theorem StR.slot {G : Gx} {Fb : Gh} {H : Hp} {σ : L2.St} {ρ : Env} {F : List Addr} (S : StR G Fb H σ ρ F) {i : Nat} {s : Sl} (e : ρ[i]? = some s) : ∃ o p, σ[i]? = some o ∧ RepSl G H (avo Fb F) s o p ∧ ∀ a ∈ p, a ∈ F := by
  obtain ⟨F0, r, nd, sub⟩ := S.ex
  obtain ⟨o, p1, p, p2, e1, e2, r1, _⟩ := r.focus e
  exact ⟨o, p, e1, r1, fun a h => sub a (by rw [e2]; exact List.mem_append_left _ (List.mem_append_right _ h))⟩
/-- what a statement leaves -/
structure Post (H : Hp) (F : List Addr) (H' : Hp) (F' : List Addr) : Prop where
  keep : ∀ a o, H a = some o → a ∉ F → H' a = some o
  own : ∀ a ∈ F', a ∈ F ∨ H a = none
theorem Post.refl {H : Hp} {F : List Addr} : Post H F H F := ⟨fun _ _ h _ => h, fun _ h => .inl h⟩
theorem Post.of_same {H H' : Hp} {F : List Addr} (s : Same H H') : Post H F H' F := ⟨fun a o h _ => s a o h, fun _ h => .inl h⟩
theorem Post.trans {H H1 H2 : Hp} {F F1 F2 : List Addr} (p : Post H F H1 F1) (q : Post H1 F1 H2 F2) : Post H F H2 F2 := by
  have no : ∀ a o, H a = some o → a ∉ F → a ∉ F1 := fun a o h n z => by
    rcases p.own a z with r | r
    · exact n r
    · rw [h] at r; cases r
  refine ⟨fun a o h n => q.keep a o (p.keep a o h n) (no a o h n), fun a z => ?_⟩
  rcases q.own a z with r | r
  · exact p.own a r
  · by_cases hA : a ∈ F
    · exact .inl hA
    · cases e : H a with
      | none => exact .inr rfl
      | some o => rw [p.keep a o e hA] at r; cases r
/-- a statement that writes no fb -/
theorem Post.kept {Fb : Gh} {H H' : Hp} {F F' : List Addr} (p : Post H F H' F') : Kept H H' (avo Fb F) (avo Fb F') := by
  refine ⟨fun a o h n => p.keep a o h fun z => n (.inl z), fun a z => ?_⟩
  rcases z with z | z
  · rcases p.own a z with r | r
    · exact .inl (.inl r)
    · exact .inr r
  · exact .inl (.inr z)
end Cr
/-! Core, part 2: outcomes, the judgements, expressions. -/
namespace Cr
open PySem PySem.Spec PyProof.Rows L2
inductive Exc where
  | own (c : Nat)
  | low (c : Nat) (d : D)
inductive Res (α : Type) where
  | ok (a : α)
  | err (x : Exc)
  | bad
def Res.bind {α β : Type} (r : Res α) (f : α → Res β) : Res β := match r with
  | .ok a => f a
  | .err x => .err x
  | .bad => .bad
instance : Monad Res where
  pure := .ok
  bind := Res.bind
theorem bind_ok {α β : Type} (a : α) (f : α → Res β) : ((Res.ok a : Res α) >>= f) = f a := rfl
theorem bind_err {α β : Type} (x : Exc) (f : α → Res β) : ((Res.err x : Res α) >>= f) = .err x := rfl
theorem bind_bad {α β : Type} (f : α → Res β) : ((Res.bad : Res α) >>= f) = .bad := rfl
theorem pure_ok {α : Type} (a : α) : (pure a : Res α) = .ok a := rfl
abbrev gx (X : Cx) (T : CT) : Gx := ⟨X.K, T⟩
def ExcRep (G : Gx) (H : Hp) : Exc → Value → Option Addr → Prop
  | .own c, cls, d => cls = .ref (G.T.addr c) ∧ d = none
  | .low c x, cls, d => cls = .ref (G.T.addr c) ∧ ∃ a v, d = some a ∧ H a = some (.xd [(low c, v)]) ∧ ∀ Av, Rep G H Av x v
/-! ### readings by what they mean -/
section
variable (X : Cx)
def TWe (e : Expr) : TE := fun σ H Q => ∀ (pins : List (Addr × Obj)) (s : Shared), Inv X pins σ H s → wpAny (model X.prog X.w) X.A (eval e X.env) (EP X pins σ Q) X.xe s
def TWt (e : Expr) : TT := fun σ H Q => ∀ (pins : List (Addr × Obj)) (s : Shared), Inv X pins σ H s → wpAny (model X.prog X.w) X.A (isTrue e X.env (eval e X.env)) (TP X pins σ Q) X.xe s
def TWw (e : Expr) : TT := fun σ H Q => ∀ (whole : Sem Value) (pins : List (Addr × Obj)) (s : Shared), Inv X pins σ H s → wpAny (model X.prog X.w) X.A (isTrue e X.env whole) (TP X pins σ Q) X.xe s
def TWa (es : List Expr) : TA := fun σ H Q => ∀ (pos : Pos) (pins : List (Addr × Obj)) (s : Shared), Inv X pins σ H s → wpAny (model X.prog X.w) X.A (spliced (backTo pos (starEach es X.env))) (AP X pins σ Q) X.xe s
def TWs (st : Stmt) : TS := fun D σ H => ∀ (pins : List (Addr × Obj)) (s : Shared), Inv X pins σ H s → wpAny (model X.prog X.w) X.A (exec st X.env) (SP X pins D) X.xe s
def TWss (st : List Stmt) : TS := fun D σ H => ∀ (pins : List (Addr × Obj)) (s : Shared), Inv X pins σ H s → wpAny (model X.prog X.w) X.A (execs st X.env) (SP X pins D) X.xe s
end
section
variable {X : Cx} {e : Expr} {es : List Expr} {st : Stmt} {sts : List Stmt} {σ : L2.St} {H : Hp}
theorem pe_tw : PE X e (TWe X e) := ⟨fun pins s _ _ _ I h => h pins s I⟩
theorem pt_tw : PT X e (TWt X e) := ⟨fun pins s _ _ _ I h => h pins s I⟩
theorem pw_tw : PW X e (TWw X e) := ⟨fun w pins s _ _ _ I h => h w pins s I⟩
theorem pa_tw : PA X es (TWa X es) := ⟨fun pos pins s _ _ _ I h => h pos pins s I⟩
theorem ps_tw : PS X st (TWs X st) := ⟨fun pins s _ _ _ I h => h pins s I⟩
theorem pss_tw : PSs X sts (TWss X sts) := ⟨fun pins s _ _ _ I h => h pins s I⟩
theorem _root_.L2.PE.tw {t : TE} {Q : VK} (h : PE X e t) (q : t σ H Q) : TWe X e σ H Q := fun pins s I => h.run pins s σ H Q I q
theorem _root_.L2.PT.tw {t : TT} {Q : Bool → Hp → Prop} (h : PT X e t) (q : t σ H Q) : TWt X e σ H Q := fun pins s I => h.run pins s σ H Q I q
theorem _root_.L2.PW.tw {t : TT} {Q : Bool → Hp → Prop} (h : PW X e t) (q : t σ H Q) : TWw X e σ H Q := fun w pins s I => h.run w pins s σ H Q I q
theorem _root_.L2.PA.tw {t : TA} {Q : List V → Hp → Prop} (h : PA X es t) (q : t σ H Q) : TWa X es σ H Q := fun pos pins s I => h.run pos pins s σ H Q I q
theorem _root_.L2.PS.tw {t : TS} {D : Ends} (h : PS X st t) (q : t D σ H) : TWs X st D σ H := fun pins s I => h.run pins s σ H D I q
theorem _root_.L2.PSs.tw {t : TS} {D : Ends} (h : PSs X sts t) (q : t D σ H) : TWss X sts D σ H := fun pins s I => h.run pins s σ H D I q
theorem TWe.imp {Q Q' : VK} (h : TWe X e σ H Q) (f : ∀ v H', Q v H' → Q' v H') : TWe X e σ H Q' := fun pins s I => thn (h pins s I) fun u s1 ⟨v, H1, I1, r, q⟩ => ⟨v, H1, I1, r, f _ _ q⟩
end
/-! ### outcomes -/
def ErrOk (X : Cx) (T : CT) (σ : L2.St) (H : Hp) (x : Exc) : Prop :=
  ∃ W : WX, Takes X W ∧ ∀ cls d H', Same H H' → ExcRep (gx X T) H' x cls d → W cls d σ H'
def Out {α : Type} (X : Cx) (T : CT) (σ : L2.St) (H : Hp) (r : Res α) (P : α → Prop) : Prop := match r with
  | .ok a => P a
  | .err x => ErrOk X T σ H x
  | .bad => False
section
variable {X : Cx} {T : CT} {σ : L2.St} {H H' : Hp} {α β : Type}
theorem ErrOk.same {x : Exc} (h : ErrOk X T σ H x) (s : Same H H') : ErrOk X T σ H' x := by
  obtain ⟨W, tk, f⟩ := h
  exact ⟨W, tk, fun cls d H2 s2 r => f cls d H2 (s.trans s2) r⟩
theorem Out.imp {r : Res α} {P P' : α → Prop} (h : Out X T σ H r P) (f : ∀ a, r = .ok a → P a → P' a) : Out X T σ H r P' := by
  cases r with
  | ok a => exact f a rfl h
  | err x => exact h
  | bad => exact h
theorem Out.same {r : Res α} {P : α → Prop} (h : Out X T σ H r P) (s : Same H H') : Out X T σ H' r P := by
  cases r with
  | ok a => exact h
  | err x => exact ErrOk.same h s
  | bad => exact h
theorem Out.bind {r : Res α} {f : α → Res β} {P : β → Prop} (h : Out X T σ H (r >>= f) P) : Out X T σ H r fun a => Out X T σ H (f a) P := by
  cases r with
  | ok a => exact h
  | err x => exact h
  | bad => exact h
end
/-! ### the judgements -/
/-- the value may be an owned list -/
def RepB (G : Gx) (H : Hp) (Av : Addr → Prop) : D → V → Prop
  | .lst ds, v => ∃ a vs, v = .ref a ∧ H a = some (.lst vs) ∧ RepL G H Av ds vs
  | d, v => Rep G H Av d v
theorem Rep.b {G : Gx} {H : Hp} {Av : Addr → Prop} {d : D} {v : V} (h : Rep G H Av d v) : RepB G H Av d v := by
  cases d <;> first | exact h | (obtain ⟨a, vs, e, h1, h2⟩ := h; exact ⟨a, vs, e, h1.1, h2⟩)
theorem RepB.same {G : Gx} {H H' : Hp} {Av : Addr → Prop} {d : D} {v : V} (h : RepB G H Av d v) (s : Same H H') : RepB G H' Av d v := by
  cases d <;> first | exact Rep.same h s | (obtain ⟨a, vs, e, h1, h2⟩ := h; exact ⟨a, vs, e, s _ _ h1, RepL.same h2 s⟩)
theorem kept_less {H : Hp} {Av : Addr → Prop} {p : Addr} : Kept H H (fun a => a = p ∨ Av a) Av := ⟨fun _ _ h _ => h, fun _ z => .inl (.inr z)⟩
theorem kept_new {H : Hp} {Av : Addr → Prop} {p : Addr} {o : HO} (hp : H p = none) : Kept H (upd H p o) Av (fun a => a = p ∨ Av a) :=
  ⟨fun a u h _ => by rw [upd_ne (ne_of_none h hp)]; exact h, fun a z => z.elim (fun q => .inr (by rw [q]; exact hp)) .inl⟩
theorem RepL.new {G : Gx} {H : Hp} {Av : Addr → Prop} {ds : List D} {vs : List V} {p : Addr} {o : HO} (r : RepL G H Av ds vs) (hp : H p = none) : RepL G (upd H p o) (fun a => a = p ∨ Av a) ds vs := RepL.mono (kept_new hp) ds r
section
variable (T : CT) (Fb : Gh) (X : Cx)
structure ME (e : Expr) (m : Env → Res D) : Prop where
  run : ∀ (σ : L2.St) (H : Hp) (F : List Addr) (ρ : Env) (Q : VK), StR (gx X T) Fb H σ ρ F →
    Out X T σ H (m ρ) (fun d => ∀ v H', Same H H' → Rep (gx X T) H' (avo Fb F) d v → Q v H') → TWe X e σ H Q
structure MB (e : Expr) (m : Env → Res D) : Prop where
  run : ∀ (σ : L2.St) (H : Hp) (F : List Addr) (ρ : Env) (Q : VK), StR (gx X T) Fb H σ ρ F →
    Out X T σ H (m ρ) (fun d => ∀ v H', Same H H' → RepB (gx X T) H' (avo Fb F) d v → Q v H') → TWe X e σ H Q
/-- a new list -/
structure MF (e : Expr) (m : Env → Res (List D)) : Prop where
  run : ∀ (σ : L2.St) (H : Hp) (F : List Addr) (ρ : Env) (Q : VK), StR (gx X T) Fb H σ ρ F →
    Out X T σ H (m ρ) (fun ds => ∀ p vs H', H p = none → Same H H' → H' p = some (.lst vs) → RepL (gx X T) H' (fun a => a = p ∨ avo Fb F a) ds vs → Q (.ref p) H') → TWe X e σ H Q
structure MT (e : Expr) (m : Env → Res Bool) : Prop where
  run : ∀ (σ : L2.St) (H : Hp) (F : List Addr) (ρ : Env) (Q : Bool → Hp → Prop), StR (gx X T) Fb H σ ρ F →
    Out X T σ H (m ρ) (fun b => ∀ H', Same H H' → Q b H') → TWt X e σ H Q
structure MW (e : Expr) (m : Env → Res Bool) : Prop where
  run : ∀ (σ : L2.St) (H : Hp) (F : List Addr) (ρ : Env) (Q : Bool → Hp → Prop), StR (gx X T) Fb H σ ρ F →
    Out X T σ H (m ρ) (fun b => ∀ H', Same H H' → Q b H') → TWw X e σ H Q
/-- arguments that are handed on -/
structure ML (es : List Expr) (m : Env → Res (List D)) : Prop where
  run : ∀ (σ : L2.St) (H : Hp) (F : List Addr) (ρ : Env) (Q : List V → Hp → Prop), StR (gx X T) Fb H σ ρ F →
    Out X T σ H (m ρ) (fun ds => ∀ vs H', Same H H' → RepL (gx X T) H' (avo Fb F) ds vs → Q vs H') → TWa X es σ H Q
end
section
variable {T : CT} {Fb : Gh} {X : Cx} {e a b c : Expr} {es : List Expr} {m ma mb mc : Env → Res D} {pos : Pos}
theorem ME.toB (h : ME T Fb X e m) : MB T Fb X e m := ⟨fun σ H F ρ Q S o => h.run σ H F ρ Q S (o.imp fun d _ f v H' s r => f v H' s r.b)⟩
def toE (m : Env → Res (List D)) : Env → Res D := fun ρ => m ρ >>= fun ds => .ok (.lst ds)
theorem MF.toE {m : Env → Res (List D)} (h : MF T Fb X e m) : ME T Fb X e (toE m) :=
  ⟨fun σ H F ρ Q S o => h.run σ H F ρ Q S (o.bind.imp fun ds _ f p vs H' np s hp r => f _ _ s ⟨p, vs, rfl, ⟨hp, fun z => absurd np (S.av p z)⟩, RepL.mono kept_less ds r⟩)⟩
theorem MW.toT {m : Env → Res Bool} (h : MW T Fb X e m) : MT T Fb X e m := ⟨fun σ H F ρ Q S o pins s I => h.run σ H F ρ Q S o _ pins s I⟩
/-! ### names and constants -/
def mVar (i : Nat) : Env → Res D := fun ρ => match ρ[i]? with
  | some (.v (.d x)) => .ok x
  | _ => .bad
def mVarB (i : Nat) : Env → Res D := fun ρ => match ρ[i]? with
  | some (.v (.d x)) => .ok x
  | some (.v (.ol xs)) => .ok (.lst xs)
  | _ => .bad
theorem me_var (i : Nat) {x : Str} (hN : X.N[i]? = some x := by rfl) (hv : Vis X.env.scope x := by first | exact Or.inl rfl | exact Or.inr (Or.inl rfl) | exact Or.inr (Or.inr rfl))
    (hd : (x == ("__debug__" : Str)) = false := by decide) (hcd : (x == ("__classdict__" : Str)) = false := by decide) : ME T Fb X (.Name x pos) (mVar i) := by
  refine ⟨fun σ H F ρ Q S o => ?_⟩
  refine (pe_var hN hv hd hcd).tw ?_
  unfold mVar at o
  split at o
  · rename_i x e
    obtain ⟨o', p, e1, r, _⟩ := S.slot e
    obtain ⟨v, rfl, r⟩ := r
    exact ⟨v, e1, o v H (Same.refl H) r.2⟩
  · exact False.elim o
theorem mb_var (i : Nat) {x : Str} (hN : X.N[i]? = some x := by rfl) (hv : Vis X.env.scope x := by first | exact Or.inl rfl | exact Or.inr (Or.inl rfl) | exact Or.inr (Or.inr rfl))
    (hd : (x == ("__debug__" : Str)) = false := by decide) (hcd : (x == ("__classdict__" : Str)) = false := by decide) : MB T Fb X (.Name x pos) (mVarB i) := by
  refine ⟨fun σ H F ρ Q S o => ?_⟩
  refine (pe_var hN hv hd hcd).tw ?_
  unfold mVarB at o
  split at o
  · rename_i x e
    obtain ⟨o', p, e1, r, _⟩ := S.slot e
    obtain ⟨v, rfl, r⟩ := r
    exact ⟨v, e1, o v H (Same.refl H) r.2.b⟩
  · rename_i xs e
    obtain ⟨o', p, e1, r, _⟩ := S.slot e
    obtain ⟨v, rfl, a, vs, rfl, _, h1, h2⟩ := r
    exact ⟨_, e1, o _ H (Same.refl H) ⟨a, vs, rfl, h1, h2⟩⟩
  · exact False.elim o
def mC (d : D) : Env → Res D := fun _ => .ok d
theorem me_int {i j} : ME T Fb X (.Constant (.int i) j pos) (mC (.int i)) := ⟨fun σ H F ρ Q S o => pe_int.tw (o _ _ (Same.refl H) rfl)⟩
theorem me_bl {b j} : ME T Fb X (.Constant (.bool b) j pos) (mC (.bl b)) := ⟨fun σ H F ρ Q S o => pe_bl.tw (o _ _ (Same.refl H) rfl)⟩
theorem me_non {j} : ME T Fb X (.Constant .none j pos) (mC .non) := ⟨fun σ H F ρ Q S o => pe_non.tw (o _ _ (Same.refl H) rfl)⟩
theorem me_str {x j} : ME T Fb X (.Constant (.str x) j pos) (mC (.str x)) := ⟨fun σ H F ρ Q S o => pe_str.tw (o _ _ (Same.refl H) rfl)⟩
/-- a constant of the module -/
def GloD (K : PySem.W.Frag) (T : CT) (mg : Str → Option Value) (x : Str) (d : D) : Prop := ∃ u v, mg x = some u ∧ RelV v u ∧ ∀ H Av, Rep ⟨K, T⟩ H Av d v
theorem me_glo {x : Str} {d : D} (g : GloD X.K T X.mg x d) (hg : Gl X x := by rfl) (hd : (x == ("__debug__" : Str)) = false := by decide) : ME T Fb X (.Name x pos) (mC d) := by
  obtain ⟨u, v, e, r, f⟩ := g
  exact ⟨fun σ H F ρ Q S o => (pe_glob hg e r hd).tw (o _ _ (Same.refl H) (f _ _))⟩
/-! ### operations on values -/
/-- a two-place operation with its mirror -/
structure OpM (T : CT) (X : Cx) (f : Value → Value → Sem Value) (g : D → D → Res D) : Prop where
  ex : ∃ r : R2, OpR X f r ∧ ∀ (σ : L2.St) (H : Hp) (Av : Addr → Prop) (dx dy : D) (x y : V) (Q : VK), (∀ a, Av a → H a ≠ none) → RepB (gx X T) H Av dx x → RepB (gx X T) H Av dy y →
    Out X T σ H (g dx dy) (fun d => ∀ v H', Same H H' → Rep (gx X T) H' Av d v → Q v H') → r x y H Q
def mBin (g : D → D → Res D) (ma mb : Env → Res D) : Env → Res D := fun ρ => ma ρ >>= fun x => mb ρ >>= fun y => g x y
theorem me_bin {op : Operator} {g : D → D → Res D} (ho : OpM T X (binaryOp op) g) (ha : MB T Fb X a ma) (hb : MB T Fb X b mb) : ME T Fb X (.BinOp a op b pos) (mBin g ma mb) := by
  obtain ⟨r, hr, hf⟩ := ho.ex
  refine ⟨fun σ H F ρ Q S o => (pe_op hr pe_tw pe_tw).tw ?_⟩
  refine ha.run σ H F ρ _ S (o.bind.imp fun x _ o1 v H1 s1 r1 => ?_)
  refine hb.run σ H1 F ρ _ (S.same s1) ((o1.same s1).bind.imp fun y _ o2 u H2 s2 r2 => ?_)
  exact hf σ H2 (avo Fb F) x y v u Q ((S.same s1).same s2).av (r1.same s2) r2 ((o2.same s2).imp fun d _ f w H' s3 r3 => f w H' (s1.trans (s2.trans s3)) r3)
theorem me_cmp {op : CmpOp} {g : D → D → Res D} (ho : OpM T X (compareOp op) g) (ha : MB T Fb X a ma) (hb : MB T Fb X b mb) (hm : behindInMarks op b = false := by first | exact nomark _ | rfl | with_unfolding_all rfl) :
    ME T Fb X (.Compare a [op] [b] pos) (mBin g ma mb) := by
  obtain ⟨r, hr, hf⟩ := ho.ex
  refine ⟨fun σ H F ρ Q S o => (pe_cmpR hr pe_tw pe_tw hm).tw ?_⟩
  refine ha.run σ H F ρ _ S (o.bind.imp fun x _ o1 v H1 s1 r1 => ?_)
  refine hb.run σ H1 F ρ _ (S.same s1) ((o1.same s1).bind.imp fun y _ o2 u H2 s2 r2 => ?_)
  exact hf σ H2 (avo Fb F) x y v u Q ((S.same s1).same s2).av (r1.same s2) r2 ((o2.same s2).imp fun d _ f w H' s3 r3 => f w H' (s1.trans (s2.trans s3)) r3)
/-- a value as a truth: only True and False -/
def tru : D → Res Bool
  | .bl b => .ok b
  | _ => .bad
def mTst (m : Env → Res D) : Env → Res Bool := fun ρ => m ρ >>= tru
theorem mt_cmp {op : CmpOp} {g : D → D → Res D} (ho : OpM T X (compareOp op) g) (ha : MB T Fb X a ma) (hb : MB T Fb X b mb) (hm : behindInMarks op b = false := by first | exact nomark _ | rfl | with_unfolding_all rfl) :
    MT T Fb X (.Compare a [op] [b] pos) (mTst (mBin g ma mb)) := by
  obtain ⟨r, hr, hf⟩ := ho.ex
  refine ⟨fun σ H F ρ Q S o => (pt_cmpR hr pe_tw pe_tw hm).tw ?_⟩
  refine ha.run σ H F ρ _ S (o.bind.bind.imp fun x _ o1 v H1 s1 r1 => ?_)
  refine hb.run σ H1 F ρ _ (S.same s1) ((o1.same s1).bind.imp fun y _ o2 u H2 s2 r2 => ?_)
  refine hf σ H2 (avo Fb F) x y v u _ ((S.same s1).same s2).av (r1.same s2) r2 ((o2.same s2).imp fun d _ f w H' s3 r3 => ?_)
  cases d with
  | bl k => exact ⟨k, r3, f H' (s1.trans (s2.trans s3))⟩
  | _ => exact False.elim f
/-- a test by a value True or False -/
theorem mt_val (h : ME T Fb X e m) (he : ∀ whole, isTrue e X.env whole = (do let v ← whole; standAt e.pos; holding [v] (truthy v)) := by intro _; rfl) : MT T Fb X e (mTst m) := by
  refine ⟨fun σ H F ρ Q S o => (pt_val pe_tw he).tw ?_⟩
  refine h.run σ H F ρ _ S (o.bind.imp fun d _ f v H' s r => ?_)
  cases d with
  | bl k => exact ⟨k, r, f H' s⟩
  | _ => exact False.elim f
/-- a op b op' c -/
def mChain (g g' : D → D → Res D) (ma mb mc : Env → Res D) : Env → Res D := fun ρ => ma ρ >>= fun x => mb ρ >>= fun y => (g x y >>= tru) >>= fun k => match k with
  | true => mc ρ >>= fun z => g' y z
  | false => .ok (.bl false)
theorem chain_core {op op' : CmpOp} {g g' : D → D → Res D} {r r' : R2} {σ : L2.St} {H : Hp} {F : List Addr} {ρ : Env} {Q : VK}
    (hf : ∀ (σ : L2.St) (H : Hp) (Av : Addr → Prop) (dx dy : D) (x y : V) (Q : VK), (∀ a, Av a → H a ≠ none) → RepB (gx X T) H Av dx x → RepB (gx X T) H Av dy y →
      Out X T σ H (g dx dy) (fun d => ∀ v H', Same H H' → Rep (gx X T) H' Av d v → Q v H') → r x y H Q)
    (hf' : ∀ (σ : L2.St) (H : Hp) (Av : Addr → Prop) (dx dy : D) (x y : V) (Q : VK), (∀ a, Av a → H a ≠ none) → RepB (gx X T) H Av dx x → RepB (gx X T) H Av dy y →
      Out X T σ H (g' dx dy) (fun d => ∀ v H', Same H H' → Rep (gx X T) H' Av d v → Q v H') → r' x y H Q)
    (ha : MB T Fb X a ma) (hb : MB T Fb X b mb) (hc : MB T Fb X c mc) (S : StR (gx X T) Fb H σ ρ F)
    (o : Out X T σ H (mChain g g' ma mb mc ρ) fun d => ∀ v H', Same H H' → Rep (gx X T) H' (avo Fb F) d v → Q v H') : tChain r r' (TWe X a) (TWe X b) (TWe X c) σ H Q := by
  refine ha.run σ H F ρ _ S (o.bind.imp fun x _ o1 v H1 s1 r1 => ?_)
  refine hb.run σ H1 F ρ _ (S.same s1) ((o1.same s1).bind.imp fun y _ o2 u H2 s2 r2 => ?_)
  have S2 := (S.same s1).same s2
  refine hf σ H2 (avo Fb F) x y v u _ S2.av (r1.same s2) r2 ((o2.same s2).bind.bind.imp fun d _ o3 w H3 s3 r3 => ?_)
  cases d with
  | bl k =>
    refine ⟨k, r3, ?_⟩
    have o4 : Out X T σ H2 (match k with | true => mc ρ >>= fun z => g' y z | false => .ok (.bl false)) fun d => ∀ v H', Same H H' → Rep (gx X T) H' (avo Fb F) d v → Q v H' := o3
    cases k with
    | true =>
      rw [if_pos rfl]
      refine hc.run σ H3 F ρ _ (S2.same s3) ((o4.same s3).bind.imp fun z _ o5 w' H4 s4 r4 => ?_)
      exact hf' σ H4 (avo Fb F) y z u w' Q ((S2.same s3).same s4).av ((r2.same s3).same s4) r4 ((o5.same s4).imp fun d _ f w H' s5 r5 => f w H' (s1.trans (s2.trans (s3.trans (s4.trans s5)))) r5)
    | false =>
      rw [if_neg Bool.false_ne_true]
      exact o4 _ _ (s1.trans (s2.trans s3)) rfl
  | _ => exact False.elim o3
theorem me_chain {op op' : CmpOp} {g g' : D → D → Res D} (ho : OpM T X (compareOp op) g) (ho' : OpM T X (compareOp op') g') (ha : MB T Fb X a ma) (hb : MB T Fb X b mb) (hc : MB T Fb X c mc)
    (hm : lastMarks [op, op'] [b, c] = false := by with_unfolding_all rfl) : ME T Fb X (.Compare a [op, op'] [b, c] pos) (mChain g g' ma mb mc) := by
  obtain ⟨r, hr, hf⟩ := ho.ex
  obtain ⟨r', hr', hf'⟩ := ho'.ex
  exact ⟨fun σ H F ρ Q S o => (pe_chain hr hr' pe_tw pe_tw pe_tw hm).tw (chain_core (op := op) (op' := op') hf hf' ha hb hc S o)⟩
theorem mt_chain {op op' : CmpOp} {g g' : D → D → Res D} (ho : OpM T X (compareOp op) g) (ho' : OpM T X (compareOp op') g') (ha : MB T Fb X a ma) (hb : MB T Fb X b mb) (hc : MB T Fb X c mc)
    (hm : lastMarks [op, op'] [b, c] = false := by with_unfolding_all rfl) : MT T Fb X (.Compare a [op, op'] [b, c] pos) (mTst (mChain g g' ma mb mc)) := by
  obtain ⟨r, hr, hf⟩ := ho.ex
  obtain ⟨r', hr', hf'⟩ := ho'.ex
  refine ⟨fun σ H F ρ Q S o => (pt_chain hr hr' pe_tw pe_tw pe_tw hm).tw (chain_core (op := op) (op' := op') hf hf' ha hb hc S (o.bind.imp fun d _ f v H' s r => ?_))⟩
  cases d with
  | bl k => exact ⟨k, r, f H' s⟩
  | _ => exact False.elim f
/-! ### and, or, not, if -/
def mAnd (ta tb : Env → Res Bool) : Env → Res Bool := fun ρ => ta ρ >>= fun k => match k with
  | true => tb ρ
  | false => .ok false
def mOr (ta tb : Env → Res Bool) : Env → Res Bool := fun ρ => ta ρ >>= fun k => match k with
  | true => .ok true
  | false => tb ρ
def mNot (t : Env → Res Bool) : Env → Res Bool := fun ρ => t ρ >>= fun k => .ok (!k)
variable {ta tb : Env → Res Bool} {rest : List Expr}
theorem mw_and1 (ha : MT T Fb X a ta) : MW T Fb X (.BoolOp .And [a] pos) ta := ⟨fun σ H F ρ Q S o => (pw_and1 pt_tw).tw (ha.run σ H F ρ Q S o)⟩
theorem mw_or1 (ha : MT T Fb X a ta) : MW T Fb X (.BoolOp .Or [a] pos) ta := ⟨fun σ H F ρ Q S o => (pw_or1 pt_tw).tw (ha.run σ H F ρ Q S o)⟩
theorem mw_and (ha : MT T Fb X a ta) (hb : MW T Fb X (.BoolOp .And (b :: rest) pos) tb) : MW T Fb X (.BoolOp .And (a :: b :: rest) pos) (mAnd ta tb) := by
  refine ⟨fun σ H F ρ Q S o => (pw_and pt_tw pw_tw).tw ?_⟩
  refine ha.run σ H F ρ _ S (o.bind.imp fun k _ o1 H1 s1 => ?_)
  have o2 : Out X T σ H (match k with | true => tb ρ | false => .ok false) fun b => ∀ H', Same H H' → Q b H' := o1
  cases k with
  | true => exact iteT (hb.run σ H1 F ρ _ (S.same s1) ((o2.same s1).imp fun b _ f H2 s2 => f H2 (s1.trans s2)))
  | false => exact iteF (o2 H1 s1)
theorem mw_or (ha : MT T Fb X a ta) (hb : MW T Fb X (.BoolOp .Or (b :: rest) pos) tb) : MW T Fb X (.BoolOp .Or (a :: b :: rest) pos) (mOr ta tb) := by
  refine ⟨fun σ H F ρ Q S o => (pw_or pt_tw pw_tw).tw ?_⟩
  refine ha.run σ H F ρ _ S (o.bind.imp fun k _ o1 H1 s1 => ?_)
  have o2 : Out X T σ H (match k with | true => .ok true | false => tb ρ) fun b => ∀ H', Same H H' → Q b H' := o1
  cases k with
  | true => exact iteT (o2 H1 s1)
  | false => exact iteF (hb.run σ H1 F ρ _ (S.same s1) ((o2.same s1).imp fun b _ f H2 s2 => f H2 (s1.trans s2)))
theorem mt_not (ha : MT T Fb X a ta) : MT T Fb X (.UnaryOp .Not a pos) (mNot ta) :=
  ⟨fun σ H F ρ Q S o => (pt_not pt_tw).tw (ha.run σ H F ρ _ S (o.bind.imp fun k _ f H1 s1 => f H1 s1))⟩
/-- .. as values -/
def mAndV (ma mb : Env → Res D) : Env → Res D := fun ρ => (ma ρ >>= tru) >>= fun k => match k with
  | true => mb ρ
  | false => .ok (.bl false)
def mOrV (ma mb : Env → Res D) : Env → Res D := fun ρ => (ma ρ >>= tru) >>= fun k => match k with
  | true => .ok (.bl true)
  | false => mb ρ
def mNotV (ma : Env → Res D) : Env → Res D := fun ρ => (ma ρ >>= tru) >>= fun k => .ok (.bl (!k))
theorem me_one {op} (h : ME T Fb X a ma) : ME T Fb X (.BoolOp op [a] pos) ma := ⟨fun σ H F ρ Q S o => (pe_one pe_tw).tw (h.run σ H F ρ Q S o)⟩
theorem me_and (ha : ME T Fb X a ma) (hb : ME T Fb X (.BoolOp .And (b :: rest) pos) mb) : ME T Fb X (.BoolOp .And (a :: b :: rest) pos) (mAndV ma mb) := by
  refine ⟨fun σ H F ρ Q S o => (pe_and pe_tw pe_tw).tw ?_⟩
  refine ha.run σ H F ρ _ S (o.bind.bind.imp fun d _ o1 v H1 s1 r1 => ?_)
  cases d with
  | bl k =>
    refine ⟨k, r1, ?_⟩
    have o2 : Out X T σ H (match k with | true => mb ρ | false => .ok (.bl false)) fun d => ∀ v H', Same H H' → Rep (gx X T) H' (avo Fb F) d v → Q v H' := o1
    cases k with
    | true => exact iteT (hb.run σ H1 F ρ _ (S.same s1) ((o2.same s1).imp fun b _ f v H2 s2 r => f v H2 (s1.trans s2) r))
    | false => exact iteF (o2 _ _ s1 rfl)
  | _ => exact False.elim o1
theorem me_or (ha : ME T Fb X a ma) (hb : ME T Fb X (.BoolOp .Or (b :: rest) pos) mb) : ME T Fb X (.BoolOp .Or (a :: b :: rest) pos) (mOrV ma mb) := by
  refine ⟨fun σ H F ρ Q S o => (pe_or pe_tw pe_tw).tw ?_⟩
  refine ha.run σ H F ρ _ S (o.bind.bind.imp fun d _ o1 v H1 s1 r1 => ?_)
  cases d with
  | bl k =>
    refine ⟨k, r1, ?_⟩
    have o2 : Out X T σ H (match k with | true => .ok (.bl true) | false => mb ρ) fun d => ∀ v H', Same H H' → Rep (gx X T) H' (avo Fb F) d v → Q v H' := o1
    cases k with
    | true => exact iteT (o2 _ _ s1 rfl)
    | false => exact iteF (hb.run σ H1 F ρ _ (S.same s1) ((o2.same s1).imp fun b _ f v H2 s2 r => f v H2 (s1.trans s2) r))
  | _ => exact False.elim o1
theorem me_not (ha : ME T Fb X a ma) : ME T Fb X (.UnaryOp .Not a pos) (mNotV ma) := by
  refine ⟨fun σ H F ρ Q S o => (pe_not pe_tw).tw ?_⟩
  refine ha.run σ H F ρ _ S (o.bind.bind.imp fun d _ o1 v H1 s1 r1 => ?_)
  cases d with
  | bl k => exact ⟨k, r1, o1 _ _ s1 rfl⟩
  | _ => exact False.elim o1
def mIf {α : Type} (t : Env → Res Bool) (ma mb : Env → Res α) : Env → Res α := fun ρ => t ρ >>= fun k => match k with
  | true => ma ρ
  | false => mb ρ
theorem me_if {t : Env → Res Bool} (hc : MT T Fb X c t) (ha : ME T Fb X a ma) (hb : ME T Fb X b mb) : ME T Fb X (.IfExp c a b pos) (mIf t ma mb) := by
  refine ⟨fun σ H F ρ Q S o => (pe_ifExp pt_tw pe_tw pe_tw).tw ?_⟩
  refine hc.run σ H F ρ _ S (o.bind.imp fun k _ o1 H1 s1 => ?_)
  have o2 : Out X T σ H (match k with | true => ma ρ | false => mb ρ) fun d => ∀ v H', Same H H' → Rep (gx X T) H' (avo Fb F) d v → Q v H' := o1
  cases k with
  | true => exact iteT (ha.run σ H1 F ρ _ (S.same s1) ((o2.same s1).imp fun b _ f v H2 s2 r => f v H2 (s1.trans s2) r))
  | false => exact iteF (hb.run σ H1 F ρ _ (S.same s1) ((o2.same s1).imp fun b _ f v H2 s2 r => f v H2 (s1.trans s2) r))
/-! ### arguments, displays -/
def mNil : Env → Res (List D) := fun _ => .ok []
def mCons (ma : Env → Res D) (mr : Env → Res (List D)) : Env → Res (List D) := fun ρ => ma ρ >>= fun x => mr ρ >>= fun xs => .ok (x :: xs)
theorem ml_nil : ML T Fb X [] mNil := ⟨fun σ H F ρ Q S o => pa_nil.tw (o _ _ (Same.refl H) rfl)⟩
theorem ml_cons {mr : Env → Res (List D)} (ha : ME T Fb X e ma) (hr : ML T Fb X es mr) (hs : starEach (e :: es) X.env = (false, eval e X.env) :: starEach es X.env := by rfl) : ML T Fb X (e :: es) (mCons ma mr) := by
  refine ⟨fun σ H F ρ Q S o => (pa_cons pe_tw pa_tw hs).tw ?_⟩
  refine ha.run σ H F ρ _ S (o.bind.imp fun x _ o1 v H1 s1 r1 => ?_)
  refine hr.run σ H1 F ρ _ (S.same s1) ((o1.same s1).bind.imp fun xs _ f vs H2 s2 r2 => ?_)
  exact f _ _ (s1.trans s2) ⟨v, vs, rfl, r1.same s2, r2⟩
/-- the first argument borrowed -/
structure MLb (T : CT) (Fb : Gh) (X : Cx) (es : List Expr) (m : Env → Res (List D)) : Prop where
  run : ∀ (σ : L2.St) (H : Hp) (F : List Addr) (ρ : Env) (Q : List V → Hp → Prop), StR (gx X T) Fb H σ ρ F →
    Out X T σ H (m ρ) (fun ds => ∀ vs H', Same H H' → Paired (RepB (gx X T) H' (avo Fb F)) ds vs → Q vs H') → TWa X es σ H Q
theorem mlb_nil : MLb T Fb X [] mNil := ⟨fun σ H F ρ Q S o => pa_nil.tw (o _ _ (Same.refl H) .nil)⟩
theorem paired_same {G : Gx} {H H' : Hp} {Av : Addr → Prop} (s : Same H H') : ∀ {ds : List D} {vs : List V}, Paired (RepB G H Av) ds vs → Paired (RepB G H' Av) ds vs
  | _, _, .nil => .nil
  | _, _, .cons r t => .cons (r.same s) (paired_same s t)
theorem mlb_cons {mr : Env → Res (List D)} (ha : MB T Fb X e ma) (hr : MLb T Fb X es mr) (hs : starEach (e :: es) X.env = (false, eval e X.env) :: starEach es X.env := by rfl) : MLb T Fb X (e :: es) (mCons ma mr) := by
  refine ⟨fun σ H F ρ Q S o => (pa_cons pe_tw pa_tw hs).tw ?_⟩
  refine ha.run σ H F ρ _ S (o.bind.imp fun x _ o1 v H1 s1 r1 => ?_)
  refine hr.run σ H1 F ρ _ (S.same s1) ((o1.same s1).bind.imp fun xs _ f vs H2 s2 r2 => ?_)
  exact f _ _ (s1.trans s2) (.cons (r1.same s2) r2)
def mTup (m : Env → Res (List D)) : Env → Res D := fun ρ => m ρ >>= fun xs => if xs.length ≤ sizeLine then .ok (.tup xs) else .bad
theorem avo_no {Fb : Gh} {H : Hp} {F : List Addr} (S : ∀ a, avo Fb F a → H a ≠ none) {p : Addr} (h : H p = none) : ¬ avo Fb F p := fun z => absurd h (S p z)
theorem me_tup {x1} {m : Env → Res (List D)} (h : ML T Fb X es m) : ME T Fb X (.Tuple es x1 pos) (mTup m) := by
  refine ⟨fun σ H F ρ Q S o => (pe_tup pa_tw).tw ?_⟩
  refine h.run σ H F ρ _ S (o.bind.imp fun xs _ o1 vs H1 s1 r1 => ?_)
  by_cases hz : xs.length ≤ sizeLine
  · have o2 : ∀ v H', Same H H' → Rep (gx X T) H' (avo Fb F) (.tup xs) v → Q v H' := by
      have o1 : Out X T σ H (if xs.length ≤ sizeLine then Res.ok (D.tup xs) else .bad) _ := o1
      rw [if_pos hz] at o1
      exact o1
    refine ⟨by rw [r1.length]; exact hz, fun p hp => o2 _ _ (s1.trans (same_upd hp)) ⟨p, vs, rfl, .inl ⟨upd_same, avo_no (S.same s1).av hp⟩, r1.same (same_upd hp)⟩⟩
  · have o1 : Out X T σ H (if xs.length ≤ sizeLine then Res.ok (D.tup xs) else .bad) _ := o1
    rw [if_neg hz] at o1
    exact False.elim o1
def mLst (m : Env → Res (List D)) : Env → Res (List D) := fun ρ => m ρ >>= fun xs => if xs.length ≤ sizeLine then .ok xs else .bad
theorem mf_lst {m : Env → Res (List D)} (h : ML T Fb X es m) : MF T Fb X (.List es pos) (mLst m) := by
  refine ⟨fun σ H F ρ Q S o => (pe_lst pa_tw).tw ?_⟩
  refine h.run σ H F ρ _ S (o.bind.imp fun xs _ o1 vs H1 s1 r1 => ?_)
  by_cases hz : xs.length ≤ sizeLine
  · have o1 : Out X T σ H (if xs.length ≤ sizeLine then .ok xs else .bad) _ := o1
    rw [if_pos hz] at o1
    refine ⟨by rw [r1.length]; exact hz, fun p hp => o1 p vs _ (s1.free hp) (s1.trans (same_upd hp)) upd_same (r1.new hp)⟩
  · have o1 : Out X T σ H (if xs.length ≤ sizeLine then .ok xs else .bad) _ := o1
    rw [if_neg hz] at o1
    exact False.elim o1
end
end Cr
/-! Core, part 3: operators, comparisons, items, slices, calls. -/
namespace Cr
open PySem PySem.Spec PyProof.Rows L2
/-! ### mirrors of the operators -/
def mulOk (a b : Int) : Prop := CMul a b ∨ CMulW a b
instance (a b : Int) : Decidable (mulOk a b) := by unfold mulOk CMul CMulW; infer_instance
def divOk (a b : Int) : Prop := CDivW a b
instance (a b : Int) : Decidable (divOk a b) := by unfold divOk CDivW; infer_instance
def powOk (a b : Int) : Prop := CPow a b
instance (a b : Int) : Decidable (powOk a b) := by unfold powOk CPow; infer_instance
def addD : D → D → Res D
  | .int a, .int b => .ok (.int (a + b))
  | .str a, .str b => if a.length + b.length ≤ sizeLine then .ok (.str (a ++ b)) else .bad
  | .lst a, .lst b => if a.length + b.length ≤ sizeLine then .ok (.lst (a ++ b)) else .bad
  | .tup a, .tup b => if a ≠ [] ∧ b ≠ [] ∧ a.length + b.length ≤ sizeLine then .ok (.tup (a ++ b)) else .bad
  | _, _ => .bad
def subD : D → D → Res D
  | .int a, .int b => .ok (.int (a - b))
  | _, _ => .bad
def mulD : D → D → Res D
  | .int a, .int b => if mulOk a b then .ok (.int (a * b)) else .bad
  | .lst a, .int k => if -(2 ^ 63) ≤ k ∧ k < 2 ^ 63 ∧ a.length * k.toNat ≤ sizeLine then .ok (.lst (List.replicate k.toNat a).flatten) else .bad
  | _, _ => .bad
def fdivD : D → D → Res D
  | .int a, .int b => if divOk a b then .ok (.int (a / b)) else .bad
  | _, _ => .bad
def modD : D → D → Res D
  | .int a, .int b => if 0 < b then .ok (.int (a % b)) else .bad
  | _, _ => .bad
def powD : D → D → Res D
  | .int a, .int b => if powOk a b then .ok (.int (a ^ b.toNat)) else .bad
  | _, _ => .bad
def shlD : D → D → Res D
  | .int a, .int b => if powOk a b then .ok (.int (a * 2 ^ b.toNat)) else .bad
  | _, _ => .bad
def shrD : D → D → Res D
  | .int a, .int b => if 0 ≤ b then .ok (.int (a / 2 ^ b.toNat)) else .bad
  | _, _ => .bad
def bandD : D → D → Res D
  | .int a, .int b => .ok (.int (Builtin.bitAnd a b))
  | _, _ => .bad
def ltD : D → D → Res D
  | .int a, .int b => .ok (.bl (decide (a < b)))
  | _, _ => .bad
def leD : D → D → Res D
  | .int a, .int b => .ok (.bl (decide (a ≤ b)))
  | _, _ => .bad
def gtD : D → D → Res D
  | .int a, .int b => .ok (.bl (decide (b < a)))
  | _, _ => .bad
def geD : D → D → Res D
  | .int a, .int b => .ok (.bl (decide (b ≤ a)))
  | _, _ => .bad
def isNonD : D → D → Res D
  | .non, .non => .ok (.bl true)
  | _, .non => .ok (.bl false)
  | _, _ => .bad
def notNonD : D → D → Res D
  | .non, .non => .ok (.bl false)
  | _, .non => .ok (.bl true)
  | _, _ => .bad
mutual
def toPy : D → Option PyData
  | .non => some .none
  | .bl b => some (.bool b)
  | .int i => some (.int i)
  | .str x => some (.str x)
  | .tup ds => match toPys ds with
    | some ps => some (.tuple ps)
    | none => none
  | .lst ds => match toPys ds with
    | some ps => some (.list ps)
    | none => none
  | .obj _ _ => none
  | .scr _ => none
def toPys : List D → Option (List PyData)
  | [] => some []
  | d :: ds => match toPy d, toPys ds with
    | some p, some ps => some (p :: ps)
    | _, _ => none
end
def eqB : D → D → Res Bool
  | .int a, .int b => .ok (decide (a = b))
  | .str a, .str b => .ok (decide (a = b))
  | .bl a, .bl b => .ok (decide (a = b))
  | .non, .non => .ok true
  | x, y => match toPy x, toPy y with
    | some p, some q => if SeqAt.shaped p && SeqAt.shaped q then .ok (PyData.eqv p q) else .bad
    | _, _ => .bad
def eqD : D → D → Res D := fun x y => eqB x y >>= fun k => .ok (.bl k)
def neD : D → D → Res D := fun x y => eqB x y >>= fun k => .ok (.bl (!k))
def flatD : D → Option V
  | .non => some .non
  | .bl b => some (.bl b)
  | .int i => some (.int i)
  | .str x => some (.str x)
  | _ => none
def flats : List D → Option (List V)
  | [] => some []
  | d :: ds => match flatD d, flats ds with
    | some v, some vs => some (v :: vs)
    | _, _ => none
def inB : D → D → Res Bool
  | x, .lst ys => match flatD x, flats ys with
    | some v, some vs => .ok (inV v vs)
    | _, _ => .bad
  | x, .tup ys => match flatD x, flats ys with
    | some v, some vs => .ok (inV v vs)
    | _, _ => .bad
  | .str i, .str j => .ok (!(Builtin.Str.occurrences j i 0 j.length 1).isEmpty)
  | _, _ => .bad
def inD : D → D → Res D := fun x y => inB x y >>= fun k => .ok (.bl k)
def ninD : D → D → Res D := fun x y => inB x y >>= fun k => .ok (.bl (!k))
/-! ### the rules -/
section
variable {T : CT} {X : Cx}
theorem op_int {f : Value → Value → Sem Value} {C : Int → Int → Prop} [∀ i j, Decidable (C i j)] {gi : Int → Int → D} {gv : Int → Int → V} {g : D → D → Res D} (h : OpR X f (rI C gv)) (hg : ∀ i j H Av, Rep (gx X T) H Av (gi i j) (gv i j))
    (h1 : ∀ i j, g (.int i) (.int j) = if C i j then .ok (gi i j) else .bad) (h2 : ∀ x y d, g x y = .ok d → ∃ i j, x = .int i ∧ y = .int j) (h3 : ∀ x y e, g x y ≠ .err e) : OpM T X f g := by
  refine ⟨_, h, fun σ H Av dx dy x y Q hav rx ry o => ?_⟩
  cases e : g dx dy with
  | ok d =>
    obtain ⟨i, j, rfl, rfl⟩ := h2 _ _ _ e
    rw [h1] at e
    by_cases hc : C i j
    · rw [h1, if_pos hc] at o
      exact ⟨i, j, rx, ry, hc, o _ _ (Same.refl H) (hg _ _ _ _)⟩
    · rw [if_neg hc] at e; cases e
  | err z => exact absurd e (h3 _ _ _)
  | bad => rw [e] at o; exact False.elim o
theorem op_int0 {f : Value → Value → Sem Value} {gi : Int → Int → D} {gv : Int → Int → V} {g : D → D → Res D} (h : OpR X f (rI0 gv)) (hg : ∀ i j H Av, Rep (gx X T) H Av (gi i j) (gv i j))
    (h1 : ∀ i j, g (.int i) (.int j) = .ok (gi i j)) (h2 : ∀ x y d, g x y = .ok d → ∃ i j, x = .int i ∧ y = .int j) (h3 : ∀ x y e, g x y ≠ .err e) : OpM T X f g := by
  refine ⟨_, h, fun σ H Av dx dy x y Q hav rx ry o => ?_⟩
  cases e : g dx dy with
  | ok d =>
    obtain ⟨i, j, rfl, rfl⟩ := h2 _ _ _ e
    rw [h1] at o
    exact ⟨i, j, rx, ry, o _ _ (Same.refl H) (hg _ _ _ _)⟩
  | err z => exact absurd e (h3 _ _ _)
  | bad => rw [e] at o; exact False.elim o
theorem om_sub : OpM T X (binaryOp .Sub) subD := op_int0 (gi := fun i j => .int (i - j)) op_sub (fun _ _ _ _ => rfl) (fun _ _ => rfl) (fun x y d h => by cases x <;> cases y <;> first | exact ⟨_, _, rfl, rfl⟩ | (exact nomatch h)) (fun x y e h => by cases x <;> cases y <;> exact nomatch h)
theorem om_band : OpM T X (binaryOp .BitAnd) bandD := op_int0 (gi := fun i j => .int (Builtin.bitAnd i j)) op_and (fun _ _ _ _ => rfl) (fun _ _ => rfl) (fun x y d h => by cases x <;> cases y <;> first | exact ⟨_, _, rfl, rfl⟩ | (exact nomatch h)) (fun x y e h => by cases x <;> cases y <;> exact nomatch h)
theorem om_lt : OpM T X (compareOp .Lt) ltD := op_int0 (gi := fun i j => .bl (decide (i < j))) op_lt (fun _ _ _ _ => rfl) (fun _ _ => rfl) (fun x y d h => by cases x <;> cases y <;> first | exact ⟨_, _, rfl, rfl⟩ | (exact nomatch h)) (fun x y e h => by cases x <;> cases y <;> exact nomatch h)
theorem om_le : OpM T X (compareOp .LtE) leD := op_int0 (gi := fun i j => .bl (decide (i ≤ j))) op_le (fun _ _ _ _ => rfl) (fun _ _ => rfl) (fun x y d h => by cases x <;> cases y <;> first | exact ⟨_, _, rfl, rfl⟩ | (exact nomatch h)) (fun x y e h => by cases x <;> cases y <;> exact nomatch h)
theorem om_gt : OpM T X (compareOp .Gt) gtD := op_int0 (gi := fun i j => .bl (decide (j < i))) op_gt (fun _ _ _ _ => rfl) (fun _ _ => rfl) (fun x y d h => by cases x <;> cases y <;> first | exact ⟨_, _, rfl, rfl⟩ | (exact nomatch h)) (fun x y e h => by cases x <;> cases y <;> exact nomatch h)
theorem om_ge : OpM T X (compareOp .GtE) geD := op_int0 (gi := fun i j => .bl (decide (j ≤ i))) op_ge (fun _ _ _ _ => rfl) (fun _ _ => rfl) (fun x y d h => by cases x <;> cases y <;> first | exact ⟨_, _, rfl, rfl⟩ | (exact nomatch h)) (fun x y e h => by cases x <;> cases y <;> exact nomatch h)
theorem om_fdiv : OpM T X (binaryOp .FloorDiv) fdivD := by
  refine op_int (C := divOk) (gi := fun i j => .int (i / j)) op_fdivW (fun _ _ _ _ => rfl) (fun _ _ => rfl) (fun x y d h => ?_) (fun x y e h => ?_)
  · cases x <;> cases y <;> first | exact ⟨_, _, rfl, rfl⟩ | (exact nomatch h)
  · cases x <;> cases y <;> first | (cases h; done) | (simp only [fdivD] at h; split at h <;> cases h)
theorem om_mod : OpM T X (binaryOp .Mod) modD := by
  refine op_int (C := fun _ j => 0 < j) (gi := fun i j => .int (i % j)) op_mod (fun _ _ _ _ => rfl) (fun _ _ => rfl) (fun x y d h => ?_) (fun x y e h => ?_)
  · cases x <;> cases y <;> first | exact ⟨_, _, rfl, rfl⟩ | (exact nomatch h)
  · cases x <;> cases y <;> first | (cases h; done) | (simp only [modD] at h; split at h <;> cases h)
theorem om_pow : OpM T X (binaryOp .Pow) powD := by
  refine op_int (C := powOk) (gi := fun i j => .int (i ^ j.toNat)) op_pow (fun _ _ _ _ => rfl) (fun _ _ => rfl) (fun x y d h => ?_) (fun x y e h => ?_)
  · cases x <;> cases y <;> first | exact ⟨_, _, rfl, rfl⟩ | (exact nomatch h)
  · cases x <;> cases y <;> first | (cases h; done) | (simp only [powD] at h; split at h <;> cases h)
theorem om_shl : OpM T X (binaryOp .LShift) shlD := by
  refine op_int (C := powOk) (gi := fun i j => .int (i * 2 ^ j.toNat)) op_shl (fun _ _ _ _ => rfl) (fun _ _ => rfl) (fun x y d h => ?_) (fun x y e h => ?_)
  · cases x <;> cases y <;> first | exact ⟨_, _, rfl, rfl⟩ | (exact nomatch h)
  · cases x <;> cases y <;> first | (cases h; done) | (simp only [shlD] at h; split at h <;> cases h)
theorem om_shr : OpM T X (binaryOp .RShift) shrD := by
  refine op_int (C := fun _ j => 0 ≤ j) (gi := fun i j => .int (i / 2 ^ j.toNat)) op_shr (fun _ _ _ _ => rfl) (fun _ _ => rfl) (fun x y d h => ?_) (fun x y e h => ?_)
  · cases x <;> cases y <;> first | exact ⟨_, _, rfl, rfl⟩ | (exact nomatch h)
  · cases x <;> cases y <;> first | (cases h; done) | (simp only [shrD] at h; split at h <;> cases h)
/-- a result where a condition holds -/
theorem Out.if {α : Type} {σ : L2.St} {H : Hp} {c : Prop} [Decidable c] {a : α} {P : α → Prop} (h : Out X T σ H (if c then .ok a else .bad) P) : c ∧ P a := by
  by_cases hc : c
  · rw [if_pos hc] at h; exact ⟨hc, h⟩
  · rw [if_neg hc] at h; exact False.elim h
theorem tup_sq {G : Gx} {H : Hp} {Av : Addr → Prop} {a : Addr} {vs : List V} (h : (H a = some (.tup vs) ∧ ¬ Av a) ∨ KTup G.K a vs) : SqT G.K H a vs := by
  rcases h with h | h
  · exact .inl (.inl h.1)
  · exact .inr h
theorem RepL.ne_nil {G : Gx} {H : Hp} {Av : Addr → Prop} {ds : List D} {vs : List V} (h : RepL G H Av ds vs) (n : ds ≠ []) : vs ≠ [] := fun e => by
  have := h.length
  rw [e] at this
  cases ds with
  | nil => exact n rfl
  | cons _ _ => simp at this
theorem om_add : OpM T X (binaryOp .Add) addD := by
  refine ⟨_, (op_add.or (op_add_str.or (op_cat.or op_catT))), fun σ H Av dx dy x y Q hav rx ry o => ?_⟩
  cases dx <;> cases dy <;> try exact False.elim o
  · exact .inl ⟨_, _, rx, ry, o _ _ (Same.refl H) rfl⟩
  · obtain ⟨hz, f⟩ := o.if
    exact .inr (.inl ⟨_, _, rx, ry, hz, f _ _ (Same.refl H) rfl⟩)
  · obtain ⟨⟨n1, n2, hz⟩, f⟩ := o.if
    obtain ⟨a, vs, rfl, ha, rv⟩ := rx
    obtain ⟨b, ws, rfl, hb, rw'⟩ := ry
    refine .inr (.inr (.inr ⟨a, b, vs, ws, rfl, rfl, tup_sq ha, tup_sq hb, rv.ne_nil n1, by rw [rv.length, rw'.length]; exact hz, fun e => absurd e (rw'.ne_nil n2), fun _ p hp => ?_⟩))
    have s := same_upd (o := .tup (vs ++ ws)) hp
    exact f _ _ s ⟨p, _, rfl, .inl ⟨upd_same, fun z => absurd hp (hav p z)⟩, (rv.same s).append (rw'.same s)⟩
  · obtain ⟨hz, f⟩ := o.if
    obtain ⟨a, vs, rfl, ha, rv⟩ := rx
    obtain ⟨b, ws, rfl, hb, rw'⟩ := ry
    refine .inr (.inr (.inl ⟨a, b, vs, ws, rfl, rfl, ha, hb, by rw [rv.length, rw'.length]; exact hz, fun p hp => ?_⟩))
    have s := same_upd (o := .lst (vs ++ ws)) hp
    exact f _ _ s ⟨p, _, rfl, ⟨upd_same, fun z => absurd hp (hav p z)⟩, (rv.same s).append (rw'.same s)⟩
theorem om_mul : OpM T X (binaryOp .Mult) mulD := by
  refine ⟨_, ((op_mul.or op_mulW).or op_rep), fun σ H Av dx dy x y Q hav rx ry o => ?_⟩
  cases dx <;> cases dy <;> try exact False.elim o
  · obtain ⟨hz, f⟩ := o.if
    rcases hz with hz | hz
    · exact .inl (.inl ⟨_, _, rx, ry, hz, f _ _ (Same.refl H) rfl⟩)
    · exact .inl (.inr ⟨_, _, rx, ry, hz, f _ _ (Same.refl H) rfl⟩)
  · rename_i ls k
    obtain ⟨⟨h1, h2, h3⟩, f⟩ := o.if
    obtain ⟨a, vs, rfl, ha, rv⟩ := rx
    refine .inr ⟨a, _, vs, rfl, ry, ha, h1, h2, by rw [rv.length]; exact h3, fun p hp => ?_⟩
    have s := same_upd (o := .lst (List.replicate (Int.toNat k) vs).flatten) hp
    exact f _ _ s ⟨p, _, rfl, ⟨upd_same, fun z => absurd hp (hav p z)⟩, (rv.same s).rep _⟩
theorem om_is : OpM T X (compareOp .Is) isNonD := by
  refine ⟨_, op_isN, fun σ H Av dx dy x y Q hav rx ry o => ?_⟩
  cases dy with
  | non =>
    refine ⟨ry, ?_⟩
    cases dx with
    | non => have rx : x = V.non := rx; rw [rx]; exact o _ _ (Same.refl H) rfl
    | bl b => have rx : x = V.bl b := rx; rw [rx]; exact o _ _ (Same.refl H) rfl
    | int b => have rx : x = V.int b := rx; rw [rx]; exact o _ _ (Same.refl H) rfl
    | str b => have rx : x = V.str b := rx; rw [rx]; exact o _ _ (Same.refl H) rfl
    | tup ds => obtain ⟨a, _, e, _⟩ := rx; rw [e]; exact o _ _ (Same.refl H) rfl
    | lst ds => obtain ⟨a, _, e, _⟩ := rx; rw [e]; exact o _ _ (Same.refl H) rfl
    | obj c ds => obtain ⟨a, _, _, e, _⟩ := rx; rw [e]; exact o _ _ (Same.refl H) rfl
    | scr ds => obtain ⟨a, e, _⟩ := rx; rw [e]; exact o _ _ (Same.refl H) rfl
  | _ => cases dx <;> exact False.elim o
theorem om_isnot : OpM T X (compareOp .IsNot) notNonD := by
  refine ⟨_, op_notN, fun σ H Av dx dy x y Q hav rx ry o => ?_⟩
  cases dy with
  | non =>
    refine ⟨ry, ?_⟩
    cases dx with
    | non => have rx : x = V.non := rx; rw [rx]; exact o _ _ (Same.refl H) rfl
    | bl b => have rx : x = V.bl b := rx; rw [rx]; exact o _ _ (Same.refl H) rfl
    | int b => have rx : x = V.int b := rx; rw [rx]; exact o _ _ (Same.refl H) rfl
    | str b => have rx : x = V.str b := rx; rw [rx]; exact o _ _ (Same.refl H) rfl
    | tup ds => obtain ⟨a, _, e, _⟩ := rx; rw [e]; exact o _ _ (Same.refl H) rfl
    | lst ds => obtain ⟨a, _, e, _⟩ := rx; rw [e]; exact o _ _ (Same.refl H) rfl
    | obj c ds => obtain ⟨a, _, _, e, _⟩ := rx; rw [e]; exact o _ _ (Same.refl H) rfl
    | scr ds => obtain ⟨a, e, _⟩ := rx; rw [e]; exact o _ _ (Same.refl H) rfl
  | _ => cases dx <;> exact False.elim o
/-! ### == -/
mutual
theorem toPy_dp {G : Gx} {H : Hp} {Av : Addr → Prop} : ∀ (d : D) {v : V} {p : PyData}, RepB G H Av d v → toPy d = some p → Dp G.K H v p
  | .non, v, p, r, e => by cases e; have r : v = V.non := r; rw [r]; exact .non
  | .bl b, v, p, r, e => by cases e; have r : v = V.bl b := r; rw [r]; exact .bl b
  | .int b, v, p, r, e => by cases e; have r : v = V.int b := r; rw [r]; exact .int b
  | .str b, v, p, r, e => by cases e; have r : v = V.str b := r; rw [r]; exact .str b
  | .tup ds, v, p, r, e => by
    obtain ⟨a, vs, rfl, h1, h2⟩ := r
    rw [toPy] at e
    cases q : toPys ds with
    | none => rw [q] at e; cases e
    | some ps => rw [q] at e; cases e; exact .tup (tup_sq h1) (toPys_dp ds h2 q)
  | .lst ds, v, p, r, e => by
    obtain ⟨a, vs, rfl, h1, h2⟩ := r
    rw [toPy] at e
    cases q : toPys ds with
    | none => rw [q] at e; cases e
    | some ps => rw [q] at e; cases e; exact .lst (SqL.of h1) (toPys_dp ds h2 q)
  | .obj c ds, v, p, r, e => by rw [toPy] at e; cases e
  | .scr ds, v, p, r, e => by rw [toPy] at e; cases e
theorem toPys_dp {G : Gx} {H : Hp} {Av : Addr → Prop} : ∀ (ds : List D) {vs : List V} {ps : List PyData}, RepL G H Av ds vs → toPys ds = some ps → DpAll G.K H vs ps
  | [], vs, ps, r, e => by
    rw [toPys] at e; cases e
    have r : vs = [] := r
    rw [r]; exact .nil
  | d :: ds, vs, ps, r, e => by
    obtain ⟨v, vr, rfl, r1, r2⟩ := r
    rw [toPys] at e
    cases q : toPy d with
    | none => rw [q] at e; cases e
    | some p =>
      cases q2 : toPys ds with
      | none => rw [q, q2] at e; cases e
      | some ps' => rw [q, q2] at e; cases e; exact .cons (toPy_dp d r1.b q) (toPys_dp ds r2 q2)
end
theorem eq_core {σ : L2.St} {H : Hp} {Av : Addr → Prop} {dx dy : D} {x y : V} {P : Bool → Prop} (rx : RepB (gx X T) H Av dx x) (ry : RepB (gx X T) H Av dy y) (o : Out X T σ H (eqB dx dy) P) :
    (scal x y = true ∧ P (decide (x = y))) ∨ ∃ d e, Dp X.K H x d ∧ Dp X.K H y e ∧ SeqAt.shaped d = true ∧ SeqAt.shaped e = true ∧ P (PyData.eqv d e) := by
  have gen : ∀ {r : Res Bool}, r = (match toPy dx, toPy dy with
    | some p, some q => if SeqAt.shaped p && SeqAt.shaped q then .ok (PyData.eqv p q) else .bad
    | _, _ => .bad) → Out X T σ H r P → ∃ d e, Dp X.K H x d ∧ Dp X.K H y e ∧ SeqAt.shaped d = true ∧ SeqAt.shaped e = true ∧ P (PyData.eqv d e) := by
    intro r e o
    subst e
    cases q1 : toPy dx with
    | none => rw [q1] at o; exact False.elim o
    | some p =>
      cases q2 : toPy dy with
      | none => rw [q1, q2] at o; exact False.elim o
      | some q =>
        rw [q1, q2] at o
        have o : Out X T σ H (if (SeqAt.shaped p && SeqAt.shaped q) = true then .ok (PyData.eqv p q) else .bad) P := o
        obtain ⟨hc, f⟩ := o.if
        rw [Bool.and_eq_true] at hc
        exact ⟨p, q, toPy_dp (G := gx X T) dx rx q1, toPy_dp (G := gx X T) dy ry q2, hc.1, hc.2, f⟩
  cases dx <;> cases dy <;> first
    | exact .inr (gen rfl o)
    | (left
       have rx : x = _ := rx
       have ry : y = _ := ry
       rw [rx, ry]
       refine ⟨rfl, ?_⟩
       have o : P _ := o
       simpa using o)
theorem om_eq (hu : X.A.units + 64 < cLine) : OpM T X (compareOp .Eq) eqD := by
  refine ⟨_, (op_eq.or (op_eqD hu)), fun σ H Av dx dy x y Q hav rx ry o => ?_⟩
  rcases eq_core rx ry o.bind with ⟨h1, h2⟩ | ⟨d, e, h1, h2, h3, h4, h5⟩
  · exact .inl ⟨h1, h2 _ _ (Same.refl H) rfl⟩
  · exact .inr ⟨d, e, h1, h2, h3, h4, h5 _ _ (Same.refl H) rfl⟩
theorem om_ne (hu : X.A.units + 64 < cLine) : OpM T X (compareOp .NotEq) neD := by
  refine ⟨_, (op_ne.or (op_neD hu)), fun σ H Av dx dy x y Q hav rx ry o => ?_⟩
  rcases eq_core rx ry o.bind with ⟨h1, h2⟩ | ⟨d, e, h1, h2, h3, h4, h5⟩
  · exact .inl ⟨h1, h2 _ _ (Same.refl H) rfl⟩
  · exact .inr ⟨d, e, h1, h2, h3, h4, h5 _ _ (Same.refl H) rfl⟩
/-! ### in -/
theorem flatD_rep {G : Gx} {H : Hp} {Av : Addr → Prop} {d : D} {v w : V} (r : Rep G H Av d v) (e : flatD d = some w) : v = w ∧ flatV w = true := by
  cases d <;> first | (cases e; exact ⟨r, rfl⟩) | (exact nomatch e)
theorem flats_rep {G : Gx} {H : Hp} {Av : Addr → Prop} : ∀ {ds : List D} {vs ws : List V}, RepL G H Av ds vs → flats ds = some ws → vs = ws ∧ ws.all flatV = true
  | [], vs, ws, r, e => by cases e; exact ⟨r, rfl⟩
  | d :: ds, vs, ws, r, e => by
    obtain ⟨v, vr, rfl, r1, r2⟩ := r
    unfold flats at e
    cases q : flatD d with
    | none => rw [q] at e; cases e
    | some u =>
      cases q2 : flats ds with
      | none => rw [q, q2] at e; cases e
      | some us =>
        rw [q, q2] at e
        cases e
        obtain ⟨e1, f1⟩ := flatD_rep r1 q
        obtain ⟨e2, f2⟩ := flats_rep r2 q2
        rw [e1, e2]
        exact ⟨rfl, by rw [List.all_cons, f1, f2]; rfl⟩
theorem in_core {σ : L2.St} {H : Hp} {Av : Addr → Prop} {dx dy : D} {x y : V} {P : Bool → Prop} (rx : RepB (gx X T) H Av dx x) (ry : RepB (gx X T) H Av dy y) (o : Out X T σ H (inB dx dy) P) :
    (∃ p xs, y = .ref p ∧ (SqL X.K H p xs ∨ SqT X.K H p xs) ∧ flatV x = true ∧ xs.all flatV = true ∧ P (inV x xs)) ∨ ∃ i j, x = .str i ∧ y = .str j ∧ P (!(Builtin.Str.occurrences j i 0 j.length 1).isEmpty) := by
  have gen : ∀ {ys : List D} {vs : List V}, RepL (gx X T) H Av ys vs → Out X T σ H (match flatD dx, flats ys with
      | some v, some vs => .ok (inV v vs)
      | _, _ => .bad) P → flatV x = true ∧ vs.all flatV = true ∧ P (inV x vs) := by
    intro ys vs r o
    cases q : flatD dx with
    | none => rw [q] at o; exact False.elim o
    | some u =>
      cases q2 : flats ys with
      | none => rw [q, q2] at o; exact False.elim o
      | some us =>
        rw [q, q2] at o
        have rx' : Rep (gx X T) H Av dx x := by
          cases dx <;> first | exact rx | (exact nomatch q)
        obtain ⟨e1, f1⟩ := flatD_rep rx' q
        obtain ⟨e2, f2⟩ := flats_rep r q2
        rw [e1, e2]
        exact ⟨f1, f2, o⟩
  cases dy with
  | lst ys =>
    obtain ⟨a, vs, rfl, h1, h2⟩ := ry
    have o : Out X T σ H (match flatD dx, flats ys with
      | some v, some vs => .ok (inV v vs)
      | _, _ => .bad) P := by cases dx <;> exact o
    obtain ⟨f1, f2, f3⟩ := gen h2 o
    exact .inl ⟨a, vs, rfl, .inl (SqL.of h1), f1, f2, f3⟩
  | tup ys =>
    obtain ⟨a, vs, rfl, h1, h2⟩ := ry
    have o : Out X T σ H (match flatD dx, flats ys with
      | some v, some vs => .ok (inV v vs)
      | _, _ => .bad) P := by cases dx <;> exact o
    obtain ⟨f1, f2, f3⟩ := gen h2 o
    exact .inl ⟨a, vs, rfl, .inr (tup_sq h1), f1, f2, f3⟩
  | str j =>
    cases dx with
    | str i => exact .inr ⟨i, j, rx, ry, o⟩
    | _ => exact False.elim o
  | _ => cases dx <;> exact False.elim o
theorem om_in : OpM T X (compareOp .In) inD := by
  refine ⟨_, (op_in_seq.or op_in_str), fun σ H Av dx dy x y Q hav rx ry o => ?_⟩
  rcases in_core rx ry o.bind with ⟨p, xs, h1, h2, h3, h4, h5⟩ | ⟨i, j, h1, h2, h3⟩
  · exact .inl ⟨p, xs, h1, h2, h3, h4, h5 _ _ (Same.refl H) rfl⟩
  · exact .inr ⟨i, j, h1, h2, h3 _ _ (Same.refl H) rfl⟩
theorem om_notin : OpM T X (compareOp .NotIn) ninD := by
  refine ⟨_, (op_notIn_seq.or op_notIn_str), fun σ H Av dx dy x y Q hav rx ry o => ?_⟩
  rcases in_core rx ry o.bind with ⟨p, xs, h1, h2, h3, h4, h5⟩ | ⟨i, j, h1, h2, h3⟩
  · exact .inl ⟨p, xs, h1, h2, h3, h4, h5 _ _ (Same.refl H) rfl⟩
  · exact .inr ⟨i, j, h1, h2, h3 _ _ (Same.refl H) rfl⟩
end
end Cr
/-! Core, part 4: items, slices, built-ins, own defs, methods, instances. -/
namespace Cr
open PySem PySem.Spec PyProof.Rows L2
section
variable {T : CT} {Fb : Gh} {X : Cx} {e a b c : Expr} {es : List Expr} {m ma mb mc : Env → Res D} {pos : Pos}
/-! ### -x -/
def negD : D → Res D
  | .int i => .ok (.int (-i))
  | _ => .bad
def mUn (g : D → Res D) (ma : Env → Res D) : Env → Res D := fun ρ => ma ρ >>= g
theorem me_neg (ha : MB T Fb X a ma) : ME T Fb X (.UnaryOp .USub a pos) (mUn negD ma) := by
  refine ⟨fun σ H F ρ Q S o => (pe_un un_neg pe_tw).tw ?_⟩
  refine ha.run σ H F ρ _ S (o.bind.imp fun d _ o1 v H1 s r => ?_)
  cases d with
  | int i => exact ⟨i, r, o1 _ _ s rfl⟩
  | _ => exact False.elim o1
/-! ### items -/
def opt {α : Type} : Option α → Res α
  | some a => .ok a
  | none => .bad
def idxD : D → D → Res D
  | .lst xs, .int i => opt (atI xs i)
  | .tup xs, .int i => opt (atI xs i)
  | .scr ns, .int i => opt ((atI ns i).map .int)
  | .str z, .int i => if z.length ≤ sizeLine then opt ((atI z.cps.toList i).map fun c => .str ⟨#[c]⟩) else .bad
  | _, _ => .bad
theorem RepL.atI {G : Gx} {H : Hp} {Av : Addr → Prop} {ds : List D} {vs : List V} {i : Int} {d : D} (r : RepL G H Av ds vs) (h : L2.atI ds i = some d) : ∃ v, L2.atI vs i = some v ∧ Rep G H Av d v := by
  unfold L2.atI at h ⊢
  rw [r.length]
  cases q : ixN ds.length i with
  | none => rw [q] at h; cases h
  | some j =>
    rw [q] at h
    exact r.get (i := j) h
theorem atI_map {α β : Type} (f : α → β) (xs : List α) (i : Int) : L2.atI (xs.map f) i = (L2.atI xs i).map f := by
  unfold L2.atI
  rw [List.length_map]
  cases ixN xs.length i with
  | none => rfl
  | some j => show (xs.map f)[j]? = (xs[j]?).map f; rw [List.getElem?_map]
theorem scr_sq {G : Gx} {H : Hp} {Av : Addr → Prop} {a : Addr} {vs : List V} (h : (Rd H a (.lst vs) ∧ ¬ Av a) ∨ KLst G.K a vs) : SqL G.K H a vs := by
  rcases h with h | h
  · exact .inl h.1
  · exact .inr h
theorem Out.opt {α : Type} {σ : L2.St} {H : Hp} {x : Option α} {P : α → Prop} (h : Out X T σ H (Cr.opt x) P) : ∃ a, x = some a ∧ P a := by
  cases x with
  | none => exact False.elim h
  | some a => exact ⟨a, rfl, h⟩
theorem me_ix (ha : MB T Fb X a ma) (hb : MB T Fb X b mb) (hs : PlainIx b := by exact fun _ _ => rfl) : ME T Fb X (.Subscript a b pos) (mBin idxD ma mb) := by
  refine ⟨fun σ H F ρ Q S o => (pe_ix ix_seq pe_tw pe_tw hs).tw ?_⟩
  refine ha.run σ H F ρ _ S (o.bind.imp fun x _ o1 v H1 s1 r1 => ?_)
  refine hb.run σ H1 F ρ _ (S.same s1) ((o1.same s1).bind.imp fun y _ o2 u H2 s2 r2 => ?_)
  have r1 := r1.same s2
  have s12 := s1.trans s2
  cases y with
  | int i =>
    have r2 : u = V.int i := r2
    cases x with
    | lst xs =>
      obtain ⟨d, e, f⟩ := o2.opt
      obtain ⟨p, vs, rfl, h1, h2⟩ := r1
      obtain ⟨w, e2, r⟩ := h2.atI e
      exact .inl ⟨p, vs, i, w, rfl, r2, SqL.of h1, e2, f _ _ s12 r⟩
    | tup xs =>
      obtain ⟨d, e, f⟩ := o2.opt
      obtain ⟨p, vs, rfl, h1, h2⟩ := r1
      obtain ⟨w, e2, r⟩ := h2.atI e
      exact .inr (.inl ⟨p, vs, i, w, rfl, r2, tup_sq h1, e2, f _ _ s12 r⟩)
    | scr ns =>
      obtain ⟨d, e, f⟩ := o2.opt
      obtain ⟨p, rfl, h1⟩ := r1
      cases q : L2.atI ns i with
      | none => rw [q] at e; cases e
      | some n =>
        rw [q] at e; cases e
        exact .inl ⟨p, ns.map V.int, i, V.int n, rfl, r2, scr_sq h1, by rw [atI_map, q]; rfl, f _ _ s12 rfl⟩
    | str z =>
      obtain ⟨hz, o3⟩ : z.length ≤ sizeLine ∧ Out X T σ H1 (opt ((L2.atI z.cps.toList i).map fun c => D.str ⟨#[c]⟩)) _ := by
        have o2 : Out X T σ H1 (if z.length ≤ sizeLine then opt ((L2.atI z.cps.toList i).map fun c => D.str ⟨#[c]⟩) else .bad) _ := o2
        by_cases hz : z.length ≤ sizeLine
        · rw [if_pos hz] at o2; exact ⟨hz, o2⟩
        · rw [if_neg hz] at o2; exact False.elim o2
      obtain ⟨d, e, f⟩ := o3.opt
      cases q : L2.atI z.cps.toList i with
      | none => rw [q] at e; cases e
      | some n =>
        rw [q] at e; cases e
        have r1 : v = V.str z := r1
        exact .inr (.inr ⟨z, i, n, r1, r2, hz, q, f _ _ s12 rfl⟩)
    | _ => exact False.elim o2
  | _ => cases x <;> exact False.elim o2
/-! ### slices -/
structure MO (T : CT) (Fb : Gh) (X : Cx) (e : Option Expr) (m : Env → Res (Option Int)) : Prop where
  ex : ∃ t : TO, PO X e t ∧ ∀ (σ : L2.St) (H : Hp) (F : List Addr) (ρ : Env) (Q : Option Int → Hp → Prop), StR (gx X T) Fb H σ ρ F →
    Out X T σ H (m ρ) (fun o => ∀ H', Same H H' → Q o H') → t σ H Q
def mNo : Env → Res (Option Int) := fun _ => .ok none
def intO : D → Res (Option Int)
  | .int i => .ok (some i)
  | _ => .bad
def mPart (m : Env → Res D) : Env → Res (Option Int) := fun ρ => m ρ >>= intO
theorem mo_none : MO T Fb X none mNo := ⟨_, po_none, fun σ H F ρ Q S o => o H (Same.refl H)⟩
theorem mo_some (h : MB T Fb X e m) : MO T Fb X (some e) (mPart m) := by
  refine ⟨_, po_some pe_tw, fun σ H F ρ Q S o => ?_⟩
  refine h.run σ H F ρ _ S (o.bind.imp fun d _ o1 v H1 s r => ?_)
  cases d with
  | int i => exact ⟨i, r, o1 _ s⟩
  | _ => exact False.elim o1
def cutG {α : Type} (xs : List α) (lo hi : Option Int) : List α := (xs.drop (HT.sIx xs.length 0 lo)).take (HT.sIx xs.length xs.length hi - HT.sIx xs.length 0 lo)
theorem RepL.cut {G : Gx} {H : Hp} {Av : Addr → Prop} {ds : List D} {vs : List V} (r : RepL G H Av ds vs) (lo hi : Option Int) : RepL G H Av (cutG ds lo hi) (cutV vs lo hi) := by
  unfold cutG cutV
  rw [r.length]
  exact (r.drop _).take _
def cutL : D → Option Int → Option Int → Res (List D)
  | .lst xs, lo, hi => .ok (cutG xs lo hi)
  | _, _, _ => .bad
def cutD : D → Option Int → Option Int → Res D
  | .lst xs, lo, hi => .ok (.lst (cutG xs lo hi))
  | .tup xs, lo, hi => if ¬ (HT.sIx xs.length 0 lo = 0 ∧ HT.sIx xs.length xs.length hi = xs.length) then .ok (.tup (cutG xs lo hi)) else .bad
  | .str z, lo, hi => if z.length ≤ sizeLine then .ok (.str (cutS z lo hi)) else .bad
  | _, _, _ => .bad
def mSl {α : Type} (g : D → Option Int → Option Int → Res α) (ma : Env → Res D) (ml mh : Env → Res (Option Int)) : Env → Res α := fun ρ => ma ρ >>= fun x => ml ρ >>= fun l => mh ρ >>= fun h => g x l h
variable {lo hi : Option Expr} {ml mh : Env → Res (Option Int)} {p2 : Pos}
theorem mf_slice (ha : MB T Fb X a ma) (hl : MO T Fb X lo ml) (hh : MO T Fb X hi mh) : MF T Fb X (.Subscript a (.Slice lo hi none p2) pos) (mSl cutL ma ml mh) := by
  obtain ⟨tl, pl, fl⟩ := hl.ex
  obtain ⟨th, ph, fh⟩ := hh.ex
  refine ⟨fun σ H F ρ Q S o => (pe_slice sl_list pe_tw pl ph).tw ?_⟩
  refine ha.run σ H F ρ _ S (o.bind.imp fun x _ o1 v H1 s1 r1 => ?_)
  refine fl σ H1 F ρ _ (S.same s1) ((o1.same s1).bind.imp fun l _ o2 H2 s2 => ?_)
  refine fh σ H2 F ρ _ ((S.same s1).same s2) ((o2.same s2).bind.imp fun h _ o3 H3 s3 => ?_)
  cases x with
  | lst xs =>
    obtain ⟨p, vs, rfl, h1, h2⟩ := (r1.same s2).same s3
    refine ⟨p, vs, rfl, SqL.of h1, fun q hq => ?_⟩
    have s := same_upd (o := .lst (cutV vs l h)) hq
    exact o3 q _ _ ((s1.trans (s2.trans s3)).free hq) ((s1.trans (s2.trans s3)).trans s) upd_same ((h2.cut l h).new hq)
  | _ => exact False.elim o3
theorem me_slice (ha : MB T Fb X a ma) (hl : MO T Fb X lo ml) (hh : MO T Fb X hi mh) : ME T Fb X (.Subscript a (.Slice lo hi none p2) pos) (mSl cutD ma ml mh) := by
  obtain ⟨tl, pl, fl⟩ := hl.ex
  obtain ⟨th, ph, fh⟩ := hh.ex
  refine ⟨fun σ H F ρ Q S o => (pe_slice (sl_list.or (sl_tup.or sl_str)) pe_tw pl ph).tw ?_⟩
  refine ha.run σ H F ρ _ S (o.bind.imp fun x _ o1 v H1 s1 r1 => ?_)
  refine fl σ H1 F ρ _ (S.same s1) ((o1.same s1).bind.imp fun l _ o2 H2 s2 => ?_)
  refine fh σ H2 F ρ _ ((S.same s1).same s2) ((o2.same s2).bind.imp fun h _ o3 H3 s3 => ?_)
  have S3 := ((S.same s1).same s2).same s3
  have s := s1.trans (s2.trans s3)
  have r1 := (r1.same s2).same s3
  cases x with
  | lst xs =>
    obtain ⟨p, vs, rfl, h1, h2⟩ := r1
    refine .inl ⟨p, vs, rfl, SqL.of h1, fun q hq => ?_⟩
    have s' := same_upd (o := .lst (cutV vs l h)) hq
    exact o3 _ _ (s.trans s') ⟨q, _, rfl, ⟨upd_same, avo_no S3.av hq⟩, (h2.cut l h).same s'⟩
  | tup xs =>
    obtain ⟨hc, f⟩ := o3.if
    obtain ⟨p, vs, rfl, h1, h2⟩ := r1
    refine .inr (.inl ⟨p, vs, rfl, tup_sq h1, by rw [h2.length]; exact hc, fun q hq => ?_⟩)
    have s' := same_upd (o := .tup (cutV vs l h)) hq
    exact f _ _ (s.trans s') ⟨q, _, rfl, .inl ⟨upd_same, avo_no S3.av hq⟩, (h2.cut l h).same s'⟩
  | str z =>
    obtain ⟨hc, f⟩ := o3.if
    have r1 : v = V.str z := r1
    exact .inr (.inr ⟨z, r1, hc, f _ _ s rfl⟩)
  | _ => exact False.elim o3
def revL : D → Res (List D)
  | .lst xs => .ok xs.reverse
  | _ => .bad
def mUnF (g : D → Res (List D)) (ma : Env → Res D) : Env → Res (List D) := fun ρ => ma ρ >>= g
theorem mf_rev {k : Nat} {p1 p2 p3 : Pos} (ha : MB T Fb X a ma) : MF T Fb X (.Subscript a (.Slice none none (some (.UnaryOp .USub (.Constant (.int 1) k p1) p2)) p3) pos) (mUnF revL ma) := by
  refine ⟨fun σ H F ρ Q S o => (pe_revL pe_tw).tw ?_⟩
  refine ha.run σ H F ρ _ S (o.bind.imp fun x _ o1 v H1 s1 r1 => ?_)
  cases x with
  | lst xs =>
    obtain ⟨p, vs, rfl, h1, h2⟩ := r1
    refine ⟨p, vs, rfl, SqL.of h1, fun q hq => ?_⟩
    have s := same_upd (o := .lst vs.reverse) hq
    exact o1 q _ _ (s1.free hq) (s1.trans s) upd_same (h2.reverse.new hq)
  | _ => exact False.elim o1
/-! ### built-ins by values -/
structure CallM (T : CT) (X : Cx) (f : Value) (g : List D → Res D) : Prop where
  ex : ∃ r : List V → Hp → VK → Prop, CallR X f r ∧ ∀ (σ : L2.St) (H : Hp) (Av : Addr → Prop) (ds : List D) (vs : List V) (Q : VK), (∀ a, Av a → H a ≠ none) → Paired (RepB (gx X T) H Av) ds vs →
    Out X T σ H (g ds) (fun d => ∀ v H', Same H H' → Rep (gx X T) H' Av d v → Q v H') → r vs H Q
structure CallF (T : CT) (X : Cx) (f : Value) (g : List D → Res (List D)) : Prop where
  ex : ∃ r : List V → Hp → VK → Prop, CallR X f r ∧ ∀ (σ : L2.St) (H : Hp) (Av : Addr → Prop) (ds : List D) (vs : List V) (Q : VK), (∀ a, Av a → H a ≠ none) → Paired (RepB (gx X T) H Av) ds vs →
    Out X T σ H (g ds) (fun xs => ∀ p vs H', H p = none → Same H H' → H' p = some (.lst vs) → RepL (gx X T) H' (fun a => a = p ∨ Av a) xs vs → Q (.ref p) H') → r vs H Q
def mArg {α : Type} (g : List D → Res α) (m : Env → Res (List D)) : Env → Res α := fun ρ => m ρ >>= g
variable {x : Str} {p : Pos} {bid ty : String}
theorem me_bi {g : List D → Res D} {mr : Env → Res (List D)} (hf : CallM T X (.builtin bid) g) (hm : X.mg x = none) (hv : bootBuiltins x = some (.builtin bid)) (ha : MLb T Fb X (e :: es) mr) (hg : Gl X x := by rfl) (hn : x ≠ "__name__" := by decide) (hdb : (x == ("__debug__" : Str)) = false := by decide)
    (he : starEach (e :: es) X.env = (false, eval e X.env) :: starEach es X.env := by rfl) (hpl : (backTo pos (starEach es X.env)).any (·.1) = false := by rfl) : ME T Fb X (.Call (.Name x p) (e :: es) [] pos) (mArg g mr) := by
  obtain ⟨r, hr, f⟩ := hf.ex
  refine ⟨fun σ H F ρ Q S o => (pe_callB hr hg hm hv pa_tw hn hdb he hpl).tw ?_⟩
  refine ha.run σ H F ρ _ S (o.bind.imp fun ds _ o1 vs H1 s1 r1 => ?_)
  exact f σ H1 (avo Fb F) ds vs Q (S.same s1).av r1 ((o1.same s1).imp fun d _ f v H2 s2 r2 => f v H2 (s1.trans s2) r2)
theorem me_bty {g : List D → Res D} {mr : Env → Res (List D)} (hf : CallM T X (.type ty) g) (hm : X.mg x = none) (hv : bootBuiltins x = some (.type ty)) (ha : MLb T Fb X (e :: es) mr) (hg : Gl X x := by rfl) (hn : x ≠ "__name__" := by decide) (hdb : (x == ("__debug__" : Str)) = false := by decide)
    (he : starEach (e :: es) X.env = (false, eval e X.env) :: starEach es X.env := by rfl) (hpl : (backTo pos (starEach es X.env)).any (·.1) = false := by rfl) : ME T Fb X (.Call (.Name x p) (e :: es) [] pos) (mArg g mr) := by
  obtain ⟨r, hr, f⟩ := hf.ex
  refine ⟨fun σ H F ρ Q S o => (pe_callTy hr hg hm hv pa_tw hn hdb he hpl).tw ?_⟩
  refine ha.run σ H F ρ _ S (o.bind.imp fun ds _ o1 vs H1 s1 r1 => ?_)
  exact f σ H1 (avo Fb F) ds vs Q (S.same s1).av r1 ((o1.same s1).imp fun d _ f v H2 s2 r2 => f v H2 (s1.trans s2) r2)
theorem mf_bty {g : List D → Res (List D)} {mr : Env → Res (List D)} (hf : CallF T X (.type ty) g) (hm : X.mg x = none) (hv : bootBuiltins x = some (.type ty)) (ha : MLb T Fb X (e :: es) mr) (hg : Gl X x := by rfl) (hn : x ≠ "__name__" := by decide) (hdb : (x == ("__debug__" : Str)) = false := by decide)
    (he : starEach (e :: es) X.env = (false, eval e X.env) :: starEach es X.env := by rfl) (hpl : (backTo pos (starEach es X.env)).any (·.1) = false := by rfl) : MF T Fb X (.Call (.Name x p) (e :: es) [] pos) (mArg g mr) := by
  obtain ⟨r, hr, f⟩ := hf.ex
  refine ⟨fun σ H F ρ Q S o => (pe_callTy hr hg hm hv pa_tw hn hdb he hpl).tw ?_⟩
  refine ha.run σ H F ρ _ S (o.bind.imp fun ds _ o1 vs H1 s1 r1 => ?_)
  exact f σ H1 (avo Fb F) ds vs Q (S.same s1).av r1 ((o1.same s1).imp fun d _ f p vs H2 n s2 r2 => f p vs H2 (s1.free n) (s1.trans s2) r2)
theorem paired1 {α β : Type} {R : α → β → Prop} {x : α} {vs : List β} (h : Paired R [x] vs) : ∃ v, vs = [v] ∧ R x v := by
  cases h with
  | cons r t => cases t; exact ⟨_, rfl, r⟩
theorem paired2 {α β : Type} {R : α → β → Prop} {x y : α} {vs : List β} (h : Paired R [x, y] vs) : ∃ v w, vs = [v, w] ∧ R x v ∧ R y w := by
  cases h with
  | cons r t =>
    obtain ⟨w, rfl, r2⟩ := paired1 t
    exact ⟨_, w, rfl, r, r2⟩
def lenD : List D → Res D
  | [.lst xs] => .ok (.int xs.length)
  | [.tup xs] => .ok (.int xs.length)
  | [.scr xs] => .ok (.int xs.length)
  | [.str z] => if z.length ≤ sizeLine then .ok (.int z.length) else .bad
  | _ => .bad
theorem cm_len : CallM T X (.builtin "len") lenD := by
  refine ⟨_, call_len_seq.or call_len_str, fun σ H Av ds vs Q hav r o => ?_⟩
  match ds, o with
  | [.lst xs], o =>
    obtain ⟨v, rfl, a, ws, rfl, h1, h2⟩ := paired1 r
    exact .inl ⟨a, ws, rfl, .inl (SqL.of h1), by rw [h2.length]; exact o _ _ (Same.refl H) rfl⟩
  | [.tup xs], o =>
    obtain ⟨v, rfl, a, ws, rfl, h1, h2⟩ := paired1 r
    exact .inl ⟨a, ws, rfl, .inr (tup_sq h1), by rw [h2.length]; exact o _ _ (Same.refl H) rfl⟩
  | [.scr xs], o =>
    obtain ⟨v, rfl, a, rfl, h1⟩ := paired1 r
    exact .inl ⟨a, _, rfl, .inl (scr_sq h1), by rw [List.length_map]; exact o _ _ (Same.refl H) rfl⟩
  | [.str z], o =>
    obtain ⟨hz, f⟩ := o.if
    obtain ⟨v, rfl, h1⟩ := paired1 r
    have h1 : v = V.str z := h1
    exact .inr ⟨z, by rw [h1], hz, f _ _ (Same.refl H) rfl⟩
def absD : List D → Res D
  | [.int i] => .ok (.int (if i < 0 then -i else i))
  | _ => .bad
theorem cm_abs : CallM T X (.builtin "abs") absD := by
  refine ⟨_, call_abs, fun σ H Av ds vs Q hav r o => ?_⟩
  match ds, o with
  | [.int i], o =>
    obtain ⟨v, rfl, h1⟩ := paired1 r
    have h1 : v = V.int i := h1
    exact ⟨i, by rw [h1], o _ _ (Same.refl H) rfl⟩
def max2D : List D → Res D
  | [.int i, .int j] => .ok (.int (max i j))
  | _ => .bad
def min2D : List D → Res D
  | [.int i, .int j] => .ok (.int (min i j))
  | _ => .bad
theorem cm_max2 (hc : X.calm = true) : CallM T X (.builtin "max") max2D := by
  refine ⟨_, call_max2 hc, fun σ H Av ds vs Q hav r o => ?_⟩
  match ds, o with
  | [.int i, .int j], o =>
    obtain ⟨v, w, rfl, h1, h2⟩ := paired2 r
    have h1 : v = V.int i := h1
    have h2 : w = V.int j := h2
    refine ⟨i, j, by rw [h1, h2], ?_⟩
    have e : (if j > i then j else i) = max i j := by split <;> omega
    rw [e]
    exact o _ _ (Same.refl H) rfl
theorem cm_min2 (hc : X.calm = true) : CallM T X (.builtin "min") min2D := by
  refine ⟨_, call_min2 hc, fun σ H Av ds vs Q hav r o => ?_⟩
  match ds, o with
  | [.int i, .int j], o =>
    obtain ⟨v, w, rfl, h1, h2⟩ := paired2 r
    have h1 : v = V.int i := h1
    have h2 : w = V.int j := h2
    refine ⟨i, j, by rw [h1, h2], ?_⟩
    have e : (if j < i then j else i) = min i j := by split <;> omega
    rw [e]
    exact o _ _ (Same.refl H) rfl
def intD : List D → Res D
  | [.int i] => .ok (.int i)
  | [.bl k] => .ok (.int (if k then 1 else 0))
  | _ => .bad
theorem cm_int : CallM T X (.type "int") intD := by
  refine ⟨_, call_int1, fun σ H Av ds vs Q hav r o => ?_⟩
  match ds, o with
  | [.int i], o =>
    obtain ⟨v, rfl, h1⟩ := paired1 r
    have h1 : v = V.int i := h1
    exact .inl ⟨i, by rw [h1], o _ _ (Same.refl H) rfl⟩
  | [.bl i], o =>
    obtain ⟨v, rfl, h1⟩ := paired1 r
    have h1 : v = V.bl i := h1
    exact .inr ⟨i, by rw [h1], o _ _ (Same.refl H) rfl⟩
def tupD : List D → Res D
  | [.lst xs] => .ok (.tup xs)
  | [.tup xs] => .ok (.tup xs)
  | _ => .bad
theorem cm_tup : CallM T X (.type "tuple") tupD := by
  refine ⟨_, call_tuple_of, fun σ H Av ds vs Q hav r o => ?_⟩
  match ds, o with
  | [.lst xs], o =>
    obtain ⟨v, rfl, a, ws, rfl, h1, h2⟩ := paired1 r
    refine ⟨a, ws, rfl, .inl ⟨SqL.of h1, fun l hl => ?_⟩⟩
    have s := same_upd (o := .tup ws) hl
    exact o _ _ s ⟨l, ws, rfl, .inl ⟨upd_same, fun z => absurd hl (hav l z)⟩, h2.same s⟩
  | [.tup xs], o =>
    obtain ⟨v, rfl, a, ws, rfl, h1, h2⟩ := paired1 r
    exact ⟨a, ws, rfl, .inr ⟨tup_sq h1, o _ _ (Same.refl H) ⟨a, ws, rfl, h1, h2⟩⟩⟩
def listD : List D → Res (List D)
  | [.lst xs] => .ok xs
  | [.tup xs] => .ok xs
  | _ => .bad
theorem cf_list : CallF T X (.type "list") listD := by
  refine ⟨_, call_list_of, fun σ H Av ds vs Q hav r o => ?_⟩
  match ds, o with
  | [.lst xs], o =>
    obtain ⟨v, rfl, a, ws, rfl, h1, h2⟩ := paired1 r
    refine ⟨a, ws, rfl, .inl (SqL.of h1), fun l hl => ?_⟩
    have s := same_upd (o := .lst ws) hl
    exact o l ws _ hl s upd_same (h2.new hl)
  | [.tup xs], o =>
    obtain ⟨v, rfl, a, ws, rfl, h1, h2⟩ := paired1 r
    refine ⟨a, ws, rfl, .inr (tup_sq h1), fun l hl => ?_⟩
    have s := same_upd (o := .lst ws) hl
    exact o l ws _ hl s upd_same (h2.new hl)
/-- lists of whole numbers, of truths -/
def intsOf : List D → Option (List Int)
  | [] => some []
  | .int i :: ds => (intsOf ds).map (i :: ·)
  | _ => none
def boolsOf : List D → Option (List Bool)
  | [] => some []
  | .bl i :: ds => (boolsOf ds).map (i :: ·)
  | _ => none
theorem ints_rep {G : Gx} {H : Hp} {Av : Addr → Prop} : ∀ {ds : List D} {vs : List V} {ns : List Int}, RepL G H Av ds vs → intsOf ds = some ns → vs = ns.map V.int := by
  intro ds
  induction ds with
  | nil => intro vs ns r e; cases e; exact r
  | cons d ds ih =>
    intro vs ns r e
    obtain ⟨v, vr, rfl, r1, r2⟩ := r
    cases d with
    | int i =>
      have e : (intsOf ds).map (i :: ·) = some ns := e
      cases q : intsOf ds with
      | none => rw [q] at e; cases e
      | some ms =>
        rw [q] at e; cases e
        have r1 : v = V.int i := r1
        rw [r1, ih r2 q]; rfl
    | _ => exact nomatch (show (none : Option (List Int)) = some ns from e)
theorem bools_rep {G : Gx} {H : Hp} {Av : Addr → Prop} : ∀ {ds : List D} {vs : List V} {ns : List Bool}, RepL G H Av ds vs → boolsOf ds = some ns → vs = ns.map V.bl := by
  intro ds
  induction ds with
  | nil => intro vs ns r e; cases e; exact r
  | cons d ds ih =>
    intro vs ns r e
    obtain ⟨v, vr, rfl, r1, r2⟩ := r
    cases d with
    | bl i =>
      have e : (boolsOf ds).map (i :: ·) = some ns := e
      cases q : boolsOf ds with
      | none => rw [q] at e; cases e
      | some ms =>
        rw [q] at e; cases e
        have r1 : v = V.bl i := r1
        rw [r1, ih r2 q]; rfl
    | _ => exact nomatch (show (none : Option (List Bool)) = some ns from e)
def sumD : List D → Res D
  | [.lst xs] => opt (intsOf xs) >>= fun ns => .ok (.int ns.sum)
  | _ => .bad
theorem cm_sum (hc : X.calm = true) : CallM T X (.builtin "sum") sumD := by
  refine ⟨_, cr_sum hc, fun σ H Av ds vs Q hav r o => ?_⟩
  match ds, o with
  | [.lst xs], o =>
    obtain ⟨ns, e, f⟩ := o.bind.opt
    obtain ⟨v, rfl, a, ws, rfl, h1, h2⟩ := paired1 r
    rw [ints_rep h2 e] at h1
    exact ⟨a, ns, rfl, SqL.of h1, f _ _ (Same.refl H) rfl⟩
def allD : List D → Res D
  | [.lst xs] => opt (boolsOf xs) >>= fun ns => .ok (.bl (ns.all id))
  | _ => .bad
theorem cm_all (hc : X.calm = true) : CallM T X (.builtin "all") allD := by
  refine ⟨_, cr_all hc, fun σ H Av ds vs Q hav r o => ?_⟩
  match ds, o with
  | [.lst xs], o =>
    obtain ⟨ns, e, f⟩ := o.bind.opt
    obtain ⟨v, rfl, a, ws, rfl, h1, h2⟩ := paired1 r
    rw [bools_rep h2 e] at h1
    exact ⟨a, ns, rfl, SqL.of h1, f _ _ (Same.refl H) rfl⟩
def anyD : List D → Res D
  | [.lst xs] => opt (boolsOf xs) >>= fun ns => .ok (.bl (ns.any id))
  | _ => .bad
theorem cm_any (hc : X.calm = true) : CallM T X (.builtin "any") anyD := by
  refine ⟨_, cr_any hc, fun σ H Av ds vs Q hav r o => ?_⟩
  match ds, o with
  | [.lst xs], o =>
    obtain ⟨ns, e, f⟩ := o.bind.opt
    obtain ⟨v, rfl, a, ws, rfl, h1, h2⟩ := paired1 r
    rw [bools_rep h2 e] at h1
    exact ⟨a, ns, rfl, SqL.of h1, f _ _ (Same.refl H) rfl⟩
def listMax : List Int → Int
  | [] => 0
  | [a] => a
  | a :: as => max a (listMax as)
def listMin : List Int → Int
  | [] => 0
  | [a] => a
  | a :: as => min a (listMin as)
theorem listMax_eq : ∀ {ns : List Int} {m : Int}, m ∈ ns → (∀ y ∈ ns, y ≤ m) → m = listMax ns
  | [a], m, h, _ => by rw [List.mem_singleton.mp h]; rfl
  | a :: b :: r, m, h, f => by
    rw [listMax]
    · rcases List.mem_cons.mp h with e | h
      · have q : ∀ {l : List Int}, l ≠ [] → listMax l ∈ l := by
          intro l
          induction l with
          | nil => intro z; exact absurd rfl z
          | cons x xs ih =>
            intro _
            cases xs with
            | nil => exact List.mem_singleton.mpr rfl
            | cons y ys =>
              have ih := ih (by simp)
              have : listMax (x :: y :: ys) = max x (listMax (y :: ys)) := rfl
              rw [this]
              by_cases hx : x ≤ listMax (y :: ys)
              · rw [Int.max_eq_right hx]; exact List.mem_cons_of_mem _ ih
              · rw [Int.max_eq_left (by omega)]; exact List.mem_cons_self
        have := f _ (List.mem_cons_of_mem a (q (l := b :: r) (by simp)))
        omega
      · have e := listMax_eq h (fun y hy => f y (List.mem_cons_of_mem _ hy))
        have := f a List.mem_cons_self
        omega
    · simp
theorem listMin_eq : ∀ {ns : List Int} {m : Int}, m ∈ ns → (∀ y ∈ ns, m ≤ y) → m = listMin ns
  | [a], m, h, _ => by rw [List.mem_singleton.mp h]; rfl
  | a :: b :: r, m, h, f => by
    rw [listMin]
    · rcases List.mem_cons.mp h with e | h
      · have q : ∀ {l : List Int}, l ≠ [] → listMin l ∈ l := by
          intro l
          induction l with
          | nil => intro z; exact absurd rfl z
          | cons x xs ih =>
            intro _
            cases xs with
            | nil => exact List.mem_singleton.mpr rfl
            | cons y ys =>
              have ih := ih (by simp)
              have : listMin (x :: y :: ys) = min x (listMin (y :: ys)) := rfl
              rw [this]
              by_cases hx : x ≤ listMin (y :: ys)
              · rw [Int.min_eq_left hx]; exact List.mem_cons_self
              · rw [Int.min_eq_right (by omega)]; exact List.mem_cons_of_mem _ ih
        have := f _ (List.mem_cons_of_mem a (q (l := b :: r) (by simp)))
        omega
      · have e := listMin_eq h (fun y hy => f y (List.mem_cons_of_mem _ hy))
        have := f a List.mem_cons_self
        omega
    · simp
def maxD : List D → Res D
  | [.lst xs] => opt (intsOf xs) >>= fun ns => if 0 < ns.length then .ok (.int (listMax ns)) else .bad
  | _ => .bad
def minD : List D → Res D
  | [.lst xs] => opt (intsOf xs) >>= fun ns => if 0 < ns.length then .ok (.int (listMin ns)) else .bad
  | _ => .bad
theorem cm_max (hc : X.calm = true) : CallM T X (.builtin "max") maxD := by
  refine ⟨_, cr_max hc, fun σ H Av ds vs Q hav r o => ?_⟩
  match ds, o with
  | [.lst xs], o =>
    obtain ⟨ns, e, f⟩ := o.bind.opt
    obtain ⟨hn, f⟩ := Out.if f
    obtain ⟨v, rfl, a, ws, rfl, h1, h2⟩ := paired1 r
    rw [ints_rep h2 e] at h1
    exact ⟨a, ns, rfl, SqL.of h1, hn, fun m hm hy => by rw [listMax_eq hm hy]; exact f _ _ (Same.refl H) rfl⟩
theorem cm_min (hc : X.calm = true) : CallM T X (.builtin "min") minD := by
  refine ⟨_, cr_min hc, fun σ H Av ds vs Q hav r o => ?_⟩
  match ds, o with
  | [.lst xs], o =>
    obtain ⟨ns, e, f⟩ := o.bind.opt
    obtain ⟨hn, f⟩ := Out.if f
    obtain ⟨v, rfl, a, ws, rfl, h1, h2⟩ := paired1 r
    rw [ints_rep h2 e] at h1
    exact ⟨a, ns, rfl, SqL.of h1, hn, fun m hm hy => by rw [listMin_eq hm hy]; exact f _ _ (Same.refl H) rfl⟩
end
end Cr
/-! Core, part 4b: isinstance. -/
namespace Cr
open PySem PySem.Spec PyProof.Rows L2
section
variable {T : CT} {Fb : Gh} {X : Cx} {e a b c : Expr} {es : List Expr} {m ma mb mc : Env → Res D} {pos : Pos} {p : Pos}
/-! ### isinstance -/
inductive Ty where
  | bool | int | str | list | tuple
def Ty.nm : Ty → String
  | .bool => "bool"
  | .int => "int"
  | .str => "str"
  | .list => "list"
  | .tuple => "tuple"
def isiD : Ty → D → Res D
  | _, .obj _ _ => .bad
  | .bool, .bl _ => .ok (.bl true)
  | .int, .bl _ => .ok (.bl true)
  | .int, .int _ => .ok (.bl true)
  | .str, .str _ => .ok (.bl true)
  | .list, .lst _ => .ok (.bl true)
  | .list, .scr _ => .bad
  | _, .scr _ => .bad
  | .tuple, .tup _ => .ok (.bl true)
  | _, _ => .ok (.bl false)
theorem tyx_of {G : Gx} {H : Hp} {Av : Addr → Prop} {d : D} {v : V} (t : Ty) {k : D} (r : RepB G H Av d v) (h : isiD t d = .ok k) : ∃ n b, TyX G.K H v (.type n) ∧ kitB n t.nm = some b ∧ k = .bl b := by
  cases d with
  | non => have r : v = V.non := r; rw [r]; cases t <;> cases h <;> exact ⟨"NoneType", _, .base .non, by decide +kernel, rfl⟩
  | bl x => have r : v = V.bl x := r; rw [r]; cases t <;> cases h <;> exact ⟨"bool", _, .base (.bl x), by decide +kernel, rfl⟩
  | int x => have r : v = V.int x := r; rw [r]; cases t <;> cases h <;> exact ⟨"int", _, .base (.int x), by decide +kernel, rfl⟩
  | str x => have r : v = V.str x := r; rw [r]; cases t <;> cases h <;> exact ⟨"str", _, .base (.str x), by decide +kernel, rfl⟩
  | lst xs => obtain ⟨a, vs, rfl, h1, _⟩ := r; cases t <;> cases h <;> exact ⟨"list", _, .base (.lst h1), by decide +kernel, rfl⟩
  | tup xs =>
    obtain ⟨a, vs, rfl, h1, _⟩ := r
    have ty : TyX G.K H (.ref a) (.type "tuple") := by
      rcases h1 with h1 | ⟨o, its, n, hk, hc, _⟩
      · exact .base (.tup h1.1)
      · exact .kTuple hk hc
    cases t <;> cases h <;> exact ⟨"tuple", _, ty, by decide +kernel, rfl⟩
  | obj c xs => cases t <;> cases h
  | scr xs => cases t <;> cases h
theorem me_isi (t : Ty) {pn : Pos} (hm : X.mg "isinstance" = none) (ht : X.mg (Str.ofString t.nm) = none) (hv : bootBuiltins (Str.ofString t.nm) = some (.type t.nm)) (ha : MB T Fb X a ma) (hg : Gl X "isinstance" := by rfl) (hgt : Gl X (Str.ofString t.nm) := by rfl)
    (hn : (Str.ofString t.nm) ≠ "__name__" := by decide) (hdb : ((Str.ofString t.nm) == ("__debug__" : Str)) = false := by decide) (hs : starEach [a, .Name (Str.ofString t.nm) pn] X.env = (false, eval a X.env) :: starEach [.Name (Str.ofString t.nm) pn] X.env := by rfl)
    (hs2 : starEach [.Name (Str.ofString t.nm) pn] X.env = (false, eval (.Name (Str.ofString t.nm) pn) X.env) :: starEach [] X.env := by rfl) (hpl : (backTo pos (starEach [.Name (Str.ofString t.nm) pn] X.env)).any (·.1) = false := by rfl) :
    ME T Fb X (.Call (.Name "isinstance" p) [a, .Name (Str.ofString t.nm) pn] [] pos) (mUn (isiD t) ma) := by
  have pt : PE X (.Name (Str.ofString t.nm) pn) (tC (.ty t.nm)) := pe_bltn (v := V.ty t.nm) hgt ht hv rfl hn hdb
  refine ⟨fun σ H F ρ Q S o => (pe_callB call_isi hg hm (by decide +kernel) (pa_cons pe_tw (pa_cons pt pa_nil hs2) hs) (he := hs) (hpl := hpl)).tw ?_⟩
  refine ha.run σ H F ρ _ S (o.bind.imp fun d _ o1 v H1 s r => ?_)
  cases q : isiD t d with
  | bad => rw [q] at o1; exact False.elim o1
  | err z => cases d <;> cases t <;> cases q
  | ok k =>
    rw [q] at o1
    obtain ⟨n, b, h1, h2, rfl⟩ := tyx_of t r q
    exact ⟨v, V.ty t.nm, _, _, b, rfl, .ty _, h1, kit_ty h2, o1 _ _ s rfl⟩
end
end Cr
/-! Core, part 5: calls of own defs, methods, instances, fields. -/
namespace Cr
open PySem PySem.Spec PyProof.Rows L2
/-! ### the promise of a def by its mirror -/
def spD (K : PySem.W.Frag) (T : CT) (n : Nat) (m : List D → Res D) : Sp := fun vs H Q E => vs.length = n ∧ ∃ (Av : Addr → Prop) (ds : List D), (∀ a, Av a → H a ≠ none) ∧ RepL ⟨K, T⟩ H Av ds vs ∧ match m ds with
  | .ok d => ∀ v H', Same H H' → Rep ⟨K, T⟩ H' Av d v → Q v H'
  | .err x => ∀ cls d H', Same H H' → ExcRep ⟨K, T⟩ H' x cls d → E cls d H'
  | .bad => False
/-- .. of an __init__ of the class c: the fields -/
def spI (K : PySem.W.Frag) (T : CT) (c n : Nat) (m : List D → Res (List D)) : Sp := fun vs H Q E => vs.length = n + 1 ∧ ∃ (Av : Addr → Prop) (ds : List D) (x dx : Addr) (vr : List V), vs = .ref x :: vr ∧ (∀ a, Av a → H a ≠ none) ∧ ¬ Av x ∧
  H x = some (.ins (T.addr c) dx []) ∧ RepL ⟨K, T⟩ H (fun a => a = x ∨ Av a) ds vr ∧ match m ds with
  | .ok fs => ∀ H', (∀ a o, H a = some o → a ≠ x → H' a = some o) → Rep ⟨K, T⟩ H' Av (.obj c fs) (.ref x) → Q .non H'
  | .err z => ∀ cls d H', (∀ a o, H a = some o → a ≠ x → H' a = some o) → ExcRep ⟨K, T⟩ H' z cls d → E cls d H'
  | .bad => False
section
variable (P : Program) (w : World) (K : PySem.W.Frag) (mg : Str → Option Value) (base : Heap) (T : CT)
/-- a def of the module by its name -/
structure FnAt (k : Nat) (x : Str) (n : Nat) (m : List D → Res D) : Prop where
  ex : ∃ (f : Addr) (fd : FuncData) (ps : List Str), FnOk P w K mg base (L2.CX P w) k f fd ps (spD K T n m) ∧ mg x = some (.ref f) ∧ PySem.W.keepIn K (.ref f) = true ∧ Binds K fd ps []
/-- a method of the class c -/
structure MthAt (k : Nat) (c : Nat) (x : Str) (n : Nat) (m : List D → Res D) : Prop where
  ex : ∃ (f : Addr) (fd : FuncData) (ps : List Str), FnOk P w K mg base (L2.CX P w) k f fd ps (spD K T (n + 1) m) ∧ Meth K (T.addr c) x f ∧ Binds K fd ps []
/-- a class that is made by its __init__ -/
structure MkAt (k : Nat) (c : Nat) (x : Str) (n : Nat) (m : List D → Res (List D)) : Prop where
  ex : ∃ (f : Addr) (fd : FuncData) (ps : List Str), FnOk P w K mg base (L2.CX P w) k f fd ps (spI K T c n m) ∧ mg x = some (.ref (T.addr c)) ∧ Mk K (T.addr c) f ∧ Binds K fd ps []
end
section
variable {P : Program} {w : World} {K : PySem.W.Frag} {mg : Str → Option Value} {base : Heap} {T : CT}
theorem FnAt.mono {j k : Nat} {x : Str} {n : Nat} {m : List D → Res D} (F : FnAt P w K mg base T j x n m) (h : j ≤ k) : FnAt P w K mg base T k x n m := by
  obtain ⟨f, fd, ps, F, r⟩ := F.ex
  exact ⟨f, fd, ps, F.mono h, r⟩
theorem MthAt.mono {j k c : Nat} {x : Str} {n : Nat} {m : List D → Res D} (F : MthAt P w K mg base T j c x n m) (h : j ≤ k) : MthAt P w K mg base T k c x n m := by
  obtain ⟨f, fd, ps, F, r⟩ := F.ex
  exact ⟨f, fd, ps, F.mono h, r⟩
theorem MkAt.mono {j k c : Nat} {x : Str} {n : Nat} {m : List D → Res (List D)} (F : MkAt P w K mg base T j c x n m) (h : j ≤ k) : MkAt P w K mg base T k c x n m := by
  obtain ⟨f, fd, ps, F, r⟩ := F.ex
  exact ⟨f, fd, ps, F.mono h, r⟩
end
section
variable {T : CT} {Fb : Gh} {X : Cx} {e a b c o : Expr} {es : List Expr} {m ma mb mc mo : Env → Res D} {pos p apos : Pos} {x : Str} {k n : Nat}
/-- what a call asks, whatever it ends in -/
theorem spD_of {σ : L2.St} {H : Hp} {F : List Addr} {ds : List D} {vs : List V} {Q : VK} {mf : List D → Res D} (hl : vs.length = n) (hav : ∀ a, avo Fb F a → H a ≠ none) (r : RepL (gx X T) H (avo Fb F) ds vs)
    (o : Out X T σ H (mf ds) fun d => ∀ v H', Same H H' → Rep (gx X T) H' (avo Fb F) d v → Q v H') : ∃ E : XK, PassesAt (L2.CX X.prog X.w) X σ E ∧ spD X.K T n mf vs H Q E := by
  cases q : mf ds with
  | ok d =>
    rw [q] at o
    exact ⟨E0, fun _ _ _ _ _ _ h => by obtain ⟨_, _, _, _, _, _, _, _, _, _, _, _, z⟩ := h; exact z.elim, hl, avo Fb F, ds, hav, r, by rw [q]; exact o⟩
  | err x =>
    rw [q] at o
    obtain ⟨W, tk, f⟩ := o
    exact ⟨WE W σ, passAt tk σ, hl, avo Fb F, ds, hav, r, by rw [q]; exact f⟩
  | bad => rw [q] at o; exact False.elim o
theorem binds_len {fd : FuncData} {ps : List Str} {K : PySem.W.Frag} {mg : Str → Option Value} {base : Heap} {P : Program} {w : World} {f : Addr} {CX : CXT} {sp : Sp} {vs : List V} {H : Hp} {Q : VK} {E : XK}
    (F : FnOk P w K mg base CX k f fd ps sp) (h : sp vs H Q E) : vs.length = ps.length := F.len _ _ _ _ h
theorem me_call {mf : List D → Res D} {ms : Env → Res (List D)} (F : FnAt X.prog X.w X.K X.mg X.base T k x (es.length + 1) mf) (hr : Room k X.A) (ha : ML T Fb X (e :: es) ms) (hl : ∀ ρ ds, ms ρ = .ok ds → ds.length = es.length + 1) (hg : Gl X x := by rfl) (hdb : (x == ("__debug__" : Str)) = false := by decide)
    (he : starEach (e :: es) X.env = (false, eval e X.env) :: starEach es X.env := by rfl) (hpl : (backTo pos (starEach es X.env)).any (·.1) = false := by rfl) : ME T Fb X (.Call (.Name x p) (e :: es) [] pos) (mArg mf ms) := by
  obtain ⟨f, fd, ps, F, hm, hk, hb⟩ := F.ex
  refine ⟨fun σ H Fo ρ Q S o pins s I => ?_⟩
  refine wpAny_Call_Name_kw (ld_glob I hg hm ?_ hdb)
  have args : TWa X (e :: es) σ H fun vs H1 => ∃ E : XK, PassesAt (L2.CX X.prog X.w) X σ E ∧ spD X.K T (es.length + 1) mf vs H1 Q E := by
    refine ha.run σ H Fo ρ _ S (o.bind.imp fun ds e1 o1 vs H1 s1 r1 => ?_)
    exact spD_of (by rw [r1.length]; exact hl _ _ e1) (S.same s1).av r1 ((o1.same s1).imp fun d _ f v H2 s2 r2 => f v H2 (s1.trans s2) r2)
  refine PySem.W.callWith_K (h₀ := X.base) I.ok.mod.kin hk (thn (args pos pins s I) fun us s1 ⟨vs, H1, I1, r, E, hx, q⟩ => ⟨I1.kIn, ?_⟩) he hpl
  exact run_fnS (E := fun _ => E) F hr hb hx I1 r q
theorem me_call0 {mf : List D → Res D} (F : FnAt X.prog X.w X.K X.mg X.base T k x 0 mf) (hr : Room k X.A) (hg : Gl X x := by rfl) (hdb : (x == ("__debug__" : Str)) = false := by decide) : ME T Fb X (.Call (.Name x p) [] [] pos) (mArg mf mNil) := by
  obtain ⟨f, fd, ps, F, hm, hk, hb⟩ := F.ex
  refine ⟨fun σ H Fo ρ Q S o pins s I => ?_⟩
  refine wpAny_Call_Name_kw (ld_glob I hg hm ?_ hdb)
  obtain ⟨E, hx, q⟩ := spD_of (X := X) (n := 0) (Q := Q) (vs := []) (ds := []) rfl S.av rfl (show Out X T σ H (mf []) _ from o)
  exact PySem.W.callWith_K0 I.kIn hk (run_fnS (us := []) (E := fun _ => E) F hr hb hx I .nil q)
/-- the written arguments' number -/
theorem len_nil : ∀ (ρ : Env) (ds : List D), mNil ρ = .ok ds → ds.length = 0 := fun ρ ds h => by cases h; rfl
theorem len_cons {mr : Env → Res (List D)} {n : Nat} (h : ∀ ρ ds, mr ρ = .ok ds → ds.length = n) : ∀ (ρ : Env) (ds : List D), mCons ma mr ρ = .ok ds → ds.length = n + 1 := fun ρ ds e => by
  unfold mCons at e
  cases q : ma ρ with
  | ok y =>
    rw [q, bind_ok] at e
    cases q2 : mr ρ with
    | ok ys => rw [q2, bind_ok] at e; cases e; rw [List.length_cons, h ρ ys q2]
    | err z => rw [q2] at e; cases e
    | bad => rw [q2] at e; cases e
  | err z => rw [q] at e; cases e
  | bad => rw [q] at e; cases e
/-- o.m(..), o a whole instance of the class c -/
def mMth {α : Type} (c : Nat) (mf : List D → Res α) (mo : Env → Res D) (ms : Env → Res (List D)) : Env → Res α := fun ρ => mo ρ >>= fun d => match d with
  | .obj c' xs => if c' = c then ms ρ >>= fun ds => mf (.obj c' xs :: ds) else .bad
  | _ => .bad
theorem zip_lookup_none : ∀ {ns : List Str} {vs : List V} {f : Str}, f ∉ ns → (ns.zip vs).lookup f = none
  | [], _, _, _ => rfl
  | n :: ns, [], _, _ => rfl
  | n :: ns, v :: vs, f, h => by
    rw [List.zip_cons_cons]
    have h1 : (f == n) = false := by
      cases q : (f == n) with
      | false => rfl
      | true => exact absurd (beq_iff_eq.mp q ▸ List.mem_cons_self) h
    rw [List.lookup_cons, h1]
    exact zip_lookup_none fun z => h (List.mem_cons_of_mem _ z)
theorem me_meth {c : Nat} {mf : List D → Res D} {ms : Env → Res (List D)} {pl : Sem Bool} (F : MthAt X.prog X.w X.K X.mg X.base T k c x (es.length + 1) mf) (cl : Cls X.K (T.addr c)) (hr : Room k X.A) (ho : ME T Fb X o mo) (ha : ML T Fb X (e :: es) ms) (hl : ∀ ρ ds, ms ρ = .ok ds → ds.length = es.length + 1)
    (hx : x ∉ flds c := by decide +kernel) (hst : starEach (e :: es) X.env = (false, eval e X.env) :: starEach es X.env := by rfl) (hpl : (backTo pos (starEach es X.env)).any (·.1) = false := by rfl)
    (ht : eval (.Call (.Attribute o x apos) (e :: es) [] pos) X.env = (do
      let ov ← eval o X.env
      standAt apos.atName
      let (f, first) ← holding [ov] (getMethod ov x pl)
      callWith pos f first (backTo pos (starEach (e :: es) X.env)) (backToKw pos (keywordEach [] X.env))) := by rfl) : ME T Fb X (.Call (.Attribute o x apos) (e :: es) [] pos) (mMth c mf mo ms) := by
  obtain ⟨f, fd, ps, F, hm, hb⟩ := F.ex
  refine ⟨fun σ H Fo ρ Q S o' pins s I => ?_⟩
  refine PySem.W.methodCall_KW (pl := pl) (thn (ho.run σ H Fo ρ (fun v H1 => ∃ a dx fs, v = .ref a ∧ H1 a = some (.ins (T.addr c) dx fs) ∧ fs.lookup x = none ∧ TWa X (e :: es) σ H1 fun vs H2 => ∃ E : XK, PassesAt (L2.CX X.prog X.w) X σ E ∧ spD X.K T (es.length + 2) mf (v :: vs) H2 Q E) S (o'.bind.imp fun d _ o1 v H1 s1 r1 => ?_) pins s I)
    fun u s1 ⟨v, H1, I1, rx, a, dx, fs, ex, ea, l, q⟩ => ?_) ht
  · cases d with
    | obj c' xs =>
      by_cases hc : c' = c
      · subst hc
        have o1 : Out X T σ H (if c' = c' then ms ρ >>= fun ds => mf (.obj c' xs :: ds) else .bad) _ := o1
        rw [if_pos rfl] at o1
        obtain ⟨a, dx, vs0, rfl, ⟨h1, na⟩, hl0, h2⟩ := id r1
        refine ⟨a, dx, _, rfl, h1, zip_lookup_none hx, ?_⟩
        refine ha.run σ H1 Fo ρ _ (S.same s1) ((o1.same s1).bind.imp fun ds e1 o2 vs H2 s2 r2 => ?_)
        exact spD_of (ds := .obj c' xs :: ds) (by rw [List.length_cons, r2.length, hl _ _ e1]) ((S.same s1).same s2).av ⟨_, _, rfl, r1.same s2, r2⟩ ((o2.same s2).imp fun d _ f v H3 s3 r3 => f v H3 (s1.trans (s2.trans s3)) r3)
      · have o1 : Out X T σ H (if c' = c then ms ρ >>= fun ds => mf (.obj c' xs :: ds) else .bad) _ := o1
        rw [if_neg hc] at o1
        exact False.elim o1
    | _ => exact False.elim o1
  · subst ex
    obtain rfl : u = Value.ref a := rx
    refine getmeth_ok I1 ea cl hm l ?_
    refine PySem.W.callWith_K (first := [.ref a]) (h₀ := X.base) I.ok.mod.kin hm.kp (thn (q pos pins s1 I1) fun us s2 ⟨vs, H2, I2, r, E, hx, q2⟩ => ⟨I2.kIn, ?_⟩) hst hpl
    exact run_fnS (us := .ref a :: us) (vs := .ref a :: vs) (E := fun _ => E) F hr hb hx I2 (.cons rfl r) q2
theorem me_meth0 {c : Nat} {mf : List D → Res D} {pl : Sem Bool} (F : MthAt X.prog X.w X.K X.mg X.base T k c x 0 mf) (cl : Cls X.K (T.addr c)) (hr : Room k X.A) (ho : ME T Fb X o mo)
    (hx : x ∉ flds c := by decide +kernel)
    (ht : eval (.Call (.Attribute o x apos) [] [] pos) X.env = (do
      let ov ← eval o X.env
      standAt apos.atName
      let (f, first) ← holding [ov] (getMethod ov x pl)
      callWith pos f first (backTo pos (starEach [] X.env)) (backToKw pos (keywordEach [] X.env))) := by rfl) : ME T Fb X (.Call (.Attribute o x apos) [] [] pos) (mMth c mf mo mNil) := by
  obtain ⟨f, fd, ps, F, hm, hb⟩ := F.ex
  refine ⟨fun σ H Fo ρ Q S o' pins s I => ?_⟩
  refine PySem.W.methodCall_KW (pl := pl) (thn (ho.run σ H Fo ρ (fun v H1 => ∃ a dx fs, v = .ref a ∧ H1 a = some (.ins (T.addr c) dx fs) ∧ fs.lookup x = none ∧ ∃ E : XK, PassesAt (L2.CX X.prog X.w) X σ E ∧ spD X.K T 1 mf [v] H1 Q E) S (o'.bind.imp fun d _ o1 v H1 s1 r1 => ?_) pins s I)
    fun u s1 ⟨v, H1, I1, rx, a, dx, fs, ex, ea, l, E, hx, q⟩ => ?_) ht
  · cases d with
    | obj c' xs =>
      by_cases hc : c' = c
      · subst hc
        have o1 : Out X T σ H (if c' = c' then mNil ρ >>= fun ds => mf (.obj c' xs :: ds) else .bad) _ := o1
        rw [if_pos rfl] at o1
        obtain ⟨a, dx, vs0, rfl, ⟨h1, na⟩, hl0, h2⟩ := id r1
        refine ⟨a, dx, _, rfl, h1, zip_lookup_none hx, ?_⟩
        exact spD_of (ds := [.obj c' xs]) rfl (S.same s1).av ⟨_, _, rfl, r1, rfl⟩ ((o1.same s1).imp fun d _ f v H3 s3 r3 => f v H3 (s1.trans s3) r3)
      · have o1 : Out X T σ H (if c' = c then mNil ρ >>= fun ds => mf (.obj c' xs :: ds) else .bad) _ := o1
        rw [if_neg hc] at o1
        exact False.elim o1
    | _ => exact False.elim o1
  · subst ex
    obtain rfl : u = Value.ref a := rx
    refine getmeth_ok I1 ea cl hm l ?_
    exact PySem.W.callWith_K0 (first := [.ref a]) I1.kIn hm.kp (run_fnS (us := [.ref a]) (vs := [.ref a]) (E := fun _ => E) F hr hb hx I1 (.cons rfl .nil) q)
/-- C(..) -/
def mMk (c : Nat) (mf : List D → Res (List D)) (ms : Env → Res (List D)) : Env → Res D := fun ρ => ms ρ >>= fun ds => mf ds >>= fun fs => .ok (.obj c fs)
theorem run_makeS {CX : CXT} {C f : Addr} {fd : FuncData} {ps : List Str} {sp : Sp} {E : XK} {pins : List (Addr × Obj)} {σ : L2.St} {H : Hp} {s : Shared} {Q : VK} {us : List Value} {vs : List V} (M : Mk X.K C f) (F : FnOk X.prog X.w X.K X.mg X.base CX k f fd ps sp) (hr : Room (k + 1) X.A) (hb : Binds X.K fd ps [])
    (hx : PassesAt CX X σ E) (I : Inv X pins σ H s) (r : Vals vs us)
    (h : ∀ x dx, H x = none → H dx = none → dx ≠ x → sp (.ref x :: vs) (upd (upd H dx (.own x)) x (.ins C dx [])) (fun v H2 => v = .non ∧ Q (.ref x) H2) E) :
    wpAny (model X.prog X.w) X.A (call (.ref C) us) (EP X pins σ Q) X.xe s := by
  have hq := h (s.heap.objs.size + 1) s.heap.objs.size (I.hok.fresh (Nat.le_succ _)) (I.hok.fresh (Nat.le_refl _)) (Nat.ne_of_lt (Nat.lt_succ_self _))
  have I2 := Inv.made (C := C) I
  have r2 : Vals (V.ref (s.heap.objs.size + 1) :: vs) (Value.ref (s.heap.objs.size + 1) :: us) := .cons rfl r
  have hl : (Value.ref (s.heap.objs.size + 1) :: us).length = ps.length := by
    have e := r2.length
    rw [F.len _ _ _ _ hq] at e
    exact e.symm
  have b := hb _ (Value.ref (s.heap.objs.size + 1) :: us) I2.kIn (by rw [List.append_nil]; exact hl)
  rw [List.append_nil] at b
  refine wpAny_call (make_map (f := f) I.kIn M.makes M.init (beq_iff_eq.mp M.fn) (codeAny_mono (F.run _ X.stack _ _ ⟨Value.ref (s.heap.objs.size + 1) :: us, []⟩ (Value.ref (s.heap.objs.size + 1) :: us) _ _ E (hr.make C us [])
    (I2.env0.make C us []) b r2 hq) fun r s' hq' => ?_))
  cases r with
  | error e => exact hx pins _ _ e s' I2 hq'
  | ok fl =>
    cases fl with
    | ret u =>
      obtain ⟨v, H', I3, rv, ev, q3⟩ := I2.after hq'
      subst ev
      exact ⟨rv, ⟨V.ref (s.heap.objs.size + 1), H', I3, rfl, q3⟩⟩
    | next => exact False.elim hq'
    | brk => exact False.elim hq'
    | cont => exact False.elim hq'
theorem me_make {c : Nat} {mf : List D → Res (List D)} {ms : Env → Res (List D)} (F : MkAt X.prog X.w X.K X.mg X.base T k c x (es.length + 1) mf) (hr : Room (k + 1) X.A) (ha : ML T Fb X (e :: es) ms) (hl : ∀ ρ ds, ms ρ = .ok ds → ds.length = es.length + 1) (hg : Gl X x := by rfl) (hdb : (x == ("__debug__" : Str)) = false := by decide)
    (he : starEach (e :: es) X.env = (false, eval e X.env) :: starEach es X.env := by rfl) (hpl : (backTo pos (starEach es X.env)).any (·.1) = false := by rfl) : ME T Fb X (.Call (.Name x p) (e :: es) [] pos) (mMk c mf ms) := by
  obtain ⟨f, fd, ps, F, hm, M, hb⟩ := F.ex
  refine ⟨fun σ H Fo ρ Q S o pins s I => ?_⟩
  refine wpAny_Call_Name_kw (ld_glob I hg hm ?_ hdb)
  have args : TWa X (e :: es) σ H fun vs H1 => ∃ E : XK, PassesAt (L2.CX X.prog X.w) X σ E ∧ ∀ x dx, H1 x = none → H1 dx = none → dx ≠ x →
      spI X.K T c (es.length + 1) mf (.ref x :: vs) (upd (upd H1 dx (.own x)) x (.ins (T.addr c) dx [])) (fun v H2 => v = .non ∧ Q (.ref x) H2) E := by
    refine ha.run σ H Fo ρ _ S (o.bind.imp fun ds e1 o1 vs H1 s1 r1 => ?_)
    have S1 := S.same s1
    have up : ∀ {x dx : Addr}, H1 x = none → H1 dx = none → dx ≠ x → Same H1 (upd (upd H1 dx (.own x)) x (.ins (T.addr c) dx [])) := fun {x dx} hx hd ne a o e => by
      rw [upd_ne (ne_of_none e hx), upd_ne (ne_of_none e hd)]; exact e
    have kp : ∀ {x dx : Addr}, H1 x = none → H1 dx = none → dx ≠ x → Kept H1 (upd (upd H1 dx (.own x)) x (.ins (T.addr c) dx [])) (avo Fb Fo) (fun a => a = x ∨ avo Fb Fo a) := fun {x dx} hx hd ne =>
      ⟨fun a o e _ => up hx hd ne a o e, fun a z => z.elim (fun q => .inr (by rw [q]; exact hx)) .inl⟩
    have fin : ∀ {x : Addr} {H' H'' : Hp}, H1 x = none → (∀ a o, H' a = some o → a ≠ x → H'' a = some o) → Same H1 H' → Same H1 H'' := fun {x H' H''} hx f s a o e => f a o (s a o e) (ne_of_none e hx)
    cases q : mf ds with
    | ok fs =>
      rw [q] at o1
      refine ⟨E0, fun _ _ _ _ _ _ h => by obtain ⟨_, _, _, _, _, _, _, _, _, _, _, _, z⟩ := h; exact z.elim, fun x dx hx hd ne => ?_⟩
      refine ⟨by rw [List.length_cons, r1.length, hl _ _ e1], avo Fb Fo, ds, x, dx, vs, rfl, fun a z => (S1.same (up hx hd ne)).av a z, avo_no S1.av hx, upd_same, RepL.mono (kp hx hd ne) ds r1, ?_⟩
      rw [q]
      exact fun H' k r => ⟨rfl, o1 _ _ (s1.trans (fin hx k (up hx hd ne))) r⟩
    | err z =>
      rw [q] at o1
      obtain ⟨W, tk, f⟩ := o1
      refine ⟨WE W σ, passAt tk σ, fun x dx hx hd ne => ?_⟩
      refine ⟨by rw [List.length_cons, r1.length, hl _ _ e1], avo Fb Fo, ds, x, dx, vs, rfl, fun a z => (S1.same (up hx hd ne)).av a z, avo_no S1.av hx, upd_same, RepL.mono (kp hx hd ne) ds r1, ?_⟩
      rw [q]
      exact fun cls d H' k r => f cls d H' (s1.trans (fin hx k (up hx hd ne))) r
    | bad => rw [q] at o1; exact False.elim o1
  refine PySem.W.callWith_K (h₀ := X.base) I.ok.mod.kin M.kp (thn (args pos pins s I) fun us s1 ⟨vs, H1, I1, r, E, hx, q⟩ => ⟨I1.kIn, ?_⟩) he hpl
  exact run_makeS M F hr hb hx I1 r q
/-- o.f, o a whole instance of the class c; f its j-th field -/
def fldD (c j : Nat) : D → Res D
  | .obj c' xs => if c' = c then opt xs[j]? else .bad
  | _ => .bad
theorem zip_lookup : ∀ {ns : List Str} {vs : List V} {f : Str} {j : Nat} {v : V}, ns.Nodup → ns[j]? = some f → vs[j]? = some v → (ns.zip vs).lookup f = some v
  | [], _, _, _, _, _, h, _ => by simp at h
  | n :: ns, [], _, _, _, _, _, h => by simp at h
  | n :: ns, w :: vs, f, 0, v, nd, h1, h2 => by
    simp at h1 h2
    subst h1 h2
    rw [List.zip_cons_cons, List.lookup_cons, beq_self_eq_true]
  | n :: ns, w :: vs, f, j + 1, v, nd, h1, h2 => by
    rw [List.zip_cons_cons, List.lookup_cons]
    have h1' : ns[j]? = some f := by simpa using h1
    have hf : (f == n) = false := by
      cases q : (f == n) with
      | false => rfl
      | true =>
        have e := beq_iff_eq.mp q
        rw [e] at h1'
        exact absurd (List.mem_of_getElem? h1') (List.nodup_cons.mp nd).1
    rw [hf]
    exact zip_lookup (List.nodup_cons.mp nd).2 h1' (by simpa using h2)
theorem me_fld (c j : Nat) {f : Str} (cl : Cls X.K (T.addr c)) (na : NoAttr X.K (T.addr c) f) (ho : ME T Fb X o mo) (hj : (flds c)[j]? = some f := by rfl) (nd : (flds c).Nodup := by decide +kernel)
    (hb : attributeBase o f X.env (eval o X.env) = eval o X.env := by rfl) : ME T Fb X (.Attribute o f pos) (mUn (fldD c j) mo) := by
  refine ⟨fun σ H F ρ Q S o' => (pe_fld pe_tw hb).tw ?_⟩
  refine ho.run σ H F ρ _ S (o'.bind.imp fun d _ o1 v H1 s1 r1 => ?_)
  cases d with
  | obj c' xs =>
    by_cases hc : c' = c
    · subst hc
      have o1 : Out X T σ H (if c' = c' then opt xs[j]? else .bad) _ := o1
      rw [if_pos rfl] at o1
      obtain ⟨d, e, f⟩ := o1.opt
      obtain ⟨a, dx, vs, rfl, ⟨h1, na'⟩, hl, h2⟩ := r1
      obtain ⟨w, e2, r⟩ := h2.get e
      exact ⟨a, _, dx, _, w, rfl, h1, cl, na, zip_lookup nd hj e2, f _ _ s1 r⟩
    · have o1 : Out X T σ H (if c' = c then opt xs[j]? else .bad) _ := o1
      rw [if_neg hc] at o1
      exact False.elim o1
  | _ => exact False.elim o1
end
end Cr
/-! Core, part 6: statements, targets, loops. -/
namespace Cr
open PySem PySem.Spec PyProof.Rows L2
inductive Flow where
  | nx (ρ : Env)
  | rt (d : D) (ρ : Env)
  | er (x : Exc) (ρ : Env)
  | bad
def bindF {α : Type} (r : Res α) (ρ : Env) (f : α → Flow) : Flow := match r with
  | .ok a => f a
  | .err x => .er x ρ
  | .bad => .bad
theorem bindF_ok {α : Type} (a : α) (ρ : Env) (f : α → Flow) : bindF (.ok a) ρ f = f a := rfl
theorem bindF_err {α : Type} (x : Exc) (ρ : Env) (f : α → Flow) : bindF (.err x) ρ f = .er x ρ := rfl
theorem bindF_bad {α : Type} (ρ : Env) (f : α → Flow) : bindF .bad ρ f = .bad := rfl
def OutS (X : Cx) (T : CT) (Fb : Gh) (D : Ends) (H : Hp) (F : List Addr) : Flow → Prop
  | .nx ρ' => ∀ σ' H' F', Post H F H' F' → StR (gx X T) Fb H' σ' ρ' F' → D.nx σ' H'
  | .rt d ρ' => ∀ v σ' H' F', Post H F H' F' → StR (gx X T) Fb H' σ' ρ' F' → Rep (gx X T) H' (avo Fb F') d v → D.rt v H'
  | .er x ρ' => ∃ W, Takes X W ∧ ∀ cls d σ' H' F', Post H F H' F' → StR (gx X T) Fb H' σ' ρ' F' → ExcRep (gx X T) H' x cls d → W cls d σ' H'
  | .bad => False
section
variable (T : CT) (Fb : Gh) (X : Cx)
structure MS (st : Stmt) (m : Env → Flow) : Prop where
  run : ∀ (σ : L2.St) (H : Hp) (F : List Addr) (ρ : Env) (D : Ends), StR (gx X T) Fb H σ ρ F → OutS X T Fb D H F (m ρ) → TWs X st D σ H
structure MSs (st : List Stmt) (m : Env → Flow) : Prop where
  run : ∀ (σ : L2.St) (H : Hp) (F : List Addr) (ρ : Env) (D : Ends), StR (gx X T) Fb H σ ρ F → OutS X T Fb D H F (m ρ) → TWss X st D σ H
end
section
variable {T : CT} {Fb : Gh} {X : Cx} {σ : L2.St} {H H1 : Hp} {F F1 : List Addr} {ρ : Env} {D : Ends} {fl : Flow}
theorem OutS.post (o : OutS X T Fb D H F fl) (p : Post H F H1 F1) : OutS X T Fb D H1 F1 fl := by
  cases fl with
  | nx ρ' => exact fun σ' H' F' q => o σ' H' F' (p.trans q)
  | rt d ρ' => exact fun v σ' H' F' q => o v σ' H' F' (p.trans q)
  | er x ρ' => obtain ⟨W, tk, f⟩ := o; exact ⟨W, tk, fun cls d σ' H' F' q => f cls d σ' H' F' (p.trans q)⟩
  | bad => exact o
theorem OutS.same (o : OutS X T Fb D H F fl) (s : Same H H1) : OutS X T Fb D H1 F fl := o.post (Post.of_same s)
theorem OutS.toOut {α : Type} {r : Res α} {f : α → Flow} (S : StR (gx X T) Fb H σ ρ F) (o : OutS X T Fb D H F (bindF r ρ f)) : Out X T σ H r fun a => OutS X T Fb D H F (f a) := by
  cases r with
  | ok a => exact o
  | err x =>
    obtain ⟨W, tk, g⟩ := o
    exact ⟨W, tk, fun cls d H' s r => g cls d σ H' F (Post.of_same s) (S.same s) r⟩
  | bad => exact o
end
/-! ### slots stored -/
/-- a slot that may be stored -/
def okS (ρ : Env) (i : Nat) : Bool := match ρ[i]? with
  | some (.oo _ _) => false
  | some _ => true
  | none => false
theorem okS_lt {ρ : Env} {i : Nat} (h : okS ρ i = true) : i < ρ.length := by
  unfold okS at h
  cases q : ρ[i]? with
  | none => rw [q] at h; cases h
  | some s => exact (List.getElem?_eq_some_iff.mp q).1
theorem okS_ne {ρ : Env} {i : Nat} (h : okS ρ i = true) : ∀ c fs, ρ[i]? ≠ some (.oo c fs) := fun c fs e => by
  unfold okS at h
  rw [e] at h
  cases h
def put (i : Nat) (s : Sl) (ρ : Env) : Flow := if okS ρ i = true then .nx (ρ.set i s) else .bad
section
variable {G : Gx} {Fb : Gh} {H H' : Hp} {σ : L2.St} {ρ : Env} {F : List Addr} {i : Nat}
theorem kept_sub {A A' : Addr → Prop} (h : ∀ a, A' a → A a) : Kept H H A A' := ⟨fun _ _ e _ => e, fun a z => .inl (h a z)⟩
/-- a slot takes a thing that owns nothing -/
theorem StR.sfSet (S : StR G Fb H σ ρ F) (hi : Fb.me = none ∨ ∀ c fs, ρ[i]? ≠ some (.oo c fs)) (t : Sl) (o' : Option V) : ∀ a, Fb.me = some a → (σ.set i o')[0]? = some (some (.ref a)) ∧ ∃ c fs, (ρ.set i t)[0]? = some (.oo c fs) := fun a h => by
  obtain ⟨h1, c, fs, h2⟩ := S.sf a h
  rcases hi with hi | hi
  · rw [hi] at h; cases h
  · have h0 : i ≠ 0 := fun z => hi c fs (by rw [z]; exact h2)
    rw [List.getElem?_set_ne h0, List.getElem?_set_ne h0]
    exact ⟨h1, c, fs, h2⟩
theorem StR.setN (S : StR G Fb H σ ρ F) (hi : i < ρ.length) (ho : Fb.me = none ∨ ∀ c fs, ρ[i]? ≠ some (.oo c fs)) {t : Sl} {o' : Option V} (r : RepSl G H (avo Fb F) t o' []) : StR G Fb H (σ.set i o') (ρ.set i t) F := by
  obtain ⟨F0, e, nd, sub⟩ := S.ex
  obtain ⟨o, p1, p, p2, e1, e2, r1, f⟩ := e.focus (List.getElem?_eq_getElem hi)
  refine ⟨⟨p1 ++ [] ++ p2, f (kept_sub fun _ z => z) (fun _ _ => rfl) (fun _ _ => rfl) r, ?_, fun a ha => sub a ?_⟩, S.dom, S.fb, S.sfSet ho t o'⟩
  · rw [e2] at nd
    refine nd.sublist ?_
    rw [List.append_nil, List.append_assoc]
    exact (List.Sublist.refl p1).append (List.sublist_append_right p p2)
  · rw [e2]
    simp only [List.append_nil, List.mem_append] at ha ⊢
    rcases ha with h | h
    · exact .inl (.inl h)
    · exact .inr h
/-- a slot takes a whole value -/
theorem StR.setD (S : StR G Fb H σ ρ F) (hi : okS ρ i = true) {d : D} {v : V} (r : Rep G H (avo Fb F) d v) : StR G Fb H (σ.set i (some v)) (ρ.set i (.v (.d d))) F := S.setN (okS_lt hi) (.inr (okS_ne hi)) ⟨v, rfl, rfl, r⟩
/-- a slot takes a new list -/
theorem StR.setO (S : StR G Fb H σ ρ F) (hk : okS ρ i = true) {ds : List D} {vs : List V} {p : Addr} (s : Same H H') (np : H p = none) (hp : H' p = some (.lst vs)) (r : RepL G H' (fun a => a = p ∨ avo Fb F a) ds vs) :
    Post H F H' (p :: F) ∧ StR G Fb H' (σ.set i (some (.ref p))) (ρ.set i (.v (.ol ds))) (p :: F) := by
  obtain ⟨F0, e, nd, sub⟩ := S.ex
  have hi := okS_lt hk
  obtain ⟨o, p1, q, p2, e1, e2, r1, f⟩ := e.focus (List.getElem?_eq_getElem hi)
  have nF : p ∉ F := fun z => absurd np (S.dom p z)
  have dm : ∀ a ∈ F, H' a = H a := fun a ha => same_at s (S.dom a ha)
  have m1 : ∀ a ∈ p1, a ∈ F := fun a ha => sub a (by rw [e2]; exact List.mem_append_left _ (List.mem_append_left _ ha))
  have m2 : ∀ a ∈ p2, a ∈ F := fun a ha => sub a (by rw [e2]; exact List.mem_append_right _ ha)
  have post : Post H F H' (p :: F) := ⟨fun a o e _ => s a o e, fun a z => (List.mem_cons.mp z).elim (fun e => .inr (by rw [e]; exact np)) .inl⟩
  have av2 : ∀ a, avo Fb (p :: F) a → a = p ∨ avo Fb F a := fun a z => by
    rcases z with z | z
    · rcases List.mem_cons.mp z with z | z
      · exact .inl z
      · exact .inr (.inl z)
    · exact .inr (.inr z)
  refine ⟨post, ⟨p1 ++ [p] ++ p2, f (s' := .v (.ol ds)) (o' := some (.ref p)) post.kept (fun a ha => dm a (m1 a ha)) (fun a ha => dm a (m2 a ha)) ⟨_, rfl, p, vs, rfl, rfl, hp, RepL.mono (kept_sub av2) ds r⟩, ?_, fun a ha => ?_⟩, fun a ha => ?_, fun a h => ⟨?_, fun z => ?_⟩, S.sfSet (.inr (okS_ne hk)) _ _⟩
  · rw [e2] at nd
    have nd2 : (p1 ++ p2).Nodup := nd.sublist (by rw [List.append_assoc]; exact (List.Sublist.refl p1).append (List.sublist_append_right q p2))
    rw [List.append_assoc]
    obtain ⟨n1, n2, n3⟩ := List.nodup_append.mp nd2
    refine List.nodup_append.mpr ⟨n1, List.nodup_cons.mpr ⟨fun z => nF (m2 p z), n2⟩, fun a ha b hb => ?_⟩
    rcases List.mem_cons.mp hb with e | hb
    · rw [e]; exact fun z => nF (by rw [← z]; exact m1 a ha)
    · exact n3 a ha b hb
  · simp only [List.mem_append, List.mem_singleton] at ha
    rcases ha with (h | h) | h
    · exact List.mem_cons_of_mem _ (m1 a h)
    · rw [h]; exact List.mem_cons_self
    · exact List.mem_cons_of_mem _ (m2 a h)
  · rcases List.mem_cons.mp ha with z | z
    · rw [z, hp]; exact fun z => by cases z
    · rw [dm a z]; exact S.dom a z
  · rw [same_at s (S.fb a h).1]; exact (S.fb a h).1
  · rcases List.mem_cons.mp z with z | z
    · exact (S.fb a h).1 (by rw [z]; exact np)
    · exact (S.fb a h).2 z
theorem StR.sfKeep (S : StR G Fb H σ ρ F) {f : Fd} (e : ρ[i]? = some (.v f)) (t : Sl) : ∀ a, Fb.me = some a → σ[0]? = some (some (.ref a)) ∧ ∃ c fs, (ρ.set i t)[0]? = some (.oo c fs) := fun a h => by
  obtain ⟨h1, c, fs, h2⟩ := S.sf a h
  have h0 : i ≠ 0 := fun z => by rw [z, h2] at e; cases e
  rw [List.getElem?_set_ne h0]
  exact ⟨h1, c, fs, h2⟩
theorem set_same {α : Type} {l : List α} {i : Nat} {a : α} (e : l[i]? = some a) : l.set i a = l := by
  obtain ⟨hlt, e⟩ := List.getElem?_eq_some_iff.mp e
  rw [← e, List.set_getElem_self]
/-- an owned list is changed -/
theorem StR.chgO (S : StR G Fb H σ ρ F) {xs : List D} (e : ρ[i]? = some (.v (.ol xs))) : ∃ a vs, σ[i]? = some (some (.ref a)) ∧ H a = some (.lst vs) ∧ RepL G H (avo Fb F) xs vs ∧ a ∈ F ∧
    ∀ {ys : List D} {ws : List V}, RepL G H (avo Fb F) ys ws → Post H F (upd H a (.lst ws)) F ∧ StR G Fb (upd H a (.lst ws)) σ (ρ.set i (.v (.ol ys))) F := by
  obtain ⟨F0, r0, nd, sub⟩ := S.ex
  obtain ⟨o, p1, p, p2, e1, e2, r1, f⟩ := r0.focus e
  obtain ⟨v, rfl, a, vs, rfl, rfl, h1, h2⟩ := r1
  have ma : a ∈ F := sub a (by rw [e2]; simp)
  refine ⟨a, vs, e1, h1, h2, ma, fun {ys ws} r => ?_⟩
  have post : Post H F (upd H a (.lst ws)) F := ⟨fun b o h n => by rw [upd_ne (fun z => n (by rw [z]; exact ma))]; exact h, fun _ h => .inl h⟩
  rw [e2] at nd
  have na1 : a ∉ p1 := fun z => (List.nodup_append.mp (List.nodup_append.mp nd).1).2.2 a z a (by simp) rfl
  have na2 : a ∉ p2 := fun z => (List.nodup_append.mp nd).2.2 a (by simp) a z rfl
  have up : ∀ b, H b ≠ none → upd H a (.lst ws) b ≠ none := fun b h => by
    by_cases hb : b = a
    · rw [hb, upd_same]; exact fun z => by cases z
    · rw [upd_ne hb]; exact h
  refine ⟨post, ⟨F0, ?_, by rw [e2]; exact nd, sub⟩, fun b h => up b (S.dom b h), fun b h => ⟨up b (S.fb b h).1, (S.fb b h).2⟩, S.sfKeep e _⟩
  have k := f (s' := .v (.ol ys)) (o' := some (.ref a)) (p' := [a]) (post.kept (Fb := Fb)) (fun b hb => upd_ne fun z => na1 (by rw [← z]; exact hb)) (fun b hb => upd_ne fun z => na2 (by rw [← z]; exact hb))
    ⟨_, rfl, a, ws, rfl, rfl, upd_same, RepL.mono post.kept ys r⟩
  rw [← e2, set_same e1] at k
  exact k
theorem mem_filter_ne {F : List Addr} {a b : Addr} : b ∈ F.filter (fun c => decide (c ≠ a)) ↔ b ∈ F ∧ b ≠ a := by
  rw [List.mem_filter]; simp
/-- an owned list is whole from now on -/
theorem StR.frz (S : StR G Fb H σ ρ F) {xs : List D} (e : ρ[i]? = some (.v (.ol xs))) : ∃ F', (∀ a ∈ F', a ∈ F) ∧ StR G Fb H σ (ρ.set i (.v (.d (.lst xs)))) F' := by
  obtain ⟨F0, r0, nd, sub⟩ := S.ex
  obtain ⟨o, p1, p, p2, e1, e2, r1, f⟩ := r0.focus e
  obtain ⟨v, rfl, a, vs, rfl, rfl, h1, h2⟩ := r1
  have ma : a ∈ F := sub a (by rw [e2]; simp)
  rw [e2] at nd
  have na1 : a ∉ p1 := fun z => (List.nodup_append.mp (List.nodup_append.mp nd).1).2.2 a z a (by simp) rfl
  have na2 : a ∉ p2 := fun z => (List.nodup_append.mp nd).2.2 a (by simp) a z rfl
  have sub2 : ∀ b ∈ F.filter (fun c => decide (c ≠ a)), b ∈ F := fun b h => (mem_filter_ne.mp h).1
  have k : Kept H H (avo Fb F) (avo Fb (F.filter (fun c => decide (c ≠ a)))) := kept_sub fun b z => z.elim (fun h => .inl (sub2 b h)) .inr
  have nav : ¬ avo Fb (F.filter (fun c => decide (c ≠ a))) a := fun z => by
    rcases z with z | z
    · exact (mem_filter_ne.mp z).2 rfl
    · exact (S.fb a z).2 ma
  refine ⟨_, sub2, ⟨p1 ++ [] ++ p2, ?_, ?_, fun b hb => mem_filter_ne.mpr ⟨sub b ?_, ?_⟩⟩, fun b h => S.dom b (sub2 b h), fun b h => ⟨(S.fb b h).1, fun z => (S.fb b h).2 (sub2 b z)⟩, S.sfKeep e _⟩
  · have q := f (s' := .v (.d (.lst xs))) (o' := some (.ref a)) (p' := []) k (fun _ _ => rfl) (fun _ _ => rfl) ⟨_, rfl, rfl, a, vs, rfl, ⟨h1, nav⟩, RepL.mono k xs h2⟩
    rw [set_same e1] at q
    exact q
  · refine nd.sublist ?_
    rw [List.append_nil, List.append_assoc]
    exact (List.Sublist.refl p1).append (List.sublist_append_right [a] p2)
  · rw [e2]
    simp only [List.append_nil, List.mem_append] at hb ⊢
    rcases hb with h | h
    · exact .inl (.inl h)
    · exact .inr h
  · simp only [List.append_nil, List.mem_append] at hb
    rintro rfl
    exact hb.elim na1 na2
end
section
variable {T : CT} {Fb : Gh} {X : Cx} {e a b c o : Expr} {es : List Expr} {st : Stmt} {rest : List Stmt} {me ma : Env → Res D} {m m' : Env → Flow} {pos p apos : Pos} {x : Str} {k n : Nat}
/-! ### blocks and small statements -/
def mEnd : Env → Flow := .nx
def mSeq (m m' : Env → Flow) : Env → Flow := fun ρ => match m ρ with
  | .nx ρ' => m' ρ'
  | f => f
theorem mss_nil : MSs T Fb X [] mEnd := ⟨fun σ H F ρ D S o => pss_nil.tw (o σ H F Post.refl S)⟩
theorem seq_core {D : Ends} {σ : L2.St} {H : Hp} {F : List Addr} {ρ : Env} (h2 : MSs T Fb X rest m') (o : OutS X T Fb D H F (mSeq m m' ρ)) : OutS X T Fb { D with nx := TWss X rest D } H F (m ρ) := by
  unfold mSeq at o
  cases q : m ρ with
  | nx ρ' => rw [q] at o; exact fun σ' H' F' p S' => h2.run σ' H' F' ρ' D S' (OutS.post o p)
  | rt d ρ' => rw [q] at o; exact o
  | er x ρ' => rw [q] at o; exact o
  | bad => rw [q] at o; exact o
theorem mss_cons (h1 : MS T Fb X st m) (h2 : MSs T Fb X rest m') : MSs T Fb X (st :: rest) (mSeq m m') :=
  ⟨fun σ H F ρ D S o => (pss_cons ps_tw pss_tw).tw (h1.run σ H F ρ _ S (seq_core (σ := σ) h2 o))⟩
theorem mss_one (h1 : MS T Fb X st m) : MSs T Fb X [st] m := ⟨fun σ H F ρ D S o => (pss_one ps_tw).tw (h1.run σ H F ρ D S o)⟩
/-- from here on the list in slot i is whole -/
def frzE (i : Nat) (ρ : Env) : Env := match ρ[i]? with
  | some (.v (.ol xs)) => ρ.set i (.v (.d (.lst xs)))
  | _ => ρ
def mFrz (i : Nat) (m : Env → Flow) : Env → Flow := fun ρ => m (frzE i ρ)
theorem mss_frz (i : Nat) (h : MSs T Fb X rest m) : MSs T Fb X rest (mFrz i m) := by
  refine ⟨fun σ H F ρ D S o => ?_⟩
  unfold mFrz frzE at o
  split at o
  · rename_i xs e
    obtain ⟨F', sub, S'⟩ := S.frz e
    exact h.run σ H F' _ D S' (o.post ⟨fun a o h _ => h, fun a z => .inl (sub a z)⟩)
  · exact h.run σ H F ρ D S o
theorem ms_pass : MS T Fb X (.Pass pos) mEnd := ⟨fun σ H F ρ D S o => ps_pass.tw (o σ H F Post.refl S)⟩
def mEx {α : Type} (m : Env → Res α) : Env → Flow := fun ρ => bindF (m ρ) ρ fun _ => .nx ρ
theorem ms_expr (he : ME T Fb X e me) (hs : swapsWith e none pos.line X.env = pure false := by rfl) : MS T Fb X (.Expr e pos) (mEx me) :=
  ⟨fun σ H F ρ D S o => (ps_expr pe_tw hs).tw (he.run σ H F ρ _ S ((OutS.toOut S o).imp fun _ _ f _ H1 s _ => f σ H1 F (Post.of_same s) (S.same s)))⟩
def mRet (m : Env → Res D) : Env → Flow := fun ρ => bindF (m ρ) ρ fun d => .rt d ρ
theorem ms_ret (he : ME T Fb X e me) : MS T Fb X (.Return (some e) pos) (mRet me) :=
  ⟨fun σ H F ρ D S o => (ps_ret pe_tw).tw (he.run σ H F ρ _ S ((OutS.toOut S o).imp fun _ _ f v H1 s r => f v σ H1 F (Post.of_same s) (S.same s) r))⟩
def mIfS (t : Env → Res Bool) (m m' : Env → Flow) : Env → Flow := fun ρ => bindF (t ρ) ρ fun k => match k with
  | true => m ρ
  | false => m' ρ
theorem ms_if {t : Env → Res Bool} {A B : List Stmt} (hc : MT T Fb X c t) (ha : MSs T Fb X A m) (hb : MSs T Fb X B m') : MS T Fb X (.If c A B pos) (mIfS t m m') := by
  refine ⟨fun σ H F ρ D S o => (ps_if pt_tw pss_tw pss_tw).tw ?_⟩
  refine hc.run σ H F ρ _ S ((OutS.toOut S o).imp fun k _ o1 H1 s1 => ?_)
  cases k with
  | true => exact iteT (ha.run σ H1 F ρ D (S.same s1) (OutS.same (show OutS X T Fb D H F (m ρ) from o1) s1))
  | false => exact iteF (hb.run σ H1 F ρ D (S.same s1) (OutS.same (show OutS X T Fb D H F (m' ρ) from o1) s1))
/-- x = e -/
def mSet (i : Nat) (m : Env → Res D) : Env → Flow := fun ρ => bindF (m ρ) ρ fun d => put i (.v (.d d)) ρ
theorem OutS.put {D : Ends} {H : Hp} {F : List Addr} {ρ : Env} {i : Nat} {s : Sl} (o : OutS X T Fb D H F (put i s ρ)) : okS ρ i = true ∧ OutS X T Fb D H F (.nx (ρ.set i s)) := by
  unfold Cr.put at o
  by_cases h : okS ρ i = true
  · rw [if_pos h] at o; exact ⟨h, o⟩
  · rw [if_neg h] at o; exact False.elim o
theorem ms_set (i : Nat) {pos' : Pos} (hN : X.N.Nodup) (he : ME T Fb X e me) (hi : X.N[i]? = some x := by rfl) (hx : Loc X.env.scope x := by first | exact Or.inl rfl | exact Or.inr rfl) (hs : swapsWith e (some (.Name x pos')) pos.line X.env = pure false := by rfl)
    (hf : X.fn x = true ∨ X.env.scope.names.lookup x = some .local := by first | exact .inl rfl | exact .inr rfl | assumption) : MS T Fb X (.Assign [.Name x pos'] e pos) (mSet i me) := by
  refine ⟨fun σ H F ρ D S o => (ps_set hN hi hx pe_tw hs hf).tw ?_⟩
  refine he.run σ H F ρ _ S ((OutS.toOut S o).imp fun d _ o1 v H1 s r => ?_)
  obtain ⟨hl, o2⟩ := o1.put
  exact o2 _ _ F (Post.of_same s) ((S.same s).setD hl r)
/-- x = a new list that x will change -/
def mSetO (i : Nat) (m : Env → Res (List D)) : Env → Flow := fun ρ => bindF (m ρ) ρ fun d => put i (.v (.ol d)) ρ
theorem ms_setO (i : Nat) {mf : Env → Res (List D)} {pos' : Pos} (hN : X.N.Nodup) (he : MF T Fb X e mf) (hi : X.N[i]? = some x := by rfl) (hx : Loc X.env.scope x := by first | exact Or.inl rfl | exact Or.inr rfl) (hs : swapsWith e (some (.Name x pos')) pos.line X.env = pure false := by rfl)
    (hf : X.fn x = true ∨ X.env.scope.names.lookup x = some .local := by first | exact .inl rfl | exact .inr rfl | assumption) : MS T Fb X (.Assign [.Name x pos'] e pos) (mSetO i mf) := by
  refine ⟨fun σ H F ρ D S o => (ps_set hN hi hx pe_tw hs hf).tw ?_⟩
  refine he.run σ H F ρ _ S ((OutS.toOut S o).imp fun d _ o1 q vs H1 nq s hq r => ?_)
  obtain ⟨hl, o2⟩ := o1.put
  obtain ⟨p, S'⟩ := S.setO hl s nq hq r
  exact o2 _ _ _ p S'
theorem OutS.if {D : Ends} {H : Hp} {F : List Addr} {c : Prop} [Decidable c] {fl : Flow} (o : OutS X T Fb D H F (if c then fl else .bad)) : c ∧ OutS X T Fb D H F fl := by
  by_cases h : c
  · rw [if_pos h] at o; exact ⟨h, o⟩
  · rw [if_neg h] at o; exact False.elim o
end
end Cr
/-! Core, part 7: methods of one's own lists, fields, targets, loops. -/
namespace Cr
open PySem PySem.Spec PyProof.Rows L2
section
variable {T : CT} {Fb : Gh} {X : Cx} {e a b c o : Expr} {es : List Expr} {st : Stmt} {rest : List Stmt} {me ma : Env → Res D} {m m' : Env → Flow} {pos p apos : Pos} {x : Str} {k n : Nat}
/-! ### x.append(..), x a list of one's own -/
structure LstM (T : CT) (X : Cx) (mid : String) (g : List D → List D → Res (List D)) : Prop where
  ex : ∃ r : V → List V → Hp → VK → Prop, MtR X mid r ∧ ∀ (σ : L2.St) (H : Hp) (Av : Addr → Prop) (l : Addr) (xs ds : List D) (vs ws : List V) (Q : VK), H l = some (.lst vs) → RepL (gx X T) H Av xs vs → Paired (RepB (gx X T) H Av) ds ws →
    Out X T σ H (g xs ds) (fun ys => ∀ vs', RepL (gx X T) H Av ys vs' → Q .non (upd H l (.lst vs'))) → r (.ref l) ws H Q
/-- .. with arguments that go into the list -/
structure LstW (T : CT) (X : Cx) (mid : String) (g : List D → List D → Res (List D)) : Prop where
  ex : ∃ r : V → List V → Hp → VK → Prop, MtR X mid r ∧ ∀ (σ : L2.St) (H : Hp) (Av : Addr → Prop) (l : Addr) (xs ds : List D) (vs ws : List V) (Q : VK), H l = some (.lst vs) → RepL (gx X T) H Av xs vs → RepL (gx X T) H Av ds ws →
    Out X T σ H (g xs ds) (fun ys => ∀ vs', RepL (gx X T) H Av ys vs' → Q .non (upd H l (.lst vs'))) → r (.ref l) ws H Q
def appG : List D → List D → Res (List D)
  | xs, [d] => if xs.length < sizeLine then .ok (xs ++ [d]) else .bad
  | _, _ => .bad
theorem lw_append : LstW T X "list.append" appG := by
  refine ⟨_, mt_append, fun σ H Av l xs ds vs ws Q hl r1 r2 o => ?_⟩
  match ds, o with
  | [d], o =>
    obtain ⟨hz, f⟩ := o.if
    obtain ⟨v, vr, rfl, r3, r4⟩ := r2
    have r4 : vr = [] := r4
    subst r4
    exact ⟨l, vs, v, rfl, rfl, hl, by rw [r1.length]; exact hz, f _ (r1.append ⟨v, [], rfl, r3, rfl⟩)⟩
def insG : List D → List D → Res (List D)
  | xs, [.int i, d] => if xs.length < sizeLine ∧ 0 ≤ i ∧ i < 2 ^ 63 then .ok (xs.take i.toNat ++ [d] ++ xs.drop i.toNat) else .bad
  | _, _ => .bad
theorem lw_insert : LstW T X "list.insert" insG := by
  refine ⟨_, mt_insert, fun σ H Av l xs ds vs ws Q hl r1 r2 o => ?_⟩
  match ds, o with
  | [.int i, d], o =>
    obtain ⟨⟨hz, h0, h1⟩, f⟩ := o.if
    obtain ⟨v, vr, rfl, r3, w, vr', rfl, r4, r5⟩ := r2
    have r5 : vr' = [] := r5
    have r3 : v = V.int i := r3
    subst r5 r3
    exact ⟨l, vs, i, w, rfl, rfl, hl, by rw [r1.length]; exact hz, h0, h1, f _ (((r1.take _).append (RepL.cons r4 (RepL.nil_iff.mpr rfl))).append (r1.drop _))⟩
def extG : List D → List D → Res (List D)
  | xs, [.lst ys] => if xs.length + ys.length ≤ sizeLine then .ok (xs ++ ys) else .bad
  | _, _ => .bad
theorem lm_extend : LstM T X "list.extend" extG := by
  refine ⟨_, mt_extend, fun σ H Av l xs ds vs ws Q hl r1 r2 o => ?_⟩
  match ds, o with
  | [.lst ys], o =>
    obtain ⟨hz, f⟩ := o.if
    obtain ⟨v, rfl, b, zs, rfl, hb, r3⟩ := paired1 r2
    exact ⟨l, b, vs, zs, rfl, rfl, hl, hb, by rw [r1.length, r3.length]; exact hz, f _ (r1.append r3)⟩
/-- the list in slot i changed by g -/
def mLm (i : Nat) (g : List D → List D → Res (List D)) (ms : Env → Res (List D)) : Env → Flow := fun ρ => match ρ[i]? with
  | some (.v (.ol xs)) => bindF (ms ρ) ρ fun ds => bindF (g xs ds) ρ fun ys => .nx (ρ.set i (.v (.ol ys)))
  | _ => .bad
theorem ms_lw (i : Nat) {mid : String} {nm : Str} {p2 : Pos} {g : List D → List D → Res (List D)} {ms : Env → Res (List D)} (hM : LstW T X mid g) (ha : ML T Fb X es ms) (hN : X.N[i]? = some x := by rfl) (hv : Vis X.env.scope x := by first | exact Or.inl rfl | exact Or.inr (Or.inl rfl) | exact Or.inr (Or.inr rfl))
    (hd : (x == ("__debug__" : Str)) = false := by decide) (hcd : (x == ("__classdict__" : Str)) = false := by decide)
    (hs : swapsWith (.Call (.Attribute (.Name x p2) nm apos) es [] p) none pos.line X.env = pure false := by rfl)
    (hpe : ∀ {r : V → List V → Hp → VK → Prop} {to : TE} {t : TA}, MtR X mid r → PE X (.Name x p2) to → PA X es t → PE X (.Call (.Attribute (.Name x p2) nm apos) es [] p) (tBM X.K "list" r to t)) :
    MS T Fb X (.Expr (.Call (.Attribute (.Name x p2) nm apos) es [] p) pos) (mLm i g ms) := by
  obtain ⟨r, hr, f⟩ := hM.ex
  refine ⟨fun σ H F ρ De S o => (ps_expr (hpe hr (pe_var hN hv hd hcd) pa_tw) hs).tw ?_⟩
  unfold mLm at o
  split at o
  · rename_i xs e
    obtain ⟨a, vs, e1, h1, h2, _, _⟩ := S.chgO e
    refine ⟨_, e1, .inl ⟨rfl, vs, SqL.of h1⟩, ?_⟩
    refine ha.run σ H F ρ _ S ((OutS.toOut S o).imp fun ds _ o1 ws H1 s1 r1 => ?_)
    have S1 := S.same s1
    obtain ⟨a', vs', e1', h1', h2', _, k⟩ := S1.chgO e
    rw [e1] at e1'
    cases e1'
    refine f σ H1 (avo Fb F) a xs ds vs' ws _ h1' h2' r1 ((OutS.toOut S1 (o1.same s1)).imp fun ys _ o2 zs r3 => ?_)
    obtain ⟨p, S'⟩ := k r3
    exact o2 _ _ _ p S'
  · exact False.elim o
theorem ms_lm (i : Nat) {mid : String} {nm : Str} {p2 : Pos} {g : List D → List D → Res (List D)} {ms : Env → Res (List D)} (hM : LstM T X mid g) (ha : MLb T Fb X es ms) (hN : X.N[i]? = some x := by rfl) (hv : Vis X.env.scope x := by first | exact Or.inl rfl | exact Or.inr (Or.inl rfl) | exact Or.inr (Or.inr rfl))
    (hd : (x == ("__debug__" : Str)) = false := by decide) (hcd : (x == ("__classdict__" : Str)) = false := by decide)
    (hs : swapsWith (.Call (.Attribute (.Name x p2) nm apos) es [] p) none pos.line X.env = pure false := by rfl)
    (hpe : ∀ {r : V → List V → Hp → VK → Prop} {to : TE} {t : TA}, MtR X mid r → PE X (.Name x p2) to → PA X es t → PE X (.Call (.Attribute (.Name x p2) nm apos) es [] p) (tBM X.K "list" r to t)) :
    MS T Fb X (.Expr (.Call (.Attribute (.Name x p2) nm apos) es [] p) pos) (mLm i g ms) := by
  obtain ⟨r, hr, f⟩ := hM.ex
  refine ⟨fun σ H F ρ De S o => (ps_expr (hpe hr (pe_var hN hv hd hcd) pa_tw) hs).tw ?_⟩
  unfold mLm at o
  split at o
  · rename_i xs e
    obtain ⟨a, vs, e1, h1, h2, _, _⟩ := S.chgO e
    refine ⟨_, e1, .inl ⟨rfl, vs, SqL.of h1⟩, ?_⟩
    refine ha.run σ H F ρ _ S ((OutS.toOut S o).imp fun ds _ o1 ws H1 s1 r1 => ?_)
    have S1 := S.same s1
    obtain ⟨a', vs', e1', h1', h2', _, k⟩ := S1.chgO e
    rw [e1] at e1'
    cases e1'
    refine f σ H1 (avo Fb F) a xs ds vs' ws _ h1' h2' r1 ((OutS.toOut S1 (o1.same s1)).imp fun ys _ o2 zs r3 => ?_)
    obtain ⟨p, S'⟩ := k r3
    exact o2 _ _ _ p S'
  · exact False.elim o
/-- x[j] = e, x a list of one's own -/
def setG : List D → D → D → Res (List D)
  | xs, .int k, d => match ixN xs.length k with
    | some j => .ok (xs.set j d)
    | none => .bad
  | _, _, _ => .bad
def mSetIx (i : Nat) (mj me : Env → Res D) : Env → Flow := fun ρ => bindF (me ρ) ρ fun d => match ρ[i]? with
  | some (.v (.ol xs)) => bindF (mj ρ) ρ fun j => bindF (setG xs j d) ρ fun ys => .nx (ρ.set i (.v (.ol ys)))
  | _ => .bad
theorem ms_setIx (i : Nat) {p2 p3 : Pos} {mj : Env → Res D} (he : ME T Fb X e me) (hj : MB T Fb X b mj) (hN : X.N[i]? = some x := by rfl) (hv : Vis X.env.scope x := by first | exact Or.inl rfl | exact Or.inr (Or.inl rfl) | exact Or.inr (Or.inr rfl))
    (hd : (x == ("__debug__" : Str)) = false := by decide) (hcd : (x == ("__classdict__" : Str)) = false := by decide)
    (ha : ∀ v, assign (.Subscript (.Name x p2) b p3) X.env v = (do
      let ov ← holding [v] (eval (.Name x p2) X.env)
      let iv ← holding [v, ov] (eval b X.env)
      standAt p3
      holding [v, ov, iv] (setItem ov iv v)
      release [v, ov, iv] []) := by intro _; rfl)
    (hs : swapsWithSole [.Subscript (.Name x p2) b p3] e pos.line X.env = pure false := by rfl) (hw : swappedStores [.Subscript (.Name x p2) b p3] e X.env = pure none := by rfl)
    (h1 : (assignEach [.Subscript (.Name x p2) b p3] X.env).map (·.2) = [assign (.Subscript (.Name x p2) b p3) X.env] := by rfl) : MS T Fb X (.Assign [.Subscript (.Name x p2) b p3] e pos) (mSetIx i mj me) := by
  refine ⟨fun σ H F ρ De S o => (ps_asg pe_tw (pg_sub (pe_var hN hv hd hcd) pe_tw set_list ha) hs hw h1).tw ?_⟩
  refine he.run σ H F ρ _ S ((OutS.toOut S o).imp fun d _ o1 v H1 s1 r1 => ?_)
  have S1 := S.same s1
  split at o1
  · rename_i xs e
    obtain ⟨a, vs, e1, h1, h2, _, _⟩ := S1.chgO e
    refine ⟨_, e1, ?_⟩
    refine hj.run σ H1 F ρ _ S1 ((OutS.toOut S1 (o1.same s1)).imp fun j _ o2 u H2 s2 r2 => ?_)
    have S2 := S1.same s2
    obtain ⟨a', vs', e1', h1', h2', _, k⟩ := S2.chgO e
    rw [e1] at e1'
    cases e1'
    have o3 := OutS.toOut S2 (o2.same s2)
    cases j with
    | int kk =>
      have r2 : u = V.int kk := r2
      have o3 : Out X T σ H2 (match ixN xs.length kk with
        | some j => Res.ok (xs.set j d)
        | none => .bad) _ := o3
      cases q : ixN xs.length kk with
      | none => rw [q] at o3; exact False.elim o3
      | some j =>
        rw [q] at o3
        refine ⟨a, vs', kk, j, rfl, r2, h1', by rw [h2'.length]; exact q, ?_⟩
        obtain ⟨p, S'⟩ := k (h2'.set j (r1.same s2))
        exact o3 _ _ _ p S'
    | _ => exact False.elim o3
  · exact False.elim o1
end
end Cr
/-! Core, part 8: targets, for, while. -/
namespace Cr
open PySem PySem.Spec PyProof.Rows L2
def Only (vs : List Nat) (σ σ' : L2.St) : Prop := σ'.length = σ.length ∧ ∀ j, j ∉ vs → σ'[j]? = σ[j]?
theorem Only.refl (vs : List Nat) (σ : L2.St) : Only vs σ σ := ⟨rfl, fun _ _ => rfl⟩
theorem Only.trans {vs : List Nat} {σ σ1 σ2 : L2.St} (a : Only vs σ σ1) (b : Only vs σ1 σ2) : Only vs σ σ2 := ⟨b.1.trans a.1, fun j h => (b.2 j h).trans (a.2 j h)⟩
theorem Only.set {vs : List Nat} {i : Nat} (h : i ∈ vs) (σ : L2.St) (o : Option V) : Only vs σ (σ.set i o) := ⟨List.length_set, fun j hj => List.getElem?_set_ne fun z => hj (by rw [← z]; exact h)⟩
def TWg (X : Cx) (tg : Expr) : TG := fun v σ H Q => ∀ (pins : List (Addr × Obj)) (s : Shared) (u : Value), Inv X pins σ H s → RelV v u → wpAny (model X.prog X.w) X.A (assign tg X.env u) (fun _ s' => ∃ σ' H', Inv X pins σ' H' s' ∧ Q σ' H') X.xe s
def TWgs (X : Cx) (ts : List Expr) : TGs := fun vs σ H Q => ∀ (pins : List (Addr × Obj)) (s : Shared) (us : List Value), Inv X pins σ H s → Vals vs us → wpAny (model X.prog X.w) X.A (assignInOrder ((assignEach ts X.env).map (·.2)) us) (fun _ s' => ∃ σ' H', Inv X pins σ' H' s' ∧ Q σ' H') X.xe s
theorem pg_tw {X : Cx} {tg : Expr} : PG X tg (TWg X tg) := ⟨fun pins s σ H v u Q I r h => h pins s u I r⟩
theorem pgs_tw {X : Cx} {ts : List Expr} : PGs X ts (TWgs X ts) := ⟨fun pins s σ H vs us Q I r h => h pins s us I r⟩
theorem _root_.L2.PG.tw {X : Cx} {tg : Expr} {t : TG} {v : V} {σ : L2.St} {H : Hp} {Q : L2.St → Hp → Prop} (h : PG X tg t) (q : t v σ H Q) : TWg X tg v σ H Q := fun pins s u I r => h.run pins s σ H v u Q I r q
theorem _root_.L2.PGs.tw {X : Cx} {ts : List Expr} {t : TGs} {vs : List V} {σ : L2.St} {H : Hp} {Q : L2.St → Hp → Prop} (h : PGs X ts t) (q : t vs σ H Q) : TWgs X ts vs σ H Q := fun pins s us I r => h.run pins s σ H vs us Q I r q
section
variable (T : CT) (Fb : Gh) (X : Cx)
structure MG (tg : Expr) (vs : List Nat) (g : D → Env → Option Env) : Prop where
  run : ∀ (σ : L2.St) (H : Hp) (F : List Addr) (ρ ρ' : Env) (d : D) (v : V) (Q : L2.St → Hp → Prop), StR (gx X T) Fb H σ ρ F → Rep (gx X T) H (avo Fb F) d v → g d ρ = some ρ' →
    (∀ σ', Only vs σ σ' → StR (gx X T) Fb H σ' ρ' F → Q σ' H) → TWg X tg v σ H Q
structure MGs (ts : List Expr) (vs : List Nat) (g : List D → Env → Option Env) : Prop where
  run : ∀ (σ : L2.St) (H : Hp) (F : List Addr) (ρ ρ' : Env) (ds : List D) (ws : List V) (Q : L2.St → Hp → Prop), StR (gx X T) Fb H σ ρ F → RepL (gx X T) H (avo Fb F) ds ws → g ds ρ = some ρ' →
    (∀ σ', Only vs σ σ' → StR (gx X T) Fb H σ' ρ' F → Q σ' H) → TWgs X ts ws σ H Q
end
section
variable {T : CT} {Fb : Gh} {X : Cx} {e a b c o : Expr} {es : List Expr} {st : Stmt} {rest : List Stmt} {me ma : Env → Res D} {m m' : Env → Flow} {pos p apos : Pos} {x : Str} {k n : Nat} {vs : List Nat}
def gN (i : Nat) : D → Env → Option Env := fun d ρ => if okS ρ i = true then some (ρ.set i (.v (.d d))) else none
def gS0 : List D → Env → Option Env := fun ds ρ => match ds with
  | [] => some ρ
  | _ => none
def gSc (g : D → Env → Option Env) (gs : List D → Env → Option Env) : List D → Env → Option Env := fun ds ρ => match ds with
  | [] => none
  | d :: ds => match g d ρ with
    | some ρ1 => gs ds ρ1
    | none => none
def gT (gs : List D → Env → Option Env) : D → Env → Option Env := fun d ρ => match d with
  | .tup xs => gs xs ρ
  | _ => none
def gL (gs : List D → Env → Option Env) : D → Env → Option Env := fun d ρ => match d with
  | .lst xs => gs xs ρ
  | _ => none
theorem mg_name (i : Nat) (hN : X.N.Nodup) (hm : i ∈ vs := by decide) (hi : X.N[i]? = some x := by rfl) (hx : Loc X.env.scope x := by first | exact Or.inl rfl | exact Or.inr rfl)
    (hf : X.fn x = true ∨ X.env.scope.names.lookup x = some .local := by first | exact .inl rfl | exact .inr rfl | assumption) : MG T Fb X (.Name x pos) vs (gN i) := by
  refine ⟨fun σ H F ρ ρ' d v Q S r e h => (pg_name hN hi hx hf).tw ?_⟩
  unfold gN at e
  by_cases hl : okS ρ i = true
  · rw [if_pos hl] at e
    cases e
    exact h _ (Only.set hm σ _) (S.setD hl r)
  · rw [if_neg hl] at e; cases e
theorem mgs_nil : MGs T Fb X [] vs gS0 := by
  refine ⟨fun σ H F ρ ρ' ds ws Q S r e h => pgs_nil.tw ?_⟩
  cases ds with
  | nil =>
    cases e
    exact ⟨r, h σ (Only.refl vs σ) S⟩
  | cons d ds => cases e
theorem mgs_cons {g : D → Env → Option Env} {gs : List D → Env → Option Env} (h1 : MG T Fb X e vs g) (h2 : MGs T Fb X es vs gs) (hs : (assignEach (e :: es) X.env).map (·.2) = assign e X.env :: (assignEach es X.env).map (·.2) := by rfl) : MGs T Fb X (e :: es) vs (gSc g gs) := by
  refine ⟨fun σ H F ρ ρ' ds ws Q S r eq h => (pgs_cons pg_tw pgs_tw hs).tw ?_⟩
  cases ds with
  | nil => cases eq
  | cons d ds =>
    obtain ⟨v, vr, rfl, r1, r2⟩ := r
    refine ⟨v, vr, rfl, ?_⟩
    have eq : (match g d ρ with
      | some ρ1 => gs ds ρ1
      | none => none) = some ρ' := eq
    cases q : g d ρ with
    | none => rw [q] at eq; cases eq
    | some ρ1 =>
      rw [q] at eq
      exact h1.run σ H F ρ ρ1 d v _ S r1 q fun σ1 on1 S1 => h2.run σ1 H F ρ1 ρ' ds vr _ S1 r2 eq fun σ2 on2 S2 => h σ2 (on1.trans on2) S2
theorem RepL.of_len {G : Gx} {H : Hp} {Av : Addr → Prop} {ds : List D} {vs : List V} (r : RepL G H Av ds vs) {n : Nat} (h : ds.length = n) : vs.length = n := by rw [r.length, h]
theorem mg_tup {j : Nat} {gs : List D → Env → Option Env} (hc : X.calm = true) (h : MGs T Fb X es vs gs) (hlen : ∀ ds ρ ρ', gs ds ρ = some ρ' → ds.length = n) (hn : (assignEach es X.env).length = n := by rfl) (hst : (assignEach es X.env).findIdx? (·.1) = none := by rfl) :
    MG T Fb X (.Tuple es j pos) vs (gT gs) := by
  refine ⟨fun σ H F ρ ρ' d v Q S r eq hQ => (pg_tup hc pgs_tw hn hst).tw ?_⟩
  cases d with
  | tup xs =>
    obtain ⟨a, ws, rfl, h1, h2⟩ := r
    exact ⟨a, ws, rfl, tup_sq h1, h2.of_len (hlen _ _ _ eq), h.run σ H F ρ ρ' xs ws Q S h2 eq hQ⟩
  | _ => cases eq
theorem mg_lst {j : Nat} {gs : List D → Env → Option Env} (hc : X.calm = true) (h : MGs T Fb X es vs gs) (hlen : ∀ ds ρ ρ', gs ds ρ = some ρ' → ds.length = n) (hn : (assignEach es X.env).length = n := by rfl) (hst : (assignEach es X.env).findIdx? (·.1) = none := by rfl) :
    MG T Fb X (.Tuple es j pos) vs (gL gs) := by
  refine ⟨fun σ H F ρ ρ' d v Q S r eq hQ => (pg_lst hc pgs_tw hn hst).tw ?_⟩
  cases d with
  | lst xs =>
    obtain ⟨a, ws, rfl, h1, h2⟩ := r
    exact ⟨a, ws, rfl, SqL.of h1.1, h2.of_len (hlen _ _ _ eq), h.run σ H F ρ ρ' xs ws Q S h2 eq hQ⟩
  | _ => cases eq
theorem glen_nil : ∀ ds ρ ρ', gS0 ds ρ = some ρ' → ds.length = 0 := fun ds ρ ρ' h => by
  cases ds with
  | nil => rfl
  | cons _ _ => cases h
theorem glen_cons {g : D → Env → Option Env} {gs : List D → Env → Option Env} (h : ∀ ds ρ ρ', gs ds ρ = some ρ' → ds.length = n) : ∀ ds ρ ρ', gSc g gs ds ρ = some ρ' → ds.length = n + 1 := fun ds ρ ρ' e => by
  cases ds with
  | nil => cases e
  | cons d ds =>
    have eq : (match g d ρ with
      | some ρ1 => gs ds ρ1
      | none => none) = some ρ' := e
    cases q : g d ρ with
    | none => rw [q] at eq; cases eq
    | some ρ1 => rw [q] at eq; rw [List.length_cons, h _ _ _ eq]
/-- target = e -/
def mAsg (g : D → Env → Option Env) (m : Env → Res D) : Env → Flow := fun ρ => bindF (m ρ) ρ fun d => match g d ρ with
  | some ρ' => .nx ρ'
  | none => .bad
theorem ms_asg {g : D → Env → Option Env} {tg : Expr} (he : ME T Fb X e me) (hg : MG T Fb X tg vs g) (hs : swapsWithSole [tg] e pos.line X.env = pure false := by rfl) (hw : swappedStores [tg] e X.env = pure none := by rfl)
    (h1 : (assignEach [tg] X.env).map (·.2) = [assign tg X.env] := by rfl) : MS T Fb X (.Assign [tg] e pos) (mAsg g me) := by
  refine ⟨fun σ H F ρ De S o => (ps_asg pe_tw pg_tw hs hw h1).tw ?_⟩
  refine he.run σ H F ρ _ S ((OutS.toOut S o).imp fun d _ o1 v H1 s1 r1 => ?_)
  cases q : g d ρ with
  | none =>
    have o1 : OutS X T Fb De H F (match g d ρ with
      | some ρ' => .nx ρ'
      | none => .bad) := o1
    rw [q] at o1; exact False.elim o1
  | some ρ' =>
    have o1 : OutS X T Fb De H F (match g d ρ with
      | some ρ' => .nx ρ'
      | none => .bad) := o1
    rw [q] at o1
    exact hg.run σ H1 F ρ ρ' d v _ (S.same s1) r1 q fun σ2 _ S2 => o1 _ _ _ (Post.of_same s1) S2
/-- a, b = x, y with plain local names -/
def mPar (i j : Nat) (ms : Env → Res (List D)) : Env → Flow := fun ρ => bindF (ms ρ) ρ fun ds => match ds with
  | [d, d2] => if okS ρ i = true ∧ okS (ρ.set i (.v (.d d))) j = true then .nx ((ρ.set i (.v (.d d))).set j (.v (.d d2))) else .bad
  | _ => .bad
theorem ms_par (i j : Nat) {y : Str} {px py pt : Pos} {kt k2 : Nat} {pt2 : Pos} {ms : Env → Res (List D)} (hc : X.calm = true) (hN : X.N.Nodup) (ha : ML T Fb X [a, b] ms) (hi : X.N[i]? = some x := by rfl) (hj : X.N[j]? = some y := by rfl) (hij : i ≠ j := by decide)
    (hx : X.env.scope.names.lookup x = some .local := by rfl) (hy : X.env.scope.names.lookup y = some .local := by rfl)
    (hw : swappedStores [.Tuple [.Name x px, .Name y py] kt pt] (.Tuple [a, b] k2 pt2) X.env = pure (some [x, y]) := by rfl)
    (hs : swapsWithSole [.Tuple [.Name x px, .Name y py] kt pt] (.Tuple [a, b] k2 pt2) pos.line X.env = pure false := by rfl) : MS T Fb X (.Assign [.Tuple [.Name x px, .Name y py] kt pt] (.Tuple [a, b] k2 pt2) pos) (mPar i j ms) := by
  refine ⟨fun σ H F ρ De S o => (ps_par hc hN hi hj hij hx hy pa_tw hw hs).tw ?_⟩
  refine ha.run σ H F ρ _ S ((OutS.toOut S o).imp fun ds _ o1 ws H1 s1 r1 => ?_)
  match ds, o1 with
  | [d, d2], o1 =>
    obtain ⟨⟨l1, l2⟩, o2⟩ := OutS.if o1
    obtain ⟨v, vr, rfl, r2, w, vr2, rfl, r3, r4⟩ := r1
    have r4 : vr2 = [] := r4
    subst r4
    refine ⟨v, w, rfl, ?_⟩
    exact o2 _ _ _ (Post.of_same s1) (((S.same s1).setD l1 r2).setD l2 r3)
/-- x op= e -/
theorem ms_aug (i : Nat) {op : Operator} {g : D → D → Res D} {p' : Pos} {mb : Env → Res D} (hN : X.N.Nodup) (ho : OpM T X (inplaceOp op) g) (hb : MB T Fb X e mb) (hi : X.N[i]? = some x := by rfl) (hx : Loc X.env.scope x := by first | exact Or.inl rfl | exact Or.inr rfl)
    (hf : X.fn x = true ∨ X.env.scope.names.lookup x = some .local := by first | exact .inl rfl | exact .inr rfl | assumption) : MS T Fb X (.AugAssign (.Name x p') op e pos) (mSet i (mBin g (mVar i) mb)) := by
  obtain ⟨r, hr, f⟩ := ho.ex
  refine ⟨fun σ H F ρ De S o => (ps_aug hN hi hx pe_tw (ti := r) (fun pins s σ H x y v u Q I r1 r2 h => hr pins s σ H x y v u Q I r1 r2 h) hf).tw ?_⟩
  have o1 := OutS.toOut S o
  have o2 := o1.bind
  unfold mVar at o2
  split at o2
  · rename_i d e1
    obtain ⟨o', p, e2, r1, _⟩ := S.slot e1
    obtain ⟨v, rfl, r1⟩ := r1
    refine ⟨v, e2, ?_⟩
    have o2 : Out X T σ H (mb ρ >>= fun y => g d y) _ := o2
    refine hb.run σ H F ρ _ S (o2.bind.imp fun y _ o3 w H1 s1 r3 => ?_)
    refine f σ H1 (avo Fb F) d y v w _ (S.same s1).av (r1.2.same s1).b r3 ((o3.same s1).imp fun z _ o4 u H2 s2 r4 => ?_)
    obtain ⟨hl, o5⟩ := OutS.put o4
    exact o5 _ _ F (Post.of_same (s1.trans s2)) (((S.same s1).same s2).setD hl r4)
  · exact False.elim o2
end
end Cr
/-! Core, part 9: what is walked; for, while, comprehensions. -/
namespace Cr
open PySem PySem.Spec PyProof.Rows L2
structure ItOk (G : Gx) (J : It) (xs : List D) (P : Hp → (Addr → Prop) → Prop) : Prop where
  same : ∀ {H H' : Hp} {Av : Addr → Prop}, P H Av → Same H H' → P H' Av
  new : ∀ {H : Hp} {Av : Addr → Prop} {p : Addr} {o : HO}, P H Av → H p = none → P (upd H p o) (fun a => a = p ∨ Av a)
  go : ∀ {H : Hp} {Av : Addr → Prop} {i : Nat}, P H Av → i < xs.length → J.go i H
  stop : ∀ {H : Hp} {Av : Addr → Prop} {i : Nat}, P H Av → xs.length ≤ i → J.stop i H
  yld : ∀ {H : Hp} {Av : Addr → Prop} {i : Nat} {x : V} {H' : Hp} {d : D}, P H Av → (∀ a, Av a → H a ≠ none) → xs[i]? = some d → J.yld i H x H' → Same H H' ∧ Rep G H' Av d x
def ItFz (P : Hp → (Addr → Prop) → Prop) : Prop := ∀ {H H' : Hp} {Av Av' : Addr → Prop}, P H Av → Kept H H' Av Av' → P H' Av'
section
variable (T : CT) (Fb : Gh) (X : Cx)
/-- what a for walks: it stands whatever the body does to its own -/
structure MI (tg iter : Expr) (m : Env → Res (List D)) : Prop where
  ex : ∃ wi : TI, PI X tg iter wi ∧ ∀ (σ : L2.St) (H : Hp) (F : List Addr) (ρ : Env) (R : It → Hp → Prop), StR (gx X T) Fb H σ ρ F →
    Out X T σ H (m ρ) (fun xs => ∀ J H' P, Same H H' → ItOk (gx X T) J xs P → ItFz P → P H' (avo Fb F) → R J H') → wi σ H R
/-- what a comprehension walks -/
structure MIb (tg iter : Expr) (m : Env → Res (List D)) : Prop where
  ex : ∃ wi : TI, PI X tg iter wi ∧ ∀ (σ : L2.St) (H : Hp) (F : List Addr) (ρ : Env) (R : It → Hp → Prop), StR (gx X T) Fb H σ ρ F →
    Out X T σ H (m ρ) (fun xs => ∀ J H' P, Same H H' → ItOk (gx X T) J xs P → P H' (avo Fb F) → R J H') → wi σ H R
end
theorem MI.b {T : CT} {Fb : Gh} {X : Cx} {tg iter : Expr} {m : Env → Res (List D)} (h : MI T Fb X tg iter m) : MIb T Fb X tg iter m := by
  obtain ⟨wi, hp, f⟩ := h.ex
  exact ⟨wi, hp, fun σ H F ρ R S o => f σ H F ρ R S (o.imp fun xs _ g J H' P s i _ p => g J H' P s i p)⟩
section
variable {G : Gx}
theorem SqL.val {K : PySem.W.Frag} {H : Hp} {a : Addr} {xs : List V} (h : H a = some (.lst xs)) : SqL K H a xs := SqL.of h
theorem it_lst {a : Addr} {xs : List D} : ItOk G (Itl G.K a) xs (fun H Av => ∃ vs, H a = some (.lst vs) ∧ RepL G H Av xs vs) where
  same := fun ⟨vs, h1, h2⟩ s => ⟨vs, s _ _ h1, h2.same s⟩
  new := fun ⟨vs, h1, h2⟩ hp => ⟨vs, by rw [upd_ne (ne_of_none h1 hp)]; exact h1, h2.new hp⟩
  go := fun {H Av i} ⟨vs, h1, h2⟩ hi => ⟨vs, vs[i]'(by rw [h2.length]; exact hi), SqL.of h1, by simp⟩
  stop := fun ⟨vs, h1, h2⟩ hi => ⟨vs, SqL.of h1, by rw [h2.length]; exact hi⟩
  yld := fun {H Av i x H' d} ⟨vs, h1, h2⟩ _ e y => by
    obtain ⟨e1, y⟩ := y
    obtain ⟨v, e2, r⟩ := h2.get e
    have e3 := y vs (SqL.of h1)
    rw [e2] at e3
    cases e3
    rw [e1]
    exact ⟨Same.refl H, r⟩
theorem it_tup {a : Addr} {xs : List D} : ItOk G (Itt G.K a) xs (fun H Av => ∃ vs, ((H a = some (.tup vs) ∧ ¬ Av a) ∨ KTup G.K a vs) ∧ RepL G H Av xs vs) where
  same := fun ⟨vs, h1, h2⟩ s => ⟨vs, h1.elim (fun q => .inl ⟨s _ _ q.1, q.2⟩) .inr, h2.same s⟩
  new := fun ⟨vs, h1, h2⟩ hp => ⟨vs, h1.elim (fun q => .inl ⟨by rw [upd_ne (ne_of_none q.1 hp)]; exact q.1, fun z => z.elim (ne_of_none q.1 hp) q.2⟩) .inr, h2.new hp⟩
  go := fun {H Av i} ⟨vs, h1, h2⟩ hi => ⟨vs, vs[i]'(by rw [h2.length]; exact hi), tup_sq h1, by simp⟩
  stop := fun ⟨vs, h1, h2⟩ hi => ⟨vs, tup_sq h1, by rw [h2.length]; exact hi⟩
  yld := fun {H Av i x H' d} ⟨vs, h1, h2⟩ _ e y => by
    obtain ⟨e1, y⟩ := y
    obtain ⟨v, e2, r⟩ := h2.get e
    have e3 := y vs (tup_sq h1)
    rw [e2] at e3
    cases e3
    rw [e1]
    exact ⟨Same.refl H, r⟩
def rangeD (lo c : Int) (n : Nat) : List D := (List.range n).map fun (i : Nat) => D.int (lo + (i : Int) * c)
theorem it_rng {lo c : Int} {n : Nat} : ItOk G (Itc lo c n) (rangeD lo c n) (fun _ _ => True) where
  same := fun _ _ => True.intro
  new := fun _ _ => True.intro
  go := fun {H Av i} _ hi => by
    have : (rangeD lo c n).length = n := by unfold rangeD; simp
    rw [this] at hi; exact hi
  stop := fun {H Av i} _ hi => by
    have : (rangeD lo c n).length = n := by unfold rangeD; simp
    rw [this] at hi; exact hi
  yld := fun {H Av i x H' d} _ _ e y => by
    obtain ⟨e1, e2⟩ := y
    rw [e1, e2]
    unfold rangeD at e
    rw [List.getElem?_map] at e
    cases q : (List.range n)[i]? with
    | none => rw [q] at e; cases e
    | some j =>
      rw [q] at e; cases e
      have : j = i := by
        rw [List.getElem?_range] at q
        · cases q; rfl
        · obtain ⟨h, _⟩ := List.getElem?_eq_some_iff.mp q
          simpa using h
      rw [this]
      exact ⟨Same.refl H, rfl⟩
theorem it_rng1 {lo : Int} {n : Nat} : ItOk G (Itr lo n) (rangeD lo 1 n) (fun _ _ => True) where
  same := fun _ _ => True.intro
  new := fun _ _ => True.intro
  go := fun {H Av i} h hi => (it_rng (G := G) (lo := lo) (c := 1) (n := n)).go (H := H) (Av := Av) h hi
  stop := fun {H Av i} h hi => (it_rng (G := G) (lo := lo) (c := 1) (n := n)).stop (H := H) (Av := Av) h hi
  yld := fun {H Av i x H' d} h hav e y => (it_rng (G := G) (lo := lo) (c := 1) (n := n)).yld h hav e ⟨y.1, by rw [Int.mul_one]; exact y.2⟩
def zipD (xs ys : List D) : List D := List.zipWith (fun a b => .tup [a, b]) xs ys
theorem it_zip {a b : Addr} {xs ys : List D} : ItOk G (Itz G.K a b) (zipD xs ys) (fun H Av => ∃ vs ws, H a = some (.lst vs) ∧ H b = some (.lst ws) ∧ RepL G H Av xs vs ∧ RepL G H Av ys ws) where
  same := fun ⟨vs, ws, h1, h2, h3, h4⟩ s => ⟨vs, ws, s _ _ h1, s _ _ h2, h3.same s, h4.same s⟩
  new := fun ⟨vs, ws, h1, h2, h3, h4⟩ hp => ⟨vs, ws, by rw [upd_ne (ne_of_none h1 hp)]; exact h1, by rw [upd_ne (ne_of_none h2 hp)]; exact h2, h3.new hp, h4.new hp⟩
  go := fun {H Av i} ⟨vs, ws, h1, h2, h3, h4⟩ hi => by
    unfold zipD at hi
    rw [List.length_zipWith] at hi
    have l1 : i < vs.length := by rw [h3.length]; omega
    have l2 : i < ws.length := by rw [h4.length]; omega
    exact ⟨vs, ws, vs[i], ws[i], SqL.of h1, SqL.of h2, by simp, by simp⟩
  stop := fun {H Av i} ⟨vs, ws, h1, h2, h3, h4⟩ hi => by
    unfold zipD at hi
    rw [List.length_zipWith] at hi
    refine ⟨vs, ws, SqL.of h1, SqL.of h2, ?_⟩
    rw [h3.length, h4.length]
    omega
  yld := fun {H Av i x H' d} ⟨vs, ws, h1, h2, h3, h4⟩ hav e y => by
    obtain ⟨t, u, v, rfl, ht, rfl, y1, y2⟩ := y
    unfold zipD at e
    rw [List.getElem?_zipWith] at e
    cases q1 : xs[i]? with
    | none => rw [q1] at e; cases e
    | some d1 =>
      cases q2 : ys[i]? with
      | none => rw [q1, q2] at e; cases e
      | some d2 =>
        rw [q1, q2] at e
        cases e
        obtain ⟨v1, e1, r1⟩ := h3.get q1
        obtain ⟨v2, e2, r2⟩ := h4.get q2
        have e3 := y1 vs (SqL.of h1)
        have e4 := y2 ws (SqL.of h2)
        rw [e1] at e3
        rw [e2] at e4
        cases e3
        cases e4
        have s := same_upd (o := .tup [u, v]) ht
        exact ⟨s, t, [u, v], rfl, .inl ⟨upd_same, fun z => absurd ht (hav t z)⟩, u, [v], rfl, r1.same s, v, [], rfl, r2.same s, rfl⟩
end
section
variable {T : CT} {Fb : Gh} {X : Cx} {e a b c o tg iter elt : Expr} {es ifs : List Expr} {st : Stmt} {rest body : List Stmt} {me ma mb' : Env → Res D} {m m' mb : Env → Flow} {pos p apos : Pos} {x : Str} {k n : Nat} {vs : List Nat}
def lstOf : D → Res (List D)
  | .lst xs => .ok xs
  | _ => .bad
def tupOf : D → Res (List D)
  | .tup xs => .ok xs
  | _ => .bad
theorem mi_list (h : ME T Fb X e me) : MI T Fb X tg e (mUnF lstOf me) := by
  refine ⟨_, pi_list pe_tw, fun σ H F ρ R S o => ?_⟩
  refine h.run σ H F ρ _ S (o.bind.imp fun d _ o1 v H1 s r => ?_)
  cases d with
  | lst xs =>
    obtain ⟨a, vs, rfl, ⟨h1, na⟩, h2⟩ := r
    refine ⟨a, rfl, ⟨vs, SqL.of h1⟩, o1 _ H1 (fun H Av => ¬ Av a ∧ ∃ vs, H a = some (.lst vs) ∧ RepL (gx X T) H Av xs vs) s ?_ ?_ ⟨na, vs, h1, h2⟩⟩
    · exact ⟨fun p s => ⟨p.1, it_lst.same p.2 s⟩, fun {H Av q o} p hq => ⟨fun z => z.elim (fun e => by obtain ⟨vs, h1, _⟩ := p.2; exact ne_of_none h1 hq e) p.1, it_lst.new (G := gx X T) p.2 hq⟩, fun p hi => it_lst.go (G := gx X T) p.2 hi, fun p hi => it_lst.stop (G := gx X T) p.2 hi, fun p hav e y => it_lst.yld p.2 hav e y⟩
    · exact fun {H H' Av Av'} p k => by
        obtain ⟨na, vs, h1, h2⟩ := p
        exact ⟨k.no h1 na, vs, k.keep _ _ h1 na, RepL.mono k _ h2⟩
  | _ => exact False.elim o1
theorem mib_list (h : MB T Fb X e me) : MIb T Fb X tg e (mUnF lstOf me) := by
  refine ⟨_, pi_list pe_tw, fun σ H F ρ R S o => ?_⟩
  refine h.run σ H F ρ _ S (o.bind.imp fun d _ o1 v H1 s r => ?_)
  cases d with
  | lst xs =>
    obtain ⟨a, vs, rfl, h1, h2⟩ := r
    exact ⟨a, rfl, ⟨vs, SqL.of h1⟩, o1 _ H1 _ s it_lst ⟨vs, h1, h2⟩⟩
  | _ => exact False.elim o1
theorem mi_tup (h : ME T Fb X e me) : MI T Fb X tg e (mUnF tupOf me) := by
  refine ⟨_, pi_tup pe_tw, fun σ H F ρ R S o => ?_⟩
  refine h.run σ H F ρ _ S (o.bind.imp fun d _ o1 v H1 s r => ?_)
  cases d with
  | tup xs =>
    obtain ⟨a, vs, rfl, h1, h2⟩ := r
    refine ⟨a, rfl, ⟨vs, tup_sq h1⟩, o1 _ H1 _ s it_tup ?_ ⟨vs, h1, h2⟩⟩
    exact fun {H H' Av Av'} p k => by
      obtain ⟨vs, h1, h2⟩ := p
      exact ⟨vs, h1.elim (fun q => .inl ⟨k.keep _ _ q.1 q.2, k.no q.1 q.2⟩) .inr, RepL.mono k _ h2⟩
  | _ => exact False.elim o1
theorem fz_true : ItFz (fun _ _ => True) := fun _ _ => True.intro
def rng1 : List D → Res (List D)
  | [.int n] => if -(2 ^ 62) ≤ n ∧ n < 2 ^ 62 then .ok (rangeD 0 1 n.toNat) else .bad
  | _ => .bad
def rng2 : List D → Res (List D)
  | [.int lo, .int hi] => if -(2 ^ 62) ≤ lo ∧ lo < 2 ^ 62 ∧ -(2 ^ 62) ≤ hi ∧ hi < 2 ^ 62 then .ok (rangeD lo 1 (hi - lo).toNat) else .bad
  | _ => .bad
/-- range(a, b, -1) -/
def rng3 : List D → Res (List D)
  | [.int lo, .int hi, .int c] => if c = -1 ∧ -(2 ^ 62) ≤ lo ∧ lo < 2 ^ 62 ∧ -(2 ^ 62) ≤ hi ∧ hi < 2 ^ 62 then .ok (rangeD lo (-1) (lo - hi).toNat) else .bad
  | _ => .bad
theorem mi_range1 {ms : Env → Res (List D)} (hm : X.mg "range" = none) (ha : ML T Fb X [a] ms) (hg : Gl X "range" := by rfl) (hs : starEach [a] X.env = [(false, eval a X.env)] := by rfl) : MI T Fb X tg (.Call (.Name "range" p) [a] [] pos) (mArg rng1 ms) := by
  refine ⟨_, pi_range1 hg hm pa_tw hs, fun σ H F ρ R S o => ?_⟩
  refine ha.run σ H F ρ _ S (o.bind.imp fun ds _ o1 ws H1 s r => ?_)
  match ds, o1 with
  | [.int n], o1 =>
    obtain ⟨⟨h1, h2⟩, f⟩ := o1.if
    obtain ⟨v, vr, rfl, r1, r2⟩ := r
    have r1 : v = V.int n := r1
    have r2 : vr = [] := r2
    subst r1 r2
    exact ⟨n, rfl, h1, h2, f _ _ _ s it_rng1 fz_true True.intro⟩
theorem mi_range2 {ms : Env → Res (List D)} (hm : X.mg "range" = none) (ha : ML T Fb X [a, b] ms) (hg : Gl X "range" := by rfl) (hs : starEach [a, b] X.env = [(false, eval a X.env), (false, eval b X.env)] := by rfl) (hs2 : starEach [b] X.env = [(false, eval b X.env)] := by rfl) :
    MI T Fb X tg (.Call (.Name "range" p) [a, b] [] pos) (mArg rng2 ms) := by
  refine ⟨_, pi_range2 hg hm pa_tw hs hs2, fun σ H F ρ R S o => ?_⟩
  refine ha.run σ H F ρ _ S (o.bind.imp fun ds _ o1 ws H1 s r => ?_)
  match ds, o1 with
  | [.int lo, .int hi], o1 =>
    obtain ⟨hc, f⟩ := o1.if
    obtain ⟨v, vr, rfl, r1, w, vr2, rfl, r2, r3⟩ := r
    have r1 : v = V.int lo := r1
    have r2 : w = V.int hi := r2
    have r3 : vr2 = [] := r3
    subst r1 r2 r3
    exact ⟨lo, hi, rfl, hc, f _ _ _ s it_rng1 fz_true True.intro⟩
theorem mi_range3 {ms : Env → Res (List D)} (hm : X.mg "range" = none) (ha : ML T Fb X [a, b, c] ms) (hg : Gl X "range" := by rfl) (hs : starEach [a, b, c] X.env = (false, eval a X.env) :: starEach [b, c] X.env := by rfl) (hpl : (backTo pos (starEach [b, c] X.env)).any (·.1) = false := by rfl) :
    MI T Fb X tg (.Call (.Name "range" p) [a, b, c] [] pos) (mArg rng3 ms) := by
  refine ⟨_, pi_range3 hg hm pa_tw hs hpl, fun σ H F ρ R S o => ?_⟩
  refine ha.run σ H F ρ _ S (o.bind.imp fun ds _ o1 ws H1 s r => ?_)
  match ds, o1 with
  | [.int lo, .int hi, .int cc], o1 =>
    obtain ⟨⟨hc, h1, h2, h3, h4⟩, f⟩ := o1.if
    subst hc
    obtain ⟨v, vr, rfl, r1, w, vr2, rfl, r2, u, vr3, rfl, r3, r4⟩ := r
    have r1 : v = V.int lo := r1
    have r2 : w = V.int hi := r2
    have r3 : u = V.int (-1) := r3
    have r4 : vr3 = [] := r4
    subst r1 r2 r3 r4
    exact ⟨lo, hi, -1, _, rfl, RgC.neg h1 h2 h3 h4, f _ _ _ s it_rng fz_true True.intro⟩
def zipL : List D → Res (List D)
  | [.lst xs, .lst ys] => .ok (zipD xs ys)
  | _ => .bad
theorem mi_zip {elts : List Expr} {kk : Nat} {tpos : Pos} {ms : Env → Res (List D)} (hm : X.mg "zip" = none) (ha : ML T Fb X [a, b] ms) (hg : Gl X "zip" := by rfl)
    (hs : starEach [a, b] X.env = (false, eval a X.env) :: starEach [b] X.env := by rfl) (hpl : (backTo pos (starEach [b] X.env)).any (·.1) = false := by rfl) : MI T Fb X (.Tuple elts kk tpos) (.Call (.Name "zip" p) [a, b] [] pos) (mArg zipL ms) := by
  refine ⟨_, pi_zip hg hm pa_tw hs hpl, fun σ H F ρ R S o => ?_⟩
  refine ha.run σ H F ρ _ S (o.bind.imp fun ds _ o1 ws H1 s r => ?_)
  match ds, o1 with
  | [.lst xs, .lst ys], o1 =>
    obtain ⟨v, vr, rfl, ⟨p1, us, rfl, ⟨h1, n1⟩, r1⟩, w, vr2, rfl, ⟨p2, us2, rfl, ⟨h2, n2⟩, r2⟩, r3⟩ := r
    have r3 : vr2 = [] := r3
    subst r3
    refine ⟨p1, p2, us, us2, rfl, SqL.of h1, SqL.of h2, o1 _ H1 (fun H Av => (¬ Av p1 ∧ ¬ Av p2) ∧ ∃ vs ws, H p1 = some (.lst vs) ∧ H p2 = some (.lst ws) ∧ RepL (gx X T) H Av xs vs ∧ RepL (gx X T) H Av ys ws) s ?_ ?_ ⟨⟨n1, n2⟩, us, us2, h1, h2, r1, r2⟩⟩
    · exact ⟨fun p s => ⟨p.1, it_zip.same p.2 s⟩, fun {H Av q o} p hq => ⟨⟨fun z => z.elim (fun e => by obtain ⟨vs, ws, h1, _⟩ := p.2; exact ne_of_none h1 hq e) p.1.1, fun z => z.elim (fun e => by obtain ⟨vs, ws, _, h1, _⟩ := p.2; exact ne_of_none h1 hq e) p.1.2⟩, it_zip.new (G := gx X T) p.2 hq⟩, fun p hi => it_zip.go (G := gx X T) p.2 hi, fun p hi => it_zip.stop (G := gx X T) p.2 hi, fun p hav e y => it_zip.yld p.2 hav e y⟩
    · exact fun {H H' Av Av'} p k => by
        obtain ⟨⟨n1, n2⟩, vs, ws, h1, h2, h3, h4⟩ := p
        exact ⟨⟨k.no h1 n1, k.no h2 n2⟩, vs, ws, k.keep _ _ h1 n1, k.keep _ _ h2 n2, RepL.mono k _ h3, RepL.mono k _ h4⟩
/-! ### for -/
def forL (g : D → Env → Option Env) (mb : Env → Flow) : List D → Env → Flow
  | [], ρ => .nx ρ
  | x :: xs, ρ => match g x ρ with
    | none => .bad
    | some ρ1 => match mb ρ1 with
      | .nx ρ2 => forL g mb xs ρ2
      | f => f
def mFor (mi : Env → Res (List D)) (g : D → Env → Option Env) (mb : Env → Flow) : Env → Flow := fun ρ => bindF (mi ρ) ρ fun xs => forL g mb xs ρ
theorem ms_for {mi : Env → Res (List D)} {g : D → Env → Option Env} (hp : PassesOwn (model X.prog X.w) X.A X.env X.xe) (hc : X.calm = true) (hi : MI T Fb X tg iter mi) (hg : MG T Fb X tg vs g) (hb : MSs T Fb X body mb) (hs : ∀ x, foldedSetIterable iter X.env x = pure x := by intro _; rfl) :
    MS T Fb X (.For tg iter body [] pos) (mFor mi g mb) := by
  obtain ⟨wi, hpi, f⟩ := hi.ex
  refine ⟨fun σ H F ρ De S o => (ps_for hp hc hpi pg_tw pss_tw hs).tw ?_⟩
  refine f σ H F ρ _ S ((OutS.toOut S o).imp fun xs _ o1 J H1 P s1 it fz hp1 => ?_)
  refine ⟨fun i m σ' H' => m = xs.length - i ∧ i ≤ xs.length ∧ ∃ ρi Fi, StR (gx X T) Fb H' σ' ρi Fi ∧ P H' (avo Fb Fi) ∧ OutS X T Fb De H' Fi (forL g mb (xs.drop i) ρi), ⟨xs.length, rfl, Nat.zero_le _, ρ, F, S.same s1, hp1, o1.same s1⟩, ?_⟩
  rintro i m σ' H' ⟨rfl, hi, ρi, Fi, Si, Pi, oi⟩
  by_cases hlt : i < xs.length
  · refine .inr ⟨it.go Pi hlt, fun σ'' H'' => ∃ ρj Fj, StR (gx X T) Fb H'' σ'' ρj Fj ∧ P H'' (avo Fb Fj) ∧ OutS X T Fb De H'' Fj (forL g mb (xs.drop (i + 1)) ρj), fun σ'' H'' q => ⟨xs.length - (i + 1), by omega, rfl, hlt, q⟩, fun x H2 y => ?_⟩
    rw [List.drop_eq_getElem_cons hlt] at oi
    obtain ⟨s2, rx⟩ := it.yld Pi Si.av (List.getElem?_eq_getElem hlt) y
    have oi : OutS X T Fb De H' Fi (match g xs[i] ρi with
      | none => .bad
      | some ρ1 => match mb ρ1 with
        | .nx ρ2 => forL g mb (xs.drop (i + 1)) ρ2
        | f => f) := oi
    cases q : g xs[i] ρi with
    | none => rw [q] at oi; exact False.elim oi
    | some ρ1 =>
      rw [q] at oi
      have oi : OutS X T Fb De H' Fi (match mb ρ1 with
        | .nx ρ2 => forL g mb (xs.drop (i + 1)) ρ2
        | f => f) := oi
      refine hg.run σ' H2 Fi ρi ρ1 _ x _ (Si.same s2) rx q fun σ3 on S3 => ?_
      have p3 : Post H' Fi H2 Fi := Post.of_same s2
      refine hb.run σ3 H2 Fi ρ1 _ S3 ?_
      cases q2 : mb ρ1 with
      | nx ρ2 =>
        rw [q2] at oi
        exact fun σ4 H4 F4 p4 S4 => ⟨ρ2, F4, S4, fz Pi (p3.trans p4).kept, oi.post (p3.trans p4)⟩
      | rt d ρ2 => rw [q2] at oi; exact fun v σ4 H4 F4 p4 S4 r => oi v σ4 H4 F4 (p3.trans p4) S4 r
      | er z ρ2 =>
        rw [q2] at oi
        obtain ⟨W, tk, h⟩ := oi
        exact ⟨W, tk, fun cls d σ4 H4 F4 p4 S4 r => h cls d σ4 H4 F4 (p3.trans p4) S4 r⟩
      | bad => rw [q2] at oi; exact oi
  · have e : i = xs.length := by omega
    subst e
    rw [List.drop_length] at oi
    exact .inl ⟨it.stop Pi (Nat.le_refl _), oi σ' H' Fi Post.refl Si⟩
/-! ### while -/
def whileL (mc : Env → Res Bool) (mb : Env → Flow) : Nat → Env → Flow
  | 0, _ => .bad
  | n + 1, ρ => bindF (mc ρ) ρ fun k => match k with
    | true => match mb ρ with
      | .nx ρ' => whileL mc mb n ρ'
      | f => f
    | false => .nx ρ
theorem ms_while (n : Nat) {mc : Env → Res Bool} (hp : PassesOwn (model X.prog X.w) X.A X.env X.xe) (hc : MT T Fb X c mc) (hb : MSs T Fb X body mb) : MS T Fb X (.While c body [] pos) (whileL mc mb n) := by
  refine ⟨fun σ H F ρ De S o => (ps_while hp pt_tw pss_tw).tw ?_⟩
  refine ⟨fun m σ' H' => ∃ ρi Fi, StR (gx X T) Fb H' σ' ρi Fi ∧ OutS X T Fb De H' Fi (whileL mc mb m ρi), ⟨n, ρ, F, S, o⟩, ?_⟩
  rintro m σ' H' ⟨ρi, Fi, Si, oi⟩
  cases m with
  | zero => exact False.elim oi
  | succ m =>
    refine hc.run σ' H' Fi ρi _ Si ((OutS.toOut Si oi).imp fun k _ o1 H1 s1 => ?_)
    cases k with
    | false =>
      have o1 : OutS X T Fb De H' Fi (.nx ρi) := o1
      exact iteF (o1 σ' H1 Fi (Post.of_same s1) (Si.same s1))
    | true =>
      refine iteT ⟨fun σ'' H'' => ∃ ρj Fj, StR (gx X T) Fb H'' σ'' ρj Fj ∧ OutS X T Fb De H'' Fj (whileL mc mb m ρj), fun σ'' H'' q => ⟨m, Nat.lt_succ_self m, q⟩, ?_⟩
      have o1 : OutS X T Fb De H' Fi (match mb ρi with
        | .nx ρ' => whileL mc mb m ρ'
        | f => f) := o1
      have o2 := o1.same s1
      refine hb.run σ' H1 Fi ρi _ (Si.same s1) ?_
      cases q2 : mb ρi with
      | nx ρ2 => rw [q2] at o2; exact fun σ4 H4 F4 p4 S4 => ⟨ρ2, F4, S4, o2.post p4⟩
      | rt d ρ2 => rw [q2] at o2; exact o2
      | er z ρ2 => rw [q2] at o2; exact o2
      | bad => rw [q2] at o2; exact o2
end
end Cr
/-! Core, part 10: comprehensions. -/
namespace Cr
open PySem PySem.Spec PyProof.Rows L2
def TWts (X : Cx) (ifs : List Expr) : TT := fun σ H Q => ∀ (pins : List (Addr × Obj)) (s : Shared), Inv X pins σ H s →
    wpAny (model X.prog X.w) X.A (forIn ifs true fun c r => if r = true then do let ok ← isTrue c X.env (eval c X.env); pure (ForInStep.yield ok) else pure (ForInStep.yield r)) (TP X pins σ Q) X.xe s
structure MTs (T : CT) (Fb : Gh) (X : Cx) (ifs : List Expr) (m : Env → Res Bool) : Prop where
  run : ∀ (σ : L2.St) (H : Hp) (F : List Addr) (ρ : Env) (Q : Bool → Hp → Prop), StR (gx X T) Fb H σ ρ F →
    Out X T σ H (m ρ) (fun b => ∀ H', Same H H' → Q b H') → TWts X ifs σ H Q
def mYes : Env → Res Bool := fun _ => .ok true
section
variable {T : CT} {Fb : Gh} {X : Cx} {e a b c o tg iter elt : Expr} {es ifs : List Expr} {me : Env → Res D} {mt : Env → Res Bool} {pos p : Pos}
theorem mts_nil : MTs T Fb X [] mYes := ⟨fun σ H F ρ Q S o pins s I => pts_nil.run pins s σ H Q I (o H (Same.refl H))⟩
theorem mts_one (h : MT T Fb X c mt) : MTs T Fb X [c] mt := ⟨fun σ H F ρ Q S o pins s I => (pts_one pt_tw).run pins s σ H Q I (h.run σ H F ρ Q S o)⟩
end
/-- no error within -/
def nerr {α : Type} : Res α → Res α
  | .ok a => .ok a
  | _ => .bad
def compL (g : D → Env → Option Env) (mt : Env → Res Bool) (me : Env → Res D) (ρ : Env) : List D → Res (List D)
  | [] => .ok []
  | x :: xs => match g x ρ with
    | none => .bad
    | some ρ1 => nerr (mt ρ1) >>= fun b => match b with
      | true => nerr (me ρ1) >>= fun d => compL g mt me ρ xs >>= fun ds => .ok (d :: ds)
      | false => compL g mt me ρ xs
theorem compL_noerr {g : D → Env → Option Env} {mt : Env → Res Bool} {me : Env → Res D} {ρ : Env} : ∀ {xs : List D} {z : Exc}, compL g mt me ρ xs ≠ .err z
  | [], z, h => by cases h
  | x :: xs, z, h => by
    unfold compL at h
    split at h
    · cases h
    · rename_i ρ1 _
      cases q : mt ρ1 with
      | ok b =>
        rw [q] at h
        cases b with
        | true =>
          have h : (nerr (me ρ1) >>= fun d => compL g mt me ρ xs >>= fun ds => Res.ok (d :: ds)) = .err z := h
          cases q2 : me ρ1 with
          | ok d =>
            rw [q2] at h
            have h : (compL g mt me ρ xs >>= fun ds => Res.ok (d :: ds)) = .err z := h
            cases q3 : compL g mt me ρ xs with
            | ok ds => rw [q3] at h; cases h
            | err y => exact compL_noerr q3
            | bad => rw [q3] at h; cases h
          | err y => rw [q2] at h; cases h
          | bad => rw [q2] at h; cases h
        | false =>
          have h : compL g mt me ρ xs = .err z := h
          exact compL_noerr h
      | err y => rw [q] at h; cases h
      | bad => rw [q] at h; cases h
/-- the block's own names forgotten -/
def wipeE (ρ : Env) : List Nat → Env
  | [] => ρ
  | v :: vs => (wipeE ρ vs).set v .no
theorem StR.drop {G : Gx} {Fb : Gh} {H : Hp} {σ : L2.St} {ρ : Env} {F : List Addr} (S : StR G Fb H σ ρ F) : StR G ⟨Fb.fb, none⟩ H σ ρ F := ⟨S.ex, S.dom, S.fb, fun _ h => nomatch h⟩
theorem StR.wipe {G : Gx} {Fb : Gh} {H : Hp} {σ : L2.St} {ρ : Env} {F : List Addr} (hm : Fb.me = none) (S : StR G Fb H σ ρ F) : ∀ vs : List Nat, StR G Fb H (L2.wipe σ vs) (wipeE ρ vs) F
  | [] => S
  | v :: vs => by
    have S1 := StR.wipe hm S vs
    unfold L2.wipe wipeE
    by_cases h : v < (wipeE ρ vs).length
    · exact S1.setN h (.inl hm) rfl
    · have hl := S1.length
      rw [List.set_eq_of_length_le (by omega), List.set_eq_of_length_le (by omega)]
      exact S1
theorem wipe_at {σ : L2.St} {j : Nat} : ∀ {vs : List Nat}, j ∈ vs → j < σ.length → (L2.wipe σ vs)[j]? = some none
  | [], h, _ => by cases h
  | v :: vs, h, hl => by
    unfold L2.wipe
    by_cases e : v = j
    · subst e
      exact List.getElem?_set_self (by rw [wipe_length]; exact hl)
    · rw [List.getElem?_set_ne e]
      exact wipe_at ((List.mem_cons.mp h).resolve_left fun z => e z.symm) hl
theorem wipe_only {σ σ' : L2.St} {vs : List Nat} (h : Only vs (L2.wipe σ vs) σ') : L2.wipe σ' vs = L2.wipe σ vs := by
  refine List.ext_getElem? fun j => ?_
  have hl : σ'.length = σ.length := by rw [h.1, wipe_length]
  by_cases hj : j ∈ vs
  · by_cases hlt : j < σ.length
    · rw [wipe_at hj (by rw [hl]; exact hlt), wipe_at hj hlt]
    · rw [List.getElem?_eq_none (by rw [wipe_length, hl]; omega), List.getElem?_eq_none (by rw [wipe_length]; omega)]
  · rw [wipe_out hj, h.2 j hj]
/-- a new object: the frame must not touch it -/
theorem StR.new {G : Gx} {Fb : Gh} {H : Hp} {σ : L2.St} {ρ : Env} {F : List Addr} (S : StR G Fb H σ ρ F) {p : Addr} {o : HO} (hp : H p = none) : StR G ⟨fun a => a = p ∨ Fb.fb a, none⟩ (upd H p o) σ ρ F := by
  obtain ⟨F0, e, nd, sub⟩ := S.ex
  have s := same_upd (o := o) hp
  have k : Kept H (upd H p o) (avo Fb F) (avo ⟨fun a => a = p ∨ Fb.fb a, none⟩ F) := ⟨fun a o h _ => s a o h, fun a z => by
    rcases z with z | z | z
    · exact .inl (.inl z)
    · exact .inr (by rw [z]; exact hp)
    · exact .inl (.inr z)⟩
  refine ⟨⟨F0, e.mono k (fun a ha => same_at s (e.dom a ha)), nd, sub⟩, fun a h => by rw [same_at s (S.dom a h)]; exact S.dom a h, fun a h => ?_, fun _ h => nomatch h⟩
  rcases h with h | h
  · rw [h, upd_same]; exact ⟨fun z => (by cases z), fun z => S.dom p z hp⟩
  · exact ⟨by rw [same_at s (S.fb a h).1]; exact (S.fb a h).1, (S.fb a h).2⟩
/-- a forbidden object changes -/
theorem StR.chg {G : Gx} {Fb : Gh} {H H' : Hp} {σ : L2.St} {ρ : Env} {F : List Addr} (S : StR G Fb H σ ρ F) {p : Addr} {o : HO} (hp : Fb.fb p) : StR G Fb (upd H p o) σ ρ F := by
  obtain ⟨F0, e, nd, sub⟩ := S.ex
  have k : Kept H (upd H p o) (avo Fb F) (avo Fb F) := ⟨fun a u h n => by rw [upd_ne fun z => n (.inr (by rw [z]; exact hp))]; exact h, fun a z => .inl z⟩
  have up : ∀ b, H b ≠ none → upd H p o b ≠ none := fun b h => by
    by_cases hb : b = p
    · rw [hb, upd_same]; exact fun z => by cases z
    · rw [upd_ne hb]; exact h
  exact ⟨⟨F0, e.mono k (fun a ha => upd_ne fun z => (S.fb p hp).2 (by rw [← z]; exact sub a ha)), nd, sub⟩, fun a h => up a (S.dom a h), fun a h => ⟨up a (S.fb a h).1, (S.fb a h).2⟩, S.sf⟩
section
variable {T : CT} {Fb : Gh} {X : Cx} {tg iter elt : Expr} {ifs : List Expr} {scope : Scope} {own : List (Str × Nat)} {mi : Env → Res (List D)} {g : D → Env → Option Env} {mt : Env → Res Bool} {me : Env → Res D} {pos : Pos}
def mComp (vs : List Nat) (mi : Env → Res (List D)) (g : D → Env → Option Env) (mt : Env → Res Bool) (me : Env → Res D) : Env → Res (List D) := fun ρ => mi ρ >>= fun xs => match decide (xs.length ≤ sizeLine) with
  | true => compL g mt me (wipeE ρ vs) xs
  | false => .bad
def blkG (X : Cx) (scope : Scope) (tg : Expr) : TG := fun v σ H Q => ∀ (s0 : Shared) (H0 : Hp) (C : Addr) (cl : List (Str × Addr)) (fp : List Addr), TWg (X.blk s0 H0 scope (compEnvC scope cl C X.env) fp) tg v σ H Q
def blkT (X : Cx) (scope : Scope) (ifs : List Expr) : TT := fun σ H Q => ∀ (s0 : Shared) (H0 : Hp) (C : Addr) (cl : List (Str × Addr)) (fp : List Addr), TWts (X.blk s0 H0 scope (compEnvC scope cl C X.env) fp) ifs σ H Q
def blkE (X : Cx) (scope : Scope) (elt : Expr) : TE := fun σ H Q => ∀ (s0 : Shared) (H0 : Hp) (C : Addr) (cl : List (Str × Addr)) (fp : List Addr), TWe (X.blk s0 H0 scope (compEnvC scope cl C X.env) fp) elt σ H Q
theorem pg_blk (s0 : Shared) (H0 : Hp) (C : Addr) (cl : List (Str × Addr)) (fp : List Addr) : PG (X.blk s0 H0 scope (compEnvC scope cl C X.env) fp) tg (blkG X scope tg) := ⟨fun pins s σ H v u Q I r h => h s0 H0 C cl fp pins s u I r⟩
theorem pts_blk (s0 : Shared) (H0 : Hp) (C : Addr) (cl : List (Str × Addr)) (fp : List Addr) : PTs (X.blk s0 H0 scope (compEnvC scope cl C X.env) fp) ifs (blkT X scope ifs) := ⟨fun pins s σ H Q I h => h s0 H0 C cl fp pins s I⟩
theorem pe_blk (s0 : Shared) (H0 : Hp) (C : Addr) (cl : List (Str × Addr)) (fp : List Addr) : PE (X.blk s0 H0 scope (compEnvC scope cl C X.env) fp) elt (blkE X scope elt) := ⟨fun pins s σ H Q I h => h s0 H0 C cl fp pins s I⟩
/-- what the new list stands for, turn by turn -/
theorem comp_core {σ : L2.St} {H : Hp} {F : List Addr} {ρ : Env} {Q : VK} {wi : TI}
    (f : ∀ (σ : L2.St) (H : Hp) (F : List Addr) (ρ : Env) (R : It → Hp → Prop), StR (gx X T) Fb H σ ρ F → Out X T σ H (mi ρ) (fun xs => ∀ J H' P, Same H H' → ItOk (gx X T) J xs P → P H' (avo Fb F) → R J H') → wi σ H R)
    (hg : ∀ (s : Shared) (H : Hp) (C : Addr) (cl : List (Str × Addr)) (fp : List Addr) (Fb' : Gh), MG T Fb' (X.blk s H scope (compEnvC scope cl C X.env) fp) tg (own.map (·.2)) g)
    (ht : ∀ (s : Shared) (H : Hp) (C : Addr) (cl : List (Str × Addr)) (fp : List Addr) (Fb' : Gh), MTs T Fb' (X.blk s H scope (compEnvC scope cl C X.env) fp) ifs mt)
    (he : ∀ (s : Shared) (H : Hp) (C : Addr) (cl : List (Str × Addr)) (fp : List Addr) (Fb' : Gh), ME T Fb' (X.blk s H scope (compEnvC scope cl C X.env) fp) elt me)
    (S : StR (gx X T) Fb H σ ρ F) (o : Out X T σ H (mComp (own.map (·.2)) mi g mt me ρ) (fun ds => ∀ p vs H', H p = none → Same H H' → H' p = some (.lst vs) → RepL (gx X T) H' (fun a => a = p ∨ avo Fb F a) ds vs → Q (.ref p) H')) :
    tLc wi (blkG X scope tg) (blkT X scope ifs) (blkE X scope elt) (own.map (·.2)) σ H Q := by
  refine f σ H F ρ _ S (o.bind.imp fun xs _ o1 J H1 P s1 it hp L hL => ?_)
  have S1 := S.same s1
  have o1 : Out X T σ H (match decide (xs.length ≤ sizeLine) with
    | true => compL g mt me (wipeE ρ (own.map (·.2))) xs
    | false => (Res.bad : Res (List D))) _ := o1
  have hz : xs.length ≤ sizeLine := by
    by_cases hz : xs.length ≤ sizeLine
    · exact hz
    · rw [decide_eq_false hz] at o1; exact False.elim o1
  rw [decide_eq_true hz] at o1
  have o1 : Out X T σ H (compL g mt me (wipeE ρ (own.map (·.2))) xs) _ := o1
  cases q : compL g mt me (wipeE ρ (own.map (·.2))) xs with
  | err z => exact absurd q compL_noerr
  | bad => rw [q] at o1; exact False.elim o1
  | ok ds =>
    rw [q] at o1
    generalize hw : wipeE ρ (own.map (·.2)) = ρw at q
    have Sw : StR (gx X T) ⟨fun a => a = L ∨ Fb.fb a, none⟩ (upd H1 L (.lst [])) (L2.wipe σ (own.map (·.2))) ρw F := by rw [← hw]; exact (S1.drop.wipe rfl _).new hL
    have toA : ∀ {d : D} {v : V} {H' : Hp}, Rep (gx X T) H' (avo ⟨fun a => a = L ∨ Fb.fb a, none⟩ F) d v → Rep (gx X T) H' (fun a => a = L ∨ avo Fb F a) d v := fun {d v H'} r => Rep.mono (kept_sub fun a z => by
      rcases z with z | z | z
      · exact .inr (.inl z)
      · exact .inl z
      · exact .inr (.inr z)) d r
    have ofA : ∀ {d : D} {v : V} {H' : Hp}, Rep (gx X T) H' (fun a => a = L ∨ avo Fb F a) d v → Rep (gx X T) H' (avo ⟨fun a => a = L ∨ Fb.fb a, none⟩ F) d v := fun {d v H'} r => Rep.mono (kept_sub fun a z => by
      rcases z with z | z | z
      · exact .inr (.inl z)
      · exact .inl z
      · exact .inr (.inr z)) d r
    have pP : ∀ (H' : Hp) (acc : List V), Same H1 H' → H' L = some (.lst acc) → P H' (fun a => a = L ∨ avo Fb F a) := fun H' acc s e => by
      have sm : Same H1 (fun a => if a = L then none else H' a) := fun a o h => by
        have ne := ne_of_none h hL
        show (if a = L then none else H' a) = some o
        rw [if_neg ne]
        exact s _ _ h
      have k := it.new (p := L) (o := .lst acc) (it.same hp sm) (if_pos rfl)
      have e2 : upd (fun a => if a = L then none else H' a) L (.lst acc) = H' := by
        funext a
        unfold upd
        by_cases h : a = L
        · rw [if_pos h, h, e]
        · rw [if_neg h]; exact if_neg h
      rw [e2] at k
      exact k
    refine ⟨fun i m H' => m = xs.length - i ∧ i ≤ xs.length ∧ ∃ dn rs acc, ds = dn ++ rs ∧ dn.length ≤ i ∧ compL g mt me ρw (xs.drop i) = .ok rs ∧ H' L = some (.lst acc) ∧ RepL (gx X T) H' (fun a => a = L ∨ avo Fb F a) dn acc ∧ Same H1 H' ∧
      StR (gx X T) ⟨fun a => a = L ∨ Fb.fb a, none⟩ H' (L2.wipe σ (own.map (·.2))) ρw F, ⟨xs.length, rfl, Nat.zero_le _, [], ds, [], rfl, Nat.le_refl _, q, upd_same, rfl, same_upd hL, Sw⟩, ?_⟩
    rintro i m H' ⟨rfl, hi, dn, rs, acc, e1, hdn, e2, e3, r3, s3, S3⟩
    have P3 := pP H' acc s3 e3
    have hav : ∀ a, (a = L ∨ avo Fb F a) → H' a ≠ none := fun a z => by
      rcases z with z | z
      · rw [z, e3]; exact fun z => by cases z
      · rw [same_at s3 (S1.av a z)]; exact S1.av a z
    by_cases hlt : i < xs.length
    · refine .inr ⟨it.go P3 hlt, fun H'' => ∃ dn rs acc, ds = dn ++ rs ∧ dn.length ≤ i + 1 ∧ compL g mt me ρw (xs.drop (i + 1)) = .ok rs ∧ H'' L = some (.lst acc) ∧ RepL (gx X T) H'' (fun a => a = L ∨ avo Fb F a) dn acc ∧ Same H1 H'' ∧
        StR (gx X T) ⟨fun a => a = L ∨ Fb.fb a, none⟩ H'' (L2.wipe σ (own.map (·.2))) ρw F, fun H'' k => ⟨xs.length - (i + 1), by omega, rfl, hlt, k⟩, fun x H2 y => ?_⟩
      rw [List.drop_eq_getElem_cons hlt] at e2
      obtain ⟨s4, rx⟩ := it.yld P3 hav (List.getElem?_eq_getElem hlt) y
      have e2 : (match g xs[i] ρw with
        | none => (Res.bad : Res (List D))
        | some ρ1 => nerr (mt ρ1) >>= fun b => match b with
          | true => nerr (me ρ1) >>= fun d => compL g mt me ρw (xs.drop (i + 1)) >>= fun ds => .ok (d :: ds)
          | false => compL g mt me ρw (xs.drop (i + 1))) = .ok rs := e2
      intro s0 H0 C cl fp
      cases q1 : g xs[i] ρw with
      | none => rw [q1] at e2; cases e2
      | some ρ1 =>
        rw [q1] at e2
        have e2 : (nerr (mt ρ1) >>= fun b => match b with
          | true => nerr (me ρ1) >>= fun d => compL g mt me ρw (xs.drop (i + 1)) >>= fun ds => .ok (d :: ds)
          | false => compL g mt me ρw (xs.drop (i + 1))) = .ok rs := e2
        refine (hg s0 H0 C cl fp _).run _ H2 F ρw ρ1 _ x _ (S3.same s4) (ofA rx) q1 fun σ2 on S4 => ⟨wipe_only on, ?_⟩
        intro s0 H0 C cl fp
        cases q2 : mt ρ1 with
        | err z => rw [q2] at e2; cases e2
        | bad => rw [q2] at e2; cases e2
        | ok b =>
          rw [q2] at e2
          refine (ht s0 H0 C cl fp _).run σ2 H2 F ρ1 _ S4 ?_
          rw [q2]
          intro H3 s5
          cases b with
          | false =>
            have e2 : compL g mt me ρw (xs.drop (i + 1)) = .ok rs := e2
            have s45 := s4.trans s5
            exact iteF ⟨dn, rs, acc, e1, by omega, e2, s45 _ _ e3, r3.same s45, s3.trans s45, S3.same s45⟩
          | true =>
            have e2 : (nerr (me ρ1) >>= fun d => compL g mt me ρw (xs.drop (i + 1)) >>= fun ds => Res.ok (d :: ds)) = .ok rs := e2
            refine iteT ?_
            intro s0 H0 C cl fp
            cases q3 : me ρ1 with
            | err z => rw [q3] at e2; cases e2
            | bad => rw [q3] at e2; cases e2
            | ok d =>
              rw [q3] at e2
              have e2 : (compL g mt me ρw (xs.drop (i + 1)) >>= fun ds => Res.ok (d :: ds)) = .ok rs := e2
              cases q4 : compL g mt me ρw (xs.drop (i + 1)) with
              | err z => rw [q4] at e2; cases e2
              | bad => rw [q4] at e2; cases e2
              | ok rs' =>
                rw [q4] at e2
                have e2 : Res.ok (d :: rs') = .ok rs := e2
                injection e2 with e2
                refine (he s0 H0 C cl fp _).run σ2 H3 F ρ1 _ (S4.same s5) ?_
                rw [q3]
                intro y H4 s6 r6
                have s456 := s4.trans (s5.trans s6)
                have h4 := s456 _ _ e3
                have kk : Kept H4 (upd H4 L (.lst (acc ++ [y]))) (fun a => a = L ∨ avo Fb F a) (fun a => a = L ∨ avo Fb F a) := ⟨fun a u h n => by rw [upd_ne fun z => n (.inl z)]; exact h, fun a z => .inl z⟩
                refine ⟨acc, h4, ?_, dn ++ [d], rs', acc ++ [y], by rw [e1, ← e2, List.append_assoc]; rfl, by rw [List.length_append]; simp; omega, rfl, upd_same, ?_, ?_, ?_⟩
                · have := r3.length
                  omega
                · exact RepL.mono kk _ ((r3.same s456).append (RepL.cons (toA r6) (RepL.nil_iff.mpr rfl)))
                · exact fun a u h => by
                    have nL : a ≠ L := ne_of_none h hL
                    rw [upd_ne nL]
                    exact s456 _ _ (s3 _ _ h)
                · exact (S3.same s456).chg (H' := H4) (.inl rfl)
    · have e : i = xs.length := by omega
      subst e
      rw [List.drop_length] at e2
      have e2 : Res.ok ([] : List D) = .ok rs := e2
      injection e2 with e2
      subst e2
      rw [List.append_nil] at e1
      refine .inl ⟨it.stop P3 (Nat.le_refl _), ?_⟩
      have o1 : ∀ p vs H', H p = none → Same H H' → H' p = some (.lst vs) → RepL (gx X T) H' (fun a => a = p ∨ avo Fb F a) ds vs → Q (.ref p) H' := o1
      refine o1 L acc H' (s1.free hL) (s1.trans s3) e3 ?_
      rw [e1]
      exact r3
theorem mf_comp (hc : X.calm = true) (hN : X.N.Nodup) (hi : MIb T Fb X tg iter mi) (ok : BlkOk X.N X.env.scope scope own)
    (hg : ∀ (s : Shared) (H : Hp) (C : Addr) (cl : List (Str × Addr)) (fp : List Addr) (Fb' : Gh), MG T Fb' (X.blk s H scope (compEnvC scope cl C X.env) fp) tg (own.map (·.2)) g)
    (ht : ∀ (s : Shared) (H : Hp) (C : Addr) (cl : List (Str × Addr)) (fp : List Addr) (Fb' : Gh), MTs T Fb' (X.blk s H scope (compEnvC scope cl C X.env) fp) ifs mt)
    (he : ∀ (s : Shared) (H : Hp) (C : Addr) (cl : List (Str × Addr)) (fp : List Addr) (Fb' : Gh), ME T Fb' (X.blk s H scope (compEnvC scope cl C X.env) fp) elt me)
    (hs : ∀ x, foldedSetIterable iter X.env x = pure x := by intro _; rfl) : MF T Fb X (.ListComp elt [⟨tg, iter, ifs, 0⟩] scope pos) (mComp (own.map (·.2)) mi g mt me) := by
  obtain ⟨wi, hpi, f⟩ := hi.ex
  refine ⟨fun σ H F ρ Q S o => (pe_lc hc hN hpi ok pg_blk pts_blk pe_blk hs).tw ?_⟩
  exact comp_core f hg ht he S o
/-- y = [..] -/
theorem ms_setComp (i : Nat) {y : Str} {py spos : Pos} (own' : Bool) (hc : X.calm = true) (hN : X.N.Nodup) (hi : MIb T Fb X tg iter mi) (ok : BlkOk X.N X.env.scope scope own)
    (hg : ∀ (s : Shared) (H : Hp) (C : Addr) (cl : List (Str × Addr)) (fp : List Addr) (Fb' : Gh), MG T Fb' (X.blk s H scope (compEnvC scope cl C X.env) fp) tg (own.map (·.2)) g)
    (ht : ∀ (s : Shared) (H : Hp) (C : Addr) (cl : List (Str × Addr)) (fp : List Addr) (Fb' : Gh), MTs T Fb' (X.blk s H scope (compEnvC scope cl C X.env) fp) ifs mt)
    (he : ∀ (s : Shared) (H : Hp) (C : Addr) (cl : List (Str × Addr)) (fp : List Addr) (Fb' : Gh), ME T Fb' (X.blk s H scope (compEnvC scope cl C X.env) fp) elt me)
    (hy : X.N[i]? = some y := by rfl) (hyl : X.env.scope.names.lookup y = some .local := by rfl) (hsw : swapsWith (.ListComp elt [⟨tg, iter, ifs, 0⟩] scope pos) (some (.Name y py)) spos.line X.env = pure true := by exact sw_true rfl rfl rfl (by decide +kernel))
    (hs : ∀ x, foldedSetIterable iter X.env x = pure x := by intro _; rfl) : MS T Fb X (.Assign [.Name y py] (.ListComp elt [⟨tg, iter, ifs, 0⟩] scope pos) spos)
      (match own' with
        | true => mSetO i (mComp (own.map (·.2)) mi g mt me)
        | false => mSet i (toE (mComp (own.map (·.2)) mi g mt me))) := by
  obtain ⟨wi, hpi, f⟩ := hi.ex
  refine ⟨fun σ H F ρ De S o => (ps_setLc hc hN hy hyl hsw hpi ok pg_blk pts_blk pe_blk hs).tw ?_⟩
  refine comp_core (own := own) f hg ht he S ?_
  cases own' with
  | true =>
    refine (OutS.toOut S o).imp fun ds _ o1 p vs H1 np s hp r => ?_
    obtain ⟨hl, o2⟩ := o1.put
    obtain ⟨q, S'⟩ := S.setO hl s np hp r
    exact o2 _ _ _ q S'
  | false =>
    refine (OutS.toOut S o).bind.imp fun ds _ o1 p vs H1 np s hp r => ?_
    obtain ⟨hl, o2⟩ := OutS.put (show OutS X T Fb De H F (put i (.v (.d (.lst ds))) ρ) from o1)
    exact o2 _ _ F (Post.of_same s) ((S.same s).setD hl ⟨p, vs, rfl, ⟨hp, fun z => absurd np (S.av p z)⟩, RepL.mono kept_less ds r⟩)
end
end Cr
/-! Core, part 11: raise, try, a def by its body. -/
namespace Cr
open PySem PySem.Spec PyProof.Rows L2
section
variable {T : CT} {X : Cx}
def iaddD : D → D → Res D
  | .int a, .int b => .ok (.int (a + b))
  | .str a, .str b => if a.length + b.length ≤ sizeLine then .ok (.str (a ++ b)) else .bad
  | _, _ => .bad
theorem om_isub : OpM T X (inplaceOp .Sub) subD := op_int0 (gi := fun i j => .int (i - j)) iop_sub (fun _ _ _ _ => rfl) (fun _ _ => rfl) (fun x y d h => by cases x <;> cases y <;> first | exact ⟨_, _, rfl, rfl⟩ | (exact nomatch h)) (fun x y e h => by cases x <;> cases y <;> exact nomatch h)
theorem om_iadd : OpM T X (inplaceOp .Add) iaddD := by
  refine ⟨_, (iop_add.or iop_add_str), fun σ H Av dx dy x y Q hav rx ry o => ?_⟩
  cases dx <;> cases dy <;> try exact False.elim o
  · exact .inl ⟨_, _, rx, ry, o _ _ (Same.refl H) rfl⟩
  · obtain ⟨hz, f⟩ := o.if
    exact .inr ⟨_, _, rx, ry, hz, f _ _ (Same.refl H) rfl⟩
end
/-- an own error class without __init__ -/
structure ExAt (K : PySem.W.Frag) (mg : Str → Option Value) (T : CT) (c : Nat) (x : Str) : Prop where
  g : mg x = some (.ref (T.addr c))
  q : PySem.W.excIn K (T.addr c) He.veBase "ValueError.__new__" = true
  k : PySem.W.keepIn K (.ref (T.addr c)) = true
  b : PySem.W.subIn K (.ref (T.addr c)) (.type "BaseException") = some true
  t : PySem.W.typeIn K (.ref (T.addr c)) = some (.type "type")
def mRaise (x : Exc) : Env → Flow := fun ρ => .er x ρ
section
variable {T : CT} {Fb : Gh} {X : Cx} {e a b c : Expr} {body suite : List Stmt} {m m2 : Env → Flow} {pos p p2 pos' np : Pos} {x msg : Str} {j : Nat}
theorem ms_raise {k : Nat} (hc : X.calm = true) (A : ExAt X.K X.mg T k x) (hg : Gl X x := by rfl) (hdb : (x == ("__debug__" : Str)) = false := by decide) : MS T Fb X (.Raise (some (.Call (.Name x p) [.Constant (.str msg) j p2] [] pos)) none pos') (mRaise (.own k)) := by
  refine ⟨fun σ H F ρ De S o => ?_⟩
  obtain ⟨W, tk, f⟩ := o
  exact (ps_raise hc tk (pmk_own PySem.F.excBase_ValueError A.q A.g A.k (raises_own A.b A.t) hg hdb)).tw (f _ _ σ H F Post.refl S ⟨rfl, rfl⟩)
def Exc.cl : Exc → Nat
  | .own c => c
  | .low c _ => c
def nerrF : Flow → Flow
  | .er _ _ => .bad
  | f => f
/-- try: body except c: suite -/
def mTry (cs : List Nat) (c : Nat) (m m2 : Env → Flow) : Env → Flow := fun ρ => match m ρ with
  | .er x ρ' => if x.cl ∈ cs then (if x.cl = c then nerrF (m2 ρ') else .er x ρ') else .bad
  | f => f
theorem ms_try {cs : List Nat} {c : Nat} {b₀ : Stmt} {suite : List Stmt} (hs : X.stack = X.env :: X.outer) (hf : X.env.frame = some X.env.locals) (g : X.mg x = some (.ref (T.addr c))) (hm : ∀ c' ∈ cs, PySem.W.exmOne X.K (.ref (T.addr c')) (.ref (T.addr c)) = some (decide (c' = c)))
    (hb : ∀ (pn : List (Addr × Obj)) (xe : Value → Shared → Prop), PassesOwn (model X.prog X.w) X.A X.env xe → MSs T Fb (X.tr pn xe) body m)
    (hsu : ∀ (a : Addr) (pn : List (Addr × Obj)), MSs T Fb (X.suite a pn) (b₀ :: suite) m2) (hg : Gl X x := by rfl) (hdb : (x == ("__debug__" : Str)) = false := by decide) :
    MS T Fb X (.Try body [.ExceptHandler (some (.Name x np)) none (b₀ :: suite) pos'] [] [] pos) (mTry cs c m m2) := by
  refine ⟨fun σ H F ρ De S o => ?_⟩
  obtain ⟨Wout, tk, out⟩ : ∃ Wout : WX, Takes X Wout ∧ ∀ y ρ', mTry cs c m m2 ρ = .er y ρ' → ∀ cls d σ' H' F', Post H F H' F' → StR (gx X T) Fb H' σ' ρ' F' → ExcRep (gx X T) H' y cls d → Wout cls d σ' H' := by
    cases q : mTry cs c m m2 ρ with
    | er y ρ' =>
      rw [q] at o
      obtain ⟨W, tk, f⟩ := o
      exact ⟨W, tk, fun y2 ρ2 e => by cases e; exact f⟩
    | nx ρ' => exact ⟨_, takes0, fun y2 ρ2 e => by cases e⟩
    | rt d ρ' => exact ⟨_, takes0, fun y2 ρ2 e => by cases e⟩
    | bad => exact ⟨_, takes0, fun y2 ρ2 e => by cases e⟩
  have ps := ps_try_only (X := X) (x := x) (c := .ref (T.addr c)) (body := body) (suite := suite) (b₀ := b₀) (np := np) (pos := pos) (pos' := pos') (Wout := Wout) (tb := fun W D σ H => ∀ (pn : List (Addr × Obj)) (xe : Value → Shared → Prop), Takes (X.tr pn xe) W → PassesOwn (model X.prog X.w) X.A X.env xe → TWss (X.tr pn xe) body D σ H)
    (ts := fun a cls d D σ H => ∀ (pn : List (Addr × Obj)), TWss (X.suite a pn) (b₀ :: suite) D σ H) hs hf ⟨hg, hdb, .inl g⟩ tk
    (fun W pn xe tk po => ⟨fun pins s σ H D I h => h pn xe tk po pins s I⟩) (fun a oe cls d pn hz hd => ⟨fun pins s σ H D I h => h _ pins s I⟩)
  refine ps.tw ?_
  intro pn xe tk' po
  refine (hb pn xe po).run σ H F ρ De S ?_
  unfold mTry at o out
  cases q : m ρ with
  | nx ρ' => rw [q] at o; exact o
  | rt d ρ' => rw [q] at o; exact o
  | bad => rw [q] at o; exact o
  | er y ρ' =>
    rw [q] at o out
    have o : OutS X T Fb De H F (if y.cl ∈ cs then (if y.cl = c then nerrF (m2 ρ') else .er y ρ') else .bad) := o
    have out : ∀ y2 ρ2, (if y.cl ∈ cs then (if y.cl = c then nerrF (m2 ρ') else .er y ρ') else .bad) = Flow.er y2 ρ2 → ∀ cls d σ' H' F', Post H F H' F' → StR (gx X T) Fb H' σ' ρ2 F' → ExcRep (gx X T) H' y2 cls d → Wout cls d σ' H' := out
    by_cases hcs : y.cl ∈ cs
    · rw [if_pos hcs] at o out
      refine ⟨_, tk', fun cls d σ' H' F' p S' r => ?_⟩
      have ecls : cls = .ref (T.addr y.cl) := by
        cases y with
        | own c' => exact r.1
        | low c' z => exact r.1
      refine ⟨decide (y.cl = c), by rw [ecls]; exact hm _ hcs, fun e a ha pn2 => ?_, fun e => ?_⟩
      · have e := of_decide_eq_true e
        rw [if_pos e] at o
        refine (hsu a pn2).run σ' H' F' ρ' De S' ?_
        have o := o.post p
        cases q2 : m2 ρ' with
        | nx ρ2 => rw [q2] at o; exact o
        | rt d ρ2 => rw [q2] at o; exact o
        | er z ρ2 => rw [q2] at o; exact False.elim o
        | bad => rw [q2] at o; exact o
      · have e := of_decide_eq_false e
        rw [if_neg e] at out
        exact out y ρ' rfl cls d σ' H' F' p S' r
    · rw [if_neg hcs] at o; exact False.elim o
end
/-! ### a def by its body -/
def startE (l : Nat) (ds : List D) : Env := ds.map (fun d => Sl.v (.d d)) ++ List.replicate (l - ds.length) .no
def runD (l : Nat) (m : Env → Flow) : List D → Res D := fun ds => match m (startE l ds) with
  | .nx _ => .ok .non
  | .rt d _ => .ok d
  | .er x _ => .err x
  | .bad => .bad
theorem repEnv_no {G : Gx} {H : Hp} {Av : Addr → Prop} : ∀ (k : Nat) (σ : L2.St), σ.length = k → RepEnv G H Av (List.replicate k .no) σ []
  | 0, σ, h => ⟨List.eq_nil_of_length_eq_zero h, rfl⟩
  | k + 1, [], h => by cases h
  | k + 1, o :: σ, h => ⟨o, σ, [], [], rfl, rfl, rfl, repEnv_no k σ (by simpa using h)⟩
theorem repEnv_start {G : Gx} {H : Hp} {Av : Addr → Prop} {k : Nat} : ∀ {ds : List D} {vs : List V}, RepL G H Av ds vs → RepEnv G H Av (ds.map (fun d => Sl.v (.d d)) ++ List.replicate k .no) (vs.map some ++ List.replicate k none) []
  | [], vs, r => by
    have r : vs = [] := r
    subst r
    exact repEnv_no k _ (by simp)
  | d :: ds, vs, r => by
    obtain ⟨v, vr, rfl, r1, r2⟩ := r
    exact ⟨some v, _, [], [], rfl, rfl, ⟨v, rfl, rfl, r1⟩, repEnv_start r2⟩
theorem Post.nil_same {H H' : Hp} {F' : List Addr} (p : Post H [] H' F') : Same H H' := fun a o h => p.keep a o h (by simp)
section
variable {P : Program} {w : World} {K : PySem.W.Frag} {mg : Str → Option Value} {base : Heap} {T : CT} {x qual : Str} {params : Arguments} {body : List Stmt} {scope : Scope} {dvs : List V} {kws : List (Str × V)} {f : Addr} {fd : FuncData} {N ps : List Str} {k n : Nat}
theorem fn_ok {m : Env → Flow} (F : FunD K x qual params body scope dvs kws f fd) (S : FnScope N ps scope) (hps : ps.length = n)
    (hb : ∀ (cdv : Value) (A : Around) (outer : List PySem.Env) (s : Shared) (H : Hp) (E : XK) (Fb : Gh), Room k (A.deeper (envOfC qual scope s.heap.objs.size f cdv)) → MSs T Fb (cxOf (L2.CX P w) P w K mg base N qual scope f cdv A outer s H E) body m) :
    FnOk P w K mg base (L2.CX P w) (k + 1) f fd ps (spD K T n (runD N.length m)) := by
  refine F.ok S (fun vs H Q E h => by rw [hps]; exact h.1) fun cdv A outer s H vs Q E hr h => ⟨_, pss_tw, ?_⟩
  obtain ⟨hl, Av, ds, hav, r, o⟩ := h
  refine (hb cdv A outer s H E ⟨Av, none⟩ hr).run _ H [] (startE N.length ds) _ ?_ ?_
  · have e : avo ⟨Av, none⟩ [] = Av := funext fun a => propext ⟨fun z => z.elim (fun z => by cases z) id, .inr⟩
    refine ⟨⟨[], ?_, List.nodup_nil, fun a ha => absurd ha (by simp)⟩, fun a ha => absurd ha (by simp), fun a h => ⟨hav a h, by simp⟩, fun _ h => nomatch h⟩
    rw [e]
    unfold L2.start startE
    rw [r.length]
    exact repEnv_start r
  · have toAv : ∀ {F' : List Addr} {H' : Hp} {d : D} {v : V}, Rep ⟨K, T⟩ H' (avo ⟨Av, none⟩ F') d v → Rep ⟨K, T⟩ H' Av d v := fun {F' H' d v} r => Rep.mono (kept_sub fun a z => .inr z) d r
    unfold runD at o
    cases q : m (startE N.length ds) with
    | nx ρ' => rw [q] at o; exact fun σ' H' F' p S' => o .non H' p.nil_same rfl
    | rt d ρ' => rw [q] at o; exact fun v σ' H' F' p S' r => o v H' p.nil_same (toAv r)
    | er z ρ' =>
      rw [q] at o
      exact ⟨_, takes_of rfl rfl rfl rfl, fun cls d σ' H' F' p S' r => o cls d H' p.nil_same r⟩
    | bad => rw [q] at o; exact o
theorem fn_bad (h0 : FunD K x qual params body scope dvs kws f fd) : FnOk P w K mg base (L2.CX P w) k f fd ps (spD K T n (fun _ => .bad)) :=
  ⟨fun vs H Q E h => by obtain ⟨_, _, _, _, _, z⟩ := h; exact False.elim z, fun A outer s H args us vs Q E _ _ _ _ h => by obtain ⟨_, _, _, _, _, z⟩ := h; exact False.elim z⟩
end
end Cr
/-! Core, part 12: __init__: self, its fields. -/
namespace Cr
open PySem PySem.Spec PyProof.Rows L2
def putFd (f : Str) (x : Fd) : List (Str × Fd) → List (Str × Fd)
  | [] => [(f, x)]
  | (g, y) :: r => if g = f then (g, x) :: r else (g, y) :: putFd f x r
section
variable {G : Gx} {H H' : Hp} {Av Av' : Addr → Prop}
theorem RepFs.keys : ∀ {fs : List (Str × Fd)} {vs : List (Str × V)} {fp : List Addr}, RepFs G H Av fs vs fp → vs.map (·.1) = fs.map (·.1)
  | [], _, _, h => by rw [h.1]; rfl
  | (n, f) :: fs, _, _, h => by
    obtain ⟨v, vr, p, q, rfl, _, _, h2⟩ := h
    rw [List.map_cons, List.map_cons, RepFs.keys h2]
theorem RepFs.len {fs : List (Str × Fd)} {vs : List (Str × V)} {fp : List Addr} (h : RepFs G H Av fs vs fp) : vs.length = fs.length := by
  have := congrArg List.length h.keys
  simpa using this
theorem RepFs.look : ∀ {fs : List (Str × Fd)} {vs : List (Str × V)} {fp : List Addr} {n : Str} {f : Fd}, RepFs G H Av fs vs fp → fs.lookup n = some f → ∃ v p, vs.lookup n = some v ∧ RepFd G H Av f v p
  | [], _, _, _, _, _, e => by cases e
  | (m, g) :: fs, _, _, n, f, h, e => by
    obtain ⟨v, vr, p, q, rfl, _, h1, h2⟩ := h
    rw [List.lookup_cons] at e ⊢
    cases b : (n == m) with
    | true => rw [b] at e; cases e; exact ⟨v, p, rfl, h1⟩
    | false => rw [b] at e; exact RepFs.look h2 e
/-- a field takes a thing whose places are p' -/
theorem RepFs.put (k : Kept H H' Av Av') (n : Str) {f : Fd} {v : V} {p' : List Addr} (r : RepFd G H' Av' f v p') : ∀ {fs : List (Str × Fd)} {vs : List (Str × V)} {fp : List Addr}, RepFs G H Av fs vs fp → (∀ a ∈ fp, H' a = H a) → fp.Nodup → p'.Nodup → (∀ a ∈ p', a ∉ fp) →
    ∃ fp', RepFs G H' Av' (putFd n f fs) (putF n v vs) fp' ∧ fp'.Nodup ∧ ∀ a ∈ fp', a ∈ fp ∨ a ∈ p'
  | [], _, _, h, _, _, nd, _ => by
    obtain ⟨rfl, rfl⟩ := h
    exact ⟨p', ⟨v, [], p', [], rfl, by simp, r, rfl, rfl⟩, nd, fun a ha => .inr ha⟩
  | (m, g) :: fs, _, _, h, hf, nf, nd, dj => by
    obtain ⟨w, vr, p, q, rfl, rfl, h1, h2⟩ := h
    obtain ⟨n1, n2, n3⟩ := List.nodup_append.mp nf
    show ∃ fp', RepFs G H' Av' (if m = n then (m, f) :: fs else (m, g) :: putFd n f fs) (if m = n then (m, v) :: vr else (m, w) :: putF n v vr) fp' ∧ _
    by_cases e : m = n
    · rw [if_pos e, if_pos e]
      refine ⟨p' ++ q, ⟨v, vr, p', q, rfl, rfl, r, h2.mono k fun a ha => hf a (List.mem_append_right _ ha)⟩, List.nodup_append.mpr ⟨nd, n2, fun a ha b hb z => dj a ha (by rw [z]; exact List.mem_append_right _ hb)⟩, fun a ha => ?_⟩
      rcases List.mem_append.mp ha with z | z
      · exact .inr z
      · exact .inl (List.mem_append_right _ z)
    · rw [if_neg e, if_neg e]
      obtain ⟨q', k1, k2, k3⟩ := RepFs.put k n r h2 (fun a ha => hf a (List.mem_append_right _ ha)) n2 nd (fun a ha z => dj a ha (List.mem_append_right _ z))
      refine ⟨p ++ q', ⟨w, _, p, q', rfl, rfl, h1.mono k fun a ha => hf a (List.mem_append_left _ ha), k1⟩, List.nodup_append.mpr ⟨n1, k2, fun a ha b hb z => ?_⟩, fun a ha => ?_⟩
      · rcases k3 b hb with y | y
        · exact n3 a ha b y z
        · exact dj b y (by rw [← z]; exact List.mem_append_left _ ha)
      · rcases List.mem_append.mp ha with z | z
        · exact .inl (List.mem_append_left _ z)
        · rcases k3 a z with y | y
          · exact .inl (List.mem_append_right _ y)
          · exact .inr y
/-- an owned field's list is changed -/
theorem RepFs.chg (n : Str) : ∀ {fs : List (Str × Fd)} {vs : List (Str × V)} {fp : List Addr} {xs : List D}, RepFs G H Av fs vs fp → fs.lookup n = some (.ol xs) → fp.Nodup →
    ∃ a ws, vs.lookup n = some (.ref a) ∧ H a = some (.lst ws) ∧ RepL G H Av xs ws ∧ a ∈ fp ∧ ∀ {H' : Hp} {Av' : Addr → Prop} {ys : List D} {zs : List V}, Kept H H' Av Av' → (∀ b ∈ fp, b ≠ a → H' b = H b) → H' a = some (.lst zs) → RepL G H' Av' ys zs → RepFs G H' Av' (putFd n (.ol ys) fs) vs fp
  | [], _, _, _, _, e, _ => by cases e
  | (m, g) :: fs, _, _, xs, h, e, nf => by
    obtain ⟨w, vr, p, q, rfl, rfl, h1, h2⟩ := h
    obtain ⟨n1, n2, n3⟩ := List.nodup_append.mp nf
    rw [List.lookup_cons] at e
    cases b : (n == m) with
    | true =>
      rw [b] at e
      have e : some g = some (.ol xs) := e
      cases e
      obtain ⟨a, ws, rfl, rfl, k1, k2⟩ := h1
      have hm : m = n := (beq_iff_eq.mp b).symm
      refine ⟨a, ws, by rw [List.lookup_cons, b], k1, k2, by simp, fun {H' Av' ys zs} k hk ha r => ?_⟩
      show RepFs G H' Av' (if m = n then (m, .ol ys) :: fs else _) _ _
      rw [if_pos hm]
      exact ⟨_, vr, [a], q, rfl, rfl, ⟨a, zs, rfl, rfl, ha, r⟩, h2.mono k fun b hb => hk b (List.mem_append_right _ hb) fun z => n3 a (by simp) b hb z.symm⟩
    | false =>
      rw [b] at e
      have hm : ¬ m = n := fun z => by rw [z, beq_self_eq_true] at b; cases b
      obtain ⟨a, ws, k1, k2, k3, k4, f⟩ := RepFs.chg n h2 e n2
      refine ⟨a, ws, by rw [List.lookup_cons, b]; exact k1, k2, k3, List.mem_append_right _ k4, fun {H' Av' ys zs} k hk ha r => ?_⟩
      show RepFs G H' Av' (if m = n then _ else (m, g) :: putFd n (.ol ys) fs) _ _
      rw [if_neg hm]
      exact ⟨w, vr, p, q, rfl, rfl, h1.mono k fun b hb => hk b (List.mem_append_left _ hb) fun z => n3 b hb a k4 z, f k (fun b hb => hk b (List.mem_append_right _ hb)) ha r⟩
end
section
variable {G : Gx} {Fb : Gh} {H H' : Hp} {σ : L2.St} {ρ : Env} {F : List Addr} {i c : Nat} {fs : List (Str × Fd)}
/-- self: its parts -/
theorem StR.self (S : StR G Fb H σ ρ F) (e : ρ[i]? = some (.oo c fs)) : ∃ a dx vs p, σ[i]? = some (some (.ref a)) ∧ H a = some (.ins (G.T.addr c) dx vs) ∧ RepFs G H (avo Fb F) fs vs p ∧ a ∈ F ∧ (∀ b ∈ p, b ∈ F) ∧ a ∉ p ∧ p.Nodup := by
  obtain ⟨F0, r0, nd, sub⟩ := S.ex
  obtain ⟨o, p1, p, p2, e1, e2, r1, f⟩ := r0.focus e
  obtain ⟨a, dx, vs, q, rfl, rfl, h1, h2⟩ := r1
  rw [e2] at nd
  have n2 := (List.nodup_append.mp (List.nodup_append.mp nd).1).2.1
  obtain ⟨n3, n4⟩ := List.nodup_cons.mp n2
  exact ⟨a, dx, vs, q, e1, h1, h2, sub a (by rw [e2]; simp), fun b hb => sub b (by rw [e2]; simp [hb]), n3, n4⟩
/-- self: its parts, and what comes when they change -/
theorem StR.selfU (S : StR G Fb H σ ρ F) (e : ρ[i]? = some (.oo c fs)) : ∃ a dx vs p, σ[i]? = some (some (.ref a)) ∧ H a = some (.ins (G.T.addr c) dx vs) ∧ RepFs G H (avo Fb F) fs vs p ∧ a ∈ F ∧ (∀ b ∈ p, b ∈ F) ∧ a ∉ p ∧ p.Nodup ∧
    ∀ {H' : Hp} {F' p' : List Addr} {fs' : List (Str × Fd)} {vs' : List (Str × V)}, Post H F H' F' → (∀ b ∈ F, b ∈ F') → (∀ b ∈ F', H' b ≠ none) → RepFs G H' (avo Fb F') fs' vs' p' → p'.Nodup → (∀ b ∈ p', b ∈ p ∨ (b ∈ F' ∧ H b = none)) →
      H' a = some (.ins (G.T.addr c) dx vs') → (∀ b ∈ F, b ≠ a → b ∉ p → H' b = H b) → StR G Fb H' σ (ρ.set i (.oo c fs')) F' := by
  obtain ⟨F0, r0, nd, sub⟩ := S.ex
  obtain ⟨o, p1, p, p2, e1, e2, r1, f⟩ := r0.focus e
  obtain ⟨a, dx, vs, q, rfl, rfl, h1, h2⟩ := r1
  rw [e2] at nd
  have n2 := (List.nodup_append.mp (List.nodup_append.mp nd).1).2.1
  obtain ⟨n3, n4⟩ := List.nodup_cons.mp n2
  have m0 : ∀ b ∈ p1 ++ a :: q ++ p2, b ∈ F := fun b hb => sub b (by rw [e2]; exact hb)
  have d1 : ∀ b ∈ p1, b ≠ a ∧ b ∉ q := fun b hb => ⟨fun z => (List.nodup_append.mp (List.nodup_append.mp nd).1).2.2 b hb a (by simp) z, fun z => (List.nodup_append.mp (List.nodup_append.mp nd).1).2.2 b hb b (by simp [z]) rfl⟩
  have d2 : ∀ b ∈ p2, b ≠ a ∧ b ∉ q := fun b hb => ⟨fun z => (List.nodup_append.mp nd).2.2 a (by simp) b hb z.symm, fun z => (List.nodup_append.mp nd).2.2 b (by simp [z]) b hb rfl⟩
  refine ⟨a, dx, vs, q, e1, h1, h2, m0 a (by simp), fun b hb => m0 b (by simp [hb]), n3, n4, fun {H' F' p' fs' vs'} post hF dom r ndp subp ha oth => ?_⟩
  have k := f (s' := .oo c fs') (o' := some (.ref a)) (p' := a :: p') (post.kept (Fb := Fb)) (fun b hb => oth b (m0 b (by simp [hb])) (d1 b hb).1 (d1 b hb).2) (fun b hb => oth b (m0 b (by simp [hb])) (d2 b hb).1 (d2 b hb).2) ⟨a, dx, vs', p', rfl, rfl, ha, r⟩
  rw [set_same e1] at k
  have hda : H a ≠ none := by rw [h1]; exact fun z => by cases z
  have na : a ∉ p' := fun z => (subp a z).elim n3 fun y => hda y.2
  have x1 : ∀ b ∈ p1, b ∉ p' := fun b hb z => (subp b z).elim (d1 b hb).2 fun y => S.dom b (m0 b (by simp [hb])) y.2
  have x2 : ∀ b ∈ p2, b ∉ p' := fun b hb z => (subp b z).elim (d2 b hb).2 fun y => S.dom b (m0 b (by simp [hb])) y.2
  have sf : ∀ a, Fb.me = some a → σ[0]? = some (some (.ref a)) ∧ ∃ c3 f3, (ρ.set i (.oo c fs'))[0]? = some (.oo c3 f3) := fun a h => by
    obtain ⟨h1, c2, fs2, h2⟩ := S.sf a h
    by_cases h0 : i = 0
    · subst h0
      exact ⟨h1, c, fs', List.getElem?_set_self (List.getElem?_eq_some_iff.mp e).1⟩
    · exact ⟨h1, c2, fs2, by rw [List.getElem?_set_ne h0]; exact h2⟩
  refine ⟨⟨_, k, ?_, fun b hb => ?_⟩, dom, fun b h => ?_, sf⟩
  · obtain ⟨y1, y2, y3⟩ := List.nodup_append.mp nd
    obtain ⟨z1, z2, z3⟩ := List.nodup_append.mp y1
    refine List.nodup_append.mpr ⟨List.nodup_append.mpr ⟨z1, List.nodup_cons.mpr ⟨na, ndp⟩, fun b hb d hd w => ?_⟩, y2, fun b hb d hd w => ?_⟩
    · rcases List.mem_cons.mp hd with y | y
      · exact (d1 b hb).1 (w.trans y)
      · exact x1 b hb (by rw [w]; exact y)
    · rcases List.mem_append.mp hb with y | y
      · exact y3 b (List.mem_append_left _ y) d hd w
      · rcases List.mem_cons.mp y with y | y
        · exact (d2 d hd).1 (w.symm.trans y)
        · exact x2 d hd (by rw [← w]; exact y)
  · rcases List.mem_append.mp hb with y | y
    · rcases List.mem_append.mp y with y | y
      · exact hF b (m0 b (by simp [y]))
      · rcases List.mem_cons.mp y with y | y
        · rw [y]; exact hF a (m0 a (by simp))
        · exact (subp b y).elim (fun z => hF b (m0 b (by simp [z]))) (·.1)
    · exact hF b (m0 b (by simp [y]))
  · have hb := S.fb b h
    cases q : H b with
    | none => exact absurd q hb.1
    | some o =>
      have k2 := post.keep b o q hb.2
      refine ⟨by rw [k2]; exact fun z => (by cases z), fun z => ?_⟩
      rcases post.own b z with y | y
      · exact hb.2 y
      · rw [q] at y; cases y
end
/-! ### statements about self -/
section
variable {T : CT} {Fb : Gh} {X : Cx} {e o : Expr} {es : List Expr} {me : Env → Res D} {pos p apos : Pos} {x f : Str} {i c : Nat}
def fdD : Fd → D
  | .d x => x
  | .ol xs => .lst xs
/-- self.f, read (borrowed) -/
def mSelfB (i c : Nat) (f : Str) : Env → Res D := fun ρ => match ρ[i]? with
  | some (.oo c' fs) => if c' = c then opt ((fs.lookup f).map fdD) else .bad
  | _ => .bad
theorem mb_self (i c : Nat) {pos' : Pos} (cl : Cls X.K (T.addr c)) (na : NoAttr X.K (T.addr c) f) (hN : X.N[i]? = some x := by rfl) (hv : Vis X.env.scope x := by first | exact Or.inl rfl | exact Or.inr (Or.inl rfl) | exact Or.inr (Or.inr rfl))
    (hd : (x == ("__debug__" : Str)) = false := by decide) (hcd : (x == ("__classdict__" : Str)) = false := by decide) (hb : attributeBase (.Name x pos') f X.env (eval (.Name x pos') X.env) = eval (.Name x pos') X.env := by rfl) : MB T Fb X (.Attribute (.Name x pos') f pos) (mSelfB i c f) := by
  refine ⟨fun σ H F ρ Q S o => (pe_fld (pe_var hN hv hd hcd) hb).tw ?_⟩
  unfold mSelfB at o
  split at o
  · rename_i c' fs e
    by_cases hc : c' = c
    · subst hc
      rw [if_pos rfl] at o
      obtain ⟨d, e2, q⟩ := o.opt
      obtain ⟨a, dx, vs, p, e1, h1, h2, _⟩ := S.self e
      cases l : fs.lookup f with
      | none => rw [l] at e2; cases e2
      | some g =>
        rw [l] at e2
        cases e2
        obtain ⟨v, pp, l2, r⟩ := h2.look l
        refine ⟨_, e1, a, _, dx, vs, v, rfl, h1, cl, na, l2, q v H (Same.refl H) ?_⟩
        cases g with
        | d y => exact r.2.b
        | ol xs => obtain ⟨b, ws, rfl, _, k1, k2⟩ := r; exact ⟨b, ws, rfl, k1, k2⟩
    · rw [if_neg hc] at o; exact False.elim o
  · exact False.elim o
/-- self.f = e -/
def mSelfSet (i c : Nat) (f : Str) (m : Env → Res D) : Env → Flow := fun ρ => bindF (m ρ) ρ fun d => match ρ[i]? with
  | some (.oo c' fs) => if c' = c ∧ fs.length < 1000 then .nx (ρ.set i (.oo c (putFd f (.d d) fs))) else .bad
  | _ => .bad
theorem ms_selfSet (i c : Nat) {pos' p0 : Pos} (cl : Cls X.K (T.addr c)) (na : NoAttr X.K (T.addr c) f) (he : ME T Fb X e me) (hN : X.N[i]? = some x := by rfl) (hv : Vis X.env.scope x := by first | exact Or.inl rfl | exact Or.inr (Or.inl rfl) | exact Or.inr (Or.inr rfl))
    (hd : (x == ("__debug__" : Str)) = false := by decide) (hcd : (x == ("__classdict__" : Str)) = false := by decide) (hs : swapsWith e (some (.Attribute (.Name x p0) f pos')) pos.line X.env = pure false := by rfl) : MS T Fb X (.Assign [.Attribute (.Name x p0) f pos'] e pos) (mSelfSet i c f me) := by
  refine ⟨fun σ H F ρ De S o => (ps_fld (pe_var hN hv hd hcd) pe_tw hs).tw ?_⟩
  refine he.run σ H F ρ _ S ((OutS.toOut S o).imp fun d _ o1 v H1 s r => ?_)
  have S1 := S.same s
  split at o1
  · rename_i c' fs e
    obtain ⟨⟨hc, hl⟩, o2⟩ := OutS.if o1
    subst hc
    obtain ⟨a, dx, vs, p, e1, h1, h2, mF, pF, nap, ndp, k⟩ := S1.selfU e
    refine ⟨_, e1, a, _, dx, vs, rfl, h1, cl, na, by rw [h2.len]; exact hl, ?_⟩
    have post : Post H1 F (upd H1 a (.ins (T.addr c') dx (putF f v vs))) F := ⟨fun b u h n => by rw [upd_ne fun z => n (by rw [z]; exact mF)]; exact h, fun _ h => .inl h⟩
    obtain ⟨fp, q1, q2, q3⟩ := RepFs.put (post.kept (Fb := Fb)) f (f := .d d) (p' := []) ⟨rfl, Rep.mono post.kept d r⟩ h2 (fun b hb => upd_ne fun z => nap (by rw [← z]; exact hb)) ndp List.nodup_nil (fun b hb => absurd hb (by simp))
    refine o2 σ _ F ((Post.of_same s).trans post) (k post (fun _ h => h) (fun b hb => ?_) q1 q2 (fun b hb => (q3 b hb).elim .inl fun z => absurd z (by simp)) upd_same fun b _ n _ => upd_ne n)
    by_cases z : b = a
    · rw [z, upd_same]; exact fun z => by cases z
    · rw [upd_ne z]; exact S1.dom b hb
  · exact False.elim o1
/-- self.f = a new list -/
def mSelfSetO (i c : Nat) (f : Str) (m : Env → Res (List D)) : Env → Flow := fun ρ => bindF (m ρ) ρ fun d => match ρ[i]? with
  | some (.oo c' fs) => if c' = c ∧ fs.length < 1000 then .nx (ρ.set i (.oo c (putFd f (.ol d) fs))) else .bad
  | _ => .bad
theorem ms_selfSetO (i c : Nat) {mf : Env → Res (List D)} {pos' p0 : Pos} (cl : Cls X.K (T.addr c)) (na : NoAttr X.K (T.addr c) f) (he : MF T Fb X e mf) (hN : X.N[i]? = some x := by rfl) (hv : Vis X.env.scope x := by first | exact Or.inl rfl | exact Or.inr (Or.inl rfl) | exact Or.inr (Or.inr rfl))
    (hd : (x == ("__debug__" : Str)) = false := by decide) (hcd : (x == ("__classdict__" : Str)) = false := by decide) (hs : swapsWith e (some (.Attribute (.Name x p0) f pos')) pos.line X.env = pure false := by rfl) : MS T Fb X (.Assign [.Attribute (.Name x p0) f pos'] e pos) (mSelfSetO i c f mf) := by
  refine ⟨fun σ H F ρ De S o => (ps_fld (pe_var hN hv hd hcd) pe_tw hs).tw ?_⟩
  refine he.run σ H F ρ _ S ((OutS.toOut S o).imp fun d _ o1 q ws H1 nq s hq r => ?_)
  have S1 := S.same s
  split at o1
  · rename_i c' fs e
    obtain ⟨⟨hc, hl⟩, o2⟩ := OutS.if o1
    subst hc
    obtain ⟨a, dx, vs, p, e1, h1, h2, mF, pF, nap, ndp, k⟩ := S.selfU e
    have h1' := s _ _ h1
    refine ⟨_, e1, a, _, dx, vs, rfl, h1', cl, na, by rw [h2.len]; exact hl, ?_⟩
    have nqF : q ∉ F := fun z => S.dom q z nq
    have nqa : q ≠ a := fun z => nqF (by rw [z]; exact mF)
    have post : Post H F (upd H1 a (.ins (T.addr c') dx (putF f (.ref q) vs))) (q :: F) := ⟨fun b u h n => by rw [upd_ne fun z => n (by rw [z]; exact mF)]; exact s _ _ h, fun b z => (List.mem_cons.mp z).elim (fun e => .inr (by rw [e]; exact nq)) .inl⟩
    have k0 : Kept H1 (upd H1 a (.ins (T.addr c') dx (putF f (.ref q) vs))) (fun b => b = q ∨ avo Fb F b) (avo Fb (q :: F)) := ⟨fun b u h n => by rw [upd_ne fun z => n (.inr (.inl (by rw [z]; exact mF)))]; exact h, fun b z => .inl (by
      rcases z with z | z
      · rcases List.mem_cons.mp z with z | z
        · exact .inl z
        · exact .inr (.inl z)
      · exact .inr (.inr z))⟩
    have un : ∀ b ∈ F, b ≠ a → upd H1 a (.ins (T.addr c') dx (putF f (.ref q) vs)) b = H b := fun b hb n => by rw [upd_ne n, same_at s (S.dom b hb)]
    obtain ⟨fp, q1, q2, q3⟩ := RepFs.put (post.kept (Fb := Fb)) f (f := .ol d) (v := .ref q) (p' := [q]) ⟨q, ws, rfl, rfl, by rw [upd_ne nqa]; exact hq, RepL.mono k0 d r⟩ h2 (fun b hb => un b (pF b hb) fun z => nap (by rw [← z]; exact hb)) ndp (by simp) (fun b hb z => by
      rw [List.mem_singleton.mp hb] at z
      exact nqF (pF q z))
    refine o2 σ _ (q :: F) post (k post (fun _ h => List.mem_cons_of_mem _ h) (fun b hb => ?_) q1 q2 (fun b hb => (q3 b hb).imp id fun z => by rw [List.mem_singleton.mp z]; exact ⟨List.mem_cons_self, nq⟩) upd_same fun b hb n _ => un b hb n)
    rcases List.mem_cons.mp hb with z | z
    · rw [z, upd_ne nqa, hq]; exact fun z => by cases z
    · by_cases y : b = a
      · rw [y, upd_same]; exact fun z => by cases z
      · rw [un b z y]; exact S.dom b z
  · exact False.elim o1
/-- self.f.append(..) -/
def mSelfLm (i c : Nat) (f : Str) (g : List D → List D → Res (List D)) (ms : Env → Res (List D)) : Env → Flow := fun ρ => match ρ[i]? with
  | some (.oo c' fs) => if c' = c then (match fs.lookup f with
    | some (.ol xs) => bindF (ms ρ) ρ fun ds => bindF (g xs ds) ρ fun ys => .nx (ρ.set i (.oo c (putFd f (.ol ys) fs)))
    | _ => .bad) else .bad
  | _ => .bad
theorem ms_selfLw (i c : Nat) {mid : String} {nm : Str} {p2 p3 : Pos} {g : List D → List D → Res (List D)} {ms : Env → Res (List D)} (cl : Cls X.K (T.addr c)) (na : NoAttr X.K (T.addr c) f) (hM : LstW T X mid g) (ha : ML T Fb X es ms)
    (hpe : ∀ {r : V → List V → Hp → VK → Prop} {to : TE} {t : TA}, MtR X mid r → PE X (.Attribute (.Name x p2) f p3) to → PA X es t → PE X (.Call (.Attribute (.Attribute (.Name x p2) f p3) nm apos) es [] p) (tBM X.K "list" r to t))
    (hN : X.N[i]? = some x := by rfl) (hv : Vis X.env.scope x := by first | exact Or.inl rfl | exact Or.inr (Or.inl rfl) | exact Or.inr (Or.inr rfl))
    (hd : (x == ("__debug__" : Str)) = false := by decide) (hcd : (x == ("__classdict__" : Str)) = false := by decide) (hb : attributeBase (.Name x p2) f X.env (eval (.Name x p2) X.env) = eval (.Name x p2) X.env := by rfl)
    (hs : swapsWith (.Call (.Attribute (.Attribute (.Name x p2) f p3) nm apos) es [] p) none pos.line X.env = pure false := by rfl) :
    MS T Fb X (.Expr (.Call (.Attribute (.Attribute (.Name x p2) f p3) nm apos) es [] p) pos) (mSelfLm i c f g ms) := by
  obtain ⟨r, hr, fm⟩ := hM.ex
  refine ⟨fun σ H F ρ De S o => (ps_expr (hpe hr (pe_fld (pe_var hN hv hd hcd) hb) pa_tw) hs).tw ?_⟩
  unfold mSelfLm at o
  split at o
  · rename_i c' fs e
    by_cases hc : c' = c
    · subst hc
      rw [if_pos rfl] at o
      split at o
      · rename_i xs l
        obtain ⟨a, dx, vs, pp, e1, h1, h2, mF, pF, nap, ndp, k⟩ := S.selfU e
        obtain ⟨b, ws, l2, k1, k2, k3, _⟩ := RepFs.chg f h2 l ndp
        refine ⟨_, e1, a, _, dx, vs, _, rfl, h1, cl, na, l2, .inl ⟨rfl, ws, SqL.of k1⟩, ?_⟩
        refine ha.run σ H F ρ _ S ((OutS.toOut S o).imp fun ds _ o1 us H1 s1 r1 => ?_)
        have S1 := S.same s1
        obtain ⟨a', dx', vs', pp', e1', h1', h2', mF', pF', nap', ndp', kk⟩ := S1.selfU e
        rw [e1] at e1'
        cases e1'
        obtain ⟨b', ws', l2', k1', k2', k3', kc⟩ := RepFs.chg f h2' l ndp'
        have hvs : vs' = vs := by
          have q := s1 _ _ h1
          rw [h1'] at q
          cases q
          rfl
        subst hvs
        rw [l2] at l2'
        cases l2'
        have nba : b ≠ a := fun z => nap' (by rw [← z]; exact k3')
        refine fm σ H1 (avo Fb F) b xs ds ws' us _ k1' k2' r1 ((OutS.toOut S1 (o1.same s1)).imp fun ys _ o2 zs r3 => ?_)
        have post : Post H1 F (upd H1 b (.lst zs)) F := ⟨fun d u h n => by rw [upd_ne fun z => n (by rw [z]; exact pF' b k3')]; exact h, fun _ h => .inl h⟩
        refine o2 σ _ F post (kk post (fun _ h => h) (fun d hd => ?_) (kc post.kept (fun d _ n => upd_ne n) upd_same (RepL.mono post.kept ys r3)) ndp' (fun d hd => .inl hd) (by rw [upd_ne nba.symm]; exact h1') fun d _ n1 n2 => upd_ne fun z => n2 (by rw [z]; exact k3'))
        by_cases z : d = b
        · rw [z, upd_same]; exact fun z => by cases z
        · rw [upd_ne z]; exact S1.dom d hd
      · exact False.elim o
    · rw [if_neg hc] at o; exact False.elim o
  · exact False.elim o
end
/-! ### __init__ by its body -/
def startI (l c : Nat) (ds : List D) : Env := .oo c [] :: (ds.map (fun d => Sl.v (.d d)) ++ List.replicate (l - (ds.length + 1)) .no)
def finI (c : Nat) (ρ : Env) : Res (List D) := match ρ with
  | .oo c' fs :: _ => if c' = c ∧ fs.map (·.1) = flds c then .ok (fs.map fun p => fdD p.2) else .bad
  | _ => .bad
def runI (l c : Nat) (m : Env → Flow) : List D → Res (List D) := fun ds => match m (startI l c ds) with
  | .nx ρ => finI c ρ
  | .er x _ => .err x
  | _ => .bad
theorem RepFs.whole {G : Gx} {H : Hp} {Av Av' : Addr → Prop} (ha : ∀ b, Av' b → Av b) : ∀ {fs : List (Str × Fd)} {vs : List (Str × V)} {fp : List Addr}, RepFs G H Av fs vs fp → (∀ b ∈ fp, ¬ Av' b) → RepL G H Av' (fs.map fun p => fdD p.2) (vs.map (·.2))
  | [], _, _, h, _ => by rw [h.1]; rfl
  | (n, f) :: fs, _, _, h, hn => by
    obtain ⟨v, vr, p, q, rfl, rfl, h1, h2⟩ := h
    refine ⟨v, _, rfl, ?_, RepFs.whole ha h2 fun b hb => hn b (List.mem_append_right _ hb)⟩
    cases f with
    | d x => exact Rep.mono (kept_sub ha) x h1.2
    | ol xs =>
      obtain ⟨a, ws, rfl, rfl, k1, k2⟩ := h1
      exact ⟨a, ws, rfl, ⟨k1, hn a (by simp)⟩, RepL.mono (kept_sub ha) xs k2⟩
theorem zip_fst_snd {α β : Type} : ∀ l : List (α × β), (l.map (·.1)).zip (l.map (·.2)) = l
  | [] => rfl
  | (a, b) :: l => by rw [List.map_cons, List.map_cons, List.zip_cons_cons, zip_fst_snd l]
section
variable {P : Program} {w : World} {K : PySem.W.Frag} {mg : Str → Option Value} {base : Heap} {T : CT} {x qual : Str} {params : Arguments} {body : List Stmt} {scope : Scope} {dvs : List V} {kws : List (Str × V)} {f : Addr} {fd : FuncData} {N ps : List Str} {k n c : Nat}
theorem init_ok {m : Env → Flow} (F : FunD K x qual params body scope dvs kws f fd) (S : FnScope N ps scope) (hps : ps.length = n + 1)
    (hb : ∀ (cdv : Value) (A : Around) (outer : List PySem.Env) (s : Shared) (H : Hp) (E : XK) (Fb : Gh), Room k (A.deeper (envOfC qual scope s.heap.objs.size f cdv)) → MSs T Fb (cxOf (L2.CX P w) P w K mg base N qual scope f cdv A outer s H E) body m) :
    FnOk P w K mg base (L2.CX P w) (k + 1) f fd ps (spI K T c n (runI N.length c m)) := by
  refine F.ok S (fun vs H Q E h => by rw [hps]; exact h.1) fun cdv A outer s H vs Q E hr h => ⟨_, pss_tw, ?_⟩
  obtain ⟨hl, Av, ds, a, dx, vr, rfl, hav, nax, hx, r, o⟩ := h
  have eA : (fun b => b = a ∨ Av b) = avo ⟨Av, some a⟩ [a] := funext fun b => propext ⟨fun z => z.elim (fun z => .inl (by simp [z])) .inr, fun z => z.elim (fun z => .inl (by simpa using z)) .inr⟩
  rw [eA] at r
  refine (hb cdv A outer s H E ⟨Av, some a⟩ hr).run _ H [a] (startI N.length c ds) _ ?_ ?_
  · refine ⟨⟨[a], ?_, by simp, fun b hb => hb⟩, fun b hb => ?_, fun b h => ⟨hav b h, fun z => nax ?_⟩, fun b h => ?_⟩
    · have e : N.length - (V.ref a :: vr).length = N.length - (ds.length + 1) := by rw [List.length_cons, r.length]
      unfold L2.start startI
      rw [e]
      exact ⟨some (.ref a), _, [a], [], rfl, rfl, ⟨a, dx, [], [], rfl, rfl, hx, rfl, rfl⟩, repEnv_start r⟩
    · rw [List.mem_singleton.mp hb, hx]; exact fun z => by cases z
    · rw [← List.mem_singleton.mp z]; exact h
    · cases h; exact ⟨rfl, c, [], rfl⟩
  · have kp : ∀ {H' : Hp} {F' : List Addr}, Post H [a] H' F' → ∀ b o, H b = some o → b ≠ a → H' b = some o := fun p b o h n => p.keep b o h (by simpa using n)
    unfold runI at o
    cases q : m (startI N.length c ds) with
    | nx ρ' =>
      rw [q] at o
      intro σ' H' F' p S'
      unfold finI at o
      cases ρ' with
      | nil => exact False.elim o
      | cons s0 ρ' =>
        cases s0 with
        | no => exact False.elim o
        | v g => exact False.elim o
        | oo c' fs =>
          by_cases hc : c' = c ∧ fs.map (·.1) = flds c
          · have o : (match (if c' = c ∧ fs.map (·.1) = flds c then Res.ok (fs.map fun p => fdD p.2) else .bad) with
              | .ok fs => ∀ H', (∀ b o, H b = some o → b ≠ a → H' b = some o) → Rep ⟨K, T⟩ H' Av (.obj c fs) (.ref a) → Q .non H'
              | .err z => ∀ cls d H', (∀ b o, H b = some o → b ≠ a → H' b = some o) → ExcRep ⟨K, T⟩ H' z cls d → E cls d H'
              | .bad => False) := o
            rw [if_pos hc] at o
            obtain ⟨hc1, hc2⟩ := hc
            subst hc1
            obtain ⟨a', dx', vs', p', e1, h1, h2, mF, pF, nap, ndp⟩ := S'.self (i := 0) rfl
            obtain ⟨ea, _⟩ := S'.sf a rfl
            rw [ea] at e1
            cases e1
            have nAv : ∀ b ∈ F', ¬ Av b := fun b hb z => (S'.fb b z).2 hb
            have keys : vs'.map (·.1) = flds c' := by rw [h2.keys, hc2]
            have ev : vs' = (flds c').zip (vs'.map (·.2)) := by rw [← keys, zip_fst_snd]
            have wh : RepL ⟨K, T⟩ H' Av (fs.map fun p => fdD p.2) (vs'.map (·.2)) := RepFs.whole (fun b z => .inr z) h2 fun b hb => nAv b (pF b hb)
            refine o H' (kp p) ⟨a, dx', vs'.map (·.2), rfl, ⟨by rw [← ev]; exact h1, nAv a mF⟩, ?_, wh⟩
            rw [← keys, List.length_map, List.length_map]
          · have o : (match (if c' = c ∧ fs.map (·.1) = flds c then Res.ok (fs.map fun p => fdD p.2) else .bad) with
              | .ok fs => ∀ H', (∀ b o, H b = some o → b ≠ a → H' b = some o) → Rep ⟨K, T⟩ H' Av (.obj c fs) (.ref a) → Q .non H'
              | .err z => ∀ cls d H', (∀ b o, H b = some o → b ≠ a → H' b = some o) → ExcRep ⟨K, T⟩ H' z cls d → E cls d H'
              | .bad => False) := o
            rw [if_neg hc] at o
            exact False.elim o
    | rt d ρ' => rw [q] at o; exact False.elim o
    | er z ρ' =>
      rw [q] at o
      exact ⟨_, takes_of rfl rfl rfl rfl, fun cls d σ' H' F' p S' r => o cls d H' (kp p) r⟩
    | bad => rw [q] at o; exact False.elim o
end
end Cr
/-! Core, part 13: lists or tuples, whichever; the law's end. -/
namespace Cr
open PySem PySem.Spec PyProof.Rows L2
theorem pi_or {X : Cx} {tg e : Expr} {w1 w2 : TI} (h1 : PI X tg e w1) (h2 : PI X tg e w2) : PI X tg e (fun σ H R => w1 σ H R ∨ w2 σ H R) :=
  ⟨fun pins s σ H R I h => h.elim (h1.run pins s σ H R I) (h2.run pins s σ H R I)⟩
section
variable {T : CT} {Fb : Gh} {X : Cx} {e a b c o tg iter elt : Expr} {es ifs : List Expr} {me ma mb : Env → Res D} {pos p apos : Pos} {x : Str} {n : Nat} {vs : List Nat}
def seqOf : D → Res (List D)
  | .lst xs => .ok xs
  | .tup xs => .ok xs
  | _ => .bad
theorem mi_seq (h : ME T Fb X e me) : MI T Fb X tg e (mUnF seqOf me) := by
  obtain ⟨w1, p1, f1⟩ := (mi_list (tg := tg) h).ex
  obtain ⟨w2, p2, f2⟩ := (mi_tup (tg := tg) h).ex
  refine ⟨_, pi_or p1 p2, fun σ H F ρ R S o => ?_⟩
  unfold mUnF at o
  cases q : me ρ with
  | bad => rw [q] at o; exact False.elim o
  | err z => rw [q] at o; exact .inl (f1 σ H F ρ R S (by unfold mUnF; rw [q]; exact o))
  | ok d =>
    rw [q] at o
    cases d with
    | lst xs => exact .inl (f1 σ H F ρ R S (by unfold mUnF; rw [q]; exact o))
    | tup xs => exact .inr (f2 σ H F ρ R S (by unfold mUnF; rw [q]; exact o))
    | _ => exact False.elim o
theorem mib_seq (h : MB T Fb X e me) (ht : ME T Fb X e me) : MIb T Fb X tg e (mUnF seqOf me) := by
  obtain ⟨w1, p1, f1⟩ := (mib_list (tg := tg) h).ex
  obtain ⟨w2, p2, f2⟩ := (mi_tup (tg := tg) ht).b.ex
  refine ⟨_, pi_or p1 p2, fun σ H F ρ R S o => ?_⟩
  unfold mUnF at o
  cases q : me ρ with
  | bad => rw [q] at o; exact False.elim o
  | err z => rw [q] at o; exact .inl (f1 σ H F ρ R S (by unfold mUnF; rw [q]; exact o))
  | ok d =>
    rw [q] at o
    cases d with
    | lst xs => exact .inl (f1 σ H F ρ R S (by unfold mUnF; rw [q]; exact o))
    | tup xs => exact .inr (f2 σ H F ρ R S (by unfold mUnF; rw [q]; exact o))
    | _ => exact False.elim o
def gQ (gs : List D → Env → Option Env) : D → Env → Option Env := fun d ρ => match d with
  | .tup xs => gs xs ρ
  | .lst xs => gs xs ρ
  | _ => none
theorem mg_seq {j : Nat} {gs : List D → Env → Option Env} (hc : X.calm = true) (h : MGs T Fb X es vs gs) (hlen : ∀ ds ρ ρ', gs ds ρ = some ρ' → ds.length = n) (hn : (assignEach es X.env).length = n := by rfl) (hst : (assignEach es X.env).findIdx? (·.1) = none := by rfl) :
    MG T Fb X (.Tuple es j pos) vs (gQ gs) := by
  refine ⟨fun σ H F ρ ρ' d v Q S r eq hQ => ?_⟩
  cases d with
  | tup xs => exact (mg_tup hc h hlen hn hst).run σ H F ρ ρ' _ v Q S r eq hQ
  | lst xs => exact (mg_lst hc h hlen hn hst).run σ H F ρ ρ' _ v Q S r eq hQ
  | _ => cases eq
/-- a + b, lists -/
def addL : D → D → Res (List D)
  | .lst a, .lst b => if a.length + b.length ≤ sizeLine then .ok (a ++ b) else .bad
  | _, _ => .bad
def mBinF (g : D → D → Res (List D)) (ma mb : Env → Res D) : Env → Res (List D) := fun ρ => ma ρ >>= fun x => mb ρ >>= fun y => g x y
theorem mf_add (ha : MB T Fb X a ma) (hb : MB T Fb X b mb) : MF T Fb X (.BinOp a .Add b pos) (mBinF addL ma mb) := by
  refine ⟨fun σ H F ρ Q S o => (pe_op op_cat pe_tw pe_tw).tw ?_⟩
  refine ha.run σ H F ρ _ S (o.bind.imp fun x _ o1 v H1 s1 r1 => ?_)
  refine hb.run σ H1 F ρ _ (S.same s1) ((o1.same s1).bind.imp fun y _ o2 u H2 s2 r2 => ?_)
  have r1 := r1.same s2
  cases x <;> cases y <;> try exact False.elim o2
  obtain ⟨hz, f⟩ := o2.if
  obtain ⟨a, vs, rfl, ha, rv⟩ := r1
  obtain ⟨b, ws, rfl, hb, rw'⟩ := r2
  refine ⟨a, b, vs, ws, rfl, rfl, ha, hb, by rw [rv.length, rw'.length]; exact hz, fun p hp => ?_⟩
  have s := s1.trans s2
  exact f p _ _ (s.free hp) (s.trans (same_upd hp)) upd_same ((rv.append rw').new hp)
end
/-! ### the law's end -/
theorem law_sp {K : PySem.W.Frag} {T : CT} {m : List D → Res D} (h : ∀ ns : List Int, ns.length ≤ 63 → m [.scr ns] = .ok (.bl true)) (H : Hp) (a : Addr) (ns : List Int) (hl : ns.length ≤ 63) (hS : SqL K H a (ns.map V.int)) :
    spD K T 1 m [.ref a] H (fun v _ => v = .bl true) fun _ _ _ => False := by
  refine ⟨rfl, fun _ => False, [.scr ns], fun _ z => z.elim, ⟨_, [], rfl, ⟨a, rfl, ?_⟩, rfl⟩, ?_⟩
  · rcases hS with h | h
    · exact .inl ⟨h, fun z => z⟩
    · exact .inr h
  · rw [h ns hl]
    exact fun v H' _ r => r
end Cr
/-! Core, part 14: what the head says. -/
namespace Cr
open PySem PySem.Spec PyProof.Rows L2
abbrev Fg := PySem.W.Frag
def obsX (fa : List He.Fa) (fn : List He.DefD) (xs : List (Fg → Bool)) (K : Fg) : He.AlD := (((fa.all fun f => f.ok K) && fn.all fun d => d.ok K) && (xs.all fun f => f K), fn.map fun d => He.fnW K d.at_)
def SaysX (fa : List He.Fa) (fn : List He.DefD) (xs : List (Fg → Bool)) (K : Fg) : Prop := obsX fa fn xs K = He.valD fn
def obsXG (n : Nat) (fa : List He.Fa) (fn : List He.DefD) (xs : List (Fg → Bool)) (g : Addr → Option Obj) : He.AlD := obsX fa fn xs (He.frG g (He.asD g n))
def hookX (n : Nat) (fa : List He.Fa) (fn : List He.DefD) (xs : List (Fg → Bool)) : PySem.W.Hook where
  α := He.AlD
  obs := fun s => obsXG n fa fn xs s.heap.get?
  val := fun _ => He.valD fn
  says := fun _ h => ∃ K : PySem.W.Frag, K.In h ∧ SaysX fa fn xs K
  of := fun _ _ e => ⟨_, He.frG_in, e⟩
  keeps := fun _ _ _ ⟨K, hK, c⟩ k => ⟨K, PySem.W.Frag.In.keeps hK k, c⟩
theorem obsXG_eq {n : Nat} {fa : List He.Fa} {fn : List He.DefD} {xs : List (Fg → Bool)} {g : Addr → Option Obj} {s : Shared} (h : ∀ a, g a = s.heap.get? a) : obsXG n fa fn xs g = (hookX n fa fn xs).obs s := by
  have e : g = s.heap.get? := funext h
  rw [e] <;> rfl
section
variable {fa : List He.Fa} {fn : List He.DefD} {xs : List (Fg → Bool)} {K : Fg}
theorem SaysX.d (c : SaysX fa fn xs K) : He.SaysD fa fn K := by
  have c1 := (He.ba (show (((fa.all fun f => f.ok K) && fn.all fun d => d.ok K) && (xs.all fun f => f K)) = true from congrArg (fun z : He.AlD => z.1) c)).1
  have c2 : fn.map (fun d => He.fnW K d.at_) = fn.map He.DefD.val := congrArg (fun z : He.AlD => z.2) c
  show (((fa.all fun f => f.ok K) && fn.all fun d => d.ok K, fn.map fun d => He.fnW K d.at_) : He.AlD) = (true, fn.map He.DefD.val)
  rw [c1, c2]
theorem SaysX.x (c : SaysX fa fn xs K) (i : Nat) {f : Fg → Bool} (h : xs[i]? = some f := by rfl) : f K = true := by
  have c1 := (He.ba (show (((fa.all fun f => f.ok K) && fn.all fun d => d.ok K) && (xs.all fun f => f K)) = true from congrArg (fun z : He.AlD => z.1) c)).2
  exact List.all_eq_true.mp c1 f (List.mem_of_getElem? h)
end
/-- what a law's walk leans on -/
structure Wt (fa : List He.Fa) (fn : List He.DefD) (xs : List (Fg → Bool)) (K : Fg) (mg : Str → Option Value) : Prop where
  ex : ∃ h : Heap, K.In h ∧ h.Ns mainGlobals mg
  c : SaysX fa fn xs K
section
variable {fa : List He.Fa} {fn : List He.DefD} {xs : List (Fg → Bool)} {K : Fg} {mg : Str → Option Value}
theorem Wt.free (A : Wt fa fn xs K mg) (i : Nat) {x : Str} (h : fa[i]? = some (.free x) := by rfl) : mg x = none := by
  obtain ⟨hp, X, G⟩ := A.ex
  exact He.free_ok X G (A.c.d.fact i h)
theorem Wt.glo (A : Wt fa fn xs K mg) (i : Nat) {x : Str} (h : fa[i]? = some (.glo x) := by rfl) : mg x = some (.ref (He.ga K x)) := by
  obtain ⟨hp, X, G⟩ := A.ex
  exact He.glo_ok X G (A.c.d.fact i h)
theorem Wt.cls (A : Wt fa fn xs K mg) (i : Nat) {x : Str} (h : fa[i]? = some (.cls x) := by rfl) : Cls K (He.ga K x) := He.cls_ok (A.c.d.fact i h)
theorem Wt.noat (A : Wt fa fn xs K mg) (i : Nat) {x f : Str} (h : fa[i]? = some (.noat x f) := by rfl) : NoAttr K (He.ga K x) f := He.noat_ok (A.c.d.fact i h)
theorem Wt.meth (A : Wt fa fn xs K mg) (i : Nat) {x f : Str} (h : fa[i]? = some (.meth x f) := by rfl) : Meth K (He.ga K x) f (He.ma K (He.ga K x) f) := He.meth_ok (A.c.d.fact i h)
theorem Wt.mkr (A : Wt fa fn xs K mg) (i : Nat) {x : Str} (h : fa[i]? = some (.mkr x) := by rfl) : Mk K (He.ga K x) (He.ma K (He.ga K x) "__init__") := He.mkr_ok (A.c.d.fact i h)
theorem Wt.exc (A : Wt fa fn xs K mg) (i j : Nat) {T : CT} {c : Nat} {x : Str} (h : fa[i]? = some (.exc x) := by rfl) (h2 : fa[j]? = some (.glo x) := by rfl) (e : T.addr c = He.ga K x := by rfl) : ExAt K mg T c x := by
  obtain ⟨c1, c2, c3, c4⟩ := He.exc_ok (A.c.d.fact i h)
  exact ⟨by rw [e]; exact A.glo j h2, by rw [e]; exact c1, by rw [e]; exact c2, by rw [e]; exact c3, by rw [e]; exact c4⟩
theorem Wt.exm (A : Wt fa fn xs K mg) (i : Nat) {x y : Str} {b : Bool} (h : fa[i]? = some (.exm x y b) := by rfl) : PySem.W.exmOne K (.ref (He.ga K x)) (.ref (He.ga K y)) = some b := He.exm_ok (A.c.d.fact i h)
theorem Wt.int (A : Wt fa fn xs K mg) {T : CT} (i : Nat) {x : Str} {n : Int} (h : fa[i]? = some (.int x n) := by rfl) : GloD K T mg x (.int n) := by
  obtain ⟨hp, X, G⟩ := A.ex
  obtain ⟨t, e⟩ := He.int_ok X G (A.c.d.fact i h)
  exact ⟨_, .int n, e, ⟨t, rfl⟩, fun _ _ => rfl⟩
theorem Wt.str (A : Wt fa fn xs K mg) {T : CT} (i : Nat) {x z : Str} (h : fa[i]? = some (.str x z) := by rfl) : GloD K T mg x (.str z) := by
  obtain ⟨hp, X, G⟩ := A.ex
  obtain ⟨t, e⟩ := He.str_ok X G (A.c.d.fact i h)
  exact ⟨_, .str z, e, ⟨t, rfl⟩, fun _ _ => rfl⟩
theorem KTup.of {K : Fg} {a : Addr} {vs : List V} (h : ∀ H, SqT K H a vs) : KTup K a vs := by
  rcases h (fun _ => none) with h | h
  · rcases h with h | ⟨o, h⟩ <;> cases h
  · exact h
/-- a tuple of flat things -/
theorem Wt.tup (A : Wt fa fn xs K mg) {T : CT} (i j : Nat) {x : Str} {ds : List D} {dv : List He.Dv} (h : xs[i]? = some (fun K => He.tupB K x dv) := by rfl) (h2 : fa[j]? = some (.glo x) := by rfl) (hr : ∀ H Av, RepL ⟨K, T⟩ H Av ds (dv.map (He.Dv.v K))) : GloD K T mg x (.tup ds) :=
  ⟨_, .ref (He.ga K x), A.glo j h2, rfl, fun H Av => ⟨_, _, rfl, .inr (KTup.of fun H => He.tupB_ok (A.c.x i h) H), hr H Av⟩⟩
theorem Wt.def_ (A : Wt fa fn xs K mg) (i : Nat) {d : He.DefD} (h : fn[i]? = some d := by rfl) : ∃ fd, FunD K d.name d.qual d.params d.body d.scope (d.dvs K) (d.kws K) (He.fAd K d.at_) fd := A.c.d.def_ i h
end
/-- how arguments bind, no defaults -/
theorem binds_n {K : Fg} {x qual : Str} {params : Arguments} {body : List Stmt} {scope : Scope} {kws : List (Str × V)} {f : Addr} {fd : FuncData} {ps : List Str} (F : FunD K x qual params body scope [] kws f fd)
    (h : ∀ (kV doc pm : Value) (an : Option Addr) (cdv ct : Value) (us : List Value), us.length = ps.length → bindArgs (PySem.W.fnOf x qual params body scope .none kV doc pm an cdv ct) ⟨us, []⟩ = pure (ps.zip us)) : Binds K fd ps [] := F.bindsN h
end Cr
/-! Core, part 15: the law's promise, with no exception. -/
namespace Cr
open PySem PySem.Spec PyProof.Rows L2
section
variable {P : Program} {w : World} {K : PySem.W.Frag} {mg : Str → Option Value} {base : Heap} {k : Nat} {f : Addr} {fd : FuncData} {ps : List Str} {sp : Sp}
abbrev CXN : CXT := fun _ _ _ _ _ _ => False
def noE (sp : Sp) : Sp := fun vs H Q _ => sp vs H Q fun _ _ _ => False
theorem fn_no (F : FnOk P w K mg base (L2.CX P w) k f fd ps sp) : FnOk P w K mg base CXN k f fd ps (noE sp) := by
  refine ⟨fun vs H Q E h => F.len vs H Q _ h, fun A outer s H args us vs Q E hr he hb hv hs => codeAny_mono (F.run A outer s H args us vs Q _ hr he hb hv hs) fun r s' z => ?_⟩
  cases r with
  | ok x => cases x <;> first | exact z | exact False.elim z
  | error e =>
    obtain ⟨_, _, _, _, _, _, _, _, _, _, _, _, z⟩ := z
    exact False.elim z
end
end Cr
/-! Core, part 16: is with a bool; bit_length. -/
namespace Cr
open PySem PySem.Spec PyProof.Rows L2
def isBlD : D → D → Res D
  | .bl a, .bl b => .ok (.bl (decide (a = b)))
  | _, _ => .bad
def notBlD : D → D → Res D
  | .bl a, .bl b => .ok (.bl (!decide (a = b)))
  | _, _ => .bad
section
variable {T : CT} {Fb : Gh} {X : Cx} {e a : Expr} {ma : Env → Res D} {pos p : Pos}
theorem om_isb : OpM T X (compareOp .Is) isBlD := by
  refine ⟨_, op_is_bl, fun σ H Av dx dy x y Q hav rx ry o => ?_⟩
  cases dx <;> cases dy <;> try exact False.elim o
  rename_i a b
  have rx : x = V.bl a := rx
  have ry : y = V.bl b := ry
  exact ⟨a, b, rx, ry, o _ _ (Same.refl H) rfl⟩
theorem om_isnotb : OpM T X (compareOp .IsNot) notBlD := by
  refine ⟨_, op_isnot_bl, fun σ H Av dx dy x y Q hav rx ry o => ?_⟩
  cases dx <;> cases dy <;> try exact False.elim o
  rename_i a b
  have rx : x = V.bl a := rx
  have ry : y = V.bl b := ry
  exact ⟨a, b, rx, ry, o _ _ (Same.refl H) rfl⟩
def bitsD : D → Res D
  | .int i => .ok (.int (Builtin.Int.intBits i : Nat))
  | _ => .bad
theorem me_bits {apos : Pos} (ha : MB T Fb X a ma) (hbase : attributeBase a "bit_length" X.env (eval a X.env) = eval a X.env := by rfl) (hline : (apos.endLine == pos.line) = true := by rfl) : ME T Fb X (.Call (.Attribute a "bit_length" apos) [] [] pos) (mUn bitsD ma) := by
  refine ⟨fun σ H F ρ Q S o => (pe_bits pe_tw hbase hline).tw ?_⟩
  refine ha.run σ H F ρ _ S (o.bind.imp fun d _ o1 v H1 s r => ?_)
  cases d with
  | int i => exact ⟨i, r, o1 _ _ s rfl⟩
  | _ => exact False.elim o1
end
end Cr
/-! Core, part 17: max and min of a tuple. -/
namespace Cr
open PySem L2
theorem best_tup {gt : Bool} {prog : Program} {w : World} {A : Around} {E : Value → Shared → Prop} {s : Shared} {t : Addr} {its : List Value} {ns : List Int} {Q : Value → Shared → Prop}
    (hh : A.handled = none) (ht : PyProof.Rows.IsTup s.heap t its.toArray) (hi : PyProof.Rows.IntsAre its ns) (hne : 0 < ns.length)
    (h : ∀ (h' : Heap) (tk : Nat) (M : Int) (t' : Tok), (∀ (b : Addr) (o : Obj), s.heap.get? b = some o → h'.get? b = some o) → M ∈ ns → (∀ a ∈ ns, if gt = true then a ≤ M else M ≤ a) →
      Q (Value.int M t') { heap := h', gens := s.gens, drawn := s.drawn, toks := tk, os := s.os }) :
    wpAny (model prog w) A (call (Value.builtin (if gt = true then "max" else "min")) [Value.ref t]) Q E s := by
  obtain ⟨xs, e⟩ := AllInts.items (PyProof.Rows.IntsAre.allInts hi)
  have hn : numsOf (intItems xs).toList = ns := by rw [← e]; exact PyProof.Rows.IntsAre.numsOf hi
  rw [nums_intItems] at hn
  subst hn
  rw [e] at ht
  have hsz : 0 < xs.size := by rw [List.length_map, Array.length_toList] at hne; exact hne
  have hlt : t < s.heap.objs.size := ht.lt
  have hsize : (intItems xs).size = xs.size := by unfold intItems; exact Array.size_map
  have fin : ∀ (bt : Nat → Nat → Bool), (argBest bt (xs.size - 1) ≤ xs.size - 1) → (∀ j, j ≤ xs.size - 1 → if gt = true then numAt xs j ≤ numAt xs (argBest bt (xs.size - 1)) else numAt xs (argBest bt (xs.size - 1)) ≤ numAt xs j) → ∀ (v : Value) (h' : Heap) (tk : Nat), (intItems xs)[argBest bt ((intItems xs).size - 1)]? = some v →
      (∀ (b : Addr) (o : Obj), ¬b ∈ [s.heap.objs.size] → (s.heap.push { cls := Value.type "tuple_iterator", data := Data.fields #[Value.ref t, Value.int 0 0] }).get? b = some o → h'.get? b = some o) →
      Q v { heap := h', gens := s.gens, drawn := s.drawn, toks := tk, os := s.os } := by
    intro bt h1 h2 v h' tk hv hk
    rw [hsize] at hv
    obtain ⟨tv, rfl⟩ := intItems_at hv
    refine h h' tk _ tv (fun b o hb => ?_) ?_ ?_
    · refine hk b o ?_ (Heap.get?_push_of_some _ hb)
      intro hm
      rw [List.mem_singleton] at hm
      have hl := Heap.lt_size hb
      rw [hm] at hl
      exact Nat.lt_irrefl _ hl
    · rw [numAt_eq]
      refine getD_mem ?_
      rw [List.length_map, Array.length_toList]
      omega
    · intro a ha
      obtain ⟨j, hj, rfl⟩ := mem_getD ha
      rw [List.length_map, Array.length_toList] at hj
      rw [← numAt_eq]
      exact h2 j (by omega)
  have St0 : (s.heap.push { cls := Value.type "tuple_iterator", data := Data.fields #[Value.ref t, Value.int 0 0] }).IsTupleIter s.heap.objs.size t 0 ∧ (s.heap.push { cls := Value.type "tuple_iterator", data := Data.fields #[Value.ref t, Value.int 0 0] }).IsTuple t (intItems xs) :=
    ⟨⟨_, Heap.get?_push_size _ rfl, rfl, rfl⟩, ht.push _⟩
  have hfp : ∀ b ∈ [s.heap.objs.size, t], b < (s.heap.push { cls := Value.type "tuple_iterator", data := Data.fields #[Value.ref t, Value.int 0 0] }).objs.size := by
    intro b hb
    have : (s.heap.push { cls := Value.type "tuple_iterator", data := Data.fields #[Value.ref t, Value.int 0 0] }).objs.size = s.heap.objs.size + 1 := by
      unfold Heap.push; exact Array.size_push _
    rw [this]
    rcases List.mem_cons.mp hb with rfl | hb
    · exact Nat.lt_succ_self _
    · rw [List.mem_singleton.mp hb]; exact Nat.lt_succ_of_lt hlt
  cases gt with
  | true =>
    obtain ⟨h1, h2⟩ := argBest_gt (numAt xs) (xs.size - 1)
    exact call_max_walk (PyProof.Rows.iter_tuple ht ⟨s.heap.objs.size, [s.heap.objs.size, t], [s.heap.objs.size], (intItems xs).size, fun i v => (intItems xs)[i]? = some v, fun i h => h.IsTupleIter s.heap.objs.size t i ∧ h.IsTuple t (intItems xs), fun i j => decide (numAt xs i > numAt xs j), rfl,
      Walks.tuple (A := A.in1) hh s.heap.objs.size t (Nat.ne_of_lt hlt) (intItems xs), St0, hfp, by rw [hsize]; exact hsz, CmpOf.ints_gt (numAt xs) fun _ _ => intItems_at, fin _ h1 h2⟩)
  | false =>
    obtain ⟨h1, h2⟩ := argBest_lt (numAt xs) (xs.size - 1)
    exact call_min_walk (PyProof.Rows.iter_tuple ht ⟨s.heap.objs.size, [s.heap.objs.size, t], [s.heap.objs.size], (intItems xs).size, fun i v => (intItems xs)[i]? = some v, fun i h => h.IsTupleIter s.heap.objs.size t i ∧ h.IsTuple t (intItems xs), fun i j => decide (numAt xs i < numAt xs j), rfl,
      Walks.tuple (A := A.in1) hh s.heap.objs.size t (Nat.ne_of_lt hlt) (intItems xs), St0, hfp, by rw [hsize]; exact hsz, CmpOf.ints_lt (numAt xs) fun _ _ => intItems_at, fin _ h1 h2⟩)
section
variable {T : CT} {X : Cx}
def maxD2 : List D → Res D
  | [.tup xs] => opt (intsOf xs) >>= fun ns => if 0 < ns.length then .ok (.int (listMax ns)) else .bad
  | ds => maxD ds
def minD2 : List D → Res D
  | [.tup xs] => opt (intsOf xs) >>= fun ns => if 0 < ns.length then .ok (.int (listMin ns)) else .bad
  | ds => minD ds
def rBest (gt : Bool) (K : W.Frag) : List V → Hp → VK → Prop := fun vs H Q => ∃ a ns, vs = [V.ref a] ∧ (SqL K H a (ns.map V.int) ∨ SqT K H a (ns.map V.int)) ∧ 0 < ns.length ∧ Q (V.int (if gt = true then listMax ns else listMin ns)) H
theorem cr_best (gt : Bool) (hc : X.calm = true) : CallR X (.builtin (if gt = true then "max" else "min")) (rBest gt X.K) := by
  intro pins s σ H vs us Q I rv h
  obtain ⟨a, ns, rfl, hs, hne, q⟩ := h
  cases Vals.ref1 rv
  rcases hs with hs | hs
  · cases gt with
    | true => exact cr_max hc pins s σ H _ _ Q I rv ⟨a, ns, rfl, hs, hne, fun m hm hy => by rw [listMax_eq hm hy]; exact q⟩
    | false => exact cr_min hc pins s σ H _ _ Q I rv ⟨a, ns, rfl, hs, hne, fun m hm hy => by rw [listMin_eq hm hy]; exact q⟩
  · obtain ⟨its, hv, hl, _⟩ := Inv.tuple I hs
    refine best_tup (I.ok.hd hc) hl (Vals.ints hv) hne fun h' tk m t' hk h1 h2 => ⟨V.int m, H, Inv.kept I hk, ⟨t', rfl⟩, ?_⟩
    cases gt with
    | true => rw [listMax_eq h1 h2]; exact q
    | false => rw [listMin_eq h1 h2]; exact q
theorem cm_maxD2 (hc : X.calm = true) : CallM T X (.builtin "max") maxD2 := by
  refine ⟨_, cr_best true hc, fun σ H Av ds vs Q hav r o => ?_⟩
  match ds, o with
  | [.tup xs], o =>
    obtain ⟨ns, e, f⟩ := o.bind.opt
    obtain ⟨hn, f⟩ := Out.if f
    obtain ⟨v, rfl, a, ws, rfl, h1, h2⟩ := paired1 r
    rw [ints_rep h2 e] at h1
    exact ⟨a, ns, rfl, .inr (tup_sq h1), hn, f _ _ (Same.refl H) rfl⟩
  | [.lst xs], o =>
    have o : Out X T σ H (opt (intsOf xs) >>= fun ns => if 0 < ns.length then Res.ok (D.int (listMax ns)) else .bad) _ := o
    obtain ⟨ns, e, f⟩ := o.bind.opt
    obtain ⟨hn, f⟩ := Out.if f
    obtain ⟨v, rfl, a, ws, rfl, h1, h2⟩ := paired1 r
    rw [ints_rep h2 e] at h1
    exact ⟨a, ns, rfl, .inl (SqL.of h1), hn, f _ _ (Same.refl H) rfl⟩
theorem cm_minD2 (hc : X.calm = true) : CallM T X (.builtin "min") minD2 := by
  refine ⟨_, cr_best false hc, fun σ H Av ds vs Q hav r o => ?_⟩
  match ds, o with
  | [.tup xs], o =>
    obtain ⟨ns, e, f⟩ := o.bind.opt
    obtain ⟨hn, f⟩ := Out.if f
    obtain ⟨v, rfl, a, ws, rfl, h1, h2⟩ := paired1 r
    rw [ints_rep h2 e] at h1
    exact ⟨a, ns, rfl, .inr (tup_sq h1), hn, f _ _ (Same.refl H) rfl⟩
  | [.lst xs], o =>
    have o : Out X T σ H (opt (intsOf xs) >>= fun ns => if 0 < ns.length then Res.ok (D.int (listMin ns)) else .bad) _ := o
    obtain ⟨ns, e, f⟩ := o.bind.opt
    obtain ⟨hn, f⟩ := Out.if f
    obtain ⟨v, rfl, a, ws, rfl, h1, h2⟩ := paired1 r
    rw [ints_rep h2 e] at h1
    exact ⟨a, ns, rfl, .inl (SqL.of h1), hn, f _ _ (Same.refl H) rfl⟩
end
end Cr
/-! plain lemmas over the mirrors' words -/
namespace Cr
open PySem L2
theorem mulD_r (a b : Int) (h : -18446744073709551616 < b ∧ b < 18446744073709551616) : mulD (.int a) (.int b) = .ok (.int (a * b)) := by
  have : mulOk a b := .inl (.inr ⟨by have := h.1; omega, by have := h.2; omega⟩)
  unfold mulD
  exact if_pos this
theorem mulD_l (a b : Int) (h : -18446744073709551616 < a ∧ a < 18446744073709551616) : mulD (.int a) (.int b) = .ok (.int (a * b)) := by
  have : mulOk a b := .inl (.inl ⟨by have := h.1; omega, by have := h.2; omega⟩)
  unfold mulD
  exact if_pos this
theorem modD_p (a b : Int) (h : 0 < b) : modD (.int a) (.int b) = .ok (.int (a % b)) := if_pos h
theorem fdivD_p (a b : Int) (h : 0 < b ∧ b < 18446744073709551616) : fdivD (.int a) (.int b) = .ok (.int (a / b)) := by
  have e : divOk a b := by
    refine ⟨h.1, ?_⟩
    have : b.natAbs < 2 ^ 64 := by omega
    have h0 : b.natAbs ≠ 0 := by omega
    have := (Nat.log2_lt h0).mpr this
    omega
  exact if_pos e
theorem powD_p (a b : Int) (h : 0 ≤ b ∧ b ≤ 1000000) (h2 : a.natAbs < 18446744073709551616) : powD (.int a) (.int b) = .ok (.int (a ^ b.toNat)) := by
  have e : powOk a b := ⟨h.1, h.2, by omega⟩
  exact if_pos e
theorem addD_i (a b : Int) : addD (.int a) (.int b) = .ok (.int (a + b)) := rfl
theorem subD_i (a b : Int) : subD (.int a) (.int b) = .ok (.int (a - b)) := rfl
theorem tru_bl (b : Bool) : tru (.bl b) = .ok b := rfl
theorem mTst_bl {m : Env → Res D} {ρ : Env} {b : Bool} (h : m ρ = .ok (.bl b)) : mTst m ρ = .ok b := by unfold mTst; rw [h]; rfl
/-! statements -/
theorem seq_nx {m m' : Env → Flow} {ρ ρ' : Env} (h : m ρ = .nx ρ') : mSeq m m' ρ = m' ρ' := by unfold mSeq; rw [h]
theorem seq_rt {m m' : Env → Flow} {ρ ρ' : Env} {d : D} (h : m ρ = .rt d ρ') : mSeq m m' ρ = .rt d ρ' := by unfold mSeq; rw [h]
theorem seq_er {m m' : Env → Flow} {ρ ρ' : Env} {x : Exc} (h : m ρ = .er x ρ') : mSeq m m' ρ = .er x ρ' := by unfold mSeq; rw [h]
theorem set_ok {m : Env → Res D} {ρ : Env} {d : D} {i : Nat} (h : m ρ = .ok d) (k : okS ρ i = true) : mSet i m ρ = .nx (ρ.set i (.v (.d d))) := by unfold mSet; rw [h]; unfold put; exact if_pos k
theorem setO_ok {m : Env → Res (List D)} {ρ : Env} {d : List D} {i : Nat} (h : m ρ = .ok d) (k : okS ρ i = true) : mSetO i m ρ = .nx (ρ.set i (.v (.ol d))) := by unfold mSetO; rw [h]; unfold put; exact if_pos k
theorem ret_ok {m : Env → Res D} {ρ : Env} {d : D} (h : m ρ = .ok d) : mRet m ρ = .rt d ρ := by unfold mRet; rw [h]; rfl
theorem if_t {t : Env → Res Bool} {m m' : Env → Flow} {ρ : Env} (h : t ρ = .ok true) : mIfS t m m' ρ = m ρ := by unfold mIfS; rw [h]; rfl
theorem if_f {t : Env → Res Bool} {m m' : Env → Flow} {ρ : Env} (h : t ρ = .ok false) : mIfS t m m' ρ = m' ρ := by unfold mIfS; rw [h]; rfl
theorem seq_if_f {t : Env → Res Bool} {m m' : Env → Flow} {ρ : Env} (h : t ρ = .ok false) : mSeq (mIfS t m mEnd) m' ρ = m' ρ := seq_nx (if_f h)
theorem seq_if_t {t : Env → Res Bool} {m m1 m' : Env → Flow} {ρ : Env} (h : t ρ = .ok true) : mSeq (mIfS t m m1) m' ρ = mSeq m m' ρ := by unfold mSeq; rw [if_t h]
theorem runD_rt {l : Nat} {m : Env → Flow} {ds : List D} {d : D} {ρ : Env} (h : m (startE l ds) = .rt d ρ) : runD l m ds = .ok d := by unfold runD; rw [h]
theorem for_ok {mi : Env → Res (List D)} {g : D → Env → Option Env} {mb : Env → Flow} {ρ : Env} {xs : List D} (h : mi ρ = .ok xs) : mFor mi g mb ρ = forL g mb xs ρ := by unfold mFor; rw [h]; rfl
theorem forL_cons {g : D → Env → Option Env} {mb : Env → Flow} {ρ ρ1 ρ2 : Env} {x : D} {xs : List D} (h : g x ρ = some ρ1) (h2 : mb ρ1 = .nx ρ2) : forL g mb (x :: xs) ρ = forL g mb xs ρ2 := by
  show (match g x ρ with
    | none => Flow.bad
    | some ρ1 => match mb ρ1 with
      | .nx ρ2 => forL g mb xs ρ2
      | f => f) = _
  rw [h]
  show (match mb ρ1 with
      | .nx ρ2 => forL g mb xs ρ2
      | f => f) = _
  rw [h2]
theorem rangeD_len (lo c : Int) (n : Nat) : (rangeD lo c n).length = n := by unfold rangeD; simp
/-- a loop with an invariant: it goes through -/
theorem forL_inv (I : Nat → Env → Prop) {g : D → Env → Option Env} {mb : Env → Flow} : ∀ (xs : List D) (k : Nat) (ρ : Env), I k ρ →
    (∀ j ρ d, I (k + j) ρ → xs[j]? = some d → ∃ ρ1 ρ2, g d ρ = some ρ1 ∧ mb ρ1 = .nx ρ2 ∧ I (k + j + 1) ρ2) → ∃ ρ', forL g mb xs ρ = .nx ρ' ∧ I (k + xs.length) ρ'
  | [], k, ρ, h, _ => ⟨ρ, rfl, h⟩
  | x :: xs, k, ρ, h, st => by
    obtain ⟨ρ1, ρ2, e1, e2, h2⟩ := st 0 ρ x h rfl
    rw [forL_cons e1 e2]
    obtain ⟨ρ', e, h3⟩ := forL_inv I xs (k + 1) ρ2 h2 fun j ρ d hI hd => by
      have := st (j + 1) ρ d (by have e : k + (j + 1) = k + 1 + j := by omega
                                 rw [e]; exact hI) (by simpa using hd)
      have e : k + (j + 1) + 1 = k + 1 + j + 1 := by omega
      rw [e] at this
      exact this
    refine ⟨ρ', e, ?_⟩
    have e : k + (x :: xs).length = k + 1 + xs.length := by simp; omega
    rw [e]; exact h3
theorem rangeD_get {lo c : Int} {n j : Nat} {d : D} (h : (rangeD lo c n)[j]? = some d) : j < n ∧ d = .int (lo + j * c) := by
  unfold rangeD at h
  rw [List.getElem?_map] at h
  cases q : (List.range n)[j]? with
  | none => rw [q] at h; cases h
  | some i =>
    rw [q] at h
    obtain ⟨hl, e⟩ := List.getElem?_eq_some_iff.mp q
    rw [List.length_range] at hl
    rw [List.getElem_range] at e
    subst e
    exact ⟨hl, (Option.some.inj h).symm⟩
/-! comprehensions: every item gives a value -/
theorem compL_map {g : D → Env → Option Env} {mt : Env → Res Bool} {me : Env → Res D} {ρ : Env} (f : D → D) : ∀ (xs : List D), (∀ x ∈ xs, ∃ ρ1, g x ρ = some ρ1 ∧ mt ρ1 = .ok true ∧ me ρ1 = .ok (f x)) → compL g mt me ρ xs = .ok (xs.map f)
  | [], _ => rfl
  | x :: xs, h => by
    obtain ⟨ρ1, e1, e2, e3⟩ := h x (List.mem_cons_self ..)
    unfold compL
    rw [e1]
    show (nerr (mt ρ1) >>= _) = _
    rw [e2]
    show (nerr (me ρ1) >>= _) = _
    rw [e3]
    show (compL g mt me ρ xs >>= _) = _
    rw [compL_map f xs fun y hy => h y (List.mem_cons_of_mem _ hy)]
    rfl
theorem comp_map {vs : List Nat} {mi : Env → Res (List D)} {g : D → Env → Option Env} {mt : Env → Res Bool} {me : Env → Res D} {ρ : Env} {xs : List D} (f : D → D) (hi : mi ρ = .ok xs) (hl : xs.length ≤ sizeLine) (h : ∀ x ∈ xs, ∃ ρ1, g x (wipeE ρ vs) = some ρ1 ∧ mt ρ1 = .ok true ∧ me ρ1 = .ok (f x)) : mComp vs mi g mt me ρ = .ok (xs.map f) := by
  unfold mComp
  rw [hi]
  show (match decide (xs.length ≤ sizeLine) with
    | true => compL g mt me (wipeE ρ vs) xs
    | false => .bad) = _
  rw [decide_eq_true hl]
  exact compL_map f xs h
theorem boolsOf_map {α : Type} (f : α → Bool) : ∀ xs : List α, boolsOf (xs.map fun x => .bl (f x)) = some (xs.map f)
  | [] => rfl
  | x :: xs => by
    show (boolsOf (xs.map fun x => D.bl (f x))).map (f x :: ·) = _
    rw [boolsOf_map f xs]
    rfl
/-! the words at given values -/
theorem idxD_lst (xs : List D) (i : Int) : idxD (.lst xs) (.int i) = opt (atI xs i) := rfl
theorem idxD_tup (xs : List D) (i : Int) : idxD (.tup xs) (.int i) = opt (atI xs i) := rfl
theorem idxD_scr (xs : List Int) (i : Int) : idxD (.scr xs) (.int i) = opt ((atI xs i).map .int) := rfl
theorem ltD_i (a b : Int) : ltD (.int a) (.int b) = .ok (.bl (decide (a < b))) := rfl
theorem leD_i (a b : Int) : leD (.int a) (.int b) = .ok (.bl (decide (a ≤ b))) := rfl
theorem gtD_i (a b : Int) : gtD (.int a) (.int b) = .ok (.bl (decide (a > b))) := rfl
theorem geD_i (a b : Int) : geD (.int a) (.int b) = .ok (.bl (decide (a ≥ b))) := rfl
theorem eqD_i (a b : Int) : eqD (.int a) (.int b) = .ok (.bl (decide (a = b))) := rfl
theorem neD_i (a b : Int) : neD (.int a) (.int b) = .ok (.bl (!decide (a = b))) := rfl
theorem eqD_b (a b : Bool) : eqD (.bl a) (.bl b) = .ok (.bl (decide (a = b))) := rfl
theorem neD_b (a b : Bool) : neD (.bl a) (.bl b) = .ok (.bl (!decide (a = b))) := rfl
theorem eqD_s (a b : Str) : eqD (.str a) (.str b) = .ok (.bl (decide (a = b))) := rfl
theorem neD_s (a b : Str) : neD (.str a) (.str b) = .ok (.bl (!decide (a = b))) := rfl
theorem absD_i (i : Int) : absD [.int i] = .ok (.int (if i < 0 then -i else i)) := rfl
theorem intD_i (i : Int) : intD [.int i] = .ok (.int i) := rfl
theorem negD_i (i : Int) : negD (.int i) = .ok (.int (-i)) := rfl
theorem lenD_lst (xs : List D) : lenD [.lst xs] = .ok (.int xs.length) := rfl
theorem lenD_tup (xs : List D) : lenD [.tup xs] = .ok (.int xs.length) := rfl
theorem lenD_scr (xs : List Int) : lenD [.scr xs] = .ok (.int xs.length) := rfl
theorem opt_some {α : Type} (a : α) : opt (some a) = .ok a := rfl
theorem rng1_p (n : Nat) (h : n < 4611686018427387904) : rng1 [.int n] = .ok (rangeD 0 1 n) := by
  have e : -(2 ^ 62) ≤ (n : Int) ∧ (n : Int) < 2 ^ 62 := ⟨by omega, by omega⟩
  unfold rng1
  dsimp only
  rw [if_pos e, Int.toNat_natCast]
theorem allD_b {α : Type} (f : α → Bool) (xs : List α) : allD [.lst (xs.map fun x => .bl (f x))] = .ok (.bl (xs.all f)) := by
  show (opt (boolsOf (xs.map fun x => .bl (f x))) >>= fun ns => Res.ok (D.bl (ns.all id))) = _
  rw [boolsOf_map f xs]
  show Res.ok (D.bl ((xs.map f).all id)) = _
  rw [List.all_map]
  rfl
theorem appG_ok (xs : List D) (d : D) (h : xs.length < sizeLine) : appG xs [d] = .ok (xs ++ [d]) := if_pos h
/-! tests and statements as values -/
def andB : Res Bool → Res Bool → Res Bool
  | .ok true, r => r
  | .ok false, _ => .ok false
  | .err x, _ => .err x
  | .bad, _ => .bad
def orB : Res Bool → Res Bool → Res Bool
  | .ok true, _ => .ok true
  | .ok false, r => r
  | .err x, _ => .err x
  | .bad, _ => .bad
def andVB : Res D → Res D → Res D
  | .ok (.bl true), r => r
  | .ok (.bl false), _ => .ok (.bl false)
  | .err x, _ => .err x
  | _, _ => .bad
def orVB : Res D → Res D → Res D
  | .ok (.bl true), _ => .ok (.bl true)
  | .ok (.bl false), r => r
  | .err x, _ => .err x
  | _, _ => .bad
theorem nr {α : Type} {a b : α} (h : a = b) : a = b := h
theorem andB_ok (a b : Bool) : andB (.ok a) (.ok b) = .ok (a && b) := by cases a <;> rfl
theorem andB_f (r : Res Bool) : andB (.ok false) r = .ok false := nr rfl
theorem andB_t (r : Res Bool) : andB (.ok true) r = r := nr rfl
theorem orB_ok (a b : Bool) : orB (.ok a) (.ok b) = .ok (a || b) := by cases a <;> rfl
theorem orB_f (r : Res Bool) : orB (.ok false) r = r := nr rfl
theorem orB_t (r : Res Bool) : orB (.ok true) r = .ok true := nr rfl
theorem andVB_ok (a b : Bool) : andVB (.ok (.bl a)) (.ok (.bl b)) = .ok (.bl (a && b)) := by cases a <;> rfl
theorem andVB_f (r : Res D) : andVB (.ok (.bl false)) r = .ok (.bl false) := nr rfl
theorem andVB_t (r : Res D) : andVB (.ok (.bl true)) r = r := nr rfl
theorem orVB_ok (a b : Bool) : orVB (.ok (.bl a)) (.ok (.bl b)) = .ok (.bl (a || b)) := by cases a <;> rfl
theorem orVB_f (r : Res D) : orVB (.ok (.bl false)) r = r := nr rfl
theorem orVB_t (r : Res D) : orVB (.ok (.bl true)) r = .ok (.bl true) := nr rfl
theorem mAnd_B (ta tb : Env → Res Bool) (ρ : Env) : mAnd ta tb ρ = andB (ta ρ) (tb ρ) := by
  unfold mAnd
  cases ta ρ with
  | ok b => cases b <;> rfl
  | err x => rfl
  | bad => rfl
theorem mOr_B (ta tb : Env → Res Bool) (ρ : Env) : mOr ta tb ρ = orB (ta ρ) (tb ρ) := by
  unfold mOr
  cases ta ρ with
  | ok b => cases b <;> rfl
  | err x => rfl
  | bad => rfl
theorem mAndV_B (ta tb : Env → Res D) (ρ : Env) : mAndV ta tb ρ = andVB (ta ρ) (tb ρ) := by
  unfold mAndV
  cases ta ρ with
  | ok d =>
    cases d with
    | bl b => cases b <;> rfl
    | _ => rfl
  | err x => rfl
  | bad => rfl
theorem mOrV_B (ta tb : Env → Res D) (ρ : Env) : mOrV ta tb ρ = orVB (ta ρ) (tb ρ) := by
  unfold mOrV
  cases ta ρ with
  | ok d =>
    cases d with
    | bl b => cases b <;> rfl
    | _ => rfl
  | err x => rfl
  | bad => rfl
theorem mChain_B (g g' : D → D → Res D) (ma mb mc : Env → Res D) (ρ : Env) : mChain g g' ma mb mc ρ = (ma ρ >>= fun x => mb ρ >>= fun y => andVB (g x y) (mc ρ >>= fun z => g' y z)) := by
  unfold mChain
  cases ma ρ with
  | err x => rfl
  | bad => rfl
  | ok x =>
    cases mb ρ with
    | err x => rfl
    | bad => rfl
    | ok y =>
      show ((g x y >>= tru) >>= _) = andVB (g x y) _
      cases g x y with
      | ok d =>
        cases d with
        | bl b => cases b <;> rfl
        | _ => rfl
      | err x => rfl
      | bad => rfl
def seqF : Flow → (Env → Flow) → Flow
  | .nx ρ, m => m ρ
  | f, _ => f
theorem mSeq_B (m m' : Env → Flow) (ρ : Env) : mSeq m m' ρ = seqF (m ρ) m' := by
  unfold mSeq seqF
  cases m ρ <;> rfl
theorem seqF_nx (ρ : Env) (m : Env → Flow) : seqF (.nx ρ) m = m ρ := nr rfl
theorem seqF_rt (d : D) (ρ : Env) (m : Env → Flow) : seqF (.rt d ρ) m = .rt d ρ := nr rfl
theorem seqF_er (x : Exc) (ρ : Env) (m : Env → Flow) : seqF (.er x ρ) m = .er x ρ := nr rfl
theorem seqF_if (c : Prop) [Decidable c] (a b : Flow) (m : Env → Flow) : seqF (if c then a else b) m = if c then seqF a m else seqF b m := by split <;> rfl
theorem mIfS_B (t : Env → Res Bool) (m m' : Env → Flow) (ρ : Env) : mIfS t m m' ρ = bindF (t ρ) ρ fun k => if k = true then m ρ else m' ρ := by
  unfold mIfS
  cases t ρ with
  | ok b => cases b <;> rfl
  | err x => rfl
  | bad => rfl
theorem mIf_B {α : Type} (t : Env → Res Bool) (m m' : Env → Res α) (ρ : Env) : mIf t m m' ρ = (t ρ >>= fun k => if k = true then m ρ else m' ρ) := by
  unfold mIf
  cases t ρ with
  | ok b => cases b <;> rfl
  | err x => rfl
  | bad => rfl
theorem bind_if {α β : Type} (c : Prop) [Decidable c] (a b : Res α) (f : α → Res β) : ((if c then a else b) >>= f) = if c then (a >>= f) else (b >>= f) := by split <;> rfl
theorem bindF_if {α : Type} (c : Prop) [Decidable c] (a b : Res α) (ρ : Env) (f : α → Flow) : bindF (if c then a else b) ρ f = if c then bindF a ρ f else bindF b ρ f := by split <;> rfl
def runF : Flow → Res D
  | .nx _ => .ok .non
  | .rt d _ => .ok d
  | .er x _ => .err x
  | .bad => .bad
theorem runD_B (l : Nat) (m : Env → Flow) (ds : List D) : runD l m ds = runF (m (startE l ds)) := by unfold runD runF; cases m (startE l ds) <;> rfl
theorem runF_rt (d : D) (ρ : Env) : runF (.rt d ρ) = .ok d := nr rfl
theorem runF_nx (ρ : Env) : runF (.nx ρ) = .ok .non := nr rfl
theorem runF_er (x : Exc) (ρ : Env) : runF (.er x ρ) = .err x := nr rfl
theorem runF_if (c : Prop) [Decidable c] (a b : Flow) : runF (if c then a else b) = if c then runF a else runF b := by split <;> rfl
def runIF (c : Nat) : Flow → Res (List D)
  | .nx ρ => finI c ρ
  | .er x _ => .err x
  | _ => .bad
theorem runI_B (l c : Nat) (m : Env → Flow) (ds : List D) : runI l c m ds = runIF c (m (startI l c ds)) := by unfold runI runIF; cases m (startI l c ds) <;> rfl
theorem runIF_nx (c : Nat) (ρ : Env) : runIF c (.nx ρ) = finI c ρ := nr rfl
theorem runIF_er (c : Nat) (x : Exc) (ρ : Env) : runIF c (.er x ρ) = .err x := nr rfl
theorem runIF_if (k : Nat) (c : Prop) [Decidable c] (a b : Flow) : runIF k (if c then a else b) = if c then runIF k a else runIF k b := by split <;> rfl
theorem addD_l (a b : List D) : addD (.lst a) (.lst b) = if a.length + b.length ≤ sizeLine then .ok (.lst (a ++ b)) else .bad := nr rfl
theorem addD_t (a b : List D) : addD (.tup a) (.tup b) = if a ≠ [] ∧ b ≠ [] ∧ a.length + b.length ≤ sizeLine then .ok (.tup (a ++ b)) else .bad := nr rfl
theorem szl : sizeLine = 16777216 := nr rfl
def optF : Option Env → (Env → Flow) → Flow
  | some ρ, f => f ρ
  | none, _ => .bad
theorem optF_some (ρ : Env) (f : Env → Flow) : optF (some ρ) f = f ρ := nr rfl
theorem forL_nil (g : D → Env → Option Env) (mb : Env → Flow) (ρ : Env) : forL g mb [] ρ = .nx ρ := nr rfl
theorem forL_c (g : D → Env → Option Env) (mb : Env → Flow) (x : D) (xs : List D) (ρ : Env) : forL g mb (x :: xs) ρ = optF (g x ρ) fun ρ1 => seqF (mb ρ1) (forL g mb xs) := by
  show (match g x ρ with
    | none => Flow.bad
    | some ρ1 => match mb ρ1 with
      | .nx ρ2 => forL g mb xs ρ2
      | f => f) = _
  cases g x ρ with
  | none => rfl
  | some ρ1 =>
    show (match mb ρ1 with
      | .nx ρ2 => forL g mb xs ρ2
      | f => f) = seqF (mb ρ1) _
    cases mb ρ1 <;> rfl
theorem mFor_B (mi : Env → Res (List D)) (g : D → Env → Option Env) (mb : Env → Flow) (ρ : Env) : mFor mi g mb ρ = bindF (mi ρ) ρ fun xs => forL g mb xs ρ := nr rfl
theorem compL_nil (g : D → Env → Option Env) (mt : Env → Res Bool) (me : Env → Res D) (ρ : Env) : compL g mt me ρ [] = .ok [] := nr rfl
def optR {α : Type} : Option Env → (Env → Res α) → Res α
  | some ρ, f => f ρ
  | none, _ => .bad
theorem optR_some {α : Type} (ρ : Env) (f : Env → Res α) : optR (some ρ) f = f ρ := nr rfl
theorem compL_c (g : D → Env → Option Env) (mt : Env → Res Bool) (me : Env → Res D) (ρ : Env) (x : D) (xs : List D) : compL g mt me ρ (x :: xs) = optR (g x ρ) fun ρ1 => nerr (mt ρ1) >>= fun b => if b = true then nerr (me ρ1) >>= fun d => compL g mt me ρ xs >>= fun ds => .ok (d :: ds) else compL g mt me ρ xs := by
  show (match g x ρ with
    | none => Res.bad
    | some ρ1 => nerr (mt ρ1) >>= fun b => match b with
      | true => nerr (me ρ1) >>= fun d => compL g mt me ρ xs >>= fun ds => .ok (d :: ds)
      | false => compL g mt me ρ xs) = _
  cases g x ρ with
  | none => rfl
  | some ρ1 =>
    show (nerr (mt ρ1) >>= _) = (nerr (mt ρ1) >>= _)
    cases nerr (mt ρ1) with
    | ok b => cases b <;> rfl
    | err x => rfl
    | bad => rfl
theorem nerr_ok {α : Type} (a : α) : nerr (.ok a : Res α) = .ok a := nr rfl
theorem mComp_B (vs : List Nat) (mi : Env → Res (List D)) (g : D → Env → Option Env) (mt : Env → Res Bool) (me : Env → Res D) (ρ : Env) : mComp vs mi g mt me ρ = (mi ρ >>= fun xs => if xs.length ≤ sizeLine then compL g mt me (wipeE ρ vs) xs else .bad) := by
  unfold mComp
  cases mi ρ with
  | ok xs =>
    show (match decide (xs.length ≤ sizeLine) with
      | true => compL g mt me (wipeE ρ vs) xs
      | false => .bad) = if xs.length ≤ sizeLine then compL g mt me (wipeE ρ vs) xs else .bad
    by_cases h : xs.length ≤ sizeLine
    · rw [if_pos h, decide_eq_true h]
    · rw [if_neg h, decide_eq_false h]
  | err x => rfl
  | bad => rfl
theorem allD_l (xs : List D) : allD [.lst xs] = (opt (boolsOf xs) >>= fun ns => .ok (.bl (ns.all id))) := nr rfl
theorem anyD_l (xs : List D) : anyD [.lst xs] = (opt (boolsOf xs) >>= fun ns => .ok (.bl (ns.any id))) := nr rfl
theorem bools_nil : boolsOf [] = some [] := nr rfl
theorem bools_c (b : Bool) (xs : List D) : boolsOf (.bl b :: xs) = (boolsOf xs).map (b :: ·) := nr rfl
theorem seqOf_l (xs : List D) : seqOf (.lst xs) = .ok xs := nr rfl
theorem seqOf_t (xs : List D) : seqOf (.tup xs) = .ok xs := nr rfl
/-! slots that may be stored -/
theorem okS_s (a : Sl) (l : Env) (i : Nat) : okS (a :: l) (i + 1) = okS l i := nr rfl
theorem okS_v (x : Fd) (l : Env) : okS (.v x :: l) 0 = true := nr rfl
theorem okS_no (l : Env) : okS (.no :: l) 0 = true := nr rfl
def fine (s : Sl) : Prop := ∀ l, okS (s :: l) 0 = true
theorem fine_v (x : Fd) : fine (.v x) := fun _ => rfl
theorem fine_no : fine .no := fun _ => rfl
theorem compL_gen {α : Type} (e : α → D) (p : α → Bool) (f : α → D) {g : D → Env → Option Env} {mt : Env → Res Bool} {me : Env → Res D} {ρ : Env} : ∀ xs : List α, (∀ x ∈ xs, ∃ ρ1, g (e x) ρ = some ρ1 ∧ mt ρ1 = .ok (p x) ∧ (p x = true → me ρ1 = .ok (f x))) → compL g mt me ρ (xs.map e) = .ok ((xs.filter p).map f)
  | [], _ => rfl
  | x :: xs, h => by
    obtain ⟨ρ1, e1, e2, e3⟩ := h x (List.mem_cons_self ..)
    rw [List.map_cons, compL_c, e1, optR_some, e2, nerr_ok, bind_ok, compL_gen e p f xs fun y hy => h y (List.mem_cons_of_mem _ hy)]
    by_cases hp : p x = true
    · rw [if_pos hp, e3 hp, nerr_ok, bind_ok, bind_ok, List.filter_cons, if_pos hp, List.map_cons]
    · rw [if_neg hp, List.filter_cons, if_neg hp]
theorem compL_all {α : Type} (e f : α → D) {g : D → Env → Option Env} {mt : Env → Res Bool} {me : Env → Res D} {ρ : Env} (xs : List α) (h : ∀ x ∈ xs, ∃ ρ1, g (e x) ρ = some ρ1 ∧ mt ρ1 = .ok true ∧ me ρ1 = .ok (f x)) : compL g mt me ρ (xs.map e) = .ok (xs.map f) := by
  have := compL_gen e (fun _ => true) f xs fun x hx => by
    obtain ⟨ρ1, e1, e2, e3⟩ := h x hx
    exact ⟨ρ1, e1, e2, fun _ => e3⟩
  rw [this, List.filter_eq_self.mpr fun _ _ => rfl]
theorem ints_map {α : Type} (f : α → Int) : ∀ xs : List α, intsOf (xs.map fun x => .int (f x)) = some (xs.map f)
  | [] => rfl
  | x :: xs => by
    show (intsOf (xs.map fun x => D.int (f x))).map (f x :: ·) = _
    rw [ints_map f xs]
    rfl
theorem sumD_map {α : Type} (f : α → Int) (xs : List α) : sumD [.lst (xs.map fun x => .int (f x))] = .ok (.int ((xs.map f).sum)) := by
  show (opt (intsOf (xs.map fun x => D.int (f x))) >>= fun ns => Res.ok (D.int ns.sum)) = _
  rw [ints_map f xs]
  rfl
theorem selfB_eq (c : Nat) (f : Str) (fs : List (Str × Fd)) (l : Env) : mSelfB 0 c f (.oo c fs :: l) = opt ((fs.lookup f).map fdD) := by
  show (if c = c then opt ((fs.lookup f).map fdD) else .bad) = _
  rw [if_pos rfl]
theorem mEnd_B (ρ : Env) : mEnd ρ = .nx ρ := nr rfl
theorem bindF_err' {α : Type} (x : Exc) (ρ : Env) (f : α → Flow) : bindF (.err x) ρ f = .er x ρ := nr rfl
/-- a loop that goes through, whatever the items -/
theorem forL_all (I : Env → Prop) {g : D → Env → Option Env} {mb : Env → Flow} : ∀ (xs : List D) (ρ : Env), I ρ → (∀ x ∈ xs, ∀ ρ, I ρ → ∃ ρ1 ρ2, g x ρ = some ρ1 ∧ mb ρ1 = .nx ρ2 ∧ I ρ2) → ∃ ρ', forL g mb xs ρ = .nx ρ' ∧ I ρ'
  | [], ρ, h, _ => ⟨ρ, rfl, h⟩
  | x :: xs, ρ, h, st => by
    obtain ⟨ρ1, ρ2, e1, e2, h2⟩ := st x (List.mem_cons_self ..) ρ h
    rw [forL_cons e1 e2]
    exact forL_all I xs ρ2 h2 fun y hy => st y (List.mem_cons_of_mem _ hy)
end Cr
/-! Tl: typed readings of the mirrors. -/
namespace Cr
open PySem L2
/-! ### types -/
class Enc (α : Type) where
  en : α → D
abbrev enc {α : Type} [Enc α] (a : α) : D := Enc.en a
instance : Enc Int := ⟨.int⟩
instance : Enc Bool := ⟨.bl⟩
instance : Enc Str := ⟨.str⟩
instance : Enc Unit := ⟨fun _ => .non⟩
instance : Enc D := ⟨fun d => d⟩
instance {α : Type} [Enc α] : Enc (List α) := ⟨fun xs => .lst (xs.map Enc.en)⟩
instance {α : Type} [Enc α] : Enc (Option α) := ⟨fun o => match o with
  | none => .non
  | some a => Enc.en a⟩
/-- a tuple read as a row of any length -/
structure TL (α : Type) where
  l : List α
deriving DecidableEq
instance {α : Type} [Enc α] : Enc (TL α) := ⟨fun x => .tup (x.l.map Enc.en)⟩
/-- the script -/
structure Scr where
  l : List Int
instance : Enc Scr := ⟨fun x => .scr x.l⟩
structure T1 (A : Type) where
  a : A
deriving DecidableEq
structure T2 (A B : Type) where
  a : A
  b : B
deriving DecidableEq
structure T3 (A B C : Type) where
  a : A
  b : B
  c : C
deriving DecidableEq
structure T4 (A B C E : Type) where
  a : A
  b : B
  c : C
  d : E
deriving DecidableEq
structure T5 (A B C E F : Type) where
  a : A
  b : B
  c : C
  d : E
  e : F
deriving DecidableEq
instance {A : Type} [Enc A] : Enc (T1 A) := ⟨fun x => .tup [Enc.en x.a]⟩
instance {A B : Type} [Enc A] [Enc B] : Enc (T2 A B) := ⟨fun x => .tup [Enc.en x.a, Enc.en x.b]⟩
instance {A B C : Type} [Enc A] [Enc B] [Enc C] : Enc (T3 A B C) := ⟨fun x => .tup [Enc.en x.a, Enc.en x.b, Enc.en x.c]⟩
instance {A B C E : Type} [Enc A] [Enc B] [Enc C] [Enc E] : Enc (T4 A B C E) := ⟨fun x => .tup [Enc.en x.a, Enc.en x.b, Enc.en x.c, Enc.en x.d]⟩
instance {A B C E F : Type} [Enc A] [Enc B] [Enc C] [Enc E] [Enc F] : Enc (T5 A B C E F) := ⟨fun x => .tup [Enc.en x.a, Enc.en x.b, Enc.en x.c, Enc.en x.d, Enc.en x.e]⟩
/-! lists of a fixed length with items of several kinds -/
structure R1 (A : Type) where
  a : A
structure R2 (A B : Type) where
  a : A
  b : B
structure R3 (A B C : Type) where
  a : A
  b : B
  c : C
structure R4 (A B C E : Type) where
  a : A
  b : B
  c : C
  d : E
structure R5 (A B C E F : Type) where
  a : A
  b : B
  c : C
  d : E
  e : F
instance {A : Type} [Enc A] : Enc (R1 A) := ⟨fun x => .lst [Enc.en x.a]⟩
instance {A B : Type} [Enc A] [Enc B] : Enc (R2 A B) := ⟨fun x => .lst [Enc.en x.a, Enc.en x.b]⟩
instance {A B C : Type} [Enc A] [Enc B] [Enc C] : Enc (R3 A B C) := ⟨fun x => .lst [Enc.en x.a, Enc.en x.b, Enc.en x.c]⟩
instance {A B C E : Type} [Enc A] [Enc B] [Enc C] [Enc E] : Enc (R4 A B C E) := ⟨fun x => .lst [Enc.en x.a, Enc.en x.b, Enc.en x.c, Enc.en x.d]⟩
instance {A B C E F : Type} [Enc A] [Enc B] [Enc C] [Enc E] [Enc F] : Enc (R5 A B C E F) := ⟨fun x => .lst [Enc.en x.a, Enc.en x.b, Enc.en x.c, Enc.en x.d, Enc.en x.e]⟩
/-! ### what a typed reading says -/
/-- a flow against a typed end -/
def SimD {γ : Type} (Q : γ → Flow → Prop) (E : Env → Prop) (f : Flow) (T : Res γ) : Prop := match T with
  | .ok g => Q g f
  | .err x => ∃ ρ, f = .er x ρ ∧ E ρ
  | .bad => True
structure Sim {γ : Type} (Q : γ → Flow → Prop) (E : Env → Prop) (f : Flow) (T : Res γ) : Prop where
  run : SimD Q E f T
/-- a value against a typed one -/
def LeD {α δ : Type} (e : α → δ) (r : Res δ) (t : Res α) : Prop := match t with
  | .ok a => r = .ok (e a)
  | .err x => r = .err x
  | .bad => True
structure Le {α δ : Type} (e : α → δ) (r : Res δ) (t : Res α) : Prop where
  g : LeD e r t
abbrev encs {α : Type} [Enc α] (xs : List α) : List D := xs.map Enc.en
abbrev tt : Env → Prop := fun _ => True
inductive Fl (R σ : Type) where
  | ret (r : R)
  | nxt (s : σ)
/-- a def's end -/
def QF {α : Type} [Enc α] (a : α) (f : Flow) : Prop := (∃ ρ, f = .rt (enc a) ρ) ∨ (enc a = .non ∧ ∃ ρ, f = .nx ρ)
def QN {σ : Type} (I : σ → Env → Prop) (s : σ) (f : Flow) : Prop := ∃ ρ, f = .nx ρ ∧ I s ρ
def QL {R σ : Type} [Enc R] (I : σ → Env → Prop) (r : Fl R σ) (f : Flow) : Prop := match r with
  | .ret r => ∃ ρ, f = .rt (enc r) ρ
  | .nxt s => ∃ ρ, f = .nx ρ ∧ I s ρ
def QI {α : Type} (c : Nat) (fs : α → List D) (a : α) (f : Flow) : Prop := ∃ ρ, f = .nx ρ ∧ finI c ρ = .ok (fs a)
section
variable {γ : Type} {Q : γ → Flow → Prop} {E : Env → Prop} {ρ : Env} {T : Res γ} {α β : Type} {f : Flow}
theorem sim_bad {f : Flow} : Sim Q E f .bad := ⟨trivial⟩
/-! ### values -/
theorem c_ok {r : Res D} {K : D → Flow} [Enc α] (v : α) (h : r = .ok (enc v)) (k : Sim Q E (K (enc v)) T) : Sim Q E (bindF r ρ K) T := by
  rw [h]; exact k
theorem c_okb {r : Res Bool} {K : Bool → Flow} (v : Bool) (h : r = .ok v) (k : Sim Q E (K v) T) : Sim Q E (bindF r ρ K) T := by
  rw [h]; exact k
theorem c_okl {r : Res (List D)} {K : List D → Flow} [Enc α] (v : List α) (h : r = .ok (encs v)) (k : Sim Q E (K (encs v)) T) : Sim Q E (bindF r ρ K) T := by
  rw [h]; exact k
theorem c_okg {δ : Type} {r : Res δ} {K : δ → Flow} (v : δ) (h : r = .ok v) (k : Sim Q E (K v) T) : Sim Q E (bindF r ρ K) T := by
  rw [h]; exact k
theorem c_leaf {δ : Type} {e : α → δ} {r : Res δ} {t : Res α} {K : δ → Flow} {S : α → Res γ} (h : Le e r t) (hE : E ρ) (k : ∀ a, Sim Q E (K (e a)) (S a)) : Sim Q E (bindF r ρ K) (t >>= S) := by
  cases t with
  | ok a =>
    have h : r = .ok (e a) := h.g
    rw [h]; exact k a
  | err x =>
    have h : r = .err x := h.g
    rw [h]; exact ⟨⟨ρ, rfl, hE⟩⟩
  | bad => exact ⟨trivial⟩
theorem bindF_as {α β : Type} (r : Res α) (g : α → Res β) (K : β → Flow) : bindF (r >>= g) ρ K = bindF r ρ fun x => bindF (g x) ρ K := by cases r <;> rfl
theorem c_bin {g : D → D → Res D} {ma mb : Env → Res D} {K : D → Flow} (h : Sim Q E (bindF (ma ρ) ρ fun x => bindF (mb ρ) ρ fun y => bindF (g x y) ρ K) T) : Sim Q E (bindF (mBin g ma mb ρ) ρ K) T := by
  have e : bindF (mBin g ma mb ρ) ρ K = bindF (ma ρ) ρ fun x => bindF (mb ρ) ρ fun y => bindF (g x y) ρ K := by
    unfold mBin
    rw [bindF_as]
    congr 1; funext x
    rw [bindF_as]
  rw [e]; exact h
end
section
variable {γ : Type} {Q : γ → Flow → Prop} {E : Env → Prop} {ρ : Env} {T : Res γ} {α β : Type} {f : Flow}
theorem c_binF {g : D → D → Res (List D)} {ma mb : Env → Res D} {K : List D → Flow} (h : Sim Q E (bindF (ma ρ) ρ fun x => bindF (mb ρ) ρ fun y => bindF (g x y) ρ K) T) : Sim Q E (bindF (mBinF g ma mb ρ) ρ K) T := by
  have e : bindF (mBinF g ma mb ρ) ρ K = bindF (ma ρ) ρ fun x => bindF (mb ρ) ρ fun y => bindF (g x y) ρ K := by
    unfold mBinF
    rw [bindF_as]
    congr 1; funext x
    rw [bindF_as]
  rw [e]; exact h
theorem c_un {g : D → Res D} {ma : Env → Res D} {K : D → Flow} (h : Sim Q E (bindF (ma ρ) ρ fun x => bindF (g x) ρ K) T) : Sim Q E (bindF (mUn g ma ρ) ρ K) T := by
  have e : bindF (mUn g ma ρ) ρ K = bindF (ma ρ) ρ fun x => bindF (g x) ρ K := by
    unfold mUn; rw [bindF_as]
  rw [e]; exact h
theorem c_unF {g : D → Res (List D)} {ma : Env → Res D} {K : List D → Flow} (h : Sim Q E (bindF (ma ρ) ρ fun x => bindF (g x) ρ K) T) : Sim Q E (bindF (mUnF g ma ρ) ρ K) T := by
  have e : bindF (mUnF g ma ρ) ρ K = bindF (ma ρ) ρ fun x => bindF (g x) ρ K := by
    unfold mUnF; rw [bindF_as]
  rw [e]; exact h
theorem c_toE {m : Env → Res (List D)} {K : D → Flow} (h : Sim Q E (bindF (m ρ) ρ fun x => K (.lst x)) T) : Sim Q E (bindF (toE m ρ) ρ K) T := by
  have e : bindF (toE m ρ) ρ K = bindF (m ρ) ρ fun x => K (.lst x) := by
    unfold toE; rw [bindF_as]; rfl
  rw [e]; exact h
theorem c_arg {δ : Type} {g : List D → Res δ} {ms : Env → Res (List D)} {K : δ → Flow} (h : Sim Q E (bindF (ms ρ) ρ fun xs => bindF (g xs) ρ K) T) : Sim Q E (bindF (mArg g ms ρ) ρ K) T := by
  have e : bindF (mArg g ms ρ) ρ K = bindF (ms ρ) ρ fun xs => bindF (g xs) ρ K := by
    unfold mArg; rw [bindF_as]
  rw [e]; exact h
theorem c_nil {K : List D → Flow} (h : Sim Q E (K []) T) : Sim Q E (bindF (mNil ρ) ρ K) T := h
theorem c_cons {ma : Env → Res D} {mr : Env → Res (List D)} {K : List D → Flow} (h : Sim Q E (bindF (ma ρ) ρ fun x => bindF (mr ρ) ρ fun xs => K (x :: xs)) T) : Sim Q E (bindF (mCons ma mr ρ) ρ K) T := by
  have e : bindF (mCons ma mr ρ) ρ K = bindF (ma ρ) ρ fun x => bindF (mr ρ) ρ fun xs => K (x :: xs) := by
    unfold mCons
    rw [bindF_as]
    congr 1; funext x
    rw [bindF_as]; rfl
  rw [e]; exact h
theorem c_tup {ms : Env → Res (List D)} {K : D → Flow} (h : Sim Q E (bindF (ms ρ) ρ fun xs => bindF (if xs.length ≤ sizeLine then Res.ok (D.tup xs) else .bad) ρ K) T) : Sim Q E (bindF (mTup ms ρ) ρ K) T := by
  have e : bindF (mTup ms ρ) ρ K = bindF (ms ρ) ρ fun xs => bindF (if xs.length ≤ sizeLine then Res.ok (D.tup xs) else .bad) ρ K := by
    unfold mTup; rw [bindF_as]
  rw [e]; exact h
theorem c_lst {ms : Env → Res (List D)} {K : List D → Flow} (h : Sim Q E (bindF (ms ρ) ρ fun xs => bindF (if xs.length ≤ sizeLine then Res.ok xs else .bad) ρ K) T) : Sim Q E (bindF (mLst ms ρ) ρ K) T := by
  have e : bindF (mLst ms ρ) ρ K = bindF (ms ρ) ρ fun xs => bindF (if xs.length ≤ sizeLine then Res.ok xs else .bad) ρ K := by
    unfold mLst; rw [bindF_as]
  rw [e]; exact h
theorem c_mth {c : Nat} {δ : Type} {mf : List D → Res δ} {mo : Env → Res D} {ms : Env → Res (List D)} {K : δ → Flow} (fs : List D) (v : D) (hv : v = .obj c fs)
    (ho : ∀ K' : D → Flow, Sim Q E (K' v) T → Sim Q E (bindF (mo ρ) ρ K') T) (h : Sim Q E (bindF (ms ρ) ρ fun xs => bindF (mf (v :: xs)) ρ K) T) : Sim Q E (bindF (mMth c mf mo ms ρ) ρ K) T := by
  subst hv
  have e : bindF (mMth c mf mo ms ρ) ρ K = bindF (mo ρ) ρ fun d => bindF (match d with
    | .obj c' xs => if c' = c then ms ρ >>= fun ds => mf (.obj c' xs :: ds) else .bad
    | _ => .bad) ρ K := by
    unfold mMth
    exact bindF_as _ _ _
  rw [e]
  refine ho _ ?_
  show Sim Q E (bindF (if c = c then ms ρ >>= fun ds => mf (.obj c fs :: ds) else .bad) ρ K) T
  rw [if_pos rfl, bindF_as]
  exact h
theorem c_mk {c : Nat} {mf : List D → Res (List D)} {ms : Env → Res (List D)} {K : D → Flow} (h : Sim Q E (bindF (ms ρ) ρ fun xs => bindF (mf xs) ρ fun fs => K (.obj c fs)) T) : Sim Q E (bindF (mMk c mf ms ρ) ρ K) T := by
  have e : bindF (mMk c mf ms ρ) ρ K = bindF (ms ρ) ρ fun xs => bindF (mf xs) ρ fun fs => K (.obj c fs) := by
    unfold mMk
    rw [bindF_as]
    congr 1; funext x
    rw [bindF_as]; rfl
  rw [e]; exact h
theorem c_sl {δ : Type} {g : D → Option Int → Option Int → Res δ} {ma : Env → Res D} {ml mh : Env → Res (Option Int)} {K : δ → Flow}
    (h : Sim Q E (bindF (ma ρ) ρ fun x => bindF (ml ρ) ρ fun l => bindF (mh ρ) ρ fun u => bindF (g x l u) ρ K) T) : Sim Q E (bindF (mSl g ma ml mh ρ) ρ K) T := by
  have e : bindF (mSl g ma ml mh ρ) ρ K = bindF (ma ρ) ρ fun x => bindF (ml ρ) ρ fun l => bindF (mh ρ) ρ fun u => bindF (g x l u) ρ K := by
    unfold mSl
    rw [bindF_as]
    congr 1; funext x
    rw [bindF_as]
    congr 1; funext y
    rw [bindF_as]
  rw [e]; exact h
theorem c_part {m : Env → Res D} {K : Option Int → Flow} (h : Sim Q E (bindF (m ρ) ρ fun x => bindF (intO x) ρ K) T) : Sim Q E (bindF (mPart m ρ) ρ K) T := by
  have e : bindF (mPart m ρ) ρ K = bindF (m ρ) ρ fun x => bindF (intO x) ρ K := by
    unfold mPart; rw [bindF_as]
  rw [e]; exact h
theorem c_int {i : Int} {K : Option Int → Flow} (h : Sim Q E (K (some i)) T) : Sim Q E (bindF (intO (enc i)) ρ K) T := h
theorem c_no {K : Option Int → Flow} (h : Sim Q E (K none) T) : Sim Q E (bindF (mNo ρ) ρ K) T := h
/-! tests -/
theorem c_tst {m : Env → Res D} {K : Bool → Flow} (h : Sim Q E (bindF (m ρ) ρ fun x => bindF (tru x) ρ K) T) : Sim Q E (bindF (mTst m ρ) ρ K) T := by
  have e : bindF (mTst m ρ) ρ K = bindF (m ρ) ρ fun x => bindF (tru x) ρ K := by
    unfold mTst; rw [bindF_as]
  rw [e]; exact h
theorem c_tru {b : Bool} {K : Bool → Flow} (h : Sim Q E (K b) T) : Sim Q E (bindF (tru (enc b)) ρ K) T := h
theorem c_not {t : Env → Res Bool} {K : Bool → Flow} (h : Sim Q E (bindF (t ρ) ρ fun k => K (!k)) T) : Sim Q E (bindF (mNot t ρ) ρ K) T := by
  have e : bindF (mNot t ρ) ρ K = bindF (t ρ) ρ fun k => K (!k) := by
    unfold mNot; rw [bindF_as]; rfl
  rw [e]; exact h
theorem c_notV {t : Env → Res D} {K : D → Flow} (h : Sim Q E (bindF (t ρ) ρ fun x => bindF (tru x) ρ fun k => K (enc (!k))) T) : Sim Q E (bindF (mNotV t ρ) ρ K) T := by
  have e : bindF (mNotV t ρ) ρ K = bindF (t ρ) ρ fun x => bindF (tru x) ρ fun k => K (enc (!k)) := by
    unfold mNotV; rw [bindF_as, bindF_as]; rfl
  rw [e]; exact h
end
/-! short circuits, typed -/
def andR (a : Bool) (b : Res Bool) : Res Bool := if a = true then b else .ok false
def orR (a : Bool) (b : Res Bool) : Res Bool := if a = true then .ok true else b
def ifR {α : Type} (c : Bool) (a b : Res α) : Res α := if c = true then a else b
theorem andR_ok (a b : Bool) : andR a (.ok b) = .ok (a && b) := by cases a <;> rfl
theorem orR_ok (a b : Bool) : orR a (.ok b) = .ok (a || b) := by cases a <;> rfl
theorem ifR_ok {α : Type} (c : Bool) (a b : α) : ifR c (.ok a) (.ok b) = .ok (if c = true then a else b) := by cases c <;> rfl
theorem andR_t (b : Res Bool) : andR true b = b := rfl
theorem andR_f (b : Res Bool) : andR false b = .ok false := rfl
theorem orR_t (b : Res Bool) : orR true b = .ok true := rfl
theorem orR_f (b : Res Bool) : orR false b = b := rfl
theorem ifR_t {α : Type} (a b : Res α) : ifR true a b = a := rfl
theorem ifR_f {α : Type} (a b : Res α) : ifR false a b = b := rfl
end Cr
/-! Tl, part 2: tests, statements, loops. -/
namespace Cr
open PySem L2
section
variable {γ : Type} {Q : γ → Flow → Prop} {E : Env → Prop} {ρ ρ' : Env} {T : Res γ} {α β σ : Type} {k : Env → Flow}
theorem le_sim [Enc α] {r : Res D} {t : Res α} (h : Sim (fun (a : α) f => f = .rt (enc a) ρ) tt (bindF r ρ fun d => .rt d ρ) t) : Le enc r t := by
  have h := h.run
  refine ⟨?_⟩
  cases r with
  | ok d =>
    cases t with
    | ok a =>
      have h : Flow.rt d ρ = .rt (enc a) ρ := h
      cases h; rfl
    | err x =>
      obtain ⟨ρ', h, _⟩ := h
      cases h
    | bad => trivial
  | err y =>
    cases t with
    | ok a =>
      have h : Flow.er y ρ = .rt (enc a) ρ := h
      cases h
    | err x =>
      obtain ⟨ρ', h, _⟩ := h
      cases h; rfl
    | bad => trivial
  | bad =>
    cases t with
    | ok a =>
      have h : Flow.bad = .rt (enc a) ρ := h
      cases h
    | err x =>
      obtain ⟨ρ', h, _⟩ := h
      cases h
    | bad => trivial
theorem le_simb {r : Res Bool} {t : Res Bool} (h : Sim (fun (a : Bool) f => f = .rt (enc a) ρ) tt (bindF r ρ fun d => .rt (enc d) ρ) t) : Le id r t := by
  have h := h.run
  refine ⟨?_⟩
  cases r with
  | ok d =>
    cases t with
    | ok a =>
      have h : Flow.rt (enc d) ρ = .rt (enc a) ρ := h
      cases h; rfl
    | err x =>
      obtain ⟨ρ', h, _⟩ := h
      cases h
    | bad => trivial
  | err y =>
    cases t with
    | ok a =>
      have h : Flow.er y ρ = .rt (enc a) ρ := h
      cases h
    | err x =>
      obtain ⟨ρ', h, _⟩ := h
      cases h; rfl
    | bad => trivial
  | bad =>
    cases t with
    | ok a =>
      have h : Flow.bad = .rt (enc a) ρ := h
      cases h
    | err x =>
      obtain ⟨ρ', h, _⟩ := h
      cases h
    | bad => trivial
theorem e_val [Enc α] {d : D} (a : α) (h : d = enc a) : Sim (fun (a : α) f => f = .rt (enc a) ρ) E (.rt d ρ) (.ok a) := ⟨by subst h; rfl⟩
theorem le_refl {δ : Type} {e : α → δ} {r : Res δ} {a : α} (h : r = .ok (e a)) : Le e r (.ok a) := ⟨h⟩
theorem le_of_ok {δ : Type} {e : α → δ} {r : Res δ} {t : Res α} {a : α} (h : Le e r t) (ht : t = .ok a) : r = .ok (e a) := by subst ht; exact h.g
theorem le_of_err {δ : Type} {e : α → δ} {r : Res δ} {t : Res α} {x : Exc} (h : Le e r t) (ht : t = .err x) : r = .err x := by subst ht; exact h.g
/-! short circuits -/
def andM (a : Bool) (r : Res Bool) : Res Bool := if a = true then r else .ok false
def orM (a : Bool) (r : Res Bool) : Res Bool := if a = true then .ok true else r
def andMV (a : Bool) (r : Res D) : Res D := if a = true then r else .ok (enc false)
def orMV (a : Bool) (r : Res D) : Res D := if a = true then .ok (enc true) else r
def ifM {δ : Type} (a : Bool) (r r' : Res δ) : Res δ := if a = true then r else r'
theorem le_and {a : Bool} {r t : Res Bool} (h : a = true → Le id r t) : Le id (andM a r) (andR a t) := by
  cases a
  · exact ⟨rfl⟩
  · exact h rfl
theorem le_or {a : Bool} {r t : Res Bool} (h : a = false → Le id r t) : Le id (orM a r) (orR a t) := by
  cases a
  · exact h rfl
  · exact ⟨rfl⟩
theorem le_andV {a : Bool} {r : Res D} {t : Res Bool} (h : a = true → Le enc r t) : Le enc (andMV a r) (andR a t) := by
  cases a
  · exact ⟨rfl⟩
  · exact h rfl
theorem le_orV {a : Bool} {r : Res D} {t : Res Bool} (h : a = false → Le enc r t) : Le enc (orMV a r) (orR a t) := by
  cases a
  · exact h rfl
  · exact ⟨rfl⟩
theorem le_if {δ : Type} {e : α → δ} {a : Bool} {r r' : Res δ} {t t' : Res α} (h : a = true → Le e r t) (h' : a = false → Le e r' t') : Le e (ifM a r r') (ifR a t t') := by
  cases a
  · exact h' rfl
  · exact h rfl
theorem c_and {ta tb : Env → Res Bool} {K : Bool → Flow} (h : Sim Q E (bindF (ta ρ) ρ fun a => bindF (andM a (tb ρ)) ρ K) T) : Sim Q E (bindF (mAnd ta tb ρ) ρ K) T := by
  have e : bindF (mAnd ta tb ρ) ρ K = bindF (ta ρ) ρ fun a => bindF (andM a (tb ρ)) ρ K := by
    unfold mAnd
    rw [bindF_as]
    congr 1; funext x
    cases x <;> rfl
  rw [e]; exact h
theorem c_or {ta tb : Env → Res Bool} {K : Bool → Flow} (h : Sim Q E (bindF (ta ρ) ρ fun a => bindF (orM a (tb ρ)) ρ K) T) : Sim Q E (bindF (mOr ta tb ρ) ρ K) T := by
  have e : bindF (mOr ta tb ρ) ρ K = bindF (ta ρ) ρ fun a => bindF (orM a (tb ρ)) ρ K := by
    unfold mOr
    rw [bindF_as]
    congr 1; funext x
    cases x <;> rfl
  rw [e]; exact h
theorem c_andV {ma mb : Env → Res D} {K : D → Flow} (h : Sim Q E (bindF (ma ρ) ρ fun x => bindF (tru x) ρ fun a => bindF (andMV a (mb ρ)) ρ K) T) : Sim Q E (bindF (mAndV ma mb ρ) ρ K) T := by
  have e : bindF (mAndV ma mb ρ) ρ K = bindF (ma ρ) ρ fun x => bindF (tru x) ρ fun a => bindF (andMV a (mb ρ)) ρ K := by
    unfold mAndV
    rw [bindF_as, bindF_as]
    congr 1; funext x
    congr 1; funext x
    cases x <;> rfl
  rw [e]; exact h
theorem c_orV {ma mb : Env → Res D} {K : D → Flow} (h : Sim Q E (bindF (ma ρ) ρ fun x => bindF (tru x) ρ fun a => bindF (orMV a (mb ρ)) ρ K) T) : Sim Q E (bindF (mOrV ma mb ρ) ρ K) T := by
  have e : bindF (mOrV ma mb ρ) ρ K = bindF (ma ρ) ρ fun x => bindF (tru x) ρ fun a => bindF (orMV a (mb ρ)) ρ K := by
    unfold mOrV
    rw [bindF_as, bindF_as]
    congr 1; funext x
    congr 1; funext x
    cases x <;> rfl
  rw [e]; exact h
theorem c_if {δ : Type} {t : Env → Res Bool} {ma mb : Env → Res δ} {K : δ → Flow} (h : Sim Q E (bindF (t ρ) ρ fun a => bindF (ifM a (ma ρ) (mb ρ)) ρ K) T) : Sim Q E (bindF (mIf t ma mb ρ) ρ K) T := by
  have e : bindF (mIf t ma mb ρ) ρ K = bindF (t ρ) ρ fun a => bindF (ifM a (ma ρ) (mb ρ)) ρ K := by
    unfold mIf
    rw [bindF_as]
    congr 1; funext x
    cases x <;> rfl
  rw [e]; exact h
theorem c_chain {g g' : D → D → Res D} {ma mb mc : Env → Res D} {K : D → Flow} (h : Sim Q E (bindF (ma ρ) ρ fun x => bindF (mb ρ) ρ fun y => bindF (g x y) ρ fun d => bindF (tru d) ρ fun a => bindF (andMV a (mc ρ >>= fun z => g' y z)) ρ K) T) : Sim Q E (bindF (mChain g g' ma mb mc ρ) ρ K) T := by
  have e : bindF (mChain g g' ma mb mc ρ) ρ K = bindF (ma ρ) ρ fun x => bindF (mb ρ) ρ fun y => bindF (g x y) ρ fun d => bindF (tru d) ρ fun a => bindF (andMV a (mc ρ >>= fun z => g' y z)) ρ K := by
    unfold mChain
    rw [bindF_as]
    congr 1; funext x
    rw [bindF_as]
    congr 1; funext y
    rw [bindF_as, bindF_as]
    congr 1; funext d
    congr 1; funext a
    cases a <;> rfl
  rw [e]; exact h
theorem c_bnd {δ ε : Type} {r : Res δ} {g : δ → Res ε} {K : ε → Flow} (h : Sim Q E (bindF r ρ fun x => bindF (g x) ρ K) T) : Sim Q E (bindF (r >>= g) ρ K) T := by
  rw [bindF_as]; exact h
/-! pure -/
theorem p_bin {g : D → D → Res D} {ma mb : Env → Res D} {x y z : D} (ha : ma ρ = .ok x) (hb : mb ρ = .ok y) (h : g x y = .ok z) : mBin g ma mb ρ = .ok z := by
  unfold mBin; rw [ha, bind_ok, hb, bind_ok]; exact h
theorem p_un {g : D → Res D} {ma : Env → Res D} {x z : D} (ha : ma ρ = .ok x) (h : g x = .ok z) : mUn g ma ρ = .ok z := by
  unfold mUn; rw [ha]; exact h
theorem p_unF {g : D → Res (List D)} {ma : Env → Res D} {x : D} {z : List D} (ha : ma ρ = .ok x) (h : g x = .ok z) : mUnF g ma ρ = .ok z := by
  unfold mUnF; rw [ha]; exact h
theorem p_arg {δ : Type} {g : List D → Res δ} {ms : Env → Res (List D)} {xs : List D} {z : δ} (ha : ms ρ = .ok xs) (h : g xs = .ok z) : mArg g ms ρ = .ok z := by
  unfold mArg; rw [ha]; exact h
theorem p_nil : mNil ρ = .ok [] := rfl
theorem p_cons {ma : Env → Res D} {mr : Env → Res (List D)} {x : D} {xs : List D} (ha : ma ρ = .ok x) (hr : mr ρ = .ok xs) : mCons ma mr ρ = .ok (x :: xs) := by
  unfold mCons; rw [ha, bind_ok, hr]; rfl
theorem p_toE {m : Env → Res (List D)} {xs : List D} (h : m ρ = .ok xs) : toE m ρ = .ok (.lst xs) := by
  unfold toE; rw [h]; rfl
theorem p_tup {ms : Env → Res (List D)} {xs : List D} (h : ms ρ = .ok xs) (hl : Nat.ble xs.length 16777216 = true) : mTup ms ρ = .ok (.tup xs) := by
  unfold mTup; rw [h]
  show (if xs.length ≤ sizeLine then Res.ok (D.tup xs) else .bad) = _
  exact if_pos (Nat.le_of_ble_eq_true hl)
theorem p_lst {ms : Env → Res (List D)} {xs : List D} (h : ms ρ = .ok xs) (hl : Nat.ble xs.length 16777216 = true) : mLst ms ρ = .ok xs := by
  unfold mLst; rw [h]
  show (if xs.length ≤ sizeLine then Res.ok xs else .bad) = _
  exact if_pos (Nat.le_of_ble_eq_true hl)
theorem p_size {δ : Type} {xs : List D} {z : δ} (hl : Nat.ble xs.length 16777216 = true) : (if xs.length ≤ sizeLine then Res.ok z else .bad) = Res.ok z := if_pos (Nat.le_of_ble_eq_true hl)
theorem p_tst {m : Env → Res D} {b : Bool} (h : m ρ = .ok (enc b)) : mTst m ρ = .ok b := by unfold mTst; rw [h]; rfl
theorem p_not {t : Env → Res Bool} {b : Bool} (h : t ρ = .ok b) : mNot t ρ = .ok (!b) := by unfold mNot; rw [h]; rfl
theorem p_and {ta tb : Env → Res Bool} {a b : Bool} (h : ta ρ = .ok a) (h' : tb ρ = .ok b) : mAnd ta tb ρ = .ok (a && b) := by
  unfold mAnd; rw [h, bind_ok]
  cases a
  · rfl
  · exact h'
theorem p_or {ta tb : Env → Res Bool} {a b : Bool} (h : ta ρ = .ok a) (h' : tb ρ = .ok b) : mOr ta tb ρ = .ok (a || b) := by
  unfold mOr; rw [h, bind_ok]
  cases a
  · exact h'
  · rfl
theorem p_notV {m : Env → Res D} {b : Bool} (h : m ρ = .ok (enc b)) : mNotV m ρ = .ok (enc (!b)) := by unfold mNotV; rw [h]; rfl
theorem p_andV {ta tb : Env → Res D} {a b : Bool} (h : ta ρ = .ok (enc a)) (h' : tb ρ = .ok (enc b)) : mAndV ta tb ρ = .ok (enc (a && b)) := by
  unfold mAndV; rw [h]
  cases a
  · rfl
  · exact h'
theorem p_orV {ta tb : Env → Res D} {a b : Bool} (h : ta ρ = .ok (enc a)) (h' : tb ρ = .ok (enc b)) : mOrV ta tb ρ = .ok (enc (a || b)) := by
  unfold mOrV; rw [h]
  cases a
  · exact h'
  · rfl
theorem p_if {t : Env → Res Bool} {ma mb : Env → Res D} [Enc α] {c : Bool} {a b : α} (h : t ρ = .ok c) (ha : ma ρ = .ok (enc a)) (hb : mb ρ = .ok (enc b)) : mIf t ma mb ρ = .ok (enc (if c = true then a else b)) := by
  unfold mIf; rw [h]
  cases c
  · exact hb
  · exact ha
theorem p_chain {g g' : D → D → Res D} {ma mb mc : Env → Res D} {x y z : D} {a b : Bool} (h : ma ρ = .ok x) (h' : mb ρ = .ok y) (h2 : mc ρ = .ok z) (hg : g x y = .ok (enc a)) (hg' : g' y z = .ok (enc b)) : mChain g g' ma mb mc ρ = .ok (enc (a && b)) := by
  unfold mChain; rw [h, bind_ok, h', bind_ok, hg]
  cases a
  · rfl
  · show (mc ρ >>= fun z => g' y z) = _
    rw [h2]; exact hg'
theorem p_sl {δ : Type} {g : D → Option Int → Option Int → Res δ} {ma : Env → Res D} {ml mh : Env → Res (Option Int)} {x : D} {l u : Option Int} {z : δ} (h : ma ρ = .ok x) (h1 : ml ρ = .ok l) (h2 : mh ρ = .ok u) (hg : g x l u = .ok z) : mSl g ma ml mh ρ = .ok z := by
  unfold mSl; rw [h, bind_ok, h1, bind_ok, h2]; exact hg
theorem p_part {m : Env → Res D} {i : Int} (h : m ρ = .ok (enc i)) : mPart m ρ = .ok (some i) := by unfold mPart; rw [h]; rfl
theorem p_cmp {g : D → D → Res D} {x y z : D} (h : g x y = .ok z) : g x y = .ok z := h
theorem p_bnd {δ ε : Type} {r : Res δ} {g : δ → Res ε} {x : δ} {z : ε} (h : r = .ok x) (h' : g x = .ok z) : (r >>= g) = .ok z := by rw [h]; exact h'
/-! statements -/
theorem seqF_end (f : Flow) : seqF f Flow.nx = f := by cases f <;> rfl
theorem q_top {f : Flow} (h : Sim Q E (seqF f Flow.nx) T) : Sim Q E f T := by rw [seqF_end] at h; exact h
theorem seqF_as (f : Flow) (a b : Env → Flow) : seqF (seqF f a) b = seqF f fun ρ => seqF (a ρ) b := by cases f <;> rfl
theorem q_seq {m m' : Env → Flow} (h : Sim Q E (seqF (m ρ) fun ρ' => seqF (m' ρ') k) T) : Sim Q E (seqF (mSeq m m' ρ) k) T := by
  rw [mSeq_B, seqF_as]; exact h
theorem q_end (h : Sim Q E (k ρ) T) : Sim Q E (seqF (mEnd ρ) k) T := h
theorem seqF_bind {δ : Type} (r : Res δ) (f : δ → Flow) : seqF (bindF r ρ f) k = bindF r ρ fun d => seqF (f d) k := by cases r <;> rfl
theorem q_set {i : Nat} {m : Env → Res D} (h : Sim Q E (bindF (m ρ) ρ fun d => seqF (put i (.v (.d d)) ρ) k) T) : Sim Q E (seqF (mSet i m ρ) k) T := by
  unfold mSet; rw [seqF_bind]; exact h
theorem q_setO {i : Nat} {m : Env → Res (List D)} (h : Sim Q E (bindF (m ρ) ρ fun d => seqF (put i (.v (.ol d)) ρ) k) T) : Sim Q E (seqF (mSetO i m ρ) k) T := by
  unfold mSetO; rw [seqF_bind]; exact h
theorem q_put {i : Nat} {s : Sl} (ρ' : Env) (ho : okS ρ i = true) (e : ρ.set i s = ρ') (h : Sim Q E (k ρ') T) : Sim Q E (seqF (put i s ρ) k) T := by
  unfold put; rw [if_pos ho, e]; exact h
theorem q_letE {v : α} {F : α → Res γ} {K : Flow} (h : Sim Q E K (F v)) : Sim Q E K ((fun f : α → Res γ => f v) F) := h
theorem q_ex {δ : Type} {m : Env → Res δ} (h : Sim Q E (bindF (m ρ) ρ fun _ => k ρ) T) : Sim Q E (seqF (mEx m ρ) k) T := by
  unfold mEx; rw [seqF_bind]; exact h
theorem q_ret {m : Env → Res D} (h : Sim Q E (bindF (m ρ) ρ fun d => .rt d ρ) T) : Sim Q E (seqF (mRet m ρ) k) T := by
  unfold mRet; rw [seqF_bind]; exact h
theorem q_raise {x : Exc} (h : E ρ) : Sim Q E (seqF (mRaise x ρ) k) (.err x) := ⟨⟨ρ, rfl, h⟩⟩
theorem q_frz {i : Nat} {m : Env → Flow} (ρ' : Env) (e : frzE i ρ = ρ') (h : Sim Q E (seqF (m ρ') k) T) : Sim Q E (seqF (mFrz i m ρ) k) T := by
  unfold mFrz; rw [e]; exact h
theorem q_asg {g : D → Env → Option Env} {m : Env → Res D} (h : Sim Q E (bindF (m ρ) ρ fun d => optF (g d ρ) k) T) : Sim Q E (seqF (mAsg g m ρ) k) T := by
  have e : seqF (mAsg g m ρ) k = bindF (m ρ) ρ fun d => optF (g d ρ) k := by
    unfold mAsg; rw [seqF_bind]
    congr 1; funext d
    cases g d ρ <;> rfl
  rw [e]; exact h
theorem q_opt {o : Option Env} (ρ' : Env) (e : o = some ρ') (h : Sim Q E (k ρ') T) : Sim Q E (optF o k) T := by rw [e]; exact h
theorem q_par {i j : Nat} {ms : Env → Res (List D)} (h : Sim Q E (bindF (ms ρ) ρ fun ds => seqF (match ds with
  | [d, d2] => if okS ρ i = true ∧ okS (ρ.set i (.v (.d d))) j = true then .nx ((ρ.set i (.v (.d d))).set j (.v (.d d2))) else .bad
  | _ => .bad) k) T) : Sim Q E (seqF (mPar i j ms ρ) k) T := by
  unfold mPar; rw [seqF_bind]; exact h
theorem q_par2 {i j : Nat} {d d2 : D} (ρ' : Env) (h1 : okS ρ i = true) (h2 : okS (ρ.set i (.v (.d d))) j = true) (e : (ρ.set i (.v (.d d))).set j (.v (.d d2)) = ρ') (h : Sim Q E (k ρ') T) : Sim Q E (seqF (match [d, d2] with
  | [d, d2] => if okS ρ i = true ∧ okS (ρ.set i (.v (.d d))) j = true then .nx ((ρ.set i (.v (.d d))).set j (.v (.d d2))) else .bad
  | _ => .bad) k) T := by
  have z : (if okS ρ i = true ∧ okS (ρ.set i (.v (.d d))) j = true then Flow.nx ((ρ.set i (.v (.d d))).set j (.v (.d d2))) else .bad) = .nx ρ' := by rw [if_pos ⟨h1, h2⟩, e]
  show Sim Q E (seqF (if okS ρ i = true ∧ okS (ρ.set i (.v (.d d))) j = true then .nx ((ρ.set i (.v (.d d))).set j (.v (.d d2))) else .bad) k) T
  rw [z]; exact h
theorem q_lm {i : Nat} {g : List D → List D → Res (List D)} {ms : Env → Res (List D)} (xs : List D) (R : List D → Env) (e : ρ[i]? = some (.v (.ol xs))) (hR : ∀ ys, ρ.set i (.v (.ol ys)) = R ys) (h : Sim Q E (bindF (ms ρ) ρ fun ds => bindF (g xs ds) ρ fun ys => k (R ys)) T) : Sim Q E (seqF (mLm i g ms ρ) k) T := by
  rw [← funext hR] at h
  unfold mLm; rw [e]
  show Sim Q E (seqF (bindF (ms ρ) ρ fun ds => bindF (g xs ds) ρ fun ys => .nx (ρ.set i (.v (.ol ys)))) k) T
  rw [seqF_bind]
  have z : (fun ds => seqF (bindF (g xs ds) ρ fun ys => .nx (ρ.set i (.v (.ol ys)))) k) = fun ds => bindF (g xs ds) ρ fun ys => k (ρ.set i (.v (.ol ys))) := by
    funext ds; rw [seqF_bind]; rfl
  rw [z]; exact h
theorem q_setix {i : Nat} {mj me : Env → Res D} (xs : List D) (R : List D → Env) (e : ρ[i]? = some (.v (.ol xs))) (hR : ∀ ys, ρ.set i (.v (.ol ys)) = R ys) (h : Sim Q E (bindF (me ρ) ρ fun d => bindF (mj ρ) ρ fun j => bindF (setG xs j d) ρ fun ys => k (R ys)) T) : Sim Q E (seqF (mSetIx i mj me ρ) k) T := by
  rw [← funext hR] at h
  unfold mSetIx; rw [seqF_bind]
  refine Eq.mpr (congrArg (fun f => Sim Q E (bindF (me ρ) ρ f) T) (funext fun d => ?_)) h
  rw [e]
  show seqF (bindF (mj ρ) ρ fun j => bindF (setG xs j d) ρ fun ys => .nx (ρ.set i (.v (.ol ys)))) k = _
  rw [seqF_bind]
  congr 1; funext j
  rw [seqF_bind]; rfl
theorem q_slm {i c : Nat} {f : Str} {g : List D → List D → Res (List D)} {ms : Env → Res (List D)} (fs : List (Str × Fd)) (xs : List D) (R : List D → Env) (e : ρ[i]? = some (.oo c fs)) (e2 : fs.lookup f = some (.ol xs)) (hR : ∀ ys, ρ.set i (.oo c (putFd f (.ol ys) fs)) = R ys) (h : Sim Q E (bindF (ms ρ) ρ fun ds => bindF (g xs ds) ρ fun ys => k (R ys)) T) : Sim Q E (seqF (mSelfLm i c f g ms ρ) k) T := by
  rw [← funext hR] at h
  unfold mSelfLm; rw [e]
  show Sim Q E (seqF (if c = c then (match fs.lookup f with
    | some (.ol xs) => bindF (ms ρ) ρ fun ds => bindF (g xs ds) ρ fun ys => .nx (ρ.set i (.oo c (putFd f (.ol ys) fs)))
    | _ => .bad) else .bad) k) T
  rw [if_pos rfl, e2]
  show Sim Q E (seqF (bindF (ms ρ) ρ fun ds => bindF (g xs ds) ρ fun ys => .nx (ρ.set i (.oo c (putFd f (.ol ys) fs)))) k) T
  rw [seqF_bind]
  have z : (fun ds => seqF (bindF (g xs ds) ρ fun ys => .nx (ρ.set i (.oo c (putFd f (.ol ys) fs)))) k) = fun ds => bindF (g xs ds) ρ fun ys => k (ρ.set i (.oo c (putFd f (.ol ys) fs))) := by
    funext ds; rw [seqF_bind]; rfl
  rw [z]; exact h
theorem q_sset {i c : Nat} {f : Str} {m : Env → Res D} (fs : List (Str × Fd)) (R : D → Env) (e : ρ[i]? = some (.oo c fs)) (hl : Nat.blt fs.length 1000 = true) (hR : ∀ d, ρ.set i (.oo c (putFd f (.d d) fs)) = R d) (h : Sim Q E (bindF (m ρ) ρ fun d => k (R d)) T) : Sim Q E (seqF (mSelfSet i c f m ρ) k) T := by
  rw [← funext hR] at h
  unfold mSelfSet; rw [seqF_bind]
  refine Eq.mpr (congrArg (fun f => Sim Q E (bindF (m ρ) ρ f) T) (funext fun d => ?_)) h
  rw [e]
  show seqF (if c = c ∧ fs.length < 1000 then .nx (ρ.set i (.oo c (putFd f (.d d) fs))) else .bad) k = _
  rw [if_pos ⟨rfl, Nat.le_of_ble_eq_true hl⟩]; rfl
theorem q_ssetO {i c : Nat} {f : Str} {m : Env → Res (List D)} (fs : List (Str × Fd)) (R : List D → Env) (e : ρ[i]? = some (.oo c fs)) (hl : Nat.blt fs.length 1000 = true) (hR : ∀ d, ρ.set i (.oo c (putFd f (.ol d) fs)) = R d) (h : Sim Q E (bindF (m ρ) ρ fun d => k (R d)) T) : Sim Q E (seqF (mSelfSetO i c f m ρ) k) T := by
  rw [← funext hR] at h
  unfold mSelfSetO; rw [seqF_bind]
  refine Eq.mpr (congrArg (fun f => Sim Q E (bindF (m ρ) ρ f) T) (funext fun d => ?_)) h
  rw [e]
  show seqF (if c = c ∧ fs.length < 1000 then .nx (ρ.set i (.oo c (putFd f (.ol d) fs))) else .bad) k = _
  rw [if_pos ⟨rfl, Nat.le_of_ble_eq_true hl⟩]; rfl
/-! ifs -/
theorem q_if {t : Env → Res Bool} {m m' : Env → Flow} (h : Sim Q E (bindF (t ρ) ρ fun b => seqF (if b = true then m ρ else m' ρ) k) T) : Sim Q E (seqF (mIfS t m m' ρ) k) T := by
  rw [mIfS_B, seqF_bind]; exact h
theorem q_ite {c : Bool} {f f' : Flow} {T' : Res γ} (h : c = true → Sim Q E (seqF f k) T) (h' : c = false → Sim Q E (seqF f' k) T') : Sim Q E (seqF (if c = true then f else f') k) (if c = true then T else T') := by
  cases c
  · exact h' rfl
  · exact h rfl
theorem q_join {I : σ → Env → Prop} {f : Flow} {t : Res σ} {S : σ → Res γ} (h : Sim (QN I) E (seqF f Flow.nx) t) (hk : ∀ s ρ, I s ρ → Sim Q E (k ρ) (S s)) : Sim Q E (seqF f k) (t >>= S) := by
  rw [seqF_end] at h
  have h := h.run
  cases t with
  | ok s =>
    obtain ⟨ρ', rfl, hI⟩ := h
    exact hk s ρ' hI
  | err x =>
    obtain ⟨ρ', rfl, hE⟩ := h
    exact ⟨⟨ρ', rfl, hE⟩⟩
  | bad => exact ⟨trivial⟩
def onF {R σ γ : Type} (t : Res (Fl R σ)) (a : R → Res γ) (b : σ → Res γ) : Res γ := t >>= fun r => match r with
  | .ret r => a r
  | .nxt s => b s
theorem q_joinR {R : Type} [Enc R] {I : σ → Env → Prop} {f : Flow} {t : Res (Fl R σ)} {A : R → Res γ} {S : σ → Res γ} (h : Sim (QL I) E (seqF f Flow.nx) t) (hr : ∀ r ρ, Sim Q E (.rt (enc r) ρ) (A r)) (hk : ∀ s ρ, I s ρ → Sim Q E (k ρ) (S s)) : Sim Q E (seqF f k) (onF t A S) := by
  rw [seqF_end] at h
  have h := h.run
  cases t with
  | ok s =>
    cases s with
    | ret r =>
      obtain ⟨ρ', rfl⟩ := h
      exact hr r ρ'
    | nxt s =>
      obtain ⟨ρ', rfl, hI⟩ := h
      exact hk s ρ' hI
  | err x =>
    obtain ⟨ρ', rfl, hE⟩ := h
    exact ⟨⟨ρ', rfl, hE⟩⟩
  | bad => exact ⟨trivial⟩
theorem s_nx {I : σ → Env → Prop} {s : σ} (h : I s ρ) : Sim (QN I) E (Flow.nx ρ) (.ok s) := ⟨⟨ρ, rfl, h⟩⟩
theorem s_nxR {R : Type} [Enc R] {I : σ → Env → Prop} {s : σ} (h : I s ρ) : Sim (QL (R := R) I) E (Flow.nx ρ) (.ok (.nxt s)) := ⟨⟨ρ, rfl, h⟩⟩
theorem s_rtR {R : Type} [Enc R] {I : σ → Env → Prop} {d : D} (r : R) (h : d = enc r) : Sim (QL (R := R) I) E (Flow.rt d ρ) (.ok (.ret r)) := ⟨⟨ρ, by rw [h]⟩⟩
theorem s_rt [Enc α] {d : D} (a : α) (h : d = enc a) : Sim QF E (Flow.rt d ρ) (.ok a) := ⟨.inl ⟨ρ, by rw [h]⟩⟩
theorem s_rt0 [Enc α] (a : α) (ρ : Env) : Sim QF E (Flow.rt (enc a) ρ) (.ok a) := ⟨.inl ⟨ρ, rfl⟩⟩
theorem s_rtR0 {R : Type} [Enc R] {I : σ → Env → Prop} (r : R) (ρ : Env) : Sim (QL (R := R) I) E (Flow.rt (enc r) ρ) (.ok (.ret r)) := ⟨⟨ρ, rfl⟩⟩
theorem s_nF [Enc α] (a : α) (h : enc a = .non) : Sim QF E (Flow.nx ρ) (.ok a) := ⟨.inr ⟨h, ρ, rfl⟩⟩
/-! loops -/
def foldT (f : α → σ → Res σ) : List α → σ → Res σ
  | [], s => .ok s
  | x :: xs, s => f x s >>= foldT f xs
def forT {R : Type} (f : α → σ → Res (Fl R σ)) : List α → σ → Res (Fl R σ)
  | [], s => .ok (.nxt s)
  | x :: xs, s => onF (f x s) (fun r => .ok (.ret r)) (forT f xs)
def whileT (c : σ → Res Bool) (f : σ → Res σ) : Nat → σ → Res σ
  | 0, _ => .bad
  | n + 1, s => c s >>= fun b => if b = true then f s >>= whileT c f n else .ok s
def whileR {R : Type} (c : σ → Res Bool) (f : σ → Res (Fl R σ)) : Nat → σ → Res (Fl R σ)
  | 0, _ => .bad
  | n + 1, s => c s >>= fun b => if b = true then onF (f s) (fun r => .ok (.ret r)) (whileR c f n) else .ok (.nxt s)
theorem q_for {mi : Env → Res (List D)} {g : D → Env → Option Env} {mb : Env → Flow} (h : Sim Q E (bindF (mi ρ) ρ fun xs => seqF (forL g mb xs ρ) k) T) : Sim Q E (seqF (mFor mi g mb ρ) k) T := by
  unfold mFor; rw [seqF_bind]; exact h
theorem foldT_sim [Enc α] {I : σ → Env → Prop} {g : D → Env → Option Env} {mb : Env → Flow} {f : α → σ → Res σ}
    (hb : ∀ x s ρ, I s ρ → Sim (QN I) E (optF (g (enc x) ρ) fun ρ1 => seqF (mb ρ1) Flow.nx) (f x s)) : ∀ (xs : List α) (s : σ) (ρ : Env), I s ρ → Sim (QN I) E (seqF (forL g mb (encs xs) ρ) Flow.nx) (foldT f xs s)
  | [], s, ρ, h => ⟨⟨ρ, rfl, h⟩⟩
  | x :: xs, s, ρ, h => by
    have h1 := hb x s ρ h
    have e : seqF (forL g mb (encs (x :: xs)) ρ) Flow.nx = seqF (optF (g (enc x) ρ) fun ρ1 => seqF (mb ρ1) Flow.nx) fun ρ2 => seqF (forL g mb (encs xs) ρ2) Flow.nx := by
      have e1 : encs (x :: xs) = enc x :: encs xs := rfl
      rw [e1, forL_c, seqF_end]
      cases g (enc x) ρ with
      | none => rfl
      | some ρ1 =>
        rw [optF_some, optF_some, seqF_end]
        congr 1; funext ρ2; rw [seqF_end]
    rw [e]
    exact q_join (by rw [seqF_end]; exact h1) fun s' ρ' h' => foldT_sim hb xs s' ρ' h'
theorem q_fold [Enc α] {I : σ → Env → Prop} {g : D → Env → Option Env} {mb : Env → Flow} {f : α → σ → Res σ} {xs : List α} {s0 : σ} {S : σ → Res γ} (h0 : I s0 ρ)
    (hb : ∀ x s ρ, I s ρ → Sim (QN I) E (optF (g (enc x) ρ) fun ρ1 => seqF (mb ρ1) Flow.nx) (f x s)) (hk : ∀ s ρ, I s ρ → Sim Q E (k ρ) (S s)) : Sim Q E (seqF (forL g mb (encs xs) ρ) k) (foldT f xs s0 >>= S) :=
  q_join (foldT_sim hb xs s0 ρ h0) hk
theorem forT_sim {R : Type} [Enc R] [Enc α] {I : σ → Env → Prop} {g : D → Env → Option Env} {mb : Env → Flow} {f : α → σ → Res (Fl R σ)}
    (hb : ∀ x s ρ, I s ρ → Sim (QL I) E (optF (g (enc x) ρ) fun ρ1 => seqF (mb ρ1) Flow.nx) (f x s)) : ∀ (xs : List α) (s : σ) (ρ : Env), I s ρ → Sim (QL I) E (seqF (forL g mb (encs xs) ρ) Flow.nx) (forT f xs s)
  | [], s, ρ, h => ⟨⟨ρ, rfl, h⟩⟩
  | x :: xs, s, ρ, h => by
    have h1 := hb x s ρ h
    have e : seqF (forL g mb (encs (x :: xs)) ρ) Flow.nx = seqF (optF (g (enc x) ρ) fun ρ1 => seqF (mb ρ1) Flow.nx) fun ρ2 => seqF (forL g mb (encs xs) ρ2) Flow.nx := by
      have e1 : encs (x :: xs) = enc x :: encs xs := rfl
      rw [e1, forL_c, seqF_end]
      cases g (enc x) ρ with
      | none => rfl
      | some ρ1 =>
        rw [optF_some, optF_some, seqF_end]
        congr 1; funext ρ2; rw [seqF_end]
    rw [e]
    exact q_joinR (by rw [seqF_end]; exact h1) (fun r ρ => ⟨⟨ρ, rfl⟩⟩) fun s' ρ' h' => forT_sim hb xs s' ρ' h'
theorem q_forR {R : Type} [Enc R] [Enc α] {I : σ → Env → Prop} {g : D → Env → Option Env} {mb : Env → Flow} {f : α → σ → Res (Fl R σ)} {xs : List α} {s0 : σ} {A : R → Res γ} {S : σ → Res γ} (h0 : I s0 ρ)
    (hb : ∀ x s ρ, I s ρ → Sim (QL I) E (optF (g (enc x) ρ) fun ρ1 => seqF (mb ρ1) Flow.nx) (f x s)) (hr : ∀ r ρ, Sim Q E (.rt (enc r) ρ) (A r)) (hk : ∀ s ρ, I s ρ → Sim Q E (k ρ) (S s)) : Sim Q E (seqF (forL g mb (encs xs) ρ) k) (onF (forT f xs s0) A S) :=
  q_joinR (forT_sim hb xs s0 ρ h0) hr hk
theorem whileT_sim {I : σ → Env → Prop} {mc : Env → Res Bool} {mb : Env → Flow} {c : σ → Res Bool} {f : σ → Res σ} (hI : ∀ s ρ, I s ρ → E ρ) (hc : ∀ s ρ, I s ρ → Le id (mc ρ) (c s))
    (hb : ∀ s ρ, I s ρ → Sim (QN I) E (seqF (mb ρ) Flow.nx) (f s)) : ∀ (n : Nat) (s : σ) (ρ : Env), I s ρ → Sim (QN I) E (seqF (whileL mc mb n ρ) Flow.nx) (whileT c f n s)
  | 0, s, ρ, h => ⟨trivial⟩
  | n + 1, s, ρ, h => by
    have e : seqF (whileL mc mb (n + 1) ρ) Flow.nx = bindF (mc ρ) ρ fun b => if b = true then seqF (mb ρ) fun ρ' => seqF (whileL mc mb n ρ') Flow.nx else .nx ρ := by
      rw [seqF_end]
      show (bindF (mc ρ) ρ fun k => match k with
        | true => match mb ρ with
          | .nx ρ' => whileL mc mb n ρ'
          | f => f
        | false => .nx ρ) = _
      congr 1; funext b
      cases b
      · rfl
      · rw [if_pos rfl]
        show (match mb ρ with
          | .nx ρ' => whileL mc mb n ρ'
          | f => f) = _
        cases mb ρ with
        | nx ρ1 =>
          show whileL mc mb n ρ1 = seqF (whileL mc mb n ρ1) Flow.nx
          rw [seqF_end]
        | _ => rfl
    rw [e]
    refine c_leaf (hc s ρ h) (hI s ρ h) fun b => ?_
    cases b
    · exact ⟨⟨ρ, rfl, h⟩⟩
    · exact q_join (hb s ρ h) fun s' ρ' h' => whileT_sim hI hc hb n s' ρ' h'
theorem q_while {I : σ → Env → Prop} {mc : Env → Res Bool} {mb : Env → Flow} {c : σ → Res Bool} {f : σ → Res σ} {n : Nat} {s0 : σ} {S : σ → Res γ} (h0 : I s0 ρ) (hI : ∀ s ρ, I s ρ → E ρ) (hc : ∀ s ρ, I s ρ → Le id (mc ρ) (c s))
    (hb : ∀ s ρ, I s ρ → Sim (QN I) E (seqF (mb ρ) Flow.nx) (f s)) (hk : ∀ s ρ, I s ρ → Sim Q E (k ρ) (S s)) : Sim Q E (seqF (whileL mc mb n ρ) k) (whileT c f n s0 >>= S) :=
  q_join (whileT_sim hI hc hb n s0 ρ h0) hk
/-! comprehensions -/
def compT (p : α → Res Bool) (f : α → Res β) : List α → Res (List β)
  | [] => .ok []
  | x :: xs => nerr (p x) >>= fun b => if b = true then nerr (f x) >>= fun d => compT p f xs >>= fun ds => .ok (d :: ds) else compT p f xs
def compS (p : α → Res Bool) (f : α → Res β) (xs : List α) : Res (List β) := if xs.length ≤ 16777216 then compT p f xs else .bad
def compM (r : Res (List D)) (xs : List D) : Res (List D) := if xs.length ≤ sizeLine then r else .bad
theorem c_comp {vs : List Nat} {mi : Env → Res (List D)} {g : D → Env → Option Env} {mt : Env → Res Bool} {me : Env → Res D} {K : List D → Flow} (h : Sim Q E (bindF (mi ρ) ρ fun xs => bindF (compM (compL g mt me (wipeE ρ vs) xs) xs) ρ K) T) : Sim Q E (bindF (mComp vs mi g mt me ρ) ρ K) T := by
  have e : bindF (mComp vs mi g mt me ρ) ρ K = bindF (mi ρ) ρ fun xs => bindF (compM (compL g mt me (wipeE ρ vs) xs) xs) ρ K := by
    rw [mComp_B, bindF_as]; rfl
  rw [e]; exact h
theorem le_compT [Enc α] [Enc β] {g : D → Env → Option Env} {mt : Env → Res Bool} {me : Env → Res D} {p : α → Res Bool} {f : α → Res β} (e1 : α → Env) (hg : ∀ x, g (enc x) ρ = some (e1 x)) (hp : ∀ x, Le id (mt (e1 x)) (p x)) (hf : ∀ x, Le enc (me (e1 x)) (f x)) : ∀ xs : List α, Le encs (compL g mt me ρ (encs xs)) (compT p f xs)
  | [] => ⟨rfl⟩
  | x :: xs => by
    have ih := le_compT e1 hg hp hf xs
    have e : compL g mt me ρ (encs (x :: xs)) = optR (g (enc x) ρ) fun ρ1 => nerr (mt ρ1) >>= fun b => if b = true then nerr (me ρ1) >>= fun d => compL g mt me ρ (encs xs) >>= fun ds => .ok (d :: ds) else compL g mt me ρ (encs xs) := compL_c ..
    rw [e, hg x, optR_some]
    show Le encs _ (nerr (p x) >>= fun b => if b = true then nerr (f x) >>= fun d => compT p f xs >>= fun ds => .ok (d :: ds) else compT p f xs)
    have h1 := hp x
    have h2 := hf x
    generalize p x = P at h1 ⊢
    generalize f x = Fx at h2 ⊢
    cases P with
    | ok b =>
      have h1 : mt (e1 x) = .ok b := h1.g
      rw [h1]
      show Le encs (if b = true then nerr (me (e1 x)) >>= fun d => compL g mt me ρ (encs xs) >>= fun ds => .ok (d :: ds) else compL g mt me ρ (encs xs)) (if b = true then nerr Fx >>= fun d => compT p f xs >>= fun ds => .ok (d :: ds) else compT p f xs)
      cases b
      · exact ih
      · rw [if_pos rfl, if_pos rfl]
        cases Fx with
        | ok y =>
          have h2 : me (e1 x) = .ok (enc y) := h2.g
          rw [h2]
          show Le encs (compL g mt me ρ (encs xs) >>= fun ds => .ok (enc y :: ds)) (compT p f xs >>= fun ds => .ok (y :: ds))
          generalize compT p f xs = C at ih ⊢
          cases C with
          | ok ys =>
            have ih : compL g mt me ρ (encs xs) = .ok (encs ys) := ih.g
            rw [ih]; exact ⟨rfl⟩
          | err z =>
            have ih : compL g mt me ρ (encs xs) = .err z := ih.g
            rw [ih]; exact ⟨rfl⟩
          | bad => exact ⟨trivial⟩
        | err z => exact ⟨trivial⟩
        | bad => exact ⟨trivial⟩
    | err z => exact ⟨trivial⟩
    | bad => exact ⟨trivial⟩
theorem le_comp [Enc α] [Enc β] {vs : List Nat} {g : D → Env → Option Env} {mt : Env → Res Bool} {me : Env → Res D} {p : α → Res Bool} {f : α → Res β} {xs : List α} (ρ0 : Env) (hw : wipeE ρ vs = ρ0) (e1 : α → Env) (hg : ∀ x, g (enc x) ρ0 = some (e1 x)) (hp : ∀ x, Le id (mt (e1 x)) (p x)) (hf : ∀ x, Le enc (me (e1 x)) (f x)) : Le encs (compM (compL g mt me (wipeE ρ vs) (encs xs)) (encs xs)) (compS p f xs) := by
  unfold compS compM
  rw [List.length_map, hw, szl]
  by_cases h : xs.length ≤ 16777216
  · rw [if_pos h, if_pos h]; exact le_compT e1 hg hp hf xs
  · rw [if_neg h, if_neg h]; exact ⟨trivial⟩
theorem compT_pure (p : α → Bool) (f : α → β) : ∀ xs : List α, compT (fun x => .ok (p x)) (fun x => .ok (f x)) xs = .ok ((xs.filter p).map f)
  | [] => rfl
  | x :: xs => by
    show (Res.ok (p x) >>= fun b => if b = true then (Res.ok (f x) >>= fun d => compT (fun x => .ok (p x)) (fun x => .ok (f x)) xs >>= fun ds => .ok (d :: ds)) else compT (fun x => .ok (p x)) (fun x => .ok (f x)) xs) = _
    rw [compT_pure p f xs, bind_ok]
    by_cases h : p x = true
    · rw [if_pos h, List.filter_cons, if_pos h]; rfl
    · rw [if_neg h, List.filter_cons, if_neg h]
theorem compS_pure (p : α → Bool) (f : α → β) (xs : List α) (h : xs.length ≤ 16777216) : compS (fun x => .ok (p x)) (fun x => .ok (f x)) xs = .ok ((xs.filter p).map f) := by
  unfold compS; rw [if_pos h, compT_pure]
theorem compT_map (f : α → β) : ∀ xs : List α, compT (fun _ => .ok true) (fun x => .ok (f x)) xs = .ok (xs.map f) := fun xs => by
  rw [compT_pure (fun _ => true) f xs, List.filter_eq_self.mpr fun _ _ => rfl]
theorem compS_map (f : α → β) (xs : List α) (h : xs.length ≤ 16777216) : compS (fun _ => .ok true) (fun x => .ok (f x)) xs = .ok (xs.map f) := by
  unfold compS; rw [if_pos h, compT_map]
theorem compT_all {p : α → Res Bool} {f : α → Res β} (P : α → Bool) (F : α → β) : ∀ xs : List α, (∀ x ∈ xs, p x = .ok (P x)) → (∀ x ∈ xs, P x = true → f x = .ok (F x)) → compT p f xs = .ok ((xs.filter P).map F)
  | [], _, _ => rfl
  | x :: xs, hp, hf => by
    show (nerr (p x) >>= fun b => if b = true then (nerr (f x) >>= fun d => compT p f xs >>= fun ds => .ok (d :: ds)) else compT p f xs) = _
    rw [compT_all P F xs (fun y hy => hp y (List.mem_cons_of_mem _ hy)) (fun y hy => hf y (List.mem_cons_of_mem _ hy)), hp x (List.mem_cons_self ..), nerr_ok, bind_ok]
    by_cases h : P x = true
    · rw [if_pos h, List.filter_cons, if_pos h, hf x (List.mem_cons_self ..) h]; rfl
    · rw [if_neg h, List.filter_cons, if_neg h]
theorem compS_all {p : α → Res Bool} {f : α → Res β} (P : α → Bool) (F : α → β) (xs : List α) (h : xs.length ≤ 16777216) (hp : ∀ x ∈ xs, p x = .ok (P x)) (hf : ∀ x ∈ xs, P x = true → f x = .ok (F x)) : compS p f xs = .ok ((xs.filter P).map F) := by
  unfold compS; rw [if_pos h, compT_all P F xs hp hf]
theorem compS_allm {f : α → Res β} (F : α → β) (xs : List α) (h : xs.length ≤ 16777216) (hf : ∀ x ∈ xs, f x = .ok (F x)) : compS (fun _ => .ok true) f xs = .ok (xs.map F) := by
  rw [compS_all (fun _ => true) F xs h (fun _ _ => rfl) (fun x hx _ => hf x hx), List.filter_eq_self.mpr fun _ _ => rfl]
/-! try -/
def tryT {γ : Type} (cs : List Nat) (c : Nat) (A B : Res γ) : Res γ := match A with
  | .err x => if x.cl ∈ cs then (if x.cl = c then nerr B else .err x) else .bad
  | r => r
theorem q_try {E' : Env → Prop} {cs : List Nat} {c : Nat} {m m2 : Env → Flow} {A B : Res γ} (hQ : ∀ g x ρ, ¬ Q g (.er x ρ)) (hQb : ∀ g, ¬ Q g .bad) (hA : Sim Q E' (seqF (m ρ) Flow.nx) A) (hB : ∀ ρ', E' ρ' → Sim Q tt (seqF (m2 ρ') Flow.nx) B) (hE : ∀ ρ', E' ρ' → E ρ') : Sim Q E (seqF (mTry cs c m m2 ρ) Flow.nx) (tryT cs c A B) := by
  rw [seqF_end] at hA ⊢
  have hA := hA.run
  refine ⟨?_⟩
  unfold mTry tryT
  cases A with
  | ok g =>
    have hA : Q g (m ρ) := hA
    cases q : m ρ with
    | er x ρ' => rw [q] at hA; exact absurd hA (hQ g x ρ')
    | nx ρ' => rw [q] at hA; exact hA
    | rt d ρ' => rw [q] at hA; exact hA
    | bad => rw [q] at hA; exact absurd hA (hQb g)
  | err x =>
    obtain ⟨ρ', q, hE'⟩ := hA
    rw [q]
    show SimD Q E (if x.cl ∈ cs then (if x.cl = c then nerrF (m2 ρ') else .er x ρ') else .bad) (if x.cl ∈ cs then (if x.cl = c then nerr B else .err x) else .bad)
    by_cases h1 : x.cl ∈ cs
    · rw [if_pos h1, if_pos h1]
      by_cases h2 : x.cl = c
      · rw [if_pos h2, if_pos h2]
        have hB := hB ρ' hE'
        rw [seqF_end] at hB
        have hB := hB.run
        cases B with
        | ok g =>
          have hB : Q g (m2 ρ') := hB
          show Q g (nerrF (m2 ρ'))
          cases q2 : m2 ρ' with
          | er x ρ' => rw [q2] at hB; exact absurd hB (hQ g x ρ')
          | nx ρ' => rw [q2] at hB; exact hB
          | rt d ρ' => rw [q2] at hB; exact hB
          | bad => rw [q2] at hB; exact absurd hB (hQb g)
        | err y => trivial
        | bad => trivial
      · rw [if_neg h2, if_neg h2]; exact ⟨ρ', rfl, hE ρ' hE'⟩
    · rw [if_neg h1, if_neg h1]; trivial
  | bad => trivial
theorem hq_n {I : σ → Env → Prop} : ∀ g x ρ, ¬ QN I g (.er x ρ) := fun g x ρ ⟨_, h, _⟩ => by cases h
theorem hq_nb {I : σ → Env → Prop} : ∀ g, ¬ QN I g .bad := fun g ⟨_, h, _⟩ => by cases h
theorem hq_l {R : Type} [Enc R] {I : σ → Env → Prop} : ∀ (g : Fl R σ) x ρ, ¬ QL I g (.er x ρ) := fun g x ρ h => by
  cases g with
  | ret r => obtain ⟨_, h⟩ := h; cases h
  | nxt s => obtain ⟨_, h, _⟩ := h; cases h
theorem hq_lb {R : Type} [Enc R] {I : σ → Env → Prop} : ∀ (g : Fl R σ), ¬ QL I g .bad := fun g h => by
  cases g with
  | ret r => obtain ⟨_, h⟩ := h; cases h
  | nxt s => obtain ⟨_, h, _⟩ := h; cases h
/-! defs -/
theorem le_fn [Enc α] {l : Nat} {b : Env → Flow} {ds : List D} {t : Res α} (ρ : Env) (e : startE l ds = ρ) (h : Sim QF tt (seqF (b ρ) Flow.nx) t) : Le enc (runD l b ds) t := by
  rw [seqF_end] at h
  have h := h.run
  rw [runD_B, e]
  refine ⟨?_⟩
  cases t with
  | ok a =>
    rcases h with ⟨ρ', h⟩ | ⟨h0, ρ', h⟩
    · rw [h]; rfl
    · rw [h]
      show Res.ok D.non = .ok (enc a)
      rw [h0]
  | err x =>
    obtain ⟨ρ', h, _⟩ := h
    rw [h]; rfl
  | bad => trivial
theorem le_in {l c : Nat} {b : Env → Flow} {ds : List D} {fs : α → List D} {t : Res α} (ρ : Env) (e : startI l c ds = ρ) (h : Sim (QI c fs) tt (seqF (b ρ) Flow.nx) t) : Le fs (runI l c b ds) t := by
  rw [seqF_end] at h
  have h := h.run
  rw [runI_B, e]
  refine ⟨?_⟩
  cases t with
  | ok a =>
    obtain ⟨ρ', h, h2⟩ := h
    rw [h]; exact h2
  | err x =>
    obtain ⟨ρ', h, _⟩ := h
    rw [h]; rfl
  | bad => trivial
theorem s_in {c : Nat} {fs : α → List D} {ff : List (Str × Fd)} {l : Env} (a : α) (h : ff.map (·.1) = flds c) (h2 : ff.map (fun p => fdD p.2) = fs a) : Sim (QI c fs) E (Flow.nx (.oo c ff :: l)) (.ok a) := by
  refine ⟨⟨_, rfl, ?_⟩⟩
  show (if c = c ∧ ff.map (·.1) = flds c then Res.ok (ff.map fun p => fdD p.2) else .bad) = _
  rw [if_pos ⟨rfl, h⟩, h2]
/-- a slot of which nothing is known but that it may be stored -/
def fre (s : Sl) : Prop := okS [s] 0 = true
theorem fre_v (x : Fd) : fre (.v x) := rfl
theorem fre_no : fre .no := rfl
theorem ok_fre {ρ : Env} {i : Nat} {s : Sl} (h : ρ[i]? = some s) (f : fre s) : okS ρ i = true := by
  unfold okS; rw [h]; exact f
theorem g_n {i : Nat} {d : D} {ρ ρ' : Env} (h : okS ρ i = true) (e : ρ.set i (.v (.d d)) = ρ') : gN i d ρ = some ρ' := by
  unfold gN; rw [if_pos h, e]
theorem g_q {gs : List D → Env → Option Env} {ds : List D} {d : D} {ρ ρ' : Env} (hd : d = .tup ds) (h : gs ds ρ = some ρ') : gQ gs d ρ = some ρ' := by rw [hd]; exact h
theorem g_ql {gs : List D → Env → Option Env} {ds : List D} {d : D} {ρ ρ' : Env} (hd : d = .lst ds) (h : gs ds ρ = some ρ') : gQ gs d ρ = some ρ' := by rw [hd]; exact h
theorem g_s {g : D → Env → Option Env} {gs : List D → Env → Option Env} {d : D} {ds : List D} {ρ ρ1 ρ' : Env} (h : g d ρ = some ρ1) (h' : gs ds ρ1 = some ρ') : gSc g gs (d :: ds) ρ = some ρ' := by
  show (match g d ρ with
    | some ρ1 => gs ds ρ1
    | none => none) = _
  rw [h]; exact h'
theorem g_0 {ρ : Env} : gS0 [] ρ = some ρ := rfl
end
end Cr
/-! Tl, part 3: typed operations. -/
namespace Cr
open PySem L2
section
variable {α β : Type} [Enc α] [Enc β]
def idxT {α : Type} (xs : List α) (i : Int) : Res α := opt (atI xs i)
theorem atI_mp {α β : Type} (f : α → β) (xs : List α) (i : Int) : atI (xs.map f) i = (atI xs i).map f := by
  unfold L2.atI
  rw [List.length_map]
  cases ixN xs.length i with
  | none => rfl
  | some j => simp
theorem le_opt {δ : Type} {e : α → δ} (o : Option α) : Le e (opt (o.map e)) (opt o) := by
  cases o
  · exact ⟨trivial⟩
  · exact ⟨rfl⟩
theorem le_idx (xs : List α) (i : Int) : Le enc (idxD (enc xs) (enc i)) (idxT xs i) := by
  show Le enc (opt (atI (xs.map Enc.en) i)) (opt (atI xs i))
  rw [atI_mp]; exact le_opt _
theorem le_idxt (xs : TL α) (i : Int) : Le enc (idxD (enc xs) (enc i)) (idxT xs.l i) := by
  show Le enc (opt (atI (xs.l.map Enc.en) i)) (opt (atI xs.l i))
  rw [atI_mp]; exact le_opt _
theorem le_idxs (xs : Scr) (i : Int) : Le enc (idxD (enc xs) (enc i)) (idxT xs.l i) := by
  show Le enc (opt ((atI xs.l i).map D.int)) (opt (atI xs.l i))
  exact le_opt _
def mulT (a b : Int) : Res Int := if mulOk a b then .ok (a * b) else .bad
def fdivT (a b : Int) : Res Int := if divOk a b then .ok (a / b) else .bad
def modT (a b : Int) : Res Int := if 0 < b then .ok (a % b) else .bad
def powT (a b : Int) : Res Int := if powOk a b then .ok (a ^ b.toNat) else .bad
def shlT (a b : Int) : Res Int := if powOk a b then .ok (a * 2 ^ b.toNat) else .bad
def shrT (a b : Int) : Res Int := if 0 ≤ b then .ok (a / 2 ^ b.toNat) else .bad
theorem le_ite {δ : Type} {e : α → δ} {c : Prop} [Decidable c] {a : α} {d : δ} (h : d = e a) : Le e (if c then Res.ok d else .bad) (if c then Res.ok a else .bad) := by
  by_cases hc : c
  · rw [if_pos hc, if_pos hc]; exact ⟨congrArg _ h⟩
  · rw [if_neg hc, if_neg hc]; exact ⟨trivial⟩
theorem le_ite' {δ : Type} {e : α → δ} {c c' : Prop} [Decidable c] [Decidable c'] {a : α} {d : δ} (hc : c ↔ c') (h : d = e a) : Le e (if c then Res.ok d else .bad) (if c' then Res.ok a else .bad) := by
  by_cases q : c
  · rw [if_pos q, if_pos (hc.mp q)]; exact ⟨congrArg _ h⟩
  · rw [if_neg q, if_neg fun z => q (hc.mpr z)]; exact ⟨trivial⟩
theorem le_mul (a b : Int) : Le enc (mulD (enc a) (enc b)) (mulT a b) := le_ite rfl
theorem le_fdiv (a b : Int) : Le enc (fdivD (enc a) (enc b)) (fdivT a b) := le_ite rfl
theorem le_mod (a b : Int) : Le enc (modD (enc a) (enc b)) (modT a b) := le_ite rfl
theorem le_pow (a b : Int) : Le enc (powD (enc a) (enc b)) (powT a b) := le_ite rfl
theorem le_shl (a b : Int) : Le enc (shlD (enc a) (enc b)) (shlT a b) := le_ite rfl
theorem le_shr (a b : Int) : Le enc (shrD (enc a) (enc b)) (shrT a b) := le_ite rfl
def bitsI (i : Int) : Int := (Builtin.Int.intBits i : Nat)
/-! with a constant on one side -/
theorem k_mulr (a b : Int) (h : decide (-18446744073709551616 < b ∧ b < 18446744073709551616) = true) : mulD (enc a) (enc b) = .ok (enc (a * b)) := mulD_r a b (of_decide_eq_true h)
theorem k_mull (a b : Int) (h : decide (-18446744073709551616 < a ∧ a < 18446744073709551616) = true) : mulD (enc a) (enc b) = .ok (enc (a * b)) := mulD_l a b (of_decide_eq_true h)
theorem k_mod (a b : Int) (h : decide (0 < b) = true) : modD (enc a) (enc b) = .ok (enc (a % b)) := modD_p a b (of_decide_eq_true h)
theorem k_fdiv (a b : Int) (h : decide (0 < b ∧ b < 18446744073709551616) = true) : fdivD (enc a) (enc b) = .ok (enc (a / b)) := fdivD_p a b (of_decide_eq_true h)
theorem k_pow (a b c : Int) (h : decide ((0 ≤ b ∧ b ≤ 1000000) ∧ a.natAbs < 18446744073709551616) = true) (hc : a ^ b.toNat = c) : powD (enc a) (enc b) = .ok (enc c) := by
  have h := of_decide_eq_true h
  rw [← hc]; exact powD_p a b h.1 h.2
/-! ranges -/
def rangeI (lo c : Int) (n : Nat) : List Int := (List.range n).map fun (i : Nat) => lo + (i : Int) * c
theorem rangeI_enc (lo c : Int) (n : Nat) : rangeD lo c n = encs (rangeI lo c n) := by
  unfold rangeD rangeI encs
  rw [List.map_map]; rfl
def rngT (n : Int) : Res (List Int) := if -(2 ^ 62) ≤ n ∧ n < 2 ^ 62 then .ok (rangeI 0 1 n.toNat) else .bad
def rng2T (lo hi : Int) : Res (List Int) := if -(2 ^ 62) ≤ lo ∧ lo < 2 ^ 62 ∧ -(2 ^ 62) ≤ hi ∧ hi < 2 ^ 62 then .ok (rangeI lo 1 (hi - lo).toNat) else .bad
def rng3T (lo hi c : Int) : Res (List Int) := if c = -1 ∧ -(2 ^ 62) ≤ lo ∧ lo < 2 ^ 62 ∧ -(2 ^ 62) ≤ hi ∧ hi < 2 ^ 62 then .ok (rangeI lo (-1) (lo - hi).toNat) else .bad
theorem le_rng (n : Int) : Le encs (rng1 [enc n]) (rngT n) := le_ite (rangeI_enc ..)
theorem le_rng2 (lo hi : Int) : Le encs (rng2 [enc lo, enc hi]) (rng2T lo hi) := le_ite (rangeI_enc ..)
theorem le_rng3 (lo hi c : Int) : Le encs (rng3 [enc lo, enc hi, enc c]) (rng3T lo hi c) := le_ite (rangeI_enc ..)
/-! lists -/
def appT {α : Type} (xs : List α) (x : α) : Res (List α) := if xs.length < 16777216 then .ok (xs ++ [x]) else .bad
theorem le_app (xs : List α) (x : α) (d : D) (h : d = enc x) : Le encs (appG (encs xs) [d]) (appT xs x) := by
  subst h
  show Le encs (if (encs xs).length < sizeLine then Res.ok (encs xs ++ [enc x]) else .bad) _
  rw [List.length_map, szl]
  exact le_ite (by simp)
def insT {α : Type} (xs : List α) (i : Int) (x : α) : Res (List α) := if xs.length < 16777216 ∧ 0 ≤ i ∧ i < 2 ^ 63 then .ok (xs.take i.toNat ++ [x] ++ xs.drop i.toNat) else .bad
theorem le_ins (xs : List α) (i : Int) (x : α) (d : D) (h : d = enc x) : Le encs (insG (encs xs) [enc i, d]) (insT xs i x) := by
  subst h
  show Le encs (if (encs xs).length < sizeLine ∧ 0 ≤ i ∧ i < 2 ^ 63 then Res.ok ((encs xs).take i.toNat ++ [enc x] ++ (encs xs).drop i.toNat) else .bad) _
  rw [List.length_map, szl]
  exact le_ite (by simp)
def extT {α : Type} (xs ys : List α) : Res (List α) := if xs.length + ys.length ≤ 16777216 then .ok (xs ++ ys) else .bad
theorem le_ext (xs ys : List α) (d : D) (h : d = enc ys) : Le encs (extG (encs xs) [d]) (extT xs ys) := by
  subst h
  show Le encs (if (encs xs).length + (ys.map Enc.en).length ≤ sizeLine then Res.ok (encs xs ++ ys.map Enc.en) else .bad) _
  rw [List.length_map, List.length_map, szl]
  exact le_ite (by simp)
theorem le_addL (xs ys : List α) (d d' : D) (h : d = enc xs) (h' : d' = enc ys) : Le encs (addL d d') (extT xs ys) := by
  subst h h'
  show Le encs (if (xs.map Enc.en).length + (ys.map Enc.en).length ≤ sizeLine then Res.ok (xs.map Enc.en ++ ys.map Enc.en) else .bad) _
  rw [List.length_map, List.length_map, szl]
  exact le_ite (by simp)
theorem le_addD (xs ys : List α) (d d' : D) (h : d = enc xs) (h' : d' = enc ys) : Le enc (addD d d') (extT xs ys) := by
  subst h h'
  show Le enc (if (xs.map Enc.en).length + (ys.map Enc.en).length ≤ sizeLine then Res.ok (D.lst (xs.map Enc.en ++ ys.map Enc.en)) else .bad) _
  rw [List.length_map, List.length_map, szl]
  exact le_ite (by show _ = D.lst _; simp)
def extTT {α : Type} (xs ys : TL α) : Res (TL α) := if xs.l ≠ [] ∧ ys.l ≠ [] ∧ xs.l.length + ys.l.length ≤ 16777216 then .ok ⟨xs.l ++ ys.l⟩ else .bad
theorem le_addT (xs ys : TL α) (d d' : D) (h : d = enc xs) (h' : d' = enc ys) : Le enc (addD d d') (extTT xs ys) := by
  subst h h'
  have e : addD (enc xs) (enc ys) = if xs.l.map Enc.en ≠ [] ∧ ys.l.map Enc.en ≠ [] ∧ (xs.l.map Enc.en).length + (ys.l.map Enc.en).length ≤ sizeLine then .ok (.tup (xs.l.map (Enc.en (α := α)) ++ ys.l.map Enc.en)) else .bad := rfl
  rw [e, List.length_map, List.length_map, szl]
  unfold extTT
  have n : ∀ zs : List α, zs.map (Enc.en (α := α)) ≠ [] ↔ zs ≠ [] := fun zs => by cases zs <;> simp
  exact le_ite' (by rw [n, n]) (by show _ = D.tup _; simp)
def setT {α : Type} (xs : List α) (i : Int) (x : α) : Res (List α) := match ixN xs.length i with
  | some j => .ok (xs.set j x)
  | none => .bad
theorem le_set (xs : List α) (i : Int) (x : α) (d : D) (h : d = enc x) : Le encs (setG (encs xs) (enc i) d) (setT xs i x) := by
  subst h
  show Le encs (match ixN (encs xs).length i with
    | some j => Res.ok ((encs xs).set j (enc x))
    | none => .bad) _
  rw [List.length_map]
  unfold setT
  cases ixN xs.length i with
  | none => exact ⟨trivial⟩
  | some j => exact ⟨by show _ = _; simp [encs]⟩
def repT {α : Type} (xs : List α) (k : Int) : Res (List α) := if -(2 ^ 63) ≤ k ∧ k < 2 ^ 63 ∧ xs.length * k.toNat ≤ 16777216 then .ok (List.replicate k.toNat xs).flatten else .bad
theorem le_rep (xs : List α) (k : Int) (d : D) (h : d = enc xs) : Le enc (mulD d (enc k)) (repT xs k) := by
  subst h
  have e : mulD (enc xs) (enc k) = if -(2 ^ 63) ≤ k ∧ k < 2 ^ 63 ∧ (xs.map Enc.en).length * k.toNat ≤ sizeLine then .ok (.lst (List.replicate k.toNat (xs.map (Enc.en (α := α)))).flatten) else .bad := rfl
  rw [e, List.length_map, szl]
  exact le_ite (by show _ = D.lst _; simp [List.map_flatten])
theorem cutG_map {α β : Type} (f : α → β) (xs : List α) (lo hi : Option Int) : cutG (xs.map f) lo hi = (cutG xs lo hi).map f := by
  unfold cutG
  simp
theorem k_cutL (xs : List α) (lo hi : Option Int) : cutL (enc xs) lo hi = .ok (encs (cutG xs lo hi)) := by
  show Res.ok (cutG (xs.map Enc.en) lo hi) = _
  rw [cutG_map]
theorem k_cutD (xs : List α) (lo hi : Option Int) : cutD (enc xs) lo hi = .ok (enc (cutG xs lo hi)) := by
  show Res.ok (D.lst (cutG (xs.map Enc.en) lo hi)) = _
  rw [cutG_map]; rfl
def cutTT {α : Type} (xs : TL α) (lo hi : Option Int) : Res (TL α) := if ¬ (HT.sIx xs.l.length 0 lo = 0 ∧ HT.sIx xs.l.length xs.l.length hi = xs.l.length) then .ok ⟨cutG xs.l lo hi⟩ else .bad
theorem le_cutT (xs : TL α) (lo hi : Option Int) : Le enc (cutD (enc xs) lo hi) (cutTT xs lo hi) := by
  have e : cutD (enc xs) lo hi = if ¬ (HT.sIx (xs.l.map (Enc.en (α := α))).length 0 lo = 0 ∧ HT.sIx (xs.l.map (Enc.en (α := α))).length (xs.l.map (Enc.en (α := α))).length hi = (xs.l.map (Enc.en (α := α))).length) then .ok (.tup (cutG (xs.l.map Enc.en) lo hi)) else .bad := rfl
  rw [e, List.length_map, cutG_map]
  exact le_ite rfl
theorem k_rev (xs : List α) : revL (enc xs) = .ok (encs xs.reverse) := by
  show Res.ok (xs.map Enc.en).reverse = _
  simp
theorem k_len (xs : List α) : lenD [enc xs] = .ok (enc (xs.length : Int)) := by
  show Res.ok (D.int ((xs.map Enc.en).length : Nat)) = _
  rw [List.length_map]; rfl
theorem k_lent (xs : TL α) : lenD [enc xs] = .ok (enc (xs.l.length : Int)) := by
  show Res.ok (D.int ((xs.l.map Enc.en).length : Nat)) = _
  rw [List.length_map]; rfl
theorem k_lens (xs : Scr) : lenD [enc xs] = .ok (enc (xs.l.length : Int)) := rfl
theorem k_tup (xs : List α) : tupD [enc xs] = .ok (enc (TL.mk xs)) := rfl
theorem k_tupt (xs : TL α) : tupD [enc xs] = .ok (enc xs) := rfl
theorem k_list (xs : List α) : listD [enc xs] = .ok (encs xs) := rfl
theorem k_listt (xs : TL α) : listD [enc xs] = .ok (encs xs.l) := rfl
theorem k_seq (xs : List α) : seqOf (enc xs) = .ok (encs xs) := rfl
theorem k_seqt (xs : TL α) : seqOf (enc xs) = .ok (encs xs.l) := rfl
theorem k_lstOf (xs : List α) : lstOf (enc xs) = .ok (encs xs) := rfl
omit [Enc α] [Enc β] in
theorem ints_enc : ∀ xs : List Int, intsOf (xs.map Enc.en) = some xs
  | [] => rfl
  | x :: xs => by
    show (intsOf (xs.map Enc.en)).map (x :: ·) = _
    rw [ints_enc xs]; rfl
omit [Enc α] [Enc β] in
theorem bools_enc : ∀ xs : List Bool, boolsOf (xs.map Enc.en) = some xs
  | [] => rfl
  | x :: xs => by
    show (boolsOf (xs.map Enc.en)).map (x :: ·) = _
    rw [bools_enc xs]; rfl
theorem k_sum (xs : List Int) : sumD [enc xs] = .ok (enc xs.sum) := by
  show (opt (intsOf (xs.map Enc.en)) >>= fun ns => Res.ok (D.int ns.sum)) = _
  rw [ints_enc]; rfl
theorem k_all (xs : List Bool) : allD [enc xs] = .ok (enc (xs.all id)) := by
  show (opt (boolsOf (xs.map Enc.en)) >>= fun ns => Res.ok (D.bl (ns.all id))) = _
  rw [bools_enc]; rfl
theorem k_any (xs : List Bool) : anyD [enc xs] = .ok (enc (xs.any id)) := by
  show (opt (boolsOf (xs.map Enc.en)) >>= fun ns => Res.ok (D.bl (ns.any id))) = _
  rw [bools_enc]; rfl
def maxT (xs : List Int) : Res Int := if 0 < xs.length then .ok (listMax xs) else .bad
def minT (xs : List Int) : Res Int := if 0 < xs.length then .ok (listMin xs) else .bad
theorem le_max (xs : List Int) : Le enc (maxD [enc xs]) (maxT xs) := by
  show Le enc (opt (intsOf (xs.map Enc.en)) >>= fun ns => if 0 < ns.length then Res.ok (D.int (listMax ns)) else .bad) _
  rw [ints_enc]
  exact le_ite rfl
theorem le_min (xs : List Int) : Le enc (minD [enc xs]) (minT xs) := by
  show Le enc (opt (intsOf (xs.map Enc.en)) >>= fun ns => if 0 < ns.length then Res.ok (D.int (listMin ns)) else .bad) _
  rw [ints_enc]
  exact le_ite rfl
omit [Enc α] [Enc β] in
theorem zipT_enc [Enc α] [Enc β] : ∀ (xs : List α) (ys : List β), zipD (encs xs) (encs ys) = encs (List.zipWith T2.mk xs ys)
  | [], ys => by simp [zipD, encs]
  | x :: xs, [] => rfl
  | x :: xs, y :: ys => by
    show D.tup [enc x, enc y] :: zipD (encs xs) (encs ys) = _
    rw [zipT_enc xs ys]; rfl
theorem k_zip (xs : List α) (ys : List β) : zipL [enc xs, enc ys] = .ok (encs (List.zipWith T2.mk xs ys)) := congrArg _ (zipT_enc xs ys)
theorem k_neg (a : Int) : negD (enc a) = .ok (enc (-a)) := rfl
theorem k_intb (b : Bool) : intD [enc b] = .ok (enc (if b = true then (1 : Int) else 0)) := rfl
/-! comparing -/
class NonN (α : Type) [Enc α] : Prop where
  ne : ∀ a : α, enc a ≠ .non
instance : NonN Int := ⟨fun _ h => by cases h⟩
instance : NonN Bool := ⟨fun _ h => by cases h⟩
instance : NonN Str := ⟨fun _ h => by cases h⟩
instance : NonN (List α) := ⟨fun _ h => by cases h⟩
instance : NonN (TL α) := ⟨fun _ h => by cases h⟩
instance {A : Type} [Enc A] : NonN (T1 A) := ⟨fun _ h => by cases h⟩
instance {A B : Type} [Enc A] [Enc B] : NonN (T2 A B) := ⟨fun _ h => by cases h⟩
instance {A B C : Type} [Enc A] [Enc B] [Enc C] : NonN (T3 A B C) := ⟨fun _ h => by cases h⟩
theorem isNon_ne (d : D) (h : d ≠ .non) : isNonD d .non = .ok (.bl false) := by
  cases d <;> first | rfl | exact absurd rfl h
theorem k_isnon [NonN α] (o : Option α) : isNonD (enc o) .non = .ok (enc o.isNone) := by
  cases o with
  | none => rfl
  | some a => exact isNon_ne _ (NonN.ne a)
theorem k_isnot [NonN α] (o : Option α) : notNonD (enc o) .non = .ok (enc (!o.isNone)) := by
  cases o with
  | none => rfl
  | some a =>
    have : ∀ d : D, d ≠ .non → notNonD d .non = .ok (.bl true) := fun d h => by cases d <;> first | rfl | exact absurd rfl h
    exact this _ (NonN.ne a)
theorem k_isnon0 [NonN α] (a : α) : isNonD (enc a) .non = .ok (enc false) := isNon_ne _ (NonN.ne a)
theorem k_isnot0 [NonN α] (a : α) : notNonD (enc a) .non = .ok (enc true) := by
  have : ∀ d : D, d ≠ .non → notNonD d .non = .ok (.bl true) := fun d h => by cases d <;> first | rfl | exact absurd rfl h
  exact this _ (NonN.ne a)
def unT {α : Type} : Option α → Res α
  | some a => .ok a
  | none => .bad
theorem le_un {o : Option α} : Le enc (.ok (enc o)) (unT o) := by
  cases o
  · exact ⟨trivial⟩
  · exact ⟨rfl⟩
class EqT (α : Type) [Enc α] [DecidableEq α] : Prop where
  eq : ∀ a b : α, eqB (enc a) (enc b) = .ok (decide (a = b))
instance : EqT Int := ⟨fun _ _ => rfl⟩
instance : EqT Str := ⟨fun _ _ => rfl⟩
instance : EqT Bool := ⟨fun _ _ => rfl⟩
theorem k_eq [DecidableEq α] [EqT α] (a b : α) : eqD (enc a) (enc b) = .ok (enc (decide (a = b))) := by
  unfold eqD; rw [EqT.eq]; rfl
theorem k_ne [DecidableEq α] [EqT α] (a b : α) : neD (enc a) (enc b) = .ok (enc (!decide (a = b))) := by
  unfold neD; rw [EqT.eq]; rfl
/-! membership of ints and strs -/
class InT (α : Type) [Enc α] [DecidableEq α] : Prop where
  fl : ∃ f : α → V, (∀ a : α, flatD (enc a) = some (f a)) ∧ ∀ a b, eqV (f b) (f a) = decide (a = b)
theorem inV_dec {f : α → V} [DecidableEq α] (h : ∀ a b, eqV (f b) (f a) = decide (a = b)) (a : α) : ∀ xs : List α, inV (f a) (xs.map f) = decide (a ∈ xs)
  | [] => rfl
  | x :: xs => by
    have ih := inV_dec h a xs
    show ((x :: xs).map f).any (fun y => eqV y (f a)) = _
    have ih : (xs.map f).any (fun y => eqV y (f a)) = decide (a ∈ xs) := ih
    rw [List.map_cons, List.any_cons, ih, h a x]
    by_cases q : a = x <;> by_cases q' : a ∈ xs <;> simp [q, q']
theorem flats_map {f : α → V} (h : ∀ a : α, flatD (enc a) = some (f a)) : ∀ xs : List α, flats (xs.map Enc.en) = some (xs.map f)
  | [] => rfl
  | x :: xs => by
    show (match flatD (enc x), flats (xs.map Enc.en) with
      | some v, some vs => some (v :: vs)
      | _, _ => none) = _
    rw [h x, flats_map h xs]; rfl
instance : InT Int := ⟨V.int, fun _ => rfl, fun a b => by
  by_cases h : a = b
  · subst h; rw [decide_eq_true rfl]; exact beq_self_eq_true a
  · rw [decide_eq_false h]; exact beq_eq_false_iff_ne.mpr fun z => h z.symm⟩
instance : InT Str := ⟨V.str, fun _ => rfl, fun a b => by
  by_cases h : a = b
  · subst h; rw [decide_eq_true rfl]; exact beq_self_eq_true a
  · rw [decide_eq_false h]; exact beq_eq_false_iff_ne.mpr fun z => h z.symm⟩
theorem k_in [DecidableEq α] [InT α] (a : α) (xs : List α) : inD (enc a) (enc xs) = .ok (enc (decide (a ∈ xs))) := by
  obtain ⟨f, h1, h2⟩ := InT.fl (α := α)
  have e : inB (enc a) (enc xs) = match flatD (enc a), flats (xs.map Enc.en) with
    | some v, some vs => .ok (inV v vs)
    | _, _ => .bad := by show inB (enc a) (.lst _) = _; unfold inB; rfl
  unfold inD
  rw [e, h1, flats_map h1]
  show Res.ok (D.bl (inV (f a) (xs.map f))) = _
  rw [inV_dec h2]; rfl
theorem k_int [DecidableEq α] [InT α] (a : α) (xs : TL α) : inD (enc a) (enc xs) = .ok (enc (decide (a ∈ xs.l))) := by
  obtain ⟨f, h1, h2⟩ := InT.fl (α := α)
  have e : inB (enc a) (enc xs) = match flatD (enc a), flats (xs.l.map Enc.en) with
    | some v, some vs => .ok (inV v vs)
    | _, _ => .bad := by show inB (enc a) (.tup _) = _; unfold inB; rfl
  unfold inD
  rw [e, h1, flats_map h1]
  show Res.ok (D.bl (inV (f a) (xs.l.map f))) = _
  rw [inV_dec h2]; rfl
theorem nin_of {x y : D} {b : Bool} (h : inD x y = .ok (.bl b)) : ninD x y = .ok (enc (!b)) := by
  unfold inD at h
  unfold ninD
  cases q : inB x y with
  | ok k => rw [q] at h; cases h; rfl
  | err z => rw [q] at h; cases h
  | bad => rw [q] at h; cases h
theorem k_nin [DecidableEq α] [InT α] (a : α) (xs : List α) : ninD (enc a) (enc xs) = .ok (enc (!decide (a ∈ xs))) := nin_of (k_in a xs)
theorem k_nint [DecidableEq α] [InT α] (a : α) (xs : TL α) : ninD (enc a) (enc xs) = .ok (enc (!decide (a ∈ xs.l))) := nin_of (k_int a xs)
end
end Cr
namespace Cr
open PySem L2
section
variable {γ : Type} {Q : γ → Flow → Prop} {E : Env → Prop} {ρ ρ' : Env} {T : Res γ} {α β σ : Type} {k : Env → Flow}
abbrev letT {α γ : Type} (v : α) (F : α → Res γ) : Res γ := F v
theorem c_okL {r : Res D} {K : D → Flow} [Enc α] (v : α) {F : α → Res γ} (h : r = .ok (enc v)) (k : ∀ x, Sim Q E (K (enc x)) (F x)) : Sim Q E (bindF r ρ K) (letT v F) := by
  rw [h]; exact k v
theorem c_okU {r : Res D} {K : D → Flow} [Enc α] {o : Option α} {S : α → Res γ} (h : r = .ok (enc o)) (k : ∀ x, Sim Q E (K (enc x)) (S x)) : Sim Q E (bindF r ρ K) (unT o >>= S) := by
  rw [h]
  cases o with
  | none => exact ⟨trivial⟩
  | some a => exact k a
theorem le_unr [Enc α] {r : Res D} {t : Res (Option α)} (h : Le enc r t) : Le enc r (t >>= unT) := by
  cases t with
  | ok o =>
    have h : r = .ok (enc o) := h.g
    rw [h]
    cases o with
    | none => exact ⟨trivial⟩
    | some a => exact ⟨rfl⟩
  | err x => exact ⟨h.g⟩
  | bad => exact ⟨trivial⟩
theorem p_andM {a b : Bool} {r : Res Bool} (h : r = .ok b) : andM a r = .ok (a && b) := by
  subst h; cases a <;> rfl
theorem p_orM {a b : Bool} {r : Res Bool} (h : r = .ok b) : orM a r = .ok (a || b) := by
  subst h; cases a <;> rfl
theorem p_andMV {a b : Bool} {r : Res D} (h : r = .ok (enc b)) : andMV a r = .ok (enc (a && b)) := by
  subst h; cases a <;> rfl
theorem p_orMV {a b : Bool} {r : Res D} (h : r = .ok (enc b)) : orMV a r = .ok (enc (a || b)) := by
  subst h; cases a <;> rfl
/-- a slot that may be empty -/
def mbS {α : Type} [Enc α] : Option α → Sl
  | none => .no
  | some a => .v (.d (enc a))
def mbL {α : Type} [Enc α] : Option (List α) → Sl
  | none => .no
  | some a => .v (.ol (encs a))
theorem fre_mb [Enc α] (o : Option α) : fre (mbS o) := by cases o <;> rfl
theorem fre_mbL [Enc α] (o : Option (List α)) : fre (mbL o) := by cases o <;> rfl
theorem le_mb [Enc α] {o : Option α} {i : Nat} (h : ρ[i]? = some (mbS o)) : Le enc (mVar i ρ) (unT o) := by
  cases o with
  | none => exact ⟨trivial⟩
  | some a => exact ⟨by show mVar i ρ = .ok (enc a); unfold mVar; rw [h]; rfl⟩
theorem q_frzm [Enc α] {o : Option (List α)} {i : Nat} {m : Env → Flow} {S : List α → Res γ} (h : ρ[i]? = some (mbL o)) (hk : ∀ a, Sim Q E (seqF (m (ρ.set i (.v (.d (enc a))))) k) (S a)) : Sim Q E (seqF (mFrz i m ρ) k) (unT o >>= S) := by
  cases o with
  | none => exact ⟨trivial⟩
  | some a =>
    unfold mFrz frzE
    rw [h]
    exact hk a
def likeR (r : Res D) : Res Bool := r >>= tru
theorem le_like {r : Res D} : Le enc r (likeR r) := by
  cases r with
  | ok d =>
    cases d <;> first | exact ⟨rfl⟩ | exact ⟨trivial⟩
  | err x => exact ⟨rfl⟩
  | bad => exact ⟨trivial⟩
/-! a mirror whose end is spoken of -/
theorem fin_of {r : Res D} {t : Res Bool} (h : Le enc r t) (ht : t = .ok true) : r = .ok (.bl true) := le_of_ok h ht
end
end Cr
/-! Tl, part 4: equality of nested data. -/
namespace Cr
open PySem L2
class PyT (α : Type) [Enc α] [DecidableEq α] where
  py : α → PyData
  h : ∀ a : α, toPy (enc a) = some (py a)
  dep : Nat
  hd : ∀ a : α, (py a).depth ≤ dep
  ok : α → Bool
  hok : ∀ a : α, (py a).canLay0 = ok a
  inj : ∀ a b : α, PyData.eqv (py a) (py b) = decide (a = b)
instance : PyT Int where
  py := .int
  h _ := rfl
  dep := 0
  hd _ := Nat.le_refl 0
  ok _ := true
  hok _ := by unfold PyData.canLay0; rfl
  inj a b := by unfold PyData.eqv; by_cases h : a = b <;> simp [h]
instance : PyT Bool where
  py := .bool
  h _ := rfl
  dep := 0
  hd _ := Nat.le_refl 0
  ok _ := true
  hok _ := by unfold PyData.canLay0; rfl
  inj a b := by unfold PyData.eqv; cases a <;> cases b <;> rfl
instance : PyT Str where
  py := .str
  h _ := rfl
  dep := 0
  hd _ := Nat.le_refl 0
  ok x := PyData.strOk x
  hok _ := by unfold PyData.canLay0; rfl
  inj a b := by unfold PyData.eqv; by_cases h : a = b <;> simp [h]
section
variable {α : Type} [Enc α] [DecidableEq α] [PyT α]
theorem pys_map : ∀ xs : List α, toPys (xs.map Enc.en) = some (xs.map PyT.py)
  | [] => rfl
  | x :: xs => by
    show (match toPy (enc x), toPys (xs.map Enc.en) with
      | some p, some ps => some (p :: ps)
      | _, _ => none) = _
    rw [PyT.h x, pys_map xs]; rfl
theorem dep_all : ∀ xs : List α, PyData.depthAll (xs.map PyT.py) ≤ PyT.dep (α := α)
  | [] => Nat.zero_le _
  | x :: xs => by
    show max (PyT.py x).depth (PyData.depthAll (xs.map PyT.py)) ≤ _
    have := PyT.hd x
    have := dep_all xs
    omega
theorem lay_all : ∀ xs : List α, PyData.canLayAll0 (xs.map PyT.py) = xs.all PyT.ok
  | [] => rfl
  | x :: xs => by
    show ((PyT.py x).canLay0 && PyData.canLayAll0 (xs.map PyT.py)) = _
    rw [PyT.hok x, lay_all xs]; rfl
theorem eqv_all : ∀ xs ys : List α, PyData.eqvAll (xs.map PyT.py) (ys.map PyT.py) = decide (xs = ys)
  | [], [] => rfl
  | [], y :: ys => rfl
  | x :: xs, [] => rfl
  | x :: xs, y :: ys => by
    show (PyData.eqv (PyT.py x) (PyT.py y) && PyData.eqvAll (xs.map PyT.py) (ys.map PyT.py)) = _
    rw [PyT.inj x y, eqv_all xs ys]
    by_cases h : x = y <;> by_cases h' : xs = ys <;> simp [h, h']
instance : PyT (List α) where
  py xs := .list (xs.map PyT.py)
  h xs := by
    show (match toPys (xs.map Enc.en) with
      | some ps => some (PyData.list ps)
      | none => none) = _
    rw [pys_map]
  dep := PyT.dep (α := α) + 1
  hd xs := Nat.succ_le_succ (dep_all xs)
  ok xs := xs.all PyT.ok
  hok xs := by show PyData.canLayAll0 (xs.map PyT.py) = _; exact lay_all xs
  inj a b := by show PyData.eqvAll (a.map PyT.py) (b.map PyT.py) = _; exact eqv_all a b
instance : PyT (TL α) where
  py xs := .tuple (xs.l.map PyT.py)
  h xs := by
    show (match toPys (xs.l.map Enc.en) with
      | some ps => some (PyData.tuple ps)
      | none => none) = _
    rw [pys_map]
  dep := PyT.dep (α := α) + 1
  hd xs := Nat.succ_le_succ (dep_all xs.l)
  ok xs := xs.l.all PyT.ok
  hok xs := by show PyData.canLayAll0 (xs.l.map PyT.py) = _; exact lay_all xs.l
  inj a b := by
    show PyData.eqvAll (a.l.map PyT.py) (b.l.map PyT.py) = _
    rw [eqv_all]
    cases a; cases b
    simp
/-- None or a value that is none of None -/
class PyN (α : Type) [Enc α] [DecidableEq α] [PyT α] : Prop where
  l : ∀ a : α, PyData.eqv .none (PyT.py a) = false
  r : ∀ a : α, PyData.eqv (PyT.py a) .none = false
instance : PyN Int := ⟨fun _ => by unfold PyData.eqv PyT.py; rfl, fun _ => by unfold PyData.eqv PyT.py; rfl⟩
instance : PyN (List α) := ⟨fun _ => by unfold PyData.eqv PyT.py; rfl, fun _ => by unfold PyData.eqv PyT.py; rfl⟩
instance : PyN (TL α) := ⟨fun _ => by unfold PyData.eqv PyT.py; rfl, fun _ => by unfold PyData.eqv PyT.py; rfl⟩
instance [PyN α] : PyT (Option α) where
  py o := match o with
    | none => .none
    | some a => PyT.py a
  h o := by
    cases o with
    | none => rfl
    | some a => exact PyT.h a
  dep := PyT.dep (α := α)
  hd o := by
    cases o with
    | none => exact Nat.zero_le _
    | some a => exact PyT.hd a
  ok o := match o with
    | none => true
    | some a => PyT.ok a
  hok o := by
    cases o with
    | none => show PyData.canLay0 .none = _; unfold PyData.canLay0; rfl
    | some a => exact PyT.hok a
  inj a b := by
    cases a with
    | none =>
      cases b with
      | none => show PyData.eqv .none .none = _; unfold PyData.eqv; rfl
      | some b => show PyData.eqv .none (PyT.py b) = _; rw [PyN.l]; rfl
    | some a =>
      cases b with
      | none => show PyData.eqv (PyT.py a) .none = _; rw [PyN.r]; rfl
      | some b => show PyData.eqv (PyT.py a) (PyT.py b) = _; rw [PyT.inj]; simp
end
section
variable {A B C E F : Type} [Enc A] [DecidableEq A] [PyT A] [Enc B] [DecidableEq B] [PyT B] [Enc C] [DecidableEq C] [PyT C]
instance : PyT (T1 A) where
  py x := .tuple [PyT.py x.a]
  h x := by
    show (match (match toPy (enc x.a), some ([] : List PyData) with
      | some p, some ps => some (p :: ps)
      | _, _ => none) with
      | some ps => some (PyData.tuple ps)
      | none => none) = _
    rw [PyT.h]
  dep := PyT.dep (α := A) + 1
  hd x := by
    show max (PyT.py x.a).depth 0 + 1 ≤ _
    have := PyT.hd x.a
    omega
  ok x := PyT.ok x.a
  hok x := by
    show ((PyT.py x.a).canLay0 && true) = _
    rw [PyT.hok, Bool.and_true]
  inj a b := by
    show (PyData.eqv (PyT.py a.a) (PyT.py b.a) && true) = _
    rw [PyT.inj, Bool.and_true]
    cases a; cases b; simp
instance : PyT (T2 A B) where
  py x := .tuple [PyT.py x.a, PyT.py x.b]
  h x := by
    show (match (match toPy (enc x.a), (match toPy (enc x.b), some ([] : List PyData) with
      | some p, some ps => some (p :: ps)
      | _, _ => none) with
      | some p, some ps => some (p :: ps)
      | _, _ => none) with
      | some ps => some (PyData.tuple ps)
      | none => none) = _
    rw [PyT.h, PyT.h]
  dep := max (PyT.dep (α := A)) (PyT.dep (α := B)) + 1
  hd x := by
    show max (PyT.py x.a).depth (max (PyT.py x.b).depth 0) + 1 ≤ _
    have := PyT.hd x.a
    have := PyT.hd x.b
    omega
  ok x := PyT.ok x.a && PyT.ok x.b
  hok x := by
    show ((PyT.py x.a).canLay0 && ((PyT.py x.b).canLay0 && true)) = _
    rw [PyT.hok, PyT.hok, Bool.and_true]
  inj a b := by
    show (PyData.eqv (PyT.py a.a) (PyT.py b.a) && (PyData.eqv (PyT.py a.b) (PyT.py b.b) && true)) = _
    rw [PyT.inj, PyT.inj, Bool.and_true]
    cases a; cases b
    simp
instance : PyT (T3 A B C) where
  py x := .tuple [PyT.py x.a, PyT.py x.b, PyT.py x.c]
  h x := by
    show (match (match toPy (enc x.a), (match toPy (enc x.b), (match toPy (enc x.c), some ([] : List PyData) with
      | some p, some ps => some (p :: ps)
      | _, _ => none) with
      | some p, some ps => some (p :: ps)
      | _, _ => none) with
      | some p, some ps => some (p :: ps)
      | _, _ => none) with
      | some ps => some (PyData.tuple ps)
      | none => none) = _
    rw [PyT.h, PyT.h, PyT.h]
  dep := max (PyT.dep (α := A)) (max (PyT.dep (α := B)) (PyT.dep (α := C))) + 1
  hd x := by
    show max (PyT.py x.a).depth (max (PyT.py x.b).depth (max (PyT.py x.c).depth 0)) + 1 ≤ _
    have := PyT.hd x.a
    have := PyT.hd x.b
    have := PyT.hd x.c
    omega
  ok x := PyT.ok x.a && (PyT.ok x.b && PyT.ok x.c)
  hok x := by
    show ((PyT.py x.a).canLay0 && ((PyT.py x.b).canLay0 && ((PyT.py x.c).canLay0 && true))) = _
    rw [PyT.hok, PyT.hok, PyT.hok, Bool.and_true]
  inj a b := by
    show (PyData.eqv (PyT.py a.a) (PyT.py b.a) && (PyData.eqv (PyT.py a.b) (PyT.py b.b) && (PyData.eqv (PyT.py a.c) (PyT.py b.c) && true))) = _
    rw [PyT.inj, PyT.inj, PyT.inj, Bool.and_true]
    cases a; cases b
    simp
instance : PyN (T1 A) := ⟨fun _ => by unfold PyData.eqv PyT.py; rfl, fun _ => by unfold PyData.eqv PyT.py; rfl⟩
instance : PyN (T2 A B) := ⟨fun _ => by unfold PyData.eqv PyT.py; rfl, fun _ => by unfold PyData.eqv PyT.py; rfl⟩
instance : PyN (T3 A B C) := ⟨fun _ => by unfold PyData.eqv PyT.py; rfl, fun _ => by unfold PyData.eqv PyT.py; rfl⟩
end
section
variable {α : Type} [Enc α] [DecidableEq α] [PyT α]
/-- equality of nested data; their texts must be such as can stand in a tuple -/
def eqT (a b : α) : Res Bool := if (PyT.ok a && PyT.ok b) = true then .ok (decide (a = b)) else .bad
def neT (a b : α) : Res Bool := if (PyT.ok a && PyT.ok b) = true then .ok (!decide (a = b)) else .bad
theorem eqB_t (a b : α) (h64 : PyT.dep (α := α) ≤ 64) (h : (PyT.ok a && PyT.ok b) = true) : eqB (enc a) (enc b) = .ok (decide (a = b)) := by
  have gen : ∀ x y : D, toPy x = some (PyT.py a) → toPy y = some (PyT.py b) → eqB x y = .ok (decide (a = b)) := by
    intro x y hx hy
    have hi := PyT.inj a b
    have s : (SeqAt.shaped (PyT.py a) && SeqAt.shaped (PyT.py b)) = true := by
      unfold SeqAt.shaped
      have h1 := PyT.hok a
      have h2 := PyT.hok b
      have h3 := PyT.hd a
      have h4 := PyT.hd b
      rw [h1, h2, decide_eq_true (by omega), decide_eq_true (by omega)]
      simpa using h
    have dflt : (match toPy x, toPy y with
      | some p, some q => if SeqAt.shaped p && SeqAt.shaped q then Res.ok (PyData.eqv p q) else .bad
      | _, _ => .bad) = .ok (decide (a = b)) := by
      rw [hx, hy]
      show (if (SeqAt.shaped (PyT.py a) && SeqAt.shaped (PyT.py b)) = true then Res.ok (PyData.eqv (PyT.py a) (PyT.py b)) else .bad) = _
      rw [if_pos s, hi]
    cases x <;> cases y <;> first
      | exact dflt
      | (simp only [toPy, Option.some.injEq] at hx hy
         rw [← hx, ← hy] at hi
         unfold PyData.eqv at hi
         rw [← hi]
         first
           | rfl
           | (rename_i u v
              show Res.ok (decide (u = v)) = _
              by_cases q : u = v <;> simp [q]))
  exact gen _ _ (PyT.h a) (PyT.h b)
theorem le_eqT (a b : α) (h64 : PyT.dep (α := α) ≤ 64) : Le enc (eqD (enc a) (enc b)) (eqT a b) := by
  unfold eqT
  by_cases h : (PyT.ok a && PyT.ok b) = true
  · rw [if_pos h]
    exact ⟨by unfold eqD; rw [eqB_t a b h64 h]; rfl⟩
  · rw [if_neg h]; exact ⟨trivial⟩
theorem le_neT (a b : α) (h64 : PyT.dep (α := α) ≤ 64) : Le enc (neD (enc a) (enc b)) (neT a b) := by
  unfold neT
  by_cases h : (PyT.ok a && PyT.ok b) = true
  · rw [if_pos h]
    exact ⟨by unfold neD; rw [eqB_t a b h64 h]; rfl⟩
  · rw [if_neg h]; exact ⟨trivial⟩
end
theorem le_max2 (xs : List Int) : Le enc (maxD2 [enc xs]) (maxT xs) := le_max xs
theorem le_min2 (xs : List Int) : Le enc (minD2 [enc xs]) (minT xs) := le_min xs
theorem le_maxt (xs : TL Int) : Le enc (maxD2 [enc xs]) (maxT xs.l) := le_max xs.l
theorem le_mint (xs : TL Int) : Le enc (minD2 [enc xs]) (minT xs.l) := le_min xs.l
end Cr
namespace Cr
open PySem L2
/-! the mirrors of law_k01_whole_numbers_and_intervals, printed by gen.py -/
def b_check_divisor : Env → Flow := (mIfS (mTst (mBin ltD (mVar 0) (mC (.int 1)))) (mRaise (.own 1)) mEnd)
def m_check_divisor : List D → Res D := runD 1 b_check_divisor
def b_divided_down : Env → Flow := (mSeq (mEx (mArg m_check_divisor (mCons (mVar 1) mNil))) (mRet (mBin fdivD (mVar 0) (mVar 1))))
def m_divided_down : List D → Res D := runD 2 b_divided_down
def b_divided_up : Env → Flow := (mSeq (mEx (mArg m_check_divisor (mCons (mVar 1) mNil))) (mRet (mUn negD (mBin fdivD (mUn negD (mVar 0)) (mVar 1)))))
def m_divided_up : List D → Res D := runD 2 b_divided_up
def b_root_down : Env → Flow := (mSeq (mIfS (mTst (mBin ltD (mVar 0) (mC (.int 0)))) (mRaise (.own 1)) mEnd) (mSeq (mSet 1 (mC (.int 0))) (mSeq (mSet 2 (mBin shlD (mC (.int 1)) (mBin addD (mBin fdivD (mUn bitsD (mVar 0)) (mC (.int 2))) (mC (.int 1))))) (mSeq (whileL (mTst (mBin gtD (mBin subD (mVar 2) (mVar 1)) (mC (.int 1)))) (mSeq (mSet 3 (mBin fdivD (mBin addD (mVar 1) (mVar 2)) (mC (.int 2)))) (mIfS (mTst (mBin leD (mBin mulD (mVar 3) (mVar 3)) (mVar 0))) (mSet 1 (mVar 3)) (mSet 2 (mVar 3)))) 1000) (mRet (mVar 1))))))
def m_root_down : List D → Res D := runD 4 b_root_down
def b_root_up : Env → Flow := (mSeq (mSet 1 (mArg m_root_down (mCons (mVar 0) mNil))) (mRet (mIf (mTst (mBin eqD (mBin mulD (mVar 1) (mVar 1)) (mVar 0))) (mVar 1) (mBin addD (mVar 1) (mC (.int 1))))))
def m_root_up : List D → Res D := runD 2 b_root_up
def b_is_interval : Env → Flow := (mRet (mAndV (mBin eqD (mArg lenD (mCons (mVar 0) mNil)) (mC (.int 2))) (mBin leD (mBin idxD (mVar 0) (mC (.int 0))) (mBin idxD (mVar 0) (mC (.int 1))))))
def m_is_interval : List D → Res D := runD 1 b_is_interval
def b_added : Env → Flow := (mRet (mTup (mCons (mBin addD (mBin idxD (mVar 0) (mC (.int 0))) (mBin idxD (mVar 1) (mC (.int 0)))) (mCons (mBin addD (mBin idxD (mVar 0) (mC (.int 1))) (mBin idxD (mVar 1) (mC (.int 1)))) mNil))))
def m_added : List D → Res D := runD 2 b_added
def b_hull : Env → Flow := (mRet (mTup (mCons (mArg min2D (mCons (mBin idxD (mVar 0) (mC (.int 0))) (mCons (mBin idxD (mVar 1) (mC (.int 0))) mNil))) (mCons (mArg max2D (mCons (mBin idxD (mVar 0) (mC (.int 1))) (mCons (mBin idxD (mVar 1) (mC (.int 1))) mNil))) mNil))))
def m_hull : List D → Res D := runD 2 b_hull
def b_common : Env → Flow := (mSeq (mSet 2 (mTup (mCons (mArg max2D (mCons (mBin idxD (mVar 0) (mC (.int 0))) (mCons (mBin idxD (mVar 1) (mC (.int 0))) mNil))) (mCons (mArg min2D (mCons (mBin idxD (mVar 0) (mC (.int 1))) (mCons (mBin idxD (mVar 1) (mC (.int 1))) mNil))) mNil)))) (mRet (mIf (mTst (mBin leD (mBin idxD (mVar 2) (mC (.int 0))) (mBin idxD (mVar 2) (mC (.int 1))))) (mVar 2) (mC .non))))
def m_common : List D → Res D := runD 3 b_common
def b_law_cell : Env → Flow := (mSeq (mIfS (mTst (mBin ltD (mVar 1) (mArg lenD (mCons (mVar 0) mNil)))) (mRet (mArg absD (mCons (mArg intD (mCons (mBin idxD (mVar 0) (mVar 1)) mNil)) mNil))) mEnd) (mRet (mC (.int 0))))
def m_law_cell : List D → Res D := runD 2 b_law_cell
def b_law_draws : Env → Flow := (mSeq (mSetO 2 (mLst mNil)) (mSeq (mSet 3 (mVar 0)) (mSeq (mFor (mArg rng1 (mCons (mVar 1) mNil)) (gN 4) (mIfS (mAnd (mTst (mBin geD (mVar 0) (mBin powD (mC (.int 10)) (mC (.int 18))))) (mTst (mBin gtD (mVar 3) (mC (.int 0))))) (mSeq (mLm 2 appG (mCons (mBin modD (mArg intD (mCons (mVar 3) mNil)) (mC (.int 4096))) mNil)) (mSet 3 (mBin fdivD (mVar 3) (mC (.int 4096))))) (mSeq (mSet 5 (mBin modD (mArg intD (mCons (mBin addD (mBin mulD (mVar 0) (mC (.int 48271))) (mBin mulD (mBin addD (mVar 4) (mC (.int 1))) (mC (.int 69621)))) mNil)) (mC (.int 2147483647)))) (mSeq (mSet 5 (mBin modD (mArg intD (mCons (mBin addD (mBin addD (mBin mulD (mVar 5) (mVar 5)) (mBin mulD (mVar 5) (mC (.int 16807)))) (mBin mulD (mVar 4) (mC (.int 7919)))) mNil)) (mC (.int 2147483629)))) (mSeq (mSet 5 (mBin modD (mArg intD (mCons (mBin addD (mBin addD (mBin mulD (mVar 5) (mVar 5)) (mVar 0)) (mBin mulD (mC (.int 13)) (mVar 4))) mNil)) (mC (.int 2147483587)))) (mLm 2 appG (mCons (mBin modD (mBin fdivD (mVar 5) (mC (.int 7))) (mC (.int 4096))) mNil))))))) (mFrz 2 (mRet (mVar 2))))))
def m_law_draws : List D → Res D := runD 6 b_law_draws
def b_law_like (m_law_like : List D → Res D) : Env → Flow := (mSeq (mIfS (mTst (mBin isNonD (mVar 1) (mC .non))) (mRet (mBin isNonD (mVar 0) (mC .non))) mEnd) (mSeq (mIfS (mTst (mUn (isiD .bool) (mVar 1))) (mRet (mAndV (mUn (isiD .bool) (mVar 0)) (mBin eqD (mVar 0) (mVar 1)))) mEnd) (mSeq (mIfS (mTst (mUn (isiD .str) (mVar 1))) (mRet (mAndV (mUn (isiD .str) (mVar 0)) (mBin eqD (mVar 0) (mVar 1)))) mEnd) (mSeq (mIfS (mTst (mUn (isiD .int) (mVar 1))) (mRet (mAndV (mUn (isiD .int) (mVar 0)) (mAndV (mNotV (mUn (isiD .bool) (mVar 0))) (mBin eqD (mVar 0) (mVar 1))))) mEnd) (mSeq (mIfS (mOr (mTst (mBin neD (mUn (isiD .list) (mVar 1)) (mUn (isiD .list) (mVar 0)))) (mTst (mBin neD (mUn (isiD .tuple) (mVar 1)) (mUn (isiD .tuple) (mVar 0))))) (mRet (mC (.bl false))) mEnd) (mSeq (mIfS (mTst (mBin neD (mArg lenD (mCons (mVar 0) mNil)) (mArg lenD (mCons (mVar 1) mNil)))) (mRet (mC (.bl false))) mEnd) (mRet (mArg allD (mCons (toE (mComp [2] (mArg rng1 (mCons (mArg lenD (mCons (mVar 1) mNil)) mNil)) (gN 2) mYes (mArg m_law_like (mCons (mBin idxD (mVar 0) (mVar 2)) (mCons (mBin idxD (mVar 1) (mVar 2)) mNil))))) mNil)))))))))
def m_law_like : Nat → List D → Res D
  | 0 => fun _ => .bad
  | n + 1 => runD 3 (b_law_like (m_law_like n))
def b_law_refused : Env → Flow := (mSeq (mTry [1] 1 (mIfS (mTst (mBin eqD (mVar 0) (mC (.int 0)))) (mEx (mArg m_divided_down (mCons (mVar 1) (mCons (mBin subD (mC (.int 0)) (mBin modD (mVar 1) (mC (.int 5)))) mNil)))) (mIfS (mTst (mBin eqD (mVar 0) (mC (.int 1)))) (mEx (mArg m_divided_up (mCons (mVar 1) (mCons (mBin subD (mC (.int 0)) (mBin modD (mVar 1) (mC (.int 3)))) mNil)))) (mIfS (mTst (mBin eqD (mVar 0) (mC (.int 2)))) (mEx (mArg m_root_down (mCons (mBin subD (mUn negD (mC (.int 1))) (mVar 1)) mNil))) (mEx (mArg m_root_up (mCons (mBin subD (mUn negD (mC (.int 1))) (mVar 1)) mNil)))))) (mRet (mC (.bl true)))) (mRet (mC (.bl false))))
def m_law_refused : List D → Res D := runD 2 b_law_refused
def b_law : Env → Flow := (mSeq (mSet 1 (mArg m_law_draws (mCons (mArg m_law_cell (mCons (mVar 0) (mCons (mC (.int 0)) mNil))) (mCons (mC (.int 16)) mNil)))) (mSeq (mSet 2 (mBin modD (mArg intD (mCons (mArg m_law_cell (mCons (mVar 0) (mCons (mC (.int 1)) mNil))) mNil)) (mBin powD (mC (.int 10)) (mC (.int 60))))) (mSeq (mFor (mUnF seqOf (toE (mLst (mCons (mVar 2) (mCons (mBin subD (mC (.int 0)) (mVar 2)) (mCons (mBin subD (mBin idxD (mVar 1) (mC (.int 0))) (mC (.int 2000))) (mCons (mBin subD (mBin addD (mBin mulD (mBin idxD (mVar 1) (mC (.int 1))) (mBin idxD (mVar 1) (mC (.int 1)))) (mBin modD (mBin idxD (mVar 1) (mC (.int 2))) (mC (.int 3)))) (mC (.int 1))) mNil))))))) (gN 3) (mSeq (mSet 9 (mBin addD (mC (.int 1)) (mBin idxD (toE (mLst (mCons (mBin modD (mBin idxD (mVar 1) (mC (.int 3))) (mC (.int 9))) (mCons (mBin idxD (mVar 1) (mC (.int 3))) (mCons (mBin modD (mVar 2) (mBin powD (mC (.int 10)) (mC (.int 20)))) mNil))))) (mBin modD (mBin idxD (mVar 1) (mC (.int 4))) (mC (.int 3)))))) (mSeq (mSet 10 (mArg m_divided_down (mCons (mVar 3) (mCons (mVar 9) mNil)))) (mSeq (mIfS (mNot (mTst (mUn (isiD .int) (mVar 10)))) (mRet (mC (.bl false))) mEnd) (mSeq (mSet 11 (mArg m_divided_up (mCons (mVar 3) (mCons (mVar 9) mNil)))) (mSeq (mIfS (mNot (mTst (mUn (isiD .int) (mVar 11)))) (mRet (mC (.bl false))) mEnd) (mSeq (mIfS (mOr (mNot (mTst (mChain leD ltD (mBin mulD (mVar 10) (mVar 9)) (mVar 3) (mBin mulD (mBin addD (mVar 10) (mC (.int 1))) (mVar 9))))) (mNot (mTst (mChain ltD leD (mBin mulD (mBin subD (mVar 11) (mC (.int 1))) (mVar 9)) (mVar 3) (mBin mulD (mVar 11) (mVar 9)))))) (mRet (mC (.bl false))) mEnd) (mIfS (mTst (mBin geD (mVar 3) (mC (.int 0)))) (mSeq (mSet 12 (mArg m_root_down (mCons (mVar 3) mNil))) (mSeq (mSet 13 (mArg m_root_up (mCons (mVar 3) mNil))) (mSeq (mIfS (mOr (mTst (mBin ltD (mVar 12) (mC (.int 0)))) (mOr (mNot (mTst (mChain leD ltD (mBin mulD (mVar 12) (mVar 12)) (mVar 3) (mBin mulD (mBin addD (mVar 12) (mC (.int 1))) (mBin addD (mVar 12) (mC (.int 1))))))) (mTst (mBin ltD (mBin mulD (mVar 13) (mVar 13)) (mVar 3))))) (mRet (mC (.bl false))) mEnd) (mIfS (mOr (mAnd (mTst (mBin gtD (mVar 13) (mC (.int 0)))) (mTst (mBin geD (mBin mulD (mBin subD (mVar 13) (mC (.int 1))) (mBin subD (mVar 13) (mC (.int 1)))) (mVar 3)))) (mTst (mBin ltD (mVar 13) (mC (.int 0))))) (mRet (mC (.bl false))) mEnd)))) mEnd)))))))) (mSeq (mSet 4 (mTup (mCons (mBin subD (mBin modD (mBin idxD (mVar 1) (mC (.int 5))) (mC (.int 40))) (mC (.int 20))) (mCons (mBin addD (mBin subD (mBin modD (mBin idxD (mVar 1) (mC (.int 5))) (mC (.int 40))) (mC (.int 20))) (mBin modD (mBin idxD (mVar 1) (mC (.int 6))) (mC (.int 20)))) mNil)))) (mSeq (mSet 5 (mTup (mCons (mBin subD (mBin modD (mBin idxD (mVar 1) (mC (.int 7))) (mC (.int 40))) (mC (.int 20))) (mCons (mBin addD (mBin subD (mBin modD (mBin idxD (mVar 1) (mC (.int 7))) (mC (.int 40))) (mC (.int 20))) (mBin modD (mBin idxD (mVar 1) (mC (.int 8))) (mC (.int 20)))) mNil)))) (mSeq (mIfS (mNot (mTst (mArg (m_law_like 8) (mCons (mArg m_added (mCons (mVar 4) (mCons (mVar 5) mNil))) (mCons (mTup (mCons (mBin addD (mBin idxD (mVar 4) (mC (.int 0))) (mBin idxD (mVar 5) (mC (.int 0)))) (mCons (mBin addD (mBin idxD (mVar 4) (mC (.int 1))) (mBin idxD (mVar 5) (mC (.int 1)))) mNil))) mNil))))) (mRet (mC (.bl false))) mEnd) (mSeq (mSet 6 (toE (mComp [14] (mArg rng2 (mCons (mUn negD (mC (.int 30))) (mCons (mC (.int 60)) mNil))) (gN 14) (mTst (mChain leD leD (mBin idxD (mVar 4) (mC (.int 0))) (mVar 14) (mBin idxD (mVar 4) (mC (.int 1))))) (mVar 14)))) (mSeq (mSet 6 (toE (mComp [14] (mUnF seqOf (mVar 6)) (gN 14) (mTst (mChain leD leD (mBin idxD (mVar 5) (mC (.int 0))) (mVar 14) (mBin idxD (mVar 5) (mC (.int 1))))) (mVar 14)))) (mSeq (mSet 7 (mC .non)) (mSeq (mIfS (mTst (mBin gtD (mArg lenD (mCons (mVar 6) mNil)) (mC (.int 0)))) (mSet 7 (mTup (mCons (mBin idxD (mVar 6) (mC (.int 0))) (mCons (mBin idxD (mVar 6) (mUn negD (mC (.int 1)))) mNil)))) mEnd) (mSeq (mIfS (mOr (mNot (mTst (mArg (m_law_like 8) (mCons (mArg m_common (mCons (mVar 4) (mCons (mVar 5) mNil))) (mCons (mVar 7) mNil))))) (mNot (mTst (mArg (m_law_like 8) (mCons (mArg m_hull (mCons (mVar 4) (mCons (mVar 5) mNil))) (mCons (mTup (mCons (mArg minD2 (mCons (mBin addD (mVar 4) (mVar 5)) mNil)) (mCons (mArg maxD2 (mCons (mBin addD (mVar 4) (mVar 5)) mNil)) mNil))) mNil)))))) (mRet (mC (.bl false))) mEnd) (mSeq (mSet 8 (mTup (mCons (mBin modD (mBin idxD (mVar 1) (mC (.int 9))) (mC (.int 5))) (mCons (mBin modD (mBin idxD (mVar 1) (mC (.int 10))) (mC (.int 5))) mNil)))) (mSeq (mIfS (mNot (mTst (mArg (m_law_like 8) (mCons (toE (mLst (mCons (mArg m_is_interval (mCons (mVar 8) mNil)) (mCons (mArg m_is_interval (mCons (mVar 4) mNil)) (mCons (mArg m_is_interval (mCons (mBin addD (mVar 4) (mTup (mCons (mC (.int 9)) mNil))) mNil)) (mCons (mArg m_is_interval (mCons (mTup mNil) mNil)) mNil)))))) (mCons (toE (mLst (mCons (mBin leD (mBin idxD (mVar 8) (mC (.int 0))) (mBin idxD (mVar 8) (mC (.int 1)))) (mCons (mC (.bl true)) (mCons (mC (.bl false)) (mCons (mC (.bl false)) mNil)))))) mNil))))) (mRet (mC (.bl false))) mEnd) (mRet (mArg allD (mCons (toE (mComp [15] (mArg rng1 (mCons (mC (.int 4)) mNil)) (gN 15) mYes (mArg m_law_refused (mCons (mVar 15) (mCons (mVar 2) mNil))))) mNil))))))))))))))))
def m_law : List D → Res D := runD 16 b_law
end Cr
namespace Cr
open PySem L2
/-! typed readings of law_k01_whole_numbers_and_intervals, printed by tgen.py -/
def t_check_divisor (divisor1 : Int) : Res Unit :=
 (if (decide (divisor1 < (1 : Int))) = true then
 (.err (.own 1))
 else (.ok ()))
theorem r_check_divisor (divisor1 : Int) : Le enc (m_check_divisor [enc divisor1]) (t_check_divisor divisor1) := by
  unfold m_check_divisor b_check_divisor t_check_divisor
  exact le_fn [.v (.d (enc divisor1))] rfl (q_if (c_okb (decide (divisor1 < (1 : Int))) (p_tst (p_bin (x := enc divisor1) (y := enc (1 : Int)) rfl rfl rfl)) (q_ite (fun _ => (q_raise trivial)) (fun _ => (q_end (s_nF () rfl))))))
def t_divided_down (number2 : Int) (divisor3 : Int) : Res Int :=
 ((t_check_divisor divisor3) >>= fun v4 =>
 ((fdivT number2 divisor3) >>= fun r5 =>
 (.ok r5)))
theorem r_divided_down (number2 : Int) (divisor3 : Int) : Le enc (m_divided_down [enc number2, enc divisor3]) (t_divided_down number2 divisor3) := by
  unfold m_divided_down b_divided_down t_divided_down
  exact le_fn [.v (.d (enc number2)), .v (.d (enc divisor3))] rfl (q_seq (q_ex (c_arg (c_cons (c_ok divisor3 rfl (c_nil (c_leaf (r_check_divisor divisor3) trivial fun v4 => (q_ret (c_bin (c_ok number2 rfl (c_ok divisor3 rfl (c_leaf (le_fdiv number2 divisor3) trivial fun r5 => (s_rt r5 rfl)))))))))))))
def t_divided_up (number6 : Int) (divisor7 : Int) : Res Int :=
 ((t_check_divisor divisor7) >>= fun v8 =>
 ((fdivT (-number6) divisor7) >>= fun v9 =>
 (.ok (-v9))))
theorem r_divided_up (number6 : Int) (divisor7 : Int) : Le enc (m_divided_up [enc number6, enc divisor7]) (t_divided_up number6 divisor7) := by
  unfold m_divided_up b_divided_up t_divided_up
  exact le_fn [.v (.d (enc number6)), .v (.d (enc divisor7))] rfl (q_seq (q_ex (c_arg (c_cons (c_ok divisor7 rfl (c_nil (c_leaf (r_check_divisor divisor7) trivial fun v8 => (q_ret (c_un (c_bin (c_ok (-number6) (p_un (x := enc number6) rfl rfl) (c_ok divisor7 rfl (c_leaf (le_fdiv (-number6) divisor7) trivial fun v9 => (c_ok (-v9) rfl (s_rt (-v9) rfl)))))))))))))))
def t_root_down (number10 : Int) : Res Int :=
 (if (decide (number10 < (0 : Int))) = true then
 (.err (.own 1))
 else ((shlT (1 : Int) (((bitsI number10) / (2 : Int)) + (1 : Int))) >>= fun high11 =>
 (whileT (fun (s12 : (Int × Int)) => (.ok (decide ((1 : Int) < (s12.2 - s12.1))))) (fun s12 =>
 (letT ((s12.1 + s12.2) / (2 : Int)) fun middle18 =>
 ((mulT middle18 middle18) >>= fun v19 =>
 (if (decide (v19 ≤ number10)) = true then
 (.ok (middle18, s12.2))
 else (.ok (s12.1, middle18)))))) 1000 ((0 : Int), high11) >>= fun s15 =>
 (.ok s15.1))))
theorem r_root_down (number10 : Int) : Le enc (m_root_down [enc number10]) (t_root_down number10) := by
  unfold m_root_down b_root_down t_root_down
  exact le_fn [.v (.d (enc number10)), .no, .no, .no] rfl (q_seq (q_if (c_okb (decide (number10 < (0 : Int))) (p_tst (p_bin (x := enc number10) (y := enc (0 : Int)) rfl rfl rfl)) (q_ite (fun _ => (q_raise trivial)) (fun _ => (q_end (q_seq (q_set (c_ok (0 : Int) rfl (q_put (i := 1) [.v (.d (enc number10)), .v (.d (enc (0 : Int))), .no, .no] rfl rfl (q_seq (q_set (c_bin (c_ok (1 : Int) rfl (c_ok (((bitsI number10) / (2 : Int)) + (1 : Int)) (p_bin (x := enc ((bitsI number10) / (2 : Int))) (y := enc (1 : Int)) (p_bin (x := enc (bitsI number10)) (y := enc (2 : Int)) (p_un (x := enc number10) rfl rfl) rfl (k_fdiv (bitsI number10) (2 : Int) (by decide))) rfl rfl) (c_leaf (le_shl (1 : Int) (((bitsI number10) / (2 : Int)) + (1 : Int))) trivial fun high11 => (q_put (i := 2) [.v (.d (enc number10)), .v (.d (enc (0 : Int))), .v (.d (enc high11)), .no] rfl rfl (q_seq (q_while (I := (fun (s : (Int × Int)) (ρ : Env) => ∃ u0 : Sl, ρ = [.v (.d (enc number10)), .v (.d (enc s.1)), .v (.d (enc s.2)), u0] ∧ fre u0)) (s0 := ((0 : Int), high11)) ⟨.no, rfl, fre_no⟩ (fun _ _ _ => trivial) (by intro s12 ρ h; obtain ⟨u13, rfl, w14⟩ := h; exact (le_simb (ρ := [.v (.d (enc number10)), .v (.d (enc s12.1)), .v (.d (enc s12.2)), u13]) (c_okb (decide ((1 : Int) < (s12.2 - s12.1))) (p_tst (p_bin (x := enc (s12.2 - s12.1)) (y := enc (1 : Int)) (p_bin (x := enc s12.2) (y := enc s12.1) rfl rfl rfl) rfl rfl)) (e_val (decide ((1 : Int) < (s12.2 - s12.1))) rfl)))) (by intro s12 ρ h; obtain ⟨u13, rfl, w14⟩ := h; exact (q_seq (q_set (c_okL ((s12.1 + s12.2) / (2 : Int)) (p_bin (x := enc (s12.1 + s12.2)) (y := enc (2 : Int)) (p_bin (x := enc s12.1) (y := enc s12.2) rfl rfl rfl) rfl (k_fdiv (s12.1 + s12.2) (2 : Int) (by decide))) fun middle18 => (q_put (i := 3) [.v (.d (enc number10)), .v (.d (enc s12.1)), .v (.d (enc s12.2)), .v (.d (enc middle18))] (ok_fre rfl w14) rfl (q_if (c_tst (c_bin (c_bin (c_ok middle18 rfl (c_ok middle18 rfl (c_leaf (le_mul middle18 middle18) trivial fun v19 => (c_ok number10 rfl (c_ok (decide (v19 ≤ number10)) rfl (c_tru (q_ite (fun _ => (q_set (c_ok middle18 rfl (q_put (i := 1) [.v (.d (enc number10)), .v (.d (enc middle18)), .v (.d (enc s12.2)), .v (.d (enc middle18))] rfl rfl (s_nx (s := (middle18, s12.2)) ⟨.v (.d (enc middle18)), rfl, (fre_v _)⟩))))) (fun _ => (q_set (c_ok middle18 rfl (q_put (i := 2) [.v (.d (enc number10)), .v (.d (enc s12.1)), .v (.d (enc middle18)), .v (.d (enc middle18))] rfl rfl (s_nx (s := (s12.1, middle18)) ⟨.v (.d (enc middle18)), rfl, (fre_v _)⟩))))))))))))))))))))) (by intro s15 ρ h; obtain ⟨u16, rfl, w17⟩ := h; exact (q_ret (c_ok s15.1 rfl (s_rt s15.1 rfl)))))))))))))))))))))))
def t_root_up (number20 : Int) : Res Int :=
 ((t_root_down number20) >>= fun found21 =>
 ((mulT found21 found21) >>= fun v22 =>
 ((ifR (decide (v22 = number20)) (.ok found21) (.ok (found21 + (1 : Int)))) >>= fun r23 =>
 (.ok r23))))
theorem r_root_up (number20 : Int) : Le enc (m_root_up [enc number20]) (t_root_up number20) := by
  unfold m_root_up b_root_up t_root_up
  exact le_fn [.v (.d (enc number20)), .no] rfl (q_seq (q_set (c_arg (c_cons (c_ok number20 rfl (c_nil (c_leaf (r_root_down number20) trivial fun found21 => (q_put (i := 1) [.v (.d (enc number20)), .v (.d (enc found21))] rfl rfl (q_ret (c_if (c_tst (c_bin (c_bin (c_ok found21 rfl (c_ok found21 rfl (c_leaf (le_mul found21 found21) trivial fun v22 => (c_ok number20 rfl (c_ok (decide (v22 = number20)) (k_eq v22 number20) (c_tru (c_leaf (le_if (fun _ => (le_sim (ρ := [.v (.d (enc number20)), .v (.d (enc found21))]) (c_ok found21 rfl (e_val found21 rfl)))) (fun _ => (le_sim (ρ := [.v (.d (enc number20)), .v (.d (enc found21))]) (c_ok (found21 + (1 : Int)) (p_bin (x := enc found21) (y := enc (1 : Int)) rfl rfl rfl) (e_val (found21 + (1 : Int)) rfl))))) trivial fun r23 => (s_rt r23 rfl)))))))))))))))))))))
def t_is_interval (pair24 : (TL Int)) : Res Bool :=
 ((andR (decide ((pair24.l.length : Int) = (2 : Int))) ((idxT pair24.l (0 : Int)) >>= fun v25 =>
 ((idxT pair24.l (1 : Int)) >>= fun v26 =>
 (.ok (decide (v25 ≤ v26)))))) >>= fun r27 =>
 (.ok r27))
theorem r_is_interval (pair24 : (TL Int)) : Le enc (m_is_interval [enc pair24]) (t_is_interval pair24) := by
  unfold m_is_interval b_is_interval t_is_interval
  exact le_fn [.v (.d (enc pair24))] rfl (q_ret (c_andV (c_ok (decide ((pair24.l.length : Int) = (2 : Int))) (p_bin (x := enc (pair24.l.length : Int)) (y := enc (2 : Int)) (p_arg (p_cons (x := enc pair24) rfl p_nil) (k_lent pair24)) rfl (k_eq (pair24.l.length : Int) (2 : Int))) (c_tru (c_leaf (le_andV fun _ => (le_sim (ρ := [.v (.d (enc pair24))]) (c_bin (c_bin (c_ok pair24 rfl (c_ok (0 : Int) rfl (c_leaf (le_idxt pair24 (0 : Int)) trivial fun v25 => (c_bin (c_ok pair24 rfl (c_ok (1 : Int) rfl (c_leaf (le_idxt pair24 (1 : Int)) trivial fun v26 => (c_ok (decide (v25 ≤ v26)) rfl (e_val (decide (v25 ≤ v26)) rfl))))))))))))) trivial fun r27 => (s_rt r27 rfl))))))
def t_added (first28 : (T2 Int Int)) (second29 : (T2 Int Int)) : Res (T2 Int Int) :=
 (.ok (⟨(first28.a + second29.a), (first28.b + second29.b)⟩ : (T2 Int Int)))
theorem r_added (first28 : (T2 Int Int)) (second29 : (T2 Int Int)) : Le enc (m_added [enc first28, enc second29]) (t_added first28 second29) := by
  unfold m_added b_added t_added
  exact le_fn [.v (.d (enc first28)), .v (.d (enc second29))] rfl (q_ret (c_ok (⟨(first28.a + second29.a), (first28.b + second29.b)⟩ : (T2 Int Int)) (p_tup (p_cons (x := enc (first28.a + second29.a)) (p_bin (x := enc first28.a) (y := enc second29.a) (p_bin (x := enc first28) (y := enc (0 : Int)) rfl rfl rfl) (p_bin (x := enc second29) (y := enc (0 : Int)) rfl rfl rfl) rfl) (p_cons (x := enc (first28.b + second29.b)) (p_bin (x := enc first28.b) (y := enc second29.b) (p_bin (x := enc first28) (y := enc (1 : Int)) rfl rfl rfl) (p_bin (x := enc second29) (y := enc (1 : Int)) rfl rfl rfl) rfl) p_nil)) rfl) (s_rt (⟨(first28.a + second29.a), (first28.b + second29.b)⟩ : (T2 Int Int)) rfl)))
def t_hull (first30 : (T2 Int Int)) (second31 : (T2 Int Int)) : Res (T2 Int Int) :=
 (.ok (⟨(min first30.a second31.a), (max first30.b second31.b)⟩ : (T2 Int Int)))
theorem r_hull (first30 : (T2 Int Int)) (second31 : (T2 Int Int)) : Le enc (m_hull [enc first30, enc second31]) (t_hull first30 second31) := by
  unfold m_hull b_hull t_hull
  exact le_fn [.v (.d (enc first30)), .v (.d (enc second31))] rfl (q_ret (c_ok (⟨(min first30.a second31.a), (max first30.b second31.b)⟩ : (T2 Int Int)) (p_tup (p_cons (x := enc (min first30.a second31.a)) (p_arg (p_cons (x := enc first30.a) (p_bin (x := enc first30) (y := enc (0 : Int)) rfl rfl rfl) (p_cons (x := enc second31.a) (p_bin (x := enc second31) (y := enc (0 : Int)) rfl rfl rfl) p_nil)) rfl) (p_cons (x := enc (max first30.b second31.b)) (p_arg (p_cons (x := enc first30.b) (p_bin (x := enc first30) (y := enc (1 : Int)) rfl rfl rfl) (p_cons (x := enc second31.b) (p_bin (x := enc second31) (y := enc (1 : Int)) rfl rfl rfl) p_nil)) rfl) p_nil)) rfl) (s_rt (⟨(min first30.a second31.a), (max first30.b second31.b)⟩ : (T2 Int Int)) rfl)))
def t_common (first32 : (T2 Int Int)) (second33 : (T2 Int Int)) : Res (Option (T2 Int Int)) :=
 (letT (⟨(max first32.a second33.a), (min first32.b second33.b)⟩ : (T2 Int Int)) fun found34 =>
 (.ok (if (decide (found34.a ≤ found34.b)) = true then (some found34) else (none : (Option (T2 Int Int))))))
theorem r_common (first32 : (T2 Int Int)) (second33 : (T2 Int Int)) : Le enc (m_common [enc first32, enc second33]) (t_common first32 second33) := by
  unfold m_common b_common t_common
  exact le_fn [.v (.d (enc first32)), .v (.d (enc second33)), .no] rfl (q_seq (q_set (c_okL (⟨(max first32.a second33.a), (min first32.b second33.b)⟩ : (T2 Int Int)) (p_tup (p_cons (x := enc (max first32.a second33.a)) (p_arg (p_cons (x := enc first32.a) (p_bin (x := enc first32) (y := enc (0 : Int)) rfl rfl rfl) (p_cons (x := enc second33.a) (p_bin (x := enc second33) (y := enc (0 : Int)) rfl rfl rfl) p_nil)) rfl) (p_cons (x := enc (min first32.b second33.b)) (p_arg (p_cons (x := enc first32.b) (p_bin (x := enc first32) (y := enc (1 : Int)) rfl rfl rfl) (p_cons (x := enc second33.b) (p_bin (x := enc second33) (y := enc (1 : Int)) rfl rfl rfl) p_nil)) rfl) p_nil)) rfl) fun found34 => (q_put (i := 2) [.v (.d (enc first32)), .v (.d (enc second33)), .v (.d (enc found34))] rfl rfl (q_ret (c_ok (if (decide (found34.a ≤ found34.b)) = true then (some found34) else (none : (Option (T2 Int Int)))) (p_if (p_tst (p_bin (x := enc found34.a) (y := enc found34.b) (p_bin (x := enc found34) (y := enc (0 : Int)) rfl rfl rfl) (p_bin (x := enc found34) (y := enc (1 : Int)) rfl rfl rfl) rfl)) rfl rfl) (s_rt (if (decide (found34.a ≤ found34.b)) = true then (some found34) else (none : (Option (T2 Int Int)))) rfl)))))))
def t_law_cell (script35 : Scr) (k36 : Int) : Res Int :=
 (if (decide (k36 < (script35.l.length : Int))) = true then
 ((idxT script35.l k36) >>= fun v37 =>
 (.ok (if v37 < 0 then -v37 else v37)))
 else (.ok (0 : Int)))
theorem r_law_cell (script35 : Scr) (k36 : Int) : Le enc (m_law_cell [enc script35, enc k36]) (t_law_cell script35 k36) := by
  unfold m_law_cell b_law_cell t_law_cell
  exact le_fn [.v (.d (enc script35)), .v (.d (enc k36))] rfl (q_seq (q_if (c_okb (decide (k36 < (script35.l.length : Int))) (p_tst (p_bin (x := enc k36) (y := enc (script35.l.length : Int)) rfl (p_arg (p_cons (x := enc script35) rfl p_nil) (k_lens script35)) rfl)) (q_ite (fun _ => (q_ret (c_arg (c_cons (c_arg (c_cons (c_bin (c_ok script35 rfl (c_ok k36 rfl (c_leaf (le_idxs script35 k36) trivial fun v37 => (c_nil (c_ok v37 rfl (c_nil (c_ok (if v37 < 0 then -v37 else v37) rfl (s_rt (if v37 < 0 then -v37 else v37) rfl))))))))))))))) (fun _ => (q_end (q_ret (c_ok (0 : Int) rfl (s_rt (0 : Int) rfl)))))))))
def t_law_draws (cell38 : Int) (count39 : Int) : Res (List Int) :=
 ((rngT count39) >>= fun v50 =>
 (foldT (fun (x51 : Int) (s40 : ((List Int) × Int)) =>
 (if ((decide ((1000000000000000000 : Int) ≤ cell38)) && (decide ((0 : Int) < s40.2))) = true then
 (appT s40.1 (s40.2 % (4096 : Int)) >>= fun rows52 =>
 (letT (s40.2 / (4096 : Int)) fun left53 =>
 (.ok (rows52, left53))))
 else (letT (((cell38 * (48271 : Int)) + ((x51 + (1 : Int)) * (69621 : Int))) % (2147483647 : Int)) fun mixed54 =>
 ((mulT mixed54 mixed54) >>= fun v55 =>
 ((mulT (((v55 + (mixed54 * (16807 : Int))) + (x51 * (7919 : Int))) % (2147483629 : Int)) (((v55 + (mixed54 * (16807 : Int))) + (x51 * (7919 : Int))) % (2147483629 : Int))) >>= fun v56 =>
 (appT s40.1 (((((v56 + cell38) + ((13 : Int) * x51)) % (2147483587 : Int)) / (7 : Int)) % (4096 : Int)) >>= fun rows57 =>
 (.ok (rows57, s40.2)))))))) v50 (([] : (List Int)), cell38) >>= fun s45 =>
 (.ok s45.1)))
theorem r_law_draws (cell38 : Int) (count39 : Int) : Le enc (m_law_draws [enc cell38, enc count39]) (t_law_draws cell38 count39) := by
  unfold m_law_draws b_law_draws t_law_draws
  exact le_fn [.v (.d (enc cell38)), .v (.d (enc count39)), .no, .no, .no, .no] rfl (q_seq (q_setO (c_okg (encs ([] : (List Int))) (p_lst p_nil rfl) (q_put (i := 2) [.v (.d (enc cell38)), .v (.d (enc count39)), .v (.ol (encs ([] : (List Int)))), .no, .no, .no] rfl rfl (q_seq (q_set (c_ok cell38 rfl (q_put (i := 3) [.v (.d (enc cell38)), .v (.d (enc count39)), .v (.ol (encs ([] : (List Int)))), .v (.d (enc cell38)), .no, .no] rfl rfl (q_seq (q_for (c_arg (c_cons (c_ok count39 rfl (c_nil (c_leaf (e := encs) (le_rng count39) trivial fun v50 => (q_fold (I := (fun (s : ((List Int) × Int)) (ρ : Env) => ∃ u0 u1 : Sl, ρ = [.v (.d (enc cell38)), .v (.d (enc count39)), .v (.ol (encs s.1)), .v (.d (enc s.2)), u0, u1] ∧ fre u0 ∧ fre u1)) (s0 := (([] : (List Int)), cell38)) ⟨.no, .no, rfl, fre_no, fre_no⟩ (by intro x51 s40 ρ h; obtain ⟨u41, u43, rfl, w42, w44⟩ := h; exact (q_opt [.v (.d (enc cell38)), .v (.d (enc count39)), .v (.ol (encs s40.1)), .v (.d (enc s40.2)), .v (.d (enc x51)), u43] (g_n (i := 4) (ok_fre rfl w42) rfl) (q_if (c_okb ((decide ((1000000000000000000 : Int) ≤ cell38)) && (decide ((0 : Int) < s40.2))) (p_and (p_tst (p_bin (x := enc cell38) (y := enc (1000000000000000000 : Int)) rfl (p_bin (x := enc (10 : Int)) (y := enc (18 : Int)) rfl rfl (k_pow (10 : Int) (18 : Int) (1000000000000000000 : Int) (by decide) (by decide))) rfl)) (p_tst (p_bin (x := enc s40.2) (y := enc (0 : Int)) rfl rfl rfl))) (q_ite (fun _ => (q_seq (q_lm (encs s40.1) (fun ys => [.v (.d (enc cell38)), .v (.d (enc count39)), .v (.ol ys), .v (.d (enc s40.2)), .v (.d (enc x51)), u43]) rfl (fun _ => rfl) (c_cons (c_ok (s40.2 % (4096 : Int)) (p_bin (x := enc s40.2) (y := enc (4096 : Int)) (p_arg (p_cons (x := enc s40.2) rfl p_nil) rfl) rfl (k_mod s40.2 (4096 : Int) (by decide))) (c_nil (c_leaf (e := encs) (le_app s40.1 (s40.2 % (4096 : Int)) _ rfl) trivial fun rows52 => (q_set (c_okL (s40.2 / (4096 : Int)) (p_bin (x := enc s40.2) (y := enc (4096 : Int)) rfl rfl (k_fdiv s40.2 (4096 : Int) (by decide))) fun left53 => (q_put (i := 3) [.v (.d (enc cell38)), .v (.d (enc count39)), .v (.ol (encs rows52)), .v (.d (enc left53)), .v (.d (enc x51)), u43] rfl rfl (s_nx (s := (rows52, left53)) ⟨.v (.d (enc x51)), u43, rfl, (fre_v _), w44⟩))))))))))) (fun _ => (q_seq (q_set (c_okL (((cell38 * (48271 : Int)) + ((x51 + (1 : Int)) * (69621 : Int))) % (2147483647 : Int)) (p_bin (x := enc ((cell38 * (48271 : Int)) + ((x51 + (1 : Int)) * (69621 : Int)))) (y := enc (2147483647 : Int)) (p_arg (p_cons (x := enc ((cell38 * (48271 : Int)) + ((x51 + (1 : Int)) * (69621 : Int)))) (p_bin (x := enc (cell38 * (48271 : Int))) (y := enc ((x51 + (1 : Int)) * (69621 : Int))) (p_bin (x := enc cell38) (y := enc (48271 : Int)) rfl rfl (k_mulr cell38 (48271 : Int) (by decide))) (p_bin (x := enc (x51 + (1 : Int))) (y := enc (69621 : Int)) (p_bin (x := enc x51) (y := enc (1 : Int)) rfl rfl rfl) rfl (k_mulr (x51 + (1 : Int)) (69621 : Int) (by decide))) rfl) p_nil) rfl) rfl (k_mod ((cell38 * (48271 : Int)) + ((x51 + (1 : Int)) * (69621 : Int))) (2147483647 : Int) (by decide))) fun mixed54 => (q_put (i := 5) [.v (.d (enc cell38)), .v (.d (enc count39)), .v (.ol (encs s40.1)), .v (.d (enc s40.2)), .v (.d (enc x51)), .v (.d (enc mixed54))] (ok_fre rfl w44) rfl (q_seq (q_set (c_bin (c_arg (c_cons (c_bin (c_bin (c_bin (c_ok mixed54 rfl (c_ok mixed54 rfl (c_leaf (le_mul mixed54 mixed54) trivial fun v55 => (c_ok (mixed54 * (16807 : Int)) (p_bin (x := enc mixed54) (y := enc (16807 : Int)) rfl rfl (k_mulr mixed54 (16807 : Int) (by decide))) (c_ok (v55 + (mixed54 * (16807 : Int))) rfl (c_ok (x51 * (7919 : Int)) (p_bin (x := enc x51) (y := enc (7919 : Int)) rfl rfl (k_mulr x51 (7919 : Int) (by decide))) (c_ok ((v55 + (mixed54 * (16807 : Int))) + (x51 * (7919 : Int))) rfl (c_nil (c_ok ((v55 + (mixed54 * (16807 : Int))) + (x51 * (7919 : Int))) rfl (c_ok (2147483629 : Int) rfl (c_ok (((v55 + (mixed54 * (16807 : Int))) + (x51 * (7919 : Int))) % (2147483629 : Int)) (k_mod ((v55 + (mixed54 * (16807 : Int))) + (x51 * (7919 : Int))) (2147483629 : Int) (by decide)) (q_put (i := 5) [.v (.d (enc cell38)), .v (.d (enc count39)), .v (.ol (encs s40.1)), .v (.d (enc s40.2)), .v (.d (enc x51)), .v (.d (enc (((v55 + (mixed54 * (16807 : Int))) + (x51 * (7919 : Int))) % (2147483629 : Int))))] rfl rfl (q_seq (q_set (c_bin (c_arg (c_cons (c_bin (c_bin (c_bin (c_ok (((v55 + (mixed54 * (16807 : Int))) + (x51 * (7919 : Int))) % (2147483629 : Int)) rfl (c_ok (((v55 + (mixed54 * (16807 : Int))) + (x51 * (7919 : Int))) % (2147483629 : Int)) rfl (c_leaf (le_mul (((v55 + (mixed54 * (16807 : Int))) + (x51 * (7919 : Int))) % (2147483629 : Int)) (((v55 + (mixed54 * (16807 : Int))) + (x51 * (7919 : Int))) % (2147483629 : Int))) trivial fun v56 => (c_ok cell38 rfl (c_ok (v56 + cell38) rfl (c_ok ((13 : Int) * x51) (p_bin (x := enc (13 : Int)) (y := enc x51) rfl rfl (k_mull (13 : Int) x51 (by decide))) (c_ok ((v56 + cell38) + ((13 : Int) * x51)) rfl (c_nil (c_ok ((v56 + cell38) + ((13 : Int) * x51)) rfl (c_ok (2147483587 : Int) rfl (c_ok (((v56 + cell38) + ((13 : Int) * x51)) % (2147483587 : Int)) (k_mod ((v56 + cell38) + ((13 : Int) * x51)) (2147483587 : Int) (by decide)) (q_put (i := 5) [.v (.d (enc cell38)), .v (.d (enc count39)), .v (.ol (encs s40.1)), .v (.d (enc s40.2)), .v (.d (enc x51)), .v (.d (enc (((v56 + cell38) + ((13 : Int) * x51)) % (2147483587 : Int))))] rfl rfl (q_lm (encs s40.1) (fun ys => [.v (.d (enc cell38)), .v (.d (enc count39)), .v (.ol ys), .v (.d (enc s40.2)), .v (.d (enc x51)), .v (.d (enc (((v56 + cell38) + ((13 : Int) * x51)) % (2147483587 : Int))))]) rfl (fun _ => rfl) (c_cons (c_ok (((((v56 + cell38) + ((13 : Int) * x51)) % (2147483587 : Int)) / (7 : Int)) % (4096 : Int)) (p_bin (x := enc ((((v56 + cell38) + ((13 : Int) * x51)) % (2147483587 : Int)) / (7 : Int))) (y := enc (4096 : Int)) (p_bin (x := enc (((v56 + cell38) + ((13 : Int) * x51)) % (2147483587 : Int))) (y := enc (7 : Int)) rfl rfl (k_fdiv (((v56 + cell38) + ((13 : Int) * x51)) % (2147483587 : Int)) (7 : Int) (by decide))) rfl (k_mod ((((v56 + cell38) + ((13 : Int) * x51)) % (2147483587 : Int)) / (7 : Int)) (4096 : Int) (by decide))) (c_nil (c_leaf (e := encs) (le_app s40.1 (((((v56 + cell38) + ((13 : Int) * x51)) % (2147483587 : Int)) / (7 : Int)) % (4096 : Int)) _ rfl) trivial fun rows57 => (s_nx (s := (rows57, s40.2)) ⟨.v (.d (enc x51)), .v (.d (enc (((v56 + cell38) + ((13 : Int) * x51)) % (2147483587 : Int)))), rfl, (fre_v _), (fre_v _)⟩)))))))))))))))))))))))))))))))))))))))))))))))))))))))) (by intro s45 ρ h; obtain ⟨u46, u48, rfl, w47, w49⟩ := h; exact (q_frz [.v (.d (enc cell38)), .v (.d (enc count39)), .v (.d (enc s45.1)), .v (.d (enc s45.2)), u46, u48] rfl (q_ret (c_ok s45.1 rfl (s_rt s45.1 rfl)))))))))))))))))))))
def t_law_refused (sort58 : Int) (number59 : Int) : Res Bool :=
 (onF (tryT [1] 1 (if (decide (sort58 = (0 : Int))) = true then
 ((t_divided_down number59 ((0 : Int) - (number59 % (5 : Int)))) >>= fun v61 =>
 (.ok (.nxt ())))
 else (if (decide (sort58 = (1 : Int))) = true then
 ((t_divided_up number59 ((0 : Int) - (number59 % (3 : Int)))) >>= fun v62 =>
 (.ok (.nxt ())))
 else (if (decide (sort58 = (2 : Int))) = true then
 ((t_root_down ((-1 : Int) - number59)) >>= fun v63 =>
 (.ok (.nxt ())))
 else ((t_root_up ((-1 : Int) - number59)) >>= fun v64 =>
 (.ok (.nxt ())))))) (.ok (.ret true)) : Res (Fl Bool Unit)) (fun r => .ok r) fun s60 =>
 (.ok false))
theorem r_law_refused (sort58 : Int) (number59 : Int) : Le enc (m_law_refused [enc sort58, enc number59]) (t_law_refused sort58 number59) := by
  unfold m_law_refused b_law_refused t_law_refused
  exact le_fn [.v (.d (enc sort58)), .v (.d (enc number59))] rfl (q_seq (q_joinR (I := (fun (s : Unit) (ρ : Env) => ρ = [.v (.d (enc sort58)), .v (.d (enc number59))])) (q_try (E' := (fun ρ => (fun (s : Unit) (ρ : Env) => ρ = [.v (.d (enc sort58)), .v (.d (enc number59))]) () ρ)) hq_l hq_lb (q_if (c_okb (decide (sort58 = (0 : Int))) (p_tst (p_bin (x := enc sort58) (y := enc (0 : Int)) rfl rfl (k_eq sort58 (0 : Int)))) (q_ite (fun _ => (q_ex (c_arg (c_cons (c_ok number59 rfl (c_cons (c_ok ((0 : Int) - (number59 % (5 : Int))) (p_bin (x := enc (0 : Int)) (y := enc (number59 % (5 : Int))) rfl (p_bin (x := enc number59) (y := enc (5 : Int)) rfl rfl (k_mod number59 (5 : Int) (by decide))) rfl) (c_nil (c_leaf (r_divided_down number59 ((0 : Int) - (number59 % (5 : Int)))) rfl fun v61 => (s_nxR (s := ()) rfl)))))))))) (fun _ => (q_if (c_okb (decide (sort58 = (1 : Int))) (p_tst (p_bin (x := enc sort58) (y := enc (1 : Int)) rfl rfl (k_eq sort58 (1 : Int)))) (q_ite (fun _ => (q_ex (c_arg (c_cons (c_ok number59 rfl (c_cons (c_ok ((0 : Int) - (number59 % (3 : Int))) (p_bin (x := enc (0 : Int)) (y := enc (number59 % (3 : Int))) rfl (p_bin (x := enc number59) (y := enc (3 : Int)) rfl rfl (k_mod number59 (3 : Int) (by decide))) rfl) (c_nil (c_leaf (r_divided_up number59 ((0 : Int) - (number59 % (3 : Int)))) rfl fun v62 => (s_nxR (s := ()) rfl)))))))))) (fun _ => (q_if (c_okb (decide (sort58 = (2 : Int))) (p_tst (p_bin (x := enc sort58) (y := enc (2 : Int)) rfl rfl (k_eq sort58 (2 : Int)))) (q_ite (fun _ => (q_ex (c_arg (c_cons (c_ok ((-1 : Int) - number59) (p_bin (x := enc (-1 : Int)) (y := enc number59) (p_un (x := enc (1 : Int)) rfl rfl) rfl rfl) (c_nil (c_leaf (r_root_down ((-1 : Int) - number59)) rfl fun v63 => (s_nxR (s := ()) rfl)))))))) (fun _ => (q_ex (c_arg (c_cons (c_ok ((-1 : Int) - number59) (p_bin (x := enc (-1 : Int)) (y := enc number59) (p_un (x := enc (1 : Int)) rfl rfl) rfl rfl) (c_nil (c_leaf (r_root_up ((-1 : Int) - number59)) rfl fun v64 => (s_nxR (s := ()) rfl))))))))))))))))))) (by intro ρ h; subst h; exact (q_ret (c_ok true rfl (s_rtR true rfl)))) (fun _ _ => trivial)) s_rt0 (by intro s60 ρ h; subst h; exact (q_ret (c_ok false rfl (s_rt false rfl))))))
def t_law (script65 : Scr) : Res Bool :=
 ((t_law_cell script65 (0 : Int)) >>= fun v66 =>
 ((t_law_draws v66 (16 : Int)) >>= fun draws67 =>
 ((t_law_cell script65 (1 : Int)) >>= fun v68 =>
 ((idxT draws67 (0 : Int)) >>= fun v95 =>
 ((idxT draws67 (1 : Int)) >>= fun v96 =>
 ((idxT draws67 (1 : Int)) >>= fun v97 =>
 ((mulT v96 v97) >>= fun v98 =>
 ((idxT draws67 (2 : Int)) >>= fun v99 =>
 (onF (forT (R := Bool) (fun (x100 : Int) (s69 : Unit) =>
 ((idxT draws67 (3 : Int)) >>= fun v101 =>
 ((idxT draws67 (3 : Int)) >>= fun v102 =>
 ((idxT draws67 (4 : Int)) >>= fun v103 =>
 ((idxT ([(v101 % (9 : Int)), v102, ((v68 % (1000000000000000000000000000000000000000000000000000000000000 : Int)) % (100000000000000000000 : Int))] : (List Int)) (v103 % (3 : Int))) >>= fun v104 =>
 ((t_divided_down x100 ((1 : Int) + v104)) >>= fun down105 =>
 (if (!true) = true then
 (.ok (.ret false))
 else ((t_divided_up x100 ((1 : Int) + v104)) >>= fun up106 =>
 (if (!true) = true then
 (.ok (.ret false))
 else ((mulT down105 ((1 : Int) + v104)) >>= fun v107 =>
 ((andR (decide (v107 ≤ x100)) ((mulT (down105 + (1 : Int)) ((1 : Int) + v104)) >>= fun v108 =>
 (.ok (decide (x100 < v108))))) >>= fun v109 =>
 (orR (!v109) ((mulT (up106 - (1 : Int)) ((1 : Int) + v104)) >>= fun v110 =>
 ((andR (decide (v110 < x100)) ((mulT up106 ((1 : Int) + v104)) >>= fun v111 =>
 (.ok (decide (x100 ≤ v111))))) >>= fun v112 =>
 (.ok (!v112)))) >>= fun b113 =>
 (if b113 = true then
 (.ok (.ret false))
 else (if (decide ((0 : Int) ≤ x100)) = true then
 ((t_root_down x100) >>= fun low114 =>
 ((t_root_up x100) >>= fun high115 =>
 (orR (decide (low114 < (0 : Int))) ((mulT low114 low114) >>= fun v116 =>
 ((andR (decide (v116 ≤ x100)) ((mulT (low114 + (1 : Int)) (low114 + (1 : Int))) >>= fun v117 =>
 (.ok (decide (x100 < v117))))) >>= fun v118 =>
 (orR (!v118) ((mulT high115 high115) >>= fun v119 =>
 (.ok (decide (v119 < x100)))) >>= fun b120 =>
 (.ok b120)))) >>= fun b121 =>
 (if b121 = true then
 (.ok (.ret false))
 else (andR (decide ((0 : Int) < high115)) ((mulT (high115 - (1 : Int)) (high115 - (1 : Int))) >>= fun v122 =>
 (.ok (decide (x100 ≤ v122)))) >>= fun b123 =>
 (if (b123 || (decide (high115 < (0 : Int)))) = true then
 (.ok (.ret false))
 else (.ok (.nxt ()))))))))
 else (.ok (.nxt ())))))))))))))))) ([(v68 % (1000000000000000000000000000000000000000000000000000000000000 : Int)), ((0 : Int) - (v68 % (1000000000000000000000000000000000000000000000000000000000000 : Int))), (v95 - (2000 : Int)), ((v98 + (v99 % (3 : Int))) - (1 : Int))] : (List Int)) ()) (fun r => .ok r) fun s82 =>
 ((idxT draws67 (5 : Int)) >>= fun v124 =>
 ((idxT draws67 (5 : Int)) >>= fun v125 =>
 ((idxT draws67 (6 : Int)) >>= fun v126 =>
 ((idxT draws67 (7 : Int)) >>= fun v127 =>
 ((idxT draws67 (7 : Int)) >>= fun v128 =>
 ((idxT draws67 (8 : Int)) >>= fun v129 =>
 ((t_added (⟨((v124 % (40 : Int)) - (20 : Int)), (((v125 % (40 : Int)) - (20 : Int)) + (v126 % (20 : Int)))⟩ : (T2 Int Int)) (⟨((v127 % (40 : Int)) - (20 : Int)), (((v128 % (40 : Int)) - (20 : Int)) + (v129 % (20 : Int)))⟩ : (T2 Int Int))) >>= fun v130 =>
 ((likeR (m_law_like 8 [enc v130, enc (⟨((⟨((v124 % (40 : Int)) - (20 : Int)), (((v125 % (40 : Int)) - (20 : Int)) + (v126 % (20 : Int)))⟩ : (T2 Int Int)).a + (⟨((v127 % (40 : Int)) - (20 : Int)), (((v128 % (40 : Int)) - (20 : Int)) + (v129 % (20 : Int)))⟩ : (T2 Int Int)).a), ((⟨((v124 % (40 : Int)) - (20 : Int)), (((v125 % (40 : Int)) - (20 : Int)) + (v126 % (20 : Int)))⟩ : (T2 Int Int)).b + (⟨((v127 % (40 : Int)) - (20 : Int)), (((v128 % (40 : Int)) - (20 : Int)) + (v129 % (20 : Int)))⟩ : (T2 Int Int)).b)⟩ : (T2 Int Int))])) >>= fun v131 =>
 (if (!v131) = true then
 (.ok false)
 else ((rng2T (-30 : Int) (60 : Int)) >>= fun v132 =>
 ((compS (fun x133 => (.ok ((decide ((⟨((v124 % (40 : Int)) - (20 : Int)), (((v125 % (40 : Int)) - (20 : Int)) + (v126 % (20 : Int)))⟩ : (T2 Int Int)).a ≤ x133)) && (decide (x133 ≤ (⟨((v124 % (40 : Int)) - (20 : Int)), (((v125 % (40 : Int)) - (20 : Int)) + (v126 % (20 : Int)))⟩ : (T2 Int Int)).b))))) (fun x133 =>
 (.ok x133)) v132) >>= fun both134 =>
 ((compS (fun x135 => (.ok ((decide ((⟨((v127 % (40 : Int)) - (20 : Int)), (((v128 % (40 : Int)) - (20 : Int)) + (v129 % (20 : Int)))⟩ : (T2 Int Int)).a ≤ x135)) && (decide (x135 ≤ (⟨((v127 % (40 : Int)) - (20 : Int)), (((v128 % (40 : Int)) - (20 : Int)) + (v129 % (20 : Int)))⟩ : (T2 Int Int)).b))))) (fun x135 =>
 (.ok x135)) both134) >>= fun both136 =>
 (letT (none : (Option (T2 Int Int))) fun due137 =>
 ((if (decide ((0 : Int) < (both136.length : Int))) = true then
 ((idxT both136 (0 : Int)) >>= fun v139 =>
 ((idxT both136 (-1 : Int)) >>= fun v140 =>
 (.ok (some (⟨v139, v140⟩ : (T2 Int Int))))))
 else (.ok due137) : Res (Option (T2 Int Int))) >>= fun s138 =>
 ((t_common (⟨((v124 % (40 : Int)) - (20 : Int)), (((v125 % (40 : Int)) - (20 : Int)) + (v126 % (20 : Int)))⟩ : (T2 Int Int)) (⟨((v127 % (40 : Int)) - (20 : Int)), (((v128 % (40 : Int)) - (20 : Int)) + (v129 % (20 : Int)))⟩ : (T2 Int Int))) >>= fun v141 =>
 ((likeR (m_law_like 8 [enc v141, enc s138])) >>= fun v142 =>
 (orR (!v142) ((t_hull (⟨((v124 % (40 : Int)) - (20 : Int)), (((v125 % (40 : Int)) - (20 : Int)) + (v126 % (20 : Int)))⟩ : (T2 Int Int)) (⟨((v127 % (40 : Int)) - (20 : Int)), (((v128 % (40 : Int)) - (20 : Int)) + (v129 % (20 : Int)))⟩ : (T2 Int Int))) >>= fun v143 =>
 ((minT (TL.mk [(⟨(⟨((v124 % (40 : Int)) - (20 : Int)), (((v125 % (40 : Int)) - (20 : Int)) + (v126 % (20 : Int)))⟩ : (T2 Int Int)).a, (⟨((v124 % (40 : Int)) - (20 : Int)), (((v125 % (40 : Int)) - (20 : Int)) + (v126 % (20 : Int)))⟩ : (T2 Int Int)).b, (⟨((v127 % (40 : Int)) - (20 : Int)), (((v128 % (40 : Int)) - (20 : Int)) + (v129 % (20 : Int)))⟩ : (T2 Int Int)).a, (⟨((v127 % (40 : Int)) - (20 : Int)), (((v128 % (40 : Int)) - (20 : Int)) + (v129 % (20 : Int)))⟩ : (T2 Int Int)).b⟩ : (T4 Int Int Int Int)).a, (⟨(⟨((v124 % (40 : Int)) - (20 : Int)), (((v125 % (40 : Int)) - (20 : Int)) + (v126 % (20 : Int)))⟩ : (T2 Int Int)).a, (⟨((v124 % (40 : Int)) - (20 : Int)), (((v125 % (40 : Int)) - (20 : Int)) + (v126 % (20 : Int)))⟩ : (T2 Int Int)).b, (⟨((v127 % (40 : Int)) - (20 : Int)), (((v128 % (40 : Int)) - (20 : Int)) + (v129 % (20 : Int)))⟩ : (T2 Int Int)).a, (⟨((v127 % (40 : Int)) - (20 : Int)), (((v128 % (40 : Int)) - (20 : Int)) + (v129 % (20 : Int)))⟩ : (T2 Int Int)).b⟩ : (T4 Int Int Int Int)).b, (⟨(⟨((v124 % (40 : Int)) - (20 : Int)), (((v125 % (40 : Int)) - (20 : Int)) + (v126 % (20 : Int)))⟩ : (T2 Int Int)).a, (⟨((v124 % (40 : Int)) - (20 : Int)), (((v125 % (40 : Int)) - (20 : Int)) + (v126 % (20 : Int)))⟩ : (T2 Int Int)).b, (⟨((v127 % (40 : Int)) - (20 : Int)), (((v128 % (40 : Int)) - (20 : Int)) + (v129 % (20 : Int)))⟩ : (T2 Int Int)).a, (⟨((v127 % (40 : Int)) - (20 : Int)), (((v128 % (40 : Int)) - (20 : Int)) + (v129 % (20 : Int)))⟩ : (T2 Int Int)).b⟩ : (T4 Int Int Int Int)).c, (⟨(⟨((v124 % (40 : Int)) - (20 : Int)), (((v125 % (40 : Int)) - (20 : Int)) + (v126 % (20 : Int)))⟩ : (T2 Int Int)).a, (⟨((v124 % (40 : Int)) - (20 : Int)), (((v125 % (40 : Int)) - (20 : Int)) + (v126 % (20 : Int)))⟩ : (T2 Int Int)).b, (⟨((v127 % (40 : Int)) - (20 : Int)), (((v128 % (40 : Int)) - (20 : Int)) + (v129 % (20 : Int)))⟩ : (T2 Int Int)).a, (⟨((v127 % (40 : Int)) - (20 : Int)), (((v128 % (40 : Int)) - (20 : Int)) + (v129 % (20 : Int)))⟩ : (T2 Int Int)).b⟩ : (T4 Int Int Int Int)).d] : (TL Int)).l) >>= fun v144 =>
 ((maxT (TL.mk [(⟨(⟨((v124 % (40 : Int)) - (20 : Int)), (((v125 % (40 : Int)) - (20 : Int)) + (v126 % (20 : Int)))⟩ : (T2 Int Int)).a, (⟨((v124 % (40 : Int)) - (20 : Int)), (((v125 % (40 : Int)) - (20 : Int)) + (v126 % (20 : Int)))⟩ : (T2 Int Int)).b, (⟨((v127 % (40 : Int)) - (20 : Int)), (((v128 % (40 : Int)) - (20 : Int)) + (v129 % (20 : Int)))⟩ : (T2 Int Int)).a, (⟨((v127 % (40 : Int)) - (20 : Int)), (((v128 % (40 : Int)) - (20 : Int)) + (v129 % (20 : Int)))⟩ : (T2 Int Int)).b⟩ : (T4 Int Int Int Int)).a, (⟨(⟨((v124 % (40 : Int)) - (20 : Int)), (((v125 % (40 : Int)) - (20 : Int)) + (v126 % (20 : Int)))⟩ : (T2 Int Int)).a, (⟨((v124 % (40 : Int)) - (20 : Int)), (((v125 % (40 : Int)) - (20 : Int)) + (v126 % (20 : Int)))⟩ : (T2 Int Int)).b, (⟨((v127 % (40 : Int)) - (20 : Int)), (((v128 % (40 : Int)) - (20 : Int)) + (v129 % (20 : Int)))⟩ : (T2 Int Int)).a, (⟨((v127 % (40 : Int)) - (20 : Int)), (((v128 % (40 : Int)) - (20 : Int)) + (v129 % (20 : Int)))⟩ : (T2 Int Int)).b⟩ : (T4 Int Int Int Int)).b, (⟨(⟨((v124 % (40 : Int)) - (20 : Int)), (((v125 % (40 : Int)) - (20 : Int)) + (v126 % (20 : Int)))⟩ : (T2 Int Int)).a, (⟨((v124 % (40 : Int)) - (20 : Int)), (((v125 % (40 : Int)) - (20 : Int)) + (v126 % (20 : Int)))⟩ : (T2 Int Int)).b, (⟨((v127 % (40 : Int)) - (20 : Int)), (((v128 % (40 : Int)) - (20 : Int)) + (v129 % (20 : Int)))⟩ : (T2 Int Int)).a, (⟨((v127 % (40 : Int)) - (20 : Int)), (((v128 % (40 : Int)) - (20 : Int)) + (v129 % (20 : Int)))⟩ : (T2 Int Int)).b⟩ : (T4 Int Int Int Int)).c, (⟨(⟨((v124 % (40 : Int)) - (20 : Int)), (((v125 % (40 : Int)) - (20 : Int)) + (v126 % (20 : Int)))⟩ : (T2 Int Int)).a, (⟨((v124 % (40 : Int)) - (20 : Int)), (((v125 % (40 : Int)) - (20 : Int)) + (v126 % (20 : Int)))⟩ : (T2 Int Int)).b, (⟨((v127 % (40 : Int)) - (20 : Int)), (((v128 % (40 : Int)) - (20 : Int)) + (v129 % (20 : Int)))⟩ : (T2 Int Int)).a, (⟨((v127 % (40 : Int)) - (20 : Int)), (((v128 % (40 : Int)) - (20 : Int)) + (v129 % (20 : Int)))⟩ : (T2 Int Int)).b⟩ : (T4 Int Int Int Int)).d] : (TL Int)).l) >>= fun v145 =>
 ((likeR (m_law_like 8 [enc v143, enc (⟨v144, v145⟩ : (T2 Int Int))])) >>= fun v146 =>
 (.ok (!v146)))))) >>= fun b147 =>
 (if b147 = true then
 (.ok false)
 else ((idxT draws67 (9 : Int)) >>= fun v148 =>
 ((idxT draws67 (10 : Int)) >>= fun v149 =>
 ((t_is_interval (TL.mk [(⟨(v148 % (5 : Int)), (v149 % (5 : Int))⟩ : (T2 Int Int)).a, (⟨(v148 % (5 : Int)), (v149 % (5 : Int))⟩ : (T2 Int Int)).b] : (TL Int))) >>= fun v150 =>
 ((t_is_interval (TL.mk [(⟨((v124 % (40 : Int)) - (20 : Int)), (((v125 % (40 : Int)) - (20 : Int)) + (v126 % (20 : Int)))⟩ : (T2 Int Int)).a, (⟨((v124 % (40 : Int)) - (20 : Int)), (((v125 % (40 : Int)) - (20 : Int)) + (v126 % (20 : Int)))⟩ : (T2 Int Int)).b] : (TL Int))) >>= fun v151 =>
 ((t_is_interval (TL.mk [(⟨(⟨((v124 % (40 : Int)) - (20 : Int)), (((v125 % (40 : Int)) - (20 : Int)) + (v126 % (20 : Int)))⟩ : (T2 Int Int)).a, (⟨((v124 % (40 : Int)) - (20 : Int)), (((v125 % (40 : Int)) - (20 : Int)) + (v126 % (20 : Int)))⟩ : (T2 Int Int)).b, (⟨(9 : Int)⟩ : (T1 Int)).a⟩ : (T3 Int Int Int)).a, (⟨(⟨((v124 % (40 : Int)) - (20 : Int)), (((v125 % (40 : Int)) - (20 : Int)) + (v126 % (20 : Int)))⟩ : (T2 Int Int)).a, (⟨((v124 % (40 : Int)) - (20 : Int)), (((v125 % (40 : Int)) - (20 : Int)) + (v126 % (20 : Int)))⟩ : (T2 Int Int)).b, (⟨(9 : Int)⟩ : (T1 Int)).a⟩ : (T3 Int Int Int)).b, (⟨(⟨((v124 % (40 : Int)) - (20 : Int)), (((v125 % (40 : Int)) - (20 : Int)) + (v126 % (20 : Int)))⟩ : (T2 Int Int)).a, (⟨((v124 % (40 : Int)) - (20 : Int)), (((v125 % (40 : Int)) - (20 : Int)) + (v126 % (20 : Int)))⟩ : (T2 Int Int)).b, (⟨(9 : Int)⟩ : (T1 Int)).a⟩ : (T3 Int Int Int)).c] : (TL Int))) >>= fun v152 =>
 ((t_is_interval (TL.mk [] : (TL Int))) >>= fun v153 =>
 ((likeR (m_law_like 8 [enc ([v150, v151, v152, v153] : (List Bool)), enc ([(decide ((⟨(v148 % (5 : Int)), (v149 % (5 : Int))⟩ : (T2 Int Int)).a ≤ (⟨(v148 % (5 : Int)), (v149 % (5 : Int))⟩ : (T2 Int Int)).b)), true, false, false] : (List Bool))])) >>= fun v154 =>
 (if (!v154) = true then
 (.ok false)
 else ((rngT (4 : Int)) >>= fun v155 =>
 ((compS (fun _ => (.ok true)) (fun x156 =>
 ((t_law_refused x156 (v68 % (1000000000000000000000000000000000000000000000000000000000000 : Int))) >>= fun v157 =>
 (.ok v157))) v155) >>= fun v158 =>
 (.ok (v158.all id)))))))))))))))))))))))))))))))))))))))
theorem r_law (script65 : Scr) : Le enc (m_law [enc script65]) (t_law script65) := by
  unfold m_law b_law t_law
  exact le_fn [.v (.d (enc script65)), .no, .no, .no, .no, .no, .no, .no, .no, .no, .no, .no, .no, .no, .no, .no] rfl (q_seq (q_set (c_arg (c_cons (c_arg (c_cons (c_ok script65 rfl (c_cons (c_ok (0 : Int) rfl (c_nil (c_leaf (r_law_cell script65 (0 : Int)) trivial fun v66 => (c_cons (c_ok (16 : Int) rfl (c_nil (c_leaf (r_law_draws v66 (16 : Int)) trivial fun draws67 => (q_put (i := 1) [.v (.d (enc script65)), .v (.d (enc draws67)), .no, .no, .no, .no, .no, .no, .no, .no, .no, .no, .no, .no, .no, .no] rfl rfl (q_seq (q_set (c_bin (c_arg (c_cons (c_arg (c_cons (c_ok script65 rfl (c_cons (c_ok (1 : Int) rfl (c_nil (c_leaf (r_law_cell script65 (1 : Int)) trivial fun v68 => (c_nil (c_ok v68 rfl (c_ok (1000000000000000000000000000000000000000000000000000000000000 : Int) (p_bin (x := enc (10 : Int)) (y := enc (60 : Int)) rfl rfl (k_pow (10 : Int) (60 : Int) (1000000000000000000000000000000000000000000000000000000000000 : Int) (by decide) (by decide))) (c_ok (v68 % (1000000000000000000000000000000000000000000000000000000000000 : Int)) (k_mod v68 (1000000000000000000000000000000000000000000000000000000000000 : Int) (by decide)) (q_put (i := 2) [.v (.d (enc script65)), .v (.d (enc draws67)), .v (.d (enc (v68 % (1000000000000000000000000000000000000000000000000000000000000 : Int)))), .no, .no, .no, .no, .no, .no, .no, .no, .no, .no, .no, .no, .no] rfl rfl (q_seq (q_for (c_unF (c_toE (c_lst (c_cons (c_ok (v68 % (1000000000000000000000000000000000000000000000000000000000000 : Int)) rfl (c_cons (c_ok ((0 : Int) - (v68 % (1000000000000000000000000000000000000000000000000000000000000 : Int))) (p_bin (x := enc (0 : Int)) (y := enc (v68 % (1000000000000000000000000000000000000000000000000000000000000 : Int))) rfl rfl rfl) (c_cons (c_bin (c_bin (c_ok draws67 rfl (c_ok (0 : Int) rfl (c_leaf (le_idx draws67 (0 : Int)) trivial fun v95 => (c_ok (2000 : Int) rfl (c_ok (v95 - (2000 : Int)) rfl (c_cons (c_bin (c_bin (c_bin (c_bin (c_ok draws67 rfl (c_ok (1 : Int) rfl (c_leaf (le_idx draws67 (1 : Int)) trivial fun v96 => (c_bin (c_ok draws67 rfl (c_ok (1 : Int) rfl (c_leaf (le_idx draws67 (1 : Int)) trivial fun v97 => (c_leaf (le_mul v96 v97) trivial fun v98 => (c_bin (c_bin (c_ok draws67 rfl (c_ok (2 : Int) rfl (c_leaf (le_idx draws67 (2 : Int)) trivial fun v99 => (c_ok (3 : Int) rfl (c_ok (v99 % (3 : Int)) (k_mod v99 (3 : Int) (by decide)) (c_ok (v98 + (v99 % (3 : Int))) rfl (c_ok (1 : Int) rfl (c_ok ((v98 + (v99 % (3 : Int))) - (1 : Int)) rfl (c_nil (c_okg (encs ([(v68 % (1000000000000000000000000000000000000000000000000000000000000 : Int)), ((0 : Int) - (v68 % (1000000000000000000000000000000000000000000000000000000000000 : Int))), (v95 - (2000 : Int)), ((v98 + (v99 % (3 : Int))) - (1 : Int))] : (List Int))) (p_size rfl) (c_okl ([(v68 % (1000000000000000000000000000000000000000000000000000000000000 : Int)), ((0 : Int) - (v68 % (1000000000000000000000000000000000000000000000000000000000000 : Int))), (v95 - (2000 : Int)), ((v98 + (v99 % (3 : Int))) - (1 : Int))] : (List Int)) (k_seq _) (q_forR (I := (fun (s : Unit) (ρ : Env) => ∃ u0 u1 u2 u3 u4 u5 : Sl, ρ = [.v (.d (enc script65)), .v (.d (enc draws67)), .v (.d (enc (v68 % (1000000000000000000000000000000000000000000000000000000000000 : Int)))), u0, .no, .no, .no, .no, .no, u1, u2, u3, u4, u5, .no, .no] ∧ fre u0 ∧ fre u1 ∧ fre u2 ∧ fre u3 ∧ fre u4 ∧ fre u5)) (s0 := ()) ⟨.no, .no, .no, .no, .no, .no, rfl, fre_no, fre_no, fre_no, fre_no, fre_no, fre_no⟩ (by intro x100 s69 ρ h; obtain ⟨u70, u72, u74, u76, u78, u80, rfl, w71, w73, w75, w77, w79, w81⟩ := h; exact (q_opt [.v (.d (enc script65)), .v (.d (enc draws67)), .v (.d (enc (v68 % (1000000000000000000000000000000000000000000000000000000000000 : Int)))), .v (.d (enc x100)), .no, .no, .no, .no, .no, u72, u74, u76, u78, u80, .no, .no] (g_n (i := 3) (ok_fre rfl w71) rfl) (q_seq (q_set (c_bin (c_ok (1 : Int) rfl (c_bin (c_toE (c_lst (c_cons (c_bin (c_bin (c_ok draws67 rfl (c_ok (3 : Int) rfl (c_leaf (le_idx draws67 (3 : Int)) trivial fun v101 => (c_ok (9 : Int) rfl (c_ok (v101 % (9 : Int)) (k_mod v101 (9 : Int) (by decide)) (c_cons (c_bin (c_ok draws67 rfl (c_ok (3 : Int) rfl (c_leaf (le_idx draws67 (3 : Int)) trivial fun v102 => (c_cons (c_ok ((v68 % (1000000000000000000000000000000000000000000000000000000000000 : Int)) % (100000000000000000000 : Int)) (p_bin (x := enc (v68 % (1000000000000000000000000000000000000000000000000000000000000 : Int))) (y := enc (100000000000000000000 : Int)) rfl (p_bin (x := enc (10 : Int)) (y := enc (20 : Int)) rfl rfl (k_pow (10 : Int) (20 : Int) (100000000000000000000 : Int) (by decide) (by decide))) (k_mod (v68 % (1000000000000000000000000000000000000000000000000000000000000 : Int)) (100000000000000000000 : Int) (by decide))) (c_nil (c_okg (encs ([(v101 % (9 : Int)), v102, ((v68 % (1000000000000000000000000000000000000000000000000000000000000 : Int)) % (100000000000000000000 : Int))] : (List Int))) (p_size rfl) (c_bin (c_bin (c_ok draws67 rfl (c_ok (4 : Int) rfl (c_leaf (le_idx draws67 (4 : Int)) trivial fun v103 => (c_ok (3 : Int) rfl (c_ok (v103 % (3 : Int)) (k_mod v103 (3 : Int) (by decide)) (c_leaf (le_idx ([(v101 % (9 : Int)), v102, ((v68 % (1000000000000000000000000000000000000000000000000000000000000 : Int)) % (100000000000000000000 : Int))] : (List Int)) (v103 % (3 : Int))) trivial fun v104 => (c_ok ((1 : Int) + v104) rfl (q_put (i := 9) [.v (.d (enc script65)), .v (.d (enc draws67)), .v (.d (enc (v68 % (1000000000000000000000000000000000000000000000000000000000000 : Int)))), .v (.d (enc x100)), .no, .no, .no, .no, .no, .v (.d (enc ((1 : Int) + v104))), u74, u76, u78, u80, .no, .no] (ok_fre rfl w73) rfl (q_seq (q_set (c_arg (c_cons (c_ok x100 rfl (c_cons (c_ok ((1 : Int) + v104) rfl (c_nil (c_leaf (r_divided_down x100 ((1 : Int) + v104)) trivial fun down105 => (q_put (i := 10) [.v (.d (enc script65)), .v (.d (enc draws67)), .v (.d (enc (v68 % (1000000000000000000000000000000000000000000000000000000000000 : Int)))), .v (.d (enc x100)), .no, .no, .no, .no, .no, .v (.d (enc ((1 : Int) + v104))), .v (.d (enc down105)), u76, u78, u80, .no, .no] (ok_fre rfl w75) rfl (q_seq (q_if (c_okb (!true) (p_not (p_tst (p_un (x := enc down105) rfl rfl))) (q_ite (fun _ => (q_ret (c_ok false rfl (s_rtR false rfl)))) (fun _ => (q_end (q_seq (q_set (c_arg (c_cons (c_ok x100 rfl (c_cons (c_ok ((1 : Int) + v104) rfl (c_nil (c_leaf (r_divided_up x100 ((1 : Int) + v104)) trivial fun up106 => (q_put (i := 11) [.v (.d (enc script65)), .v (.d (enc draws67)), .v (.d (enc (v68 % (1000000000000000000000000000000000000000000000000000000000000 : Int)))), .v (.d (enc x100)), .no, .no, .no, .no, .no, .v (.d (enc ((1 : Int) + v104))), .v (.d (enc down105)), .v (.d (enc up106)), u78, u80, .no, .no] (ok_fre rfl w77) rfl (q_seq (q_if (c_okb (!true) (p_not (p_tst (p_un (x := enc up106) rfl rfl))) (q_ite (fun _ => (q_ret (c_ok false rfl (s_rtR false rfl)))) (fun _ => (q_end (q_seq (q_if (c_or (c_not (c_tst (c_chain (c_bin (c_ok down105 rfl (c_ok ((1 : Int) + v104) rfl (c_leaf (le_mul down105 ((1 : Int) + v104)) trivial fun v107 => (c_ok x100 rfl (c_ok (decide (v107 ≤ x100)) rfl (c_tru (c_leaf (le_andV fun _ => le_sim (ρ := [.v (.d (enc script65)), .v (.d (enc draws67)), .v (.d (enc (v68 % (1000000000000000000000000000000000000000000000000000000000000 : Int)))), .v (.d (enc x100)), .no, .no, .no, .no, .no, .v (.d (enc ((1 : Int) + v104))), .v (.d (enc down105)), .v (.d (enc up106)), u78, u80, .no, .no]) (c_bnd (c_bin (c_ok (down105 + (1 : Int)) (p_bin (x := enc down105) (y := enc (1 : Int)) rfl rfl rfl) (c_ok ((1 : Int) + v104) rfl (c_leaf (le_mul (down105 + (1 : Int)) ((1 : Int) + v104)) trivial fun v108 => (c_ok (decide (x100 < v108)) rfl (e_val (decide (x100 < v108)) rfl)))))))) trivial fun v109 => (c_tru (c_leaf (le_or fun _ => (le_simb (ρ := [.v (.d (enc script65)), .v (.d (enc draws67)), .v (.d (enc (v68 % (1000000000000000000000000000000000000000000000000000000000000 : Int)))), .v (.d (enc x100)), .no, .no, .no, .no, .no, .v (.d (enc ((1 : Int) + v104))), .v (.d (enc down105)), .v (.d (enc up106)), u78, u80, .no, .no]) (c_not (c_tst (c_chain (c_bin (c_ok (up106 - (1 : Int)) (p_bin (x := enc up106) (y := enc (1 : Int)) rfl rfl rfl) (c_ok ((1 : Int) + v104) rfl (c_leaf (le_mul (up106 - (1 : Int)) ((1 : Int) + v104)) trivial fun v110 => (c_ok x100 rfl (c_ok (decide (v110 < x100)) rfl (c_tru (c_leaf (le_andV fun _ => le_sim (ρ := [.v (.d (enc script65)), .v (.d (enc draws67)), .v (.d (enc (v68 % (1000000000000000000000000000000000000000000000000000000000000 : Int)))), .v (.d (enc x100)), .no, .no, .no, .no, .no, .v (.d (enc ((1 : Int) + v104))), .v (.d (enc down105)), .v (.d (enc up106)), u78, u80, .no, .no]) (c_bnd (c_bin (c_ok up106 rfl (c_ok ((1 : Int) + v104) rfl (c_leaf (le_mul up106 ((1 : Int) + v104)) trivial fun v111 => (c_ok (decide (x100 ≤ v111)) rfl (e_val (decide (x100 ≤ v111)) rfl)))))))) trivial fun v112 => (c_tru (e_val (!v112) rfl))))))))))))))) trivial fun b113 => (q_ite (fun _ => (q_ret (c_ok false rfl (s_rtR false rfl)))) (fun _ => (q_end (q_if (c_okb (decide ((0 : Int) ≤ x100)) (p_tst (p_bin (x := enc x100) (y := enc (0 : Int)) rfl rfl rfl)) (q_ite (fun _ => (q_seq (q_set (c_arg (c_cons (c_ok x100 rfl (c_nil (c_leaf (r_root_down x100) trivial fun low114 => (q_put (i := 12) [.v (.d (enc script65)), .v (.d (enc draws67)), .v (.d (enc (v68 % (1000000000000000000000000000000000000000000000000000000000000 : Int)))), .v (.d (enc x100)), .no, .no, .no, .no, .no, .v (.d (enc ((1 : Int) + v104))), .v (.d (enc down105)), .v (.d (enc up106)), .v (.d (enc low114)), u80, .no, .no] (ok_fre rfl w79) rfl (q_seq (q_set (c_arg (c_cons (c_ok x100 rfl (c_nil (c_leaf (r_root_up x100) trivial fun high115 => (q_put (i := 13) [.v (.d (enc script65)), .v (.d (enc draws67)), .v (.d (enc (v68 % (1000000000000000000000000000000000000000000000000000000000000 : Int)))), .v (.d (enc x100)), .no, .no, .no, .no, .no, .v (.d (enc ((1 : Int) + v104))), .v (.d (enc down105)), .v (.d (enc up106)), .v (.d (enc low114)), .v (.d (enc high115)), .no, .no] (ok_fre rfl w81) rfl (q_seq (q_if (c_or (c_okb (decide (low114 < (0 : Int))) (p_tst (p_bin (x := enc low114) (y := enc (0 : Int)) rfl rfl rfl)) (c_leaf (le_or fun _ => (le_simb (ρ := [.v (.d (enc script65)), .v (.d (enc draws67)), .v (.d (enc (v68 % (1000000000000000000000000000000000000000000000000000000000000 : Int)))), .v (.d (enc x100)), .no, .no, .no, .no, .no, .v (.d (enc ((1 : Int) + v104))), .v (.d (enc down105)), .v (.d (enc up106)), .v (.d (enc low114)), .v (.d (enc high115)), .no, .no]) (c_or (c_not (c_tst (c_chain (c_bin (c_ok low114 rfl (c_ok low114 rfl (c_leaf (le_mul low114 low114) trivial fun v116 => (c_ok x100 rfl (c_ok (decide (v116 ≤ x100)) rfl (c_tru (c_leaf (le_andV fun _ => le_sim (ρ := [.v (.d (enc script65)), .v (.d (enc draws67)), .v (.d (enc (v68 % (1000000000000000000000000000000000000000000000000000000000000 : Int)))), .v (.d (enc x100)), .no, .no, .no, .no, .no, .v (.d (enc ((1 : Int) + v104))), .v (.d (enc down105)), .v (.d (enc up106)), .v (.d (enc low114)), .v (.d (enc high115)), .no, .no]) (c_bnd (c_bin (c_ok (low114 + (1 : Int)) (p_bin (x := enc low114) (y := enc (1 : Int)) rfl rfl rfl) (c_ok (low114 + (1 : Int)) (p_bin (x := enc low114) (y := enc (1 : Int)) rfl rfl rfl) (c_leaf (le_mul (low114 + (1 : Int)) (low114 + (1 : Int))) trivial fun v117 => (c_ok (decide (x100 < v117)) rfl (e_val (decide (x100 < v117)) rfl)))))))) trivial fun v118 => (c_tru (c_leaf (le_or fun _ => (le_simb (ρ := [.v (.d (enc script65)), .v (.d (enc draws67)), .v (.d (enc (v68 % (1000000000000000000000000000000000000000000000000000000000000 : Int)))), .v (.d (enc x100)), .no, .no, .no, .no, .no, .v (.d (enc ((1 : Int) + v104))), .v (.d (enc down105)), .v (.d (enc up106)), .v (.d (enc low114)), .v (.d (enc high115)), .no, .no]) (c_tst (c_bin (c_bin (c_ok high115 rfl (c_ok high115 rfl (c_leaf (le_mul high115 high115) trivial fun v119 => (c_ok x100 rfl (c_ok (decide (v119 < x100)) rfl (c_tru (e_val (decide (v119 < x100)) rfl)))))))))))) trivial fun b120 => (e_val b120 rfl))))))))))))))))) trivial fun b121 => (q_ite (fun _ => (q_ret (c_ok false rfl (s_rtR false rfl)))) (fun _ => (q_end (q_if (c_or (c_and (c_okb (decide ((0 : Int) < high115)) (p_tst (p_bin (x := enc high115) (y := enc (0 : Int)) rfl rfl rfl)) (c_leaf (le_and fun _ => (le_simb (ρ := [.v (.d (enc script65)), .v (.d (enc draws67)), .v (.d (enc (v68 % (1000000000000000000000000000000000000000000000000000000000000 : Int)))), .v (.d (enc x100)), .no, .no, .no, .no, .no, .v (.d (enc ((1 : Int) + v104))), .v (.d (enc down105)), .v (.d (enc up106)), .v (.d (enc low114)), .v (.d (enc high115)), .no, .no]) (c_tst (c_bin (c_bin (c_ok (high115 - (1 : Int)) (p_bin (x := enc high115) (y := enc (1 : Int)) rfl rfl rfl) (c_ok (high115 - (1 : Int)) (p_bin (x := enc high115) (y := enc (1 : Int)) rfl rfl rfl) (c_leaf (le_mul (high115 - (1 : Int)) (high115 - (1 : Int))) trivial fun v122 => (c_ok x100 rfl (c_ok (decide (x100 ≤ v122)) rfl (c_tru (e_val (decide (x100 ≤ v122)) rfl)))))))))))) trivial fun b123 => (c_okb (b123 || (decide (high115 < (0 : Int)))) (p_orM (p_tst (p_bin (x := enc high115) (y := enc (0 : Int)) rfl rfl rfl))) (q_ite (fun _ => (q_ret (c_ok false rfl (s_rtR false rfl)))) (fun _ => (q_end (s_nxR (s := ()) ⟨.v (.d (enc x100)), .v (.d (enc ((1 : Int) + v104))), .v (.d (enc down105)), .v (.d (enc up106)), .v (.d (enc low114)), .v (.d (enc high115)), rfl, (fre_v _), (fre_v _), (fre_v _), (fre_v _), (fre_v _), (fre_v _)⟩))))))))))))))))))))))))))))))))))) (fun _ => (q_end (s_nxR (s := ()) ⟨.v (.d (enc x100)), .v (.d (enc ((1 : Int) + v104))), .v (.d (enc down105)), .v (.d (enc up106)), u78, u80, rfl, (fre_v _), (fre_v _), (fre_v _), (fre_v _), w79, w81⟩))))))))))))))))))))))))))))))))))))))))))))))))))))))))))))))))))))))))))))))))))))))))))))) s_rt0 (by intro s82 ρ h; obtain ⟨u83, u85, u87, u89, u91, u93, rfl, w84, w86, w88, w90, w92, w94⟩ := h; exact (q_seq (q_set (c_tup (c_cons (c_bin (c_bin (c_bin (c_ok draws67 rfl (c_ok (5 : Int) rfl (c_leaf (le_idx draws67 (5 : Int)) trivial fun v124 => (c_ok (40 : Int) rfl (c_ok (v124 % (40 : Int)) (k_mod v124 (40 : Int) (by decide)) (c_ok (20 : Int) rfl (c_ok ((v124 % (40 : Int)) - (20 : Int)) rfl (c_cons (c_bin (c_bin (c_bin (c_bin (c_ok draws67 rfl (c_ok (5 : Int) rfl (c_leaf (le_idx draws67 (5 : Int)) trivial fun v125 => (c_ok (40 : Int) rfl (c_ok (v125 % (40 : Int)) (k_mod v125 (40 : Int) (by decide)) (c_ok (20 : Int) rfl (c_ok ((v125 % (40 : Int)) - (20 : Int)) rfl (c_bin (c_bin (c_ok draws67 rfl (c_ok (6 : Int) rfl (c_leaf (le_idx draws67 (6 : Int)) trivial fun v126 => (c_ok (20 : Int) rfl (c_ok (v126 % (20 : Int)) (k_mod v126 (20 : Int) (by decide)) (c_ok (((v125 % (40 : Int)) - (20 : Int)) + (v126 % (20 : Int))) rfl (c_nil (c_ok (⟨((v124 % (40 : Int)) - (20 : Int)), (((v125 % (40 : Int)) - (20 : Int)) + (v126 % (20 : Int)))⟩ : (T2 Int Int)) (p_size rfl) (q_put (i := 4) [.v (.d (enc script65)), .v (.d (enc draws67)), .v (.d (enc (v68 % (1000000000000000000000000000000000000000000000000000000000000 : Int)))), u83, .v (.d (enc (⟨((v124 % (40 : Int)) - (20 : Int)), (((v125 % (40 : Int)) - (20 : Int)) + (v126 % (20 : Int)))⟩ : (T2 Int Int)))), .no, .no, .no, .no, u85, u87, u89, u91, u93, .no, .no] rfl rfl (q_seq (q_set (c_tup (c_cons (c_bin (c_bin (c_bin (c_ok draws67 rfl (c_ok (7 : Int) rfl (c_leaf (le_idx draws67 (7 : Int)) trivial fun v127 => (c_ok (40 : Int) rfl (c_ok (v127 % (40 : Int)) (k_mod v127 (40 : Int) (by decide)) (c_ok (20 : Int) rfl (c_ok ((v127 % (40 : Int)) - (20 : Int)) rfl (c_cons (c_bin (c_bin (c_bin (c_bin (c_ok draws67 rfl (c_ok (7 : Int) rfl (c_leaf (le_idx draws67 (7 : Int)) trivial fun v128 => (c_ok (40 : Int) rfl (c_ok (v128 % (40 : Int)) (k_mod v128 (40 : Int) (by decide)) (c_ok (20 : Int) rfl (c_ok ((v128 % (40 : Int)) - (20 : Int)) rfl (c_bin (c_bin (c_ok draws67 rfl (c_ok (8 : Int) rfl (c_leaf (le_idx draws67 (8 : Int)) trivial fun v129 => (c_ok (20 : Int) rfl (c_ok (v129 % (20 : Int)) (k_mod v129 (20 : Int) (by decide)) (c_ok (((v128 % (40 : Int)) - (20 : Int)) + (v129 % (20 : Int))) rfl (c_nil (c_ok (⟨((v127 % (40 : Int)) - (20 : Int)), (((v128 % (40 : Int)) - (20 : Int)) + (v129 % (20 : Int)))⟩ : (T2 Int Int)) (p_size rfl) (q_put (i := 5) [.v (.d (enc script65)), .v (.d (enc draws67)), .v (.d (enc (v68 % (1000000000000000000000000000000000000000000000000000000000000 : Int)))), u83, .v (.d (enc (⟨((v124 % (40 : Int)) - (20 : Int)), (((v125 % (40 : Int)) - (20 : Int)) + (v126 % (20 : Int)))⟩ : (T2 Int Int)))), .v (.d (enc (⟨((v127 % (40 : Int)) - (20 : Int)), (((v128 % (40 : Int)) - (20 : Int)) + (v129 % (20 : Int)))⟩ : (T2 Int Int)))), .no, .no, .no, u85, u87, u89, u91, u93, .no, .no] rfl rfl (q_seq (q_if (c_not (c_tst (c_arg (c_cons (c_arg (c_cons (c_ok (⟨((v124 % (40 : Int)) - (20 : Int)), (((v125 % (40 : Int)) - (20 : Int)) + (v126 % (20 : Int)))⟩ : (T2 Int Int)) rfl (c_cons (c_ok (⟨((v127 % (40 : Int)) - (20 : Int)), (((v128 % (40 : Int)) - (20 : Int)) + (v129 % (20 : Int)))⟩ : (T2 Int Int)) rfl (c_nil (c_leaf (r_added (⟨((v124 % (40 : Int)) - (20 : Int)), (((v125 % (40 : Int)) - (20 : Int)) + (v126 % (20 : Int)))⟩ : (T2 Int Int)) (⟨((v127 % (40 : Int)) - (20 : Int)), (((v128 % (40 : Int)) - (20 : Int)) + (v129 % (20 : Int)))⟩ : (T2 Int Int))) trivial fun v130 => (c_cons (c_ok (⟨((⟨((v124 % (40 : Int)) - (20 : Int)), (((v125 % (40 : Int)) - (20 : Int)) + (v126 % (20 : Int)))⟩ : (T2 Int Int)).a + (⟨((v127 % (40 : Int)) - (20 : Int)), (((v128 % (40 : Int)) - (20 : Int)) + (v129 % (20 : Int)))⟩ : (T2 Int Int)).a), ((⟨((v124 % (40 : Int)) - (20 : Int)), (((v125 % (40 : Int)) - (20 : Int)) + (v126 % (20 : Int)))⟩ : (T2 Int Int)).b + (⟨((v127 % (40 : Int)) - (20 : Int)), (((v128 % (40 : Int)) - (20 : Int)) + (v129 % (20 : Int)))⟩ : (T2 Int Int)).b)⟩ : (T2 Int Int)) (p_tup (p_cons (x := enc ((⟨((v124 % (40 : Int)) - (20 : Int)), (((v125 % (40 : Int)) - (20 : Int)) + (v126 % (20 : Int)))⟩ : (T2 Int Int)).a + (⟨((v127 % (40 : Int)) - (20 : Int)), (((v128 % (40 : Int)) - (20 : Int)) + (v129 % (20 : Int)))⟩ : (T2 Int Int)).a)) (p_bin (x := enc (⟨((v124 % (40 : Int)) - (20 : Int)), (((v125 % (40 : Int)) - (20 : Int)) + (v126 % (20 : Int)))⟩ : (T2 Int Int)).a) (y := enc (⟨((v127 % (40 : Int)) - (20 : Int)), (((v128 % (40 : Int)) - (20 : Int)) + (v129 % (20 : Int)))⟩ : (T2 Int Int)).a) (p_bin (x := enc (⟨((v124 % (40 : Int)) - (20 : Int)), (((v125 % (40 : Int)) - (20 : Int)) + (v126 % (20 : Int)))⟩ : (T2 Int Int))) (y := enc (0 : Int)) rfl rfl rfl) (p_bin (x := enc (⟨((v127 % (40 : Int)) - (20 : Int)), (((v128 % (40 : Int)) - (20 : Int)) + (v129 % (20 : Int)))⟩ : (T2 Int Int))) (y := enc (0 : Int)) rfl rfl rfl) rfl) (p_cons (x := enc ((⟨((v124 % (40 : Int)) - (20 : Int)), (((v125 % (40 : Int)) - (20 : Int)) + (v126 % (20 : Int)))⟩ : (T2 Int Int)).b + (⟨((v127 % (40 : Int)) - (20 : Int)), (((v128 % (40 : Int)) - (20 : Int)) + (v129 % (20 : Int)))⟩ : (T2 Int Int)).b)) (p_bin (x := enc (⟨((v124 % (40 : Int)) - (20 : Int)), (((v125 % (40 : Int)) - (20 : Int)) + (v126 % (20 : Int)))⟩ : (T2 Int Int)).b) (y := enc (⟨((v127 % (40 : Int)) - (20 : Int)), (((v128 % (40 : Int)) - (20 : Int)) + (v129 % (20 : Int)))⟩ : (T2 Int Int)).b) (p_bin (x := enc (⟨((v124 % (40 : Int)) - (20 : Int)), (((v125 % (40 : Int)) - (20 : Int)) + (v126 % (20 : Int)))⟩ : (T2 Int Int))) (y := enc (1 : Int)) rfl rfl rfl) (p_bin (x := enc (⟨((v127 % (40 : Int)) - (20 : Int)), (((v128 % (40 : Int)) - (20 : Int)) + (v129 % (20 : Int)))⟩ : (T2 Int Int))) (y := enc (1 : Int)) rfl rfl rfl) rfl) p_nil)) rfl) (c_nil (c_leaf le_like trivial fun v131 => (c_tru (q_ite (fun _ => (q_ret (c_ok false rfl (s_rt false rfl)))) (fun _ => (q_end (q_seq (q_set (c_toE (c_comp (c_arg (c_cons (c_ok (-30 : Int) (p_un (x := enc (30 : Int)) rfl rfl) (c_cons (c_ok (60 : Int) rfl (c_nil (c_leaf (e := encs) (le_rng2 (-30 : Int) (60 : Int)) trivial fun v132 => (c_leaf (e := encs) (le_comp [.v (.d (enc script65)), .v (.d (enc draws67)), .v (.d (enc (v68 % (1000000000000000000000000000000000000000000000000000000000000 : Int)))), u83, .v (.d (enc (⟨((v124 % (40 : Int)) - (20 : Int)), (((v125 % (40 : Int)) - (20 : Int)) + (v126 % (20 : Int)))⟩ : (T2 Int Int)))), .v (.d (enc (⟨((v127 % (40 : Int)) - (20 : Int)), (((v128 % (40 : Int)) - (20 : Int)) + (v129 % (20 : Int)))⟩ : (T2 Int Int)))), .no, .no, .no, u85, u87, u89, u91, u93, .no, .no] rfl (fun x133 => [.v (.d (enc script65)), .v (.d (enc draws67)), .v (.d (enc (v68 % (1000000000000000000000000000000000000000000000000000000000000 : Int)))), u83, .v (.d (enc (⟨((v124 % (40 : Int)) - (20 : Int)), (((v125 % (40 : Int)) - (20 : Int)) + (v126 % (20 : Int)))⟩ : (T2 Int Int)))), .v (.d (enc (⟨((v127 % (40 : Int)) - (20 : Int)), (((v128 % (40 : Int)) - (20 : Int)) + (v129 % (20 : Int)))⟩ : (T2 Int Int)))), .no, .no, .no, u85, u87, u89, u91, u93, .v (.d (enc x133)), .no]) (fun x133 => rfl) (fun x133 => (le_simb (ρ := [.v (.d (enc script65)), .v (.d (enc draws67)), .v (.d (enc (v68 % (1000000000000000000000000000000000000000000000000000000000000 : Int)))), u83, .v (.d (enc (⟨((v124 % (40 : Int)) - (20 : Int)), (((v125 % (40 : Int)) - (20 : Int)) + (v126 % (20 : Int)))⟩ : (T2 Int Int)))), .v (.d (enc (⟨((v127 % (40 : Int)) - (20 : Int)), (((v128 % (40 : Int)) - (20 : Int)) + (v129 % (20 : Int)))⟩ : (T2 Int Int)))), .no, .no, .no, u85, u87, u89, u91, u93, .v (.d (enc x133)), .no]) (c_okb ((decide ((⟨((v124 % (40 : Int)) - (20 : Int)), (((v125 % (40 : Int)) - (20 : Int)) + (v126 % (20 : Int)))⟩ : (T2 Int Int)).a ≤ x133)) && (decide (x133 ≤ (⟨((v124 % (40 : Int)) - (20 : Int)), (((v125 % (40 : Int)) - (20 : Int)) + (v126 % (20 : Int)))⟩ : (T2 Int Int)).b))) (p_tst (p_chain (x := enc (⟨((v124 % (40 : Int)) - (20 : Int)), (((v125 % (40 : Int)) - (20 : Int)) + (v126 % (20 : Int)))⟩ : (T2 Int Int)).a) (y := enc x133) (z := enc (⟨((v124 % (40 : Int)) - (20 : Int)), (((v125 % (40 : Int)) - (20 : Int)) + (v126 % (20 : Int)))⟩ : (T2 Int Int)).b) (p_bin (x := enc (⟨((v124 % (40 : Int)) - (20 : Int)), (((v125 % (40 : Int)) - (20 : Int)) + (v126 % (20 : Int)))⟩ : (T2 Int Int))) (y := enc (0 : Int)) rfl rfl rfl) rfl (p_bin (x := enc (⟨((v124 % (40 : Int)) - (20 : Int)), (((v125 % (40 : Int)) - (20 : Int)) + (v126 % (20 : Int)))⟩ : (T2 Int Int))) (y := enc (1 : Int)) rfl rfl rfl) rfl rfl)) (e_val ((decide ((⟨((v124 % (40 : Int)) - (20 : Int)), (((v125 % (40 : Int)) - (20 : Int)) + (v126 % (20 : Int)))⟩ : (T2 Int Int)).a ≤ x133)) && (decide (x133 ≤ (⟨((v124 % (40 : Int)) - (20 : Int)), (((v125 % (40 : Int)) - (20 : Int)) + (v126 % (20 : Int)))⟩ : (T2 Int Int)).b))) rfl)))) (fun x133 => (le_sim (ρ := [.v (.d (enc script65)), .v (.d (enc draws67)), .v (.d (enc (v68 % (1000000000000000000000000000000000000000000000000000000000000 : Int)))), u83, .v (.d (enc (⟨((v124 % (40 : Int)) - (20 : Int)), (((v125 % (40 : Int)) - (20 : Int)) + (v126 % (20 : Int)))⟩ : (T2 Int Int)))), .v (.d (enc (⟨((v127 % (40 : Int)) - (20 : Int)), (((v128 % (40 : Int)) - (20 : Int)) + (v129 % (20 : Int)))⟩ : (T2 Int Int)))), .no, .no, .no, u85, u87, u89, u91, u93, .v (.d (enc x133)), .no]) (c_ok x133 rfl (e_val x133 rfl))))) trivial fun both134 => (q_put (i := 6) [.v (.d (enc script65)), .v (.d (enc draws67)), .v (.d (enc (v68 % (1000000000000000000000000000000000000000000000000000000000000 : Int)))), u83, .v (.d (enc (⟨((v124 % (40 : Int)) - (20 : Int)), (((v125 % (40 : Int)) - (20 : Int)) + (v126 % (20 : Int)))⟩ : (T2 Int Int)))), .v (.d (enc (⟨((v127 % (40 : Int)) - (20 : Int)), (((v128 % (40 : Int)) - (20 : Int)) + (v129 % (20 : Int)))⟩ : (T2 Int Int)))), .v (.d (enc both134)), .no, .no, u85, u87, u89, u91, u93, .no, .no] rfl rfl (q_seq (q_set (c_toE (c_comp (c_okg (encs both134) (p_unF (x := enc both134) rfl (k_seq _)) (c_leaf (e := encs) (le_comp [.v (.d (enc script65)), .v (.d (enc draws67)), .v (.d (enc (v68 % (1000000000000000000000000000000000000000000000000000000000000 : Int)))), u83, .v (.d (enc (⟨((v124 % (40 : Int)) - (20 : Int)), (((v125 % (40 : Int)) - (20 : Int)) + (v126 % (20 : Int)))⟩ : (T2 Int Int)))), .v (.d (enc (⟨((v127 % (40 : Int)) - (20 : Int)), (((v128 % (40 : Int)) - (20 : Int)) + (v129 % (20 : Int)))⟩ : (T2 Int Int)))), .v (.d (enc both134)), .no, .no, u85, u87, u89, u91, u93, .no, .no] rfl (fun x135 => [.v (.d (enc script65)), .v (.d (enc draws67)), .v (.d (enc (v68 % (1000000000000000000000000000000000000000000000000000000000000 : Int)))), u83, .v (.d (enc (⟨((v124 % (40 : Int)) - (20 : Int)), (((v125 % (40 : Int)) - (20 : Int)) + (v126 % (20 : Int)))⟩ : (T2 Int Int)))), .v (.d (enc (⟨((v127 % (40 : Int)) - (20 : Int)), (((v128 % (40 : Int)) - (20 : Int)) + (v129 % (20 : Int)))⟩ : (T2 Int Int)))), .v (.d (enc both134)), .no, .no, u85, u87, u89, u91, u93, .v (.d (enc x135)), .no]) (fun x135 => rfl) (fun x135 => (le_simb (ρ := [.v (.d (enc script65)), .v (.d (enc draws67)), .v (.d (enc (v68 % (1000000000000000000000000000000000000000000000000000000000000 : Int)))), u83, .v (.d (enc (⟨((v124 % (40 : Int)) - (20 : Int)), (((v125 % (40 : Int)) - (20 : Int)) + (v126 % (20 : Int)))⟩ : (T2 Int Int)))), .v (.d (enc (⟨((v127 % (40 : Int)) - (20 : Int)), (((v128 % (40 : Int)) - (20 : Int)) + (v129 % (20 : Int)))⟩ : (T2 Int Int)))), .v (.d (enc both134)), .no, .no, u85, u87, u89, u91, u93, .v (.d (enc x135)), .no]) (c_okb ((decide ((⟨((v127 % (40 : Int)) - (20 : Int)), (((v128 % (40 : Int)) - (20 : Int)) + (v129 % (20 : Int)))⟩ : (T2 Int Int)).a ≤ x135)) && (decide (x135 ≤ (⟨((v127 % (40 : Int)) - (20 : Int)), (((v128 % (40 : Int)) - (20 : Int)) + (v129 % (20 : Int)))⟩ : (T2 Int Int)).b))) (p_tst (p_chain (x := enc (⟨((v127 % (40 : Int)) - (20 : Int)), (((v128 % (40 : Int)) - (20 : Int)) + (v129 % (20 : Int)))⟩ : (T2 Int Int)).a) (y := enc x135) (z := enc (⟨((v127 % (40 : Int)) - (20 : Int)), (((v128 % (40 : Int)) - (20 : Int)) + (v129 % (20 : Int)))⟩ : (T2 Int Int)).b) (p_bin (x := enc (⟨((v127 % (40 : Int)) - (20 : Int)), (((v128 % (40 : Int)) - (20 : Int)) + (v129 % (20 : Int)))⟩ : (T2 Int Int))) (y := enc (0 : Int)) rfl rfl rfl) rfl (p_bin (x := enc (⟨((v127 % (40 : Int)) - (20 : Int)), (((v128 % (40 : Int)) - (20 : Int)) + (v129 % (20 : Int)))⟩ : (T2 Int Int))) (y := enc (1 : Int)) rfl rfl rfl) rfl rfl)) (e_val ((decide ((⟨((v127 % (40 : Int)) - (20 : Int)), (((v128 % (40 : Int)) - (20 : Int)) + (v129 % (20 : Int)))⟩ : (T2 Int Int)).a ≤ x135)) && (decide (x135 ≤ (⟨((v127 % (40 : Int)) - (20 : Int)), (((v128 % (40 : Int)) - (20 : Int)) + (v129 % (20 : Int)))⟩ : (T2 Int Int)).b))) rfl)))) (fun x135 => (le_sim (ρ := [.v (.d (enc script65)), .v (.d (enc draws67)), .v (.d (enc (v68 % (1000000000000000000000000000000000000000000000000000000000000 : Int)))), u83, .v (.d (enc (⟨((v124 % (40 : Int)) - (20 : Int)), (((v125 % (40 : Int)) - (20 : Int)) + (v126 % (20 : Int)))⟩ : (T2 Int Int)))), .v (.d (enc (⟨((v127 % (40 : Int)) - (20 : Int)), (((v128 % (40 : Int)) - (20 : Int)) + (v129 % (20 : Int)))⟩ : (T2 Int Int)))), .v (.d (enc both134)), .no, .no, u85, u87, u89, u91, u93, .v (.d (enc x135)), .no]) (c_ok x135 rfl (e_val x135 rfl))))) trivial fun both136 => (q_put (i := 6) [.v (.d (enc script65)), .v (.d (enc draws67)), .v (.d (enc (v68 % (1000000000000000000000000000000000000000000000000000000000000 : Int)))), u83, .v (.d (enc (⟨((v124 % (40 : Int)) - (20 : Int)), (((v125 % (40 : Int)) - (20 : Int)) + (v126 % (20 : Int)))⟩ : (T2 Int Int)))), .v (.d (enc (⟨((v127 % (40 : Int)) - (20 : Int)), (((v128 % (40 : Int)) - (20 : Int)) + (v129 % (20 : Int)))⟩ : (T2 Int Int)))), .v (.d (enc both136)), .no, .no, u85, u87, u89, u91, u93, .no, .no] rfl rfl (q_seq (q_set (c_okL (none : (Option (T2 Int Int))) rfl fun due137 => (q_put (i := 7) [.v (.d (enc script65)), .v (.d (enc draws67)), .v (.d (enc (v68 % (1000000000000000000000000000000000000000000000000000000000000 : Int)))), u83, .v (.d (enc (⟨((v124 % (40 : Int)) - (20 : Int)), (((v125 % (40 : Int)) - (20 : Int)) + (v126 % (20 : Int)))⟩ : (T2 Int Int)))), .v (.d (enc (⟨((v127 % (40 : Int)) - (20 : Int)), (((v128 % (40 : Int)) - (20 : Int)) + (v129 % (20 : Int)))⟩ : (T2 Int Int)))), .v (.d (enc both136)), .v (.d (enc due137)), .no, u85, u87, u89, u91, u93, .no, .no] rfl rfl (q_seq (q_if (c_okb (decide ((0 : Int) < (both136.length : Int))) (p_tst (p_bin (x := enc (both136.length : Int)) (y := enc (0 : Int)) (p_arg (p_cons (x := enc both136) rfl p_nil) (k_len both136)) rfl rfl)) (q_join (I := (fun (s : (Option (T2 Int Int))) (ρ : Env) => ρ = [.v (.d (enc script65)), .v (.d (enc draws67)), .v (.d (enc (v68 % (1000000000000000000000000000000000000000000000000000000000000 : Int)))), u83, .v (.d (enc (⟨((v124 % (40 : Int)) - (20 : Int)), (((v125 % (40 : Int)) - (20 : Int)) + (v126 % (20 : Int)))⟩ : (T2 Int Int)))), .v (.d (enc (⟨((v127 % (40 : Int)) - (20 : Int)), (((v128 % (40 : Int)) - (20 : Int)) + (v129 % (20 : Int)))⟩ : (T2 Int Int)))), .v (.d (enc both136)), .v (.d (enc s)), .no, u85, u87, u89, u91, u93, .no, .no])) (q_ite (fun _ => (q_set (c_tup (c_cons (c_bin (c_ok both136 rfl (c_ok (0 : Int) rfl (c_leaf (le_idx both136 (0 : Int)) trivial fun v139 => (c_cons (c_bin (c_ok both136 rfl (c_ok (-1 : Int) (p_un (x := enc (1 : Int)) rfl rfl) (c_leaf (le_idx both136 (-1 : Int)) trivial fun v140 => (c_nil (c_ok (some (⟨v139, v140⟩ : (T2 Int Int))) (p_size rfl) (q_put (i := 7) [.v (.d (enc script65)), .v (.d (enc draws67)), .v (.d (enc (v68 % (1000000000000000000000000000000000000000000000000000000000000 : Int)))), u83, .v (.d (enc (⟨((v124 % (40 : Int)) - (20 : Int)), (((v125 % (40 : Int)) - (20 : Int)) + (v126 % (20 : Int)))⟩ : (T2 Int Int)))), .v (.d (enc (⟨((v127 % (40 : Int)) - (20 : Int)), (((v128 % (40 : Int)) - (20 : Int)) + (v129 % (20 : Int)))⟩ : (T2 Int Int)))), .v (.d (enc both136)), .v (.d (enc (some (⟨v139, v140⟩ : (T2 Int Int))))), .no, u85, u87, u89, u91, u93, .no, .no] rfl rfl (s_nx (s := (some (⟨v139, v140⟩ : (T2 Int Int)))) rfl))))))))))))))))) (fun _ => (q_end (s_nx (s := due137) rfl)))) (by intro s138 ρ h; subst h; exact (q_seq (q_if (c_or (c_not (c_tst (c_arg (c_cons (c_arg (c_cons (c_ok (⟨((v124 % (40 : Int)) - (20 : Int)), (((v125 % (40 : Int)) - (20 : Int)) + (v126 % (20 : Int)))⟩ : (T2 Int Int)) rfl (c_cons (c_ok (⟨((v127 % (40 : Int)) - (20 : Int)), (((v128 % (40 : Int)) - (20 : Int)) + (v129 % (20 : Int)))⟩ : (T2 Int Int)) rfl (c_nil (c_leaf (r_common (⟨((v124 % (40 : Int)) - (20 : Int)), (((v125 % (40 : Int)) - (20 : Int)) + (v126 % (20 : Int)))⟩ : (T2 Int Int)) (⟨((v127 % (40 : Int)) - (20 : Int)), (((v128 % (40 : Int)) - (20 : Int)) + (v129 % (20 : Int)))⟩ : (T2 Int Int))) trivial fun v141 => (c_cons (c_ok s138 rfl (c_nil (c_leaf le_like trivial fun v142 => (c_tru (c_leaf (le_or fun _ => (le_simb (ρ := [.v (.d (enc script65)), .v (.d (enc draws67)), .v (.d (enc (v68 % (1000000000000000000000000000000000000000000000000000000000000 : Int)))), u83, .v (.d (enc (⟨((v124 % (40 : Int)) - (20 : Int)), (((v125 % (40 : Int)) - (20 : Int)) + (v126 % (20 : Int)))⟩ : (T2 Int Int)))), .v (.d (enc (⟨((v127 % (40 : Int)) - (20 : Int)), (((v128 % (40 : Int)) - (20 : Int)) + (v129 % (20 : Int)))⟩ : (T2 Int Int)))), .v (.d (enc both136)), .v (.d (enc s138)), .no, u85, u87, u89, u91, u93, .no, .no]) (c_not (c_tst (c_arg (c_cons (c_arg (c_cons (c_ok (⟨((v124 % (40 : Int)) - (20 : Int)), (((v125 % (40 : Int)) - (20 : Int)) + (v126 % (20 : Int)))⟩ : (T2 Int Int)) rfl (c_cons (c_ok (⟨((v127 % (40 : Int)) - (20 : Int)), (((v128 % (40 : Int)) - (20 : Int)) + (v129 % (20 : Int)))⟩ : (T2 Int Int)) rfl (c_nil (c_leaf (r_hull (⟨((v124 % (40 : Int)) - (20 : Int)), (((v125 % (40 : Int)) - (20 : Int)) + (v126 % (20 : Int)))⟩ : (T2 Int Int)) (⟨((v127 % (40 : Int)) - (20 : Int)), (((v128 % (40 : Int)) - (20 : Int)) + (v129 % (20 : Int)))⟩ : (T2 Int Int))) trivial fun v143 => (c_cons (c_tup (c_cons (c_arg (c_cons (c_ok (TL.mk [(⟨(⟨((v124 % (40 : Int)) - (20 : Int)), (((v125 % (40 : Int)) - (20 : Int)) + (v126 % (20 : Int)))⟩ : (T2 Int Int)).a, (⟨((v124 % (40 : Int)) - (20 : Int)), (((v125 % (40 : Int)) - (20 : Int)) + (v126 % (20 : Int)))⟩ : (T2 Int Int)).b, (⟨((v127 % (40 : Int)) - (20 : Int)), (((v128 % (40 : Int)) - (20 : Int)) + (v129 % (20 : Int)))⟩ : (T2 Int Int)).a, (⟨((v127 % (40 : Int)) - (20 : Int)), (((v128 % (40 : Int)) - (20 : Int)) + (v129 % (20 : Int)))⟩ : (T2 Int Int)).b⟩ : (T4 Int Int Int Int)).a, (⟨(⟨((v124 % (40 : Int)) - (20 : Int)), (((v125 % (40 : Int)) - (20 : Int)) + (v126 % (20 : Int)))⟩ : (T2 Int Int)).a, (⟨((v124 % (40 : Int)) - (20 : Int)), (((v125 % (40 : Int)) - (20 : Int)) + (v126 % (20 : Int)))⟩ : (T2 Int Int)).b, (⟨((v127 % (40 : Int)) - (20 : Int)), (((v128 % (40 : Int)) - (20 : Int)) + (v129 % (20 : Int)))⟩ : (T2 Int Int)).a, (⟨((v127 % (40 : Int)) - (20 : Int)), (((v128 % (40 : Int)) - (20 : Int)) + (v129 % (20 : Int)))⟩ : (T2 Int Int)).b⟩ : (T4 Int Int Int Int)).b, (⟨(⟨((v124 % (40 : Int)) - (20 : Int)), (((v125 % (40 : Int)) - (20 : Int)) + (v126 % (20 : Int)))⟩ : (T2 Int Int)).a, (⟨((v124 % (40 : Int)) - (20 : Int)), (((v125 % (40 : Int)) - (20 : Int)) + (v126 % (20 : Int)))⟩ : (T2 Int Int)).b, (⟨((v127 % (40 : Int)) - (20 : Int)), (((v128 % (40 : Int)) - (20 : Int)) + (v129 % (20 : Int)))⟩ : (T2 Int Int)).a, (⟨((v127 % (40 : Int)) - (20 : Int)), (((v128 % (40 : Int)) - (20 : Int)) + (v129 % (20 : Int)))⟩ : (T2 Int Int)).b⟩ : (T4 Int Int Int Int)).c, (⟨(⟨((v124 % (40 : Int)) - (20 : Int)), (((v125 % (40 : Int)) - (20 : Int)) + (v126 % (20 : Int)))⟩ : (T2 Int Int)).a, (⟨((v124 % (40 : Int)) - (20 : Int)), (((v125 % (40 : Int)) - (20 : Int)) + (v126 % (20 : Int)))⟩ : (T2 Int Int)).b, (⟨((v127 % (40 : Int)) - (20 : Int)), (((v128 % (40 : Int)) - (20 : Int)) + (v129 % (20 : Int)))⟩ : (T2 Int Int)).a, (⟨((v127 % (40 : Int)) - (20 : Int)), (((v128 % (40 : Int)) - (20 : Int)) + (v129 % (20 : Int)))⟩ : (T2 Int Int)).b⟩ : (T4 Int Int Int Int)).d] : (TL Int)) (p_bin (x := enc (⟨((v124 % (40 : Int)) - (20 : Int)), (((v125 % (40 : Int)) - (20 : Int)) + (v126 % (20 : Int)))⟩ : (T2 Int Int))) (y := enc (⟨((v127 % (40 : Int)) - (20 : Int)), (((v128 % (40 : Int)) - (20 : Int)) + (v129 % (20 : Int)))⟩ : (T2 Int Int))) rfl rfl rfl) (c_nil (c_leaf (le_mint (TL.mk [(⟨(⟨((v124 % (40 : Int)) - (20 : Int)), (((v125 % (40 : Int)) - (20 : Int)) + (v126 % (20 : Int)))⟩ : (T2 Int Int)).a, (⟨((v124 % (40 : Int)) - (20 : Int)), (((v125 % (40 : Int)) - (20 : Int)) + (v126 % (20 : Int)))⟩ : (T2 Int Int)).b, (⟨((v127 % (40 : Int)) - (20 : Int)), (((v128 % (40 : Int)) - (20 : Int)) + (v129 % (20 : Int)))⟩ : (T2 Int Int)).a, (⟨((v127 % (40 : Int)) - (20 : Int)), (((v128 % (40 : Int)) - (20 : Int)) + (v129 % (20 : Int)))⟩ : (T2 Int Int)).b⟩ : (T4 Int Int Int Int)).a, (⟨(⟨((v124 % (40 : Int)) - (20 : Int)), (((v125 % (40 : Int)) - (20 : Int)) + (v126 % (20 : Int)))⟩ : (T2 Int Int)).a, (⟨((v124 % (40 : Int)) - (20 : Int)), (((v125 % (40 : Int)) - (20 : Int)) + (v126 % (20 : Int)))⟩ : (T2 Int Int)).b, (⟨((v127 % (40 : Int)) - (20 : Int)), (((v128 % (40 : Int)) - (20 : Int)) + (v129 % (20 : Int)))⟩ : (T2 Int Int)).a, (⟨((v127 % (40 : Int)) - (20 : Int)), (((v128 % (40 : Int)) - (20 : Int)) + (v129 % (20 : Int)))⟩ : (T2 Int Int)).b⟩ : (T4 Int Int Int Int)).b, (⟨(⟨((v124 % (40 : Int)) - (20 : Int)), (((v125 % (40 : Int)) - (20 : Int)) + (v126 % (20 : Int)))⟩ : (T2 Int Int)).a, (⟨((v124 % (40 : Int)) - (20 : Int)), (((v125 % (40 : Int)) - (20 : Int)) + (v126 % (20 : Int)))⟩ : (T2 Int Int)).b, (⟨((v127 % (40 : Int)) - (20 : Int)), (((v128 % (40 : Int)) - (20 : Int)) + (v129 % (20 : Int)))⟩ : (T2 Int Int)).a, (⟨((v127 % (40 : Int)) - (20 : Int)), (((v128 % (40 : Int)) - (20 : Int)) + (v129 % (20 : Int)))⟩ : (T2 Int Int)).b⟩ : (T4 Int Int Int Int)).c, (⟨(⟨((v124 % (40 : Int)) - (20 : Int)), (((v125 % (40 : Int)) - (20 : Int)) + (v126 % (20 : Int)))⟩ : (T2 Int Int)).a, (⟨((v124 % (40 : Int)) - (20 : Int)), (((v125 % (40 : Int)) - (20 : Int)) + (v126 % (20 : Int)))⟩ : (T2 Int Int)).b, (⟨((v127 % (40 : Int)) - (20 : Int)), (((v128 % (40 : Int)) - (20 : Int)) + (v129 % (20 : Int)))⟩ : (T2 Int Int)).a, (⟨((v127 % (40 : Int)) - (20 : Int)), (((v128 % (40 : Int)) - (20 : Int)) + (v129 % (20 : Int)))⟩ : (T2 Int Int)).b⟩ : (T4 Int Int Int Int)).d] : (TL Int))) trivial fun v144 => (c_cons (c_arg (c_cons (c_ok (TL.mk [(⟨(⟨((v124 % (40 : Int)) - (20 : Int)), (((v125 % (40 : Int)) - (20 : Int)) + (v126 % (20 : Int)))⟩ : (T2 Int Int)).a, (⟨((v124 % (40 : Int)) - (20 : Int)), (((v125 % (40 : Int)) - (20 : Int)) + (v126 % (20 : Int)))⟩ : (T2 Int Int)).b, (⟨((v127 % (40 : Int)) - (20 : Int)), (((v128 % (40 : Int)) - (20 : Int)) + (v129 % (20 : Int)))⟩ : (T2 Int Int)).a, (⟨((v127 % (40 : Int)) - (20 : Int)), (((v128 % (40 : Int)) - (20 : Int)) + (v129 % (20 : Int)))⟩ : (T2 Int Int)).b⟩ : (T4 Int Int Int Int)).a, (⟨(⟨((v124 % (40 : Int)) - (20 : Int)), (((v125 % (40 : Int)) - (20 : Int)) + (v126 % (20 : Int)))⟩ : (T2 Int Int)).a, (⟨((v124 % (40 : Int)) - (20 : Int)), (((v125 % (40 : Int)) - (20 : Int)) + (v126 % (20 : Int)))⟩ : (T2 Int Int)).b, (⟨((v127 % (40 : Int)) - (20 : Int)), (((v128 % (40 : Int)) - (20 : Int)) + (v129 % (20 : Int)))⟩ : (T2 Int Int)).a, (⟨((v127 % (40 : Int)) - (20 : Int)), (((v128 % (40 : Int)) - (20 : Int)) + (v129 % (20 : Int)))⟩ : (T2 Int Int)).b⟩ : (T4 Int Int Int Int)).b, (⟨(⟨((v124 % (40 : Int)) - (20 : Int)), (((v125 % (40 : Int)) - (20 : Int)) + (v126 % (20 : Int)))⟩ : (T2 Int Int)).a, (⟨((v124 % (40 : Int)) - (20 : Int)), (((v125 % (40 : Int)) - (20 : Int)) + (v126 % (20 : Int)))⟩ : (T2 Int Int)).b, (⟨((v127 % (40 : Int)) - (20 : Int)), (((v128 % (40 : Int)) - (20 : Int)) + (v129 % (20 : Int)))⟩ : (T2 Int Int)).a, (⟨((v127 % (40 : Int)) - (20 : Int)), (((v128 % (40 : Int)) - (20 : Int)) + (v129 % (20 : Int)))⟩ : (T2 Int Int)).b⟩ : (T4 Int Int Int Int)).c, (⟨(⟨((v124 % (40 : Int)) - (20 : Int)), (((v125 % (40 : Int)) - (20 : Int)) + (v126 % (20 : Int)))⟩ : (T2 Int Int)).a, (⟨((v124 % (40 : Int)) - (20 : Int)), (((v125 % (40 : Int)) - (20 : Int)) + (v126 % (20 : Int)))⟩ : (T2 Int Int)).b, (⟨((v127 % (40 : Int)) - (20 : Int)), (((v128 % (40 : Int)) - (20 : Int)) + (v129 % (20 : Int)))⟩ : (T2 Int Int)).a, (⟨((v127 % (40 : Int)) - (20 : Int)), (((v128 % (40 : Int)) - (20 : Int)) + (v129 % (20 : Int)))⟩ : (T2 Int Int)).b⟩ : (T4 Int Int Int Int)).d] : (TL Int)) (p_bin (x := enc (⟨((v124 % (40 : Int)) - (20 : Int)), (((v125 % (40 : Int)) - (20 : Int)) + (v126 % (20 : Int)))⟩ : (T2 Int Int))) (y := enc (⟨((v127 % (40 : Int)) - (20 : Int)), (((v128 % (40 : Int)) - (20 : Int)) + (v129 % (20 : Int)))⟩ : (T2 Int Int))) rfl rfl rfl) (c_nil (c_leaf (le_maxt (TL.mk [(⟨(⟨((v124 % (40 : Int)) - (20 : Int)), (((v125 % (40 : Int)) - (20 : Int)) + (v126 % (20 : Int)))⟩ : (T2 Int Int)).a, (⟨((v124 % (40 : Int)) - (20 : Int)), (((v125 % (40 : Int)) - (20 : Int)) + (v126 % (20 : Int)))⟩ : (T2 Int Int)).b, (⟨((v127 % (40 : Int)) - (20 : Int)), (((v128 % (40 : Int)) - (20 : Int)) + (v129 % (20 : Int)))⟩ : (T2 Int Int)).a, (⟨((v127 % (40 : Int)) - (20 : Int)), (((v128 % (40 : Int)) - (20 : Int)) + (v129 % (20 : Int)))⟩ : (T2 Int Int)).b⟩ : (T4 Int Int Int Int)).a, (⟨(⟨((v124 % (40 : Int)) - (20 : Int)), (((v125 % (40 : Int)) - (20 : Int)) + (v126 % (20 : Int)))⟩ : (T2 Int Int)).a, (⟨((v124 % (40 : Int)) - (20 : Int)), (((v125 % (40 : Int)) - (20 : Int)) + (v126 % (20 : Int)))⟩ : (T2 Int Int)).b, (⟨((v127 % (40 : Int)) - (20 : Int)), (((v128 % (40 : Int)) - (20 : Int)) + (v129 % (20 : Int)))⟩ : (T2 Int Int)).a, (⟨((v127 % (40 : Int)) - (20 : Int)), (((v128 % (40 : Int)) - (20 : Int)) + (v129 % (20 : Int)))⟩ : (T2 Int Int)).b⟩ : (T4 Int Int Int Int)).b, (⟨(⟨((v124 % (40 : Int)) - (20 : Int)), (((v125 % (40 : Int)) - (20 : Int)) + (v126 % (20 : Int)))⟩ : (T2 Int Int)).a, (⟨((v124 % (40 : Int)) - (20 : Int)), (((v125 % (40 : Int)) - (20 : Int)) + (v126 % (20 : Int)))⟩ : (T2 Int Int)).b, (⟨((v127 % (40 : Int)) - (20 : Int)), (((v128 % (40 : Int)) - (20 : Int)) + (v129 % (20 : Int)))⟩ : (T2 Int Int)).a, (⟨((v127 % (40 : Int)) - (20 : Int)), (((v128 % (40 : Int)) - (20 : Int)) + (v129 % (20 : Int)))⟩ : (T2 Int Int)).b⟩ : (T4 Int Int Int Int)).c, (⟨(⟨((v124 % (40 : Int)) - (20 : Int)), (((v125 % (40 : Int)) - (20 : Int)) + (v126 % (20 : Int)))⟩ : (T2 Int Int)).a, (⟨((v124 % (40 : Int)) - (20 : Int)), (((v125 % (40 : Int)) - (20 : Int)) + (v126 % (20 : Int)))⟩ : (T2 Int Int)).b, (⟨((v127 % (40 : Int)) - (20 : Int)), (((v128 % (40 : Int)) - (20 : Int)) + (v129 % (20 : Int)))⟩ : (T2 Int Int)).a, (⟨((v127 % (40 : Int)) - (20 : Int)), (((v128 % (40 : Int)) - (20 : Int)) + (v129 % (20 : Int)))⟩ : (T2 Int Int)).b⟩ : (T4 Int Int Int Int)).d] : (TL Int))) trivial fun v145 => (c_nil (c_ok (⟨v144, v145⟩ : (T2 Int Int)) (p_size rfl) (c_nil (c_leaf le_like trivial fun v146 => (c_tru (e_val (!v146) rfl))))))))))))))))))))))))))))))))) trivial fun b147 => (q_ite (fun _ => (q_ret (c_ok false rfl (s_rt false rfl)))) (fun _ => (q_end (q_seq (q_set (c_tup (c_cons (c_bin (c_bin (c_ok draws67 rfl (c_ok (9 : Int) rfl (c_leaf (le_idx draws67 (9 : Int)) trivial fun v148 => (c_ok (5 : Int) rfl (c_ok (v148 % (5 : Int)) (k_mod v148 (5 : Int) (by decide)) (c_cons (c_bin (c_bin (c_ok draws67 rfl (c_ok (10 : Int) rfl (c_leaf (le_idx draws67 (10 : Int)) trivial fun v149 => (c_ok (5 : Int) rfl (c_ok (v149 % (5 : Int)) (k_mod v149 (5 : Int) (by decide)) (c_nil (c_ok (⟨(v148 % (5 : Int)), (v149 % (5 : Int))⟩ : (T2 Int Int)) (p_size rfl) (q_put (i := 8) [.v (.d (enc script65)), .v (.d (enc draws67)), .v (.d (enc (v68 % (1000000000000000000000000000000000000000000000000000000000000 : Int)))), u83, .v (.d (enc (⟨((v124 % (40 : Int)) - (20 : Int)), (((v125 % (40 : Int)) - (20 : Int)) + (v126 % (20 : Int)))⟩ : (T2 Int Int)))), .v (.d (enc (⟨((v127 % (40 : Int)) - (20 : Int)), (((v128 % (40 : Int)) - (20 : Int)) + (v129 % (20 : Int)))⟩ : (T2 Int Int)))), .v (.d (enc both136)), .v (.d (enc s138)), .v (.d (enc (⟨(v148 % (5 : Int)), (v149 % (5 : Int))⟩ : (T2 Int Int)))), u85, u87, u89, u91, u93, .no, .no] rfl rfl (q_seq (q_if (c_not (c_tst (c_arg (c_cons (c_toE (c_lst (c_cons (c_arg (c_cons (c_ok (TL.mk [(⟨(v148 % (5 : Int)), (v149 % (5 : Int))⟩ : (T2 Int Int)).a, (⟨(v148 % (5 : Int)), (v149 % (5 : Int))⟩ : (T2 Int Int)).b] : (TL Int)) rfl (c_nil (c_leaf (r_is_interval (TL.mk [(⟨(v148 % (5 : Int)), (v149 % (5 : Int))⟩ : (T2 Int Int)).a, (⟨(v148 % (5 : Int)), (v149 % (5 : Int))⟩ : (T2 Int Int)).b] : (TL Int))) trivial fun v150 => (c_cons (c_arg (c_cons (c_ok (TL.mk [(⟨((v124 % (40 : Int)) - (20 : Int)), (((v125 % (40 : Int)) - (20 : Int)) + (v126 % (20 : Int)))⟩ : (T2 Int Int)).a, (⟨((v124 % (40 : Int)) - (20 : Int)), (((v125 % (40 : Int)) - (20 : Int)) + (v126 % (20 : Int)))⟩ : (T2 Int Int)).b] : (TL Int)) rfl (c_nil (c_leaf (r_is_interval (TL.mk [(⟨((v124 % (40 : Int)) - (20 : Int)), (((v125 % (40 : Int)) - (20 : Int)) + (v126 % (20 : Int)))⟩ : (T2 Int Int)).a, (⟨((v124 % (40 : Int)) - (20 : Int)), (((v125 % (40 : Int)) - (20 : Int)) + (v126 % (20 : Int)))⟩ : (T2 Int Int)).b] : (TL Int))) trivial fun v151 => (c_cons (c_arg (c_cons (c_ok (TL.mk [(⟨(⟨((v124 % (40 : Int)) - (20 : Int)), (((v125 % (40 : Int)) - (20 : Int)) + (v126 % (20 : Int)))⟩ : (T2 Int Int)).a, (⟨((v124 % (40 : Int)) - (20 : Int)), (((v125 % (40 : Int)) - (20 : Int)) + (v126 % (20 : Int)))⟩ : (T2 Int Int)).b, (⟨(9 : Int)⟩ : (T1 Int)).a⟩ : (T3 Int Int Int)).a, (⟨(⟨((v124 % (40 : Int)) - (20 : Int)), (((v125 % (40 : Int)) - (20 : Int)) + (v126 % (20 : Int)))⟩ : (T2 Int Int)).a, (⟨((v124 % (40 : Int)) - (20 : Int)), (((v125 % (40 : Int)) - (20 : Int)) + (v126 % (20 : Int)))⟩ : (T2 Int Int)).b, (⟨(9 : Int)⟩ : (T1 Int)).a⟩ : (T3 Int Int Int)).b, (⟨(⟨((v124 % (40 : Int)) - (20 : Int)), (((v125 % (40 : Int)) - (20 : Int)) + (v126 % (20 : Int)))⟩ : (T2 Int Int)).a, (⟨((v124 % (40 : Int)) - (20 : Int)), (((v125 % (40 : Int)) - (20 : Int)) + (v126 % (20 : Int)))⟩ : (T2 Int Int)).b, (⟨(9 : Int)⟩ : (T1 Int)).a⟩ : (T3 Int Int Int)).c] : (TL Int)) (p_bin (x := enc (⟨((v124 % (40 : Int)) - (20 : Int)), (((v125 % (40 : Int)) - (20 : Int)) + (v126 % (20 : Int)))⟩ : (T2 Int Int))) (y := enc (⟨(9 : Int)⟩ : (T1 Int))) rfl (p_tup (p_cons (x := enc (9 : Int)) rfl p_nil) rfl) rfl) (c_nil (c_leaf (r_is_interval (TL.mk [(⟨(⟨((v124 % (40 : Int)) - (20 : Int)), (((v125 % (40 : Int)) - (20 : Int)) + (v126 % (20 : Int)))⟩ : (T2 Int Int)).a, (⟨((v124 % (40 : Int)) - (20 : Int)), (((v125 % (40 : Int)) - (20 : Int)) + (v126 % (20 : Int)))⟩ : (T2 Int Int)).b, (⟨(9 : Int)⟩ : (T1 Int)).a⟩ : (T3 Int Int Int)).a, (⟨(⟨((v124 % (40 : Int)) - (20 : Int)), (((v125 % (40 : Int)) - (20 : Int)) + (v126 % (20 : Int)))⟩ : (T2 Int Int)).a, (⟨((v124 % (40 : Int)) - (20 : Int)), (((v125 % (40 : Int)) - (20 : Int)) + (v126 % (20 : Int)))⟩ : (T2 Int Int)).b, (⟨(9 : Int)⟩ : (T1 Int)).a⟩ : (T3 Int Int Int)).b, (⟨(⟨((v124 % (40 : Int)) - (20 : Int)), (((v125 % (40 : Int)) - (20 : Int)) + (v126 % (20 : Int)))⟩ : (T2 Int Int)).a, (⟨((v124 % (40 : Int)) - (20 : Int)), (((v125 % (40 : Int)) - (20 : Int)) + (v126 % (20 : Int)))⟩ : (T2 Int Int)).b, (⟨(9 : Int)⟩ : (T1 Int)).a⟩ : (T3 Int Int Int)).c] : (TL Int))) trivial fun v152 => (c_cons (c_arg (c_cons (c_ok (TL.mk [] : (TL Int)) (p_tup p_nil rfl) (c_nil (c_leaf (r_is_interval (TL.mk [] : (TL Int))) trivial fun v153 => (c_nil (c_okg (encs ([v150, v151, v152, v153] : (List Bool))) (p_size rfl) (c_cons (c_ok ([(decide ((⟨(v148 % (5 : Int)), (v149 % (5 : Int))⟩ : (T2 Int Int)).a ≤ (⟨(v148 % (5 : Int)), (v149 % (5 : Int))⟩ : (T2 Int Int)).b)), true, false, false] : (List Bool)) (p_toE (p_lst (p_cons (x := enc (decide ((⟨(v148 % (5 : Int)), (v149 % (5 : Int))⟩ : (T2 Int Int)).a ≤ (⟨(v148 % (5 : Int)), (v149 % (5 : Int))⟩ : (T2 Int Int)).b))) (p_bin (x := enc (⟨(v148 % (5 : Int)), (v149 % (5 : Int))⟩ : (T2 Int Int)).a) (y := enc (⟨(v148 % (5 : Int)), (v149 % (5 : Int))⟩ : (T2 Int Int)).b) (p_bin (x := enc (⟨(v148 % (5 : Int)), (v149 % (5 : Int))⟩ : (T2 Int Int))) (y := enc (0 : Int)) rfl rfl rfl) (p_bin (x := enc (⟨(v148 % (5 : Int)), (v149 % (5 : Int))⟩ : (T2 Int Int))) (y := enc (1 : Int)) rfl rfl rfl) rfl) (p_cons (x := enc true) rfl (p_cons (x := enc false) rfl (p_cons (x := enc false) rfl p_nil)))) rfl)) (c_nil (c_leaf le_like trivial fun v154 => (c_tru (q_ite (fun _ => (q_ret (c_ok false rfl (s_rt false rfl)))) (fun _ => (q_end (q_ret (c_arg (c_cons (c_toE (c_comp (c_arg (c_cons (c_ok (4 : Int) rfl (c_nil (c_leaf (e := encs) (le_rng (4 : Int)) trivial fun v155 => (c_leaf (e := encs) (le_comp [.v (.d (enc script65)), .v (.d (enc draws67)), .v (.d (enc (v68 % (1000000000000000000000000000000000000000000000000000000000000 : Int)))), u83, .v (.d (enc (⟨((v124 % (40 : Int)) - (20 : Int)), (((v125 % (40 : Int)) - (20 : Int)) + (v126 % (20 : Int)))⟩ : (T2 Int Int)))), .v (.d (enc (⟨((v127 % (40 : Int)) - (20 : Int)), (((v128 % (40 : Int)) - (20 : Int)) + (v129 % (20 : Int)))⟩ : (T2 Int Int)))), .v (.d (enc both136)), .v (.d (enc s138)), .v (.d (enc (⟨(v148 % (5 : Int)), (v149 % (5 : Int))⟩ : (T2 Int Int)))), u85, u87, u89, u91, u93, .no, .no] rfl (fun x156 => [.v (.d (enc script65)), .v (.d (enc draws67)), .v (.d (enc (v68 % (1000000000000000000000000000000000000000000000000000000000000 : Int)))), u83, .v (.d (enc (⟨((v124 % (40 : Int)) - (20 : Int)), (((v125 % (40 : Int)) - (20 : Int)) + (v126 % (20 : Int)))⟩ : (T2 Int Int)))), .v (.d (enc (⟨((v127 % (40 : Int)) - (20 : Int)), (((v128 % (40 : Int)) - (20 : Int)) + (v129 % (20 : Int)))⟩ : (T2 Int Int)))), .v (.d (enc both136)), .v (.d (enc s138)), .v (.d (enc (⟨(v148 % (5 : Int)), (v149 % (5 : Int))⟩ : (T2 Int Int)))), u85, u87, u89, u91, u93, .no, .v (.d (enc x156))]) (fun x156 => rfl) (fun x156 => ⟨rfl⟩) (fun x156 => (le_sim (ρ := [.v (.d (enc script65)), .v (.d (enc draws67)), .v (.d (enc (v68 % (1000000000000000000000000000000000000000000000000000000000000 : Int)))), u83, .v (.d (enc (⟨((v124 % (40 : Int)) - (20 : Int)), (((v125 % (40 : Int)) - (20 : Int)) + (v126 % (20 : Int)))⟩ : (T2 Int Int)))), .v (.d (enc (⟨((v127 % (40 : Int)) - (20 : Int)), (((v128 % (40 : Int)) - (20 : Int)) + (v129 % (20 : Int)))⟩ : (T2 Int Int)))), .v (.d (enc both136)), .v (.d (enc s138)), .v (.d (enc (⟨(v148 % (5 : Int)), (v149 % (5 : Int))⟩ : (T2 Int Int)))), u85, u87, u89, u91, u93, .no, .v (.d (enc x156))]) (c_arg (c_cons (c_ok x156 rfl (c_cons (c_ok (v68 % (1000000000000000000000000000000000000000000000000000000000000 : Int)) rfl (c_nil (c_leaf (r_law_refused x156 (v68 % (1000000000000000000000000000000000000000000000000000000000000 : Int))) trivial fun v157 => (e_val v157 rfl))))))))))) trivial fun v158 => (c_nil (c_ok (v158.all id) (k_all v158) (s_rt (v158.all id) rfl)))))))))))))))))))))))))))))))))))))))))))))))))))))))))))))))))))))))))))))))))))))))))))))))))))))))))))))))))))))))))))))))))))))))))))))))))))))))))))))))))))))))))))))))))))))))))))))))))))))))))))))))))))))))))))))))))))))))))))))))))))))))))))))))))))))))))))))))))))))))))))))))))))))))))))))))
end Cr
/-! plain lemmas over the typed words -/
namespace Cr
open PySem L2
theorem atI_nt {α : Type} (xs : List α) (k : Nat) (h : k < xs.length) : atI xs (k : Int) = some xs[k] := by
  unfold atI ixN
  rw [if_pos (by omega), if_pos (by omega)]
  simp [h]
theorem idx_nat {α : Type} (xs : List α) (k : Nat) (h : k < xs.length) : idxT xs (k : Int) = .ok xs[k] := by
  unfold idxT; rw [atI_nt xs k h]; rfl
theorem idx_int {α : Type} (xs : List α) (i : Int) (h : 0 ≤ i ∧ i < xs.length) : ∃ (k : Nat) (hk : k < xs.length), i = k ∧ idxT xs i = .ok xs[k] := by
  obtain ⟨k, rfl⟩ : ∃ k : Nat, i = k := ⟨i.toNat, by omega⟩
  exact ⟨k, by omega, rfl, idx_nat xs k (by omega)⟩
theorem idx_last {α : Type} (xs : List α) (x : α) : idxT (xs ++ [x]) (-1) = .ok x := by
  unfold idxT atI ixN
  have hl : (xs ++ [x]).length = xs.length + 1 := by simp
  rw [if_neg (by decide), if_pos (by rw [hl]; omega), hl]
  have e : ((-1 : Int) + ((xs.length + 1 : Nat) : Int)).toNat = xs.length := by omega
  rw [Option.bind_some, e]
  simp [opt]
theorem idx_getD {α : Type} (xs : List α) (d : α) (i : Int) (h : 0 ≤ i ∧ i < xs.length) : idxT xs i = .ok (xs.getD i.toNat d) := by
  obtain ⟨k, hk, rfl, e⟩ := idx_int xs i h
  rw [e, List.getD_eq_getElem?_getD, Int.toNat_natCast, List.getElem?_eq_getElem hk]; rfl
theorem bnd_ok {α β : Type} (a : α) (f : α → Res β) : ((Res.ok a : Res α) >>= f) = f a := rfl
theorem bnd_err {α β : Type} (x : Exc) (f : α → Res β) : ((Res.err x : Res α) >>= f) = .err x := rfl
theorem onF_ret {R σ γ : Type} (r : R) (a : R → Res γ) (b : σ → Res γ) : onF (.ok (.ret r)) a b = a r := rfl
theorem onF_nxt {R σ γ : Type} (s : σ) (a : R → Res γ) (b : σ → Res γ) : onF (.ok (.nxt s)) a b = b s := rfl
theorem onF_err {R σ γ : Type} (x : Exc) (a : R → Res γ) (b : σ → Res γ) : onF (.err x) a b = .err x := rfl
theorem tryT_ok {γ : Type} (cs : List Nat) (c : Nat) (g : γ) (B : Res γ) : tryT cs c (.ok g) B = .ok g := rfl
theorem tryT_err {γ : Type} (cs : List Nat) (c : Nat) (B : Res γ) (h : c ∈ cs) : tryT cs c (.err (.own c)) B = nerr B := by
  show (if c ∈ cs then (if c = c then nerr B else .err (.own c)) else .bad) = _
  rw [if_pos h, if_pos rfl]
theorem app_ok {α : Type} (xs : List α) (x : α) (h : xs.length < 16777216) : appT xs x = .ok (xs ++ [x]) := if_pos h
theorem ext_ok {α : Type} (xs ys : List α) (h : xs.length + ys.length ≤ 16777216) : extT xs ys = .ok (xs ++ ys) := if_pos h
theorem ins0_ok {α : Type} (xs : List α) (x : α) (h : xs.length < 16777216) : insT xs 0 x = .ok (x :: xs) := by
  unfold insT
  rw [if_pos ⟨h, by decide, by decide⟩]; rfl
theorem mul_r (a b : Int) (h : -18446744073709551616 < b ∧ b < 18446744073709551616) : mulT a b = .ok (a * b) := by
  have : mulOk a b := .inl (.inr ⟨by have := h.1; omega, by have := h.2; omega⟩)
  exact if_pos this
theorem mul_l (a b : Int) (h : -18446744073709551616 < a ∧ a < 18446744073709551616) : mulT a b = .ok (a * b) := by
  have : mulOk a b := .inl (.inl ⟨by have := h.1; omega, by have := h.2; omega⟩)
  exact if_pos this
theorem mod_ok (a b : Int) (h : 0 < b) : modT a b = .ok (a % b) := if_pos h
theorem fdiv_ok (a b : Int) (h : 0 < b ∧ b < 18446744073709551616) : fdivT a b = .ok (a / b) := by
  have e : divOk a b := by
    refine ⟨h.1, ?_⟩
    have : b.natAbs < 2 ^ 64 := by omega
    have h0 : b.natAbs ≠ 0 := by omega
    have := (Nat.log2_lt h0).mpr this
    omega
  exact if_pos e
/-! ranges -/
def nis (n : Nat) : List Int := (List.range n).map fun (i : Nat) => (i : Int)
theorem nis_len (n : Nat) : (nis n).length = n := by simp [nis]
theorem nis_get (n k : Nat) (h : k < (nis n).length) : (nis n)[k] = (k : Int) := by simp [nis]
theorem nis_mem {n : Nat} {i : Int} (h : i ∈ nis n) : ∃ k : Nat, k < n ∧ i = k := by
  simp only [nis, List.mem_map, List.mem_range] at h
  obtain ⟨k, hk, rfl⟩ := h
  exact ⟨k, hk, rfl⟩
theorem rangeI_01 (n : Nat) : rangeI 0 1 n = nis n := by
  unfold rangeI nis
  congr 1; funext i; omega
theorem rng_ok (n : Int) (h : n < 4611686018427387904) (h0 : 0 ≤ n) : rngT n = .ok (nis n.toNat) := by
  unfold rngT
  have e : -(2 ^ 62) ≤ n ∧ n < 2 ^ 62 := ⟨by omega, by omega⟩
  rw [if_pos e, rangeI_01]
theorem rng_nat (n : Nat) (h : n < 4611686018427387904) : rngT (n : Int) = .ok (nis n) := by
  rw [rng_ok _ (by omega) (by omega), Int.toNat_natCast]
theorem rangeI_len (lo c : Int) (n : Nat) : (rangeI lo c n).length = n := by simp [rangeI]
theorem rangeI_get (lo c : Int) (n k : Nat) (h : k < n) : (rangeI lo c n)[k]? = some (lo + k * c) := by simp [rangeI, h]
theorem rng2_ok (lo hi : Int) (h : 0 ≤ lo ∧ lo < 4611686018427387904) (h' : 0 ≤ hi ∧ hi < 4611686018427387904) : rng2T lo hi = .ok (rangeI lo 1 (hi - lo).toNat) := by
  unfold rng2T
  have e : -(2 ^ 62) ≤ lo ∧ lo < 2 ^ 62 ∧ -(2 ^ 62) ≤ hi ∧ hi < 2 ^ 62 := ⟨by omega, by omega, by omega, by omega⟩
  rw [if_pos e]
theorem rng3_ok (lo hi : Int) (h : -4611686018427387904 ≤ lo ∧ lo < 4611686018427387904) (h' : -4611686018427387904 ≤ hi ∧ hi < 4611686018427387904) : rng3T lo hi (-1) = .ok (rangeI lo (-1) (lo - hi).toNat) := by
  unfold rng3T
  have e : (-1 : Int) = -1 ∧ -(2 ^ 62) ≤ lo ∧ lo < 2 ^ 62 ∧ -(2 ^ 62) ≤ hi ∧ hi < 2 ^ 62 := ⟨rfl, by omega, by omega, by omega, by omega⟩
  rw [if_pos e]
/-! loops -/
theorem foldT_nil {α σ : Type} (f : α → σ → Res σ) (s : σ) : foldT f [] s = .ok s := rfl
theorem foldT_cons {α σ : Type} (f : α → σ → Res σ) (x : α) (xs : List α) (s : σ) : foldT f (x :: xs) s = (f x s >>= foldT f xs) := rfl
theorem foldT_append {α σ : Type} (f : α → σ → Res σ) : ∀ (xs ys : List α) (s : σ), foldT f (xs ++ ys) s = (foldT f xs s >>= foldT f ys)
  | [], ys, s => rfl
  | x :: xs, ys, s => by
    rw [List.cons_append, foldT_cons, foldT_cons]
    cases f x s with
    | ok s' => exact foldT_append f xs ys s'
    | err x => rfl
    | bad => rfl
theorem foldT_inv {α σ : Type} (I : Nat → σ → Prop) {f : α → σ → Res σ} : ∀ (xs : List α) (k : Nat) (s : σ), I k s →
    (∀ j x s, xs[j]? = some x → I (k + j) s → ∃ s', f x s = .ok s' ∧ I (k + j + 1) s') → ∃ s', foldT f xs s = .ok s' ∧ I (k + xs.length) s'
  | [], k, s, h, _ => ⟨s, rfl, h⟩
  | x :: xs, k, s, h, st => by
    obtain ⟨s1, e1, h1⟩ := st 0 x s rfl h
    obtain ⟨s2, e2, h2⟩ := foldT_inv I xs (k + 1) s1 h1 fun j y s hy hI => by
      have e : k + 1 + j = k + (j + 1) := by omega
      rw [e] at hI ⊢
      have := st (j + 1) y s (by simpa using hy) hI
      have e : k + (j + 1) + 1 = k + (j + 1) + 1 := rfl
      exact this
    refine ⟨s2, by rw [foldT_cons, e1]; exact e2, ?_⟩
    have e : k + (x :: xs).length = k + 1 + xs.length := by simp; omega
    rw [e]; exact h2
theorem foldT_nis {σ : Type} (g : Nat → σ) {f : Int → σ → Res σ} (n : Nat) (st : ∀ k : Nat, k < n → f (k : Int) (g k) = .ok (g (k + 1))) : foldT f (nis n) (g 0) = .ok (g n) := by
  obtain ⟨s', e, h⟩ := foldT_inv (fun k s => s = g k) (f := f) (nis n) 0 (g 0) rfl fun j x s hx hs => by
    have hj : j < n := by
      have := (List.getElem?_eq_some_iff.mp hx).1
      rw [nis_len] at this; exact this
    have hx : x = (j : Int) := by
      obtain ⟨hl, e⟩ := List.getElem?_eq_some_iff.mp hx
      rw [← e, nis_get]
    subst hx
    rw [Nat.zero_add] at hs ⊢
    subst hs
    exact ⟨_, st j hj, rfl⟩
  rw [e, h, Nat.zero_add, nis_len]
theorem foldT_rng {σ : Type} (g : Nat → σ) {f : Int → σ → Res σ} (lo c : Int) (n : Nat) (st : ∀ k : Nat, k < n → f (lo + k * c) (g k) = .ok (g (k + 1))) : foldT f (rangeI lo c n) (g 0) = .ok (g n) := by
  obtain ⟨s', e, h⟩ := foldT_inv (fun k s => s = g k) (f := f) (rangeI lo c n) 0 (g 0) rfl fun j x s hx hs => by
    have hj : j < n := by
      have := (List.getElem?_eq_some_iff.mp hx).1
      rw [rangeI_len] at this; exact this
    rw [rangeI_get lo c n j hj] at hx
    cases hx
    rw [Nat.zero_add] at hs ⊢
    subst hs
    exact ⟨_, st j hj, rfl⟩
  rw [e, h, Nat.zero_add, rangeI_len]
theorem foldT_all {α σ : Type} (I : σ → Prop) {f : α → σ → Res σ} (xs : List α) (s : σ) (h : I s) (st : ∀ x ∈ xs, ∀ s, I s → ∃ s', f x s = .ok s' ∧ I s') : ∃ s', foldT f xs s = .ok s' ∧ I s' :=
  foldT_inv (fun _ => I) xs 0 s h fun _ x s hx hI => st x (List.mem_of_getElem? hx) s hI
theorem forT_all {α R : Type} {f : α → Unit → Res (Fl R Unit)} : ∀ (xs : List α), (∀ x ∈ xs, f x () = .ok (.nxt ())) → forT f xs () = .ok (.nxt ())
  | [], _ => rfl
  | x :: xs, h => by
    show onF (f x ()) (fun r => .ok (.ret r)) (forT f xs) = _
    rw [h x (List.mem_cons_self ..), onF_nxt]
    exact forT_all xs fun y hy => h y (List.mem_cons_of_mem _ hy)
theorem forT_inv {α R σ : Type} (I : Nat → σ → Prop) {f : α → σ → Res (Fl R σ)} : ∀ (xs : List α) (k : Nat) (s : σ), I k s →
    (∀ j x s, xs[j]? = some x → I (k + j) s → ∃ s', f x s = .ok (.nxt s') ∧ I (k + j + 1) s') → ∃ s', forT f xs s = .ok (.nxt s') ∧ I (k + xs.length) s'
  | [], k, s, h, _ => ⟨s, rfl, h⟩
  | x :: xs, k, s, h, st => by
    obtain ⟨s1, e1, h1⟩ := st 0 x s rfl h
    obtain ⟨s2, e2, h2⟩ := forT_inv I xs (k + 1) s1 h1 fun j y s hy hI => by
      have e : k + 1 + j = k + (j + 1) := by omega
      rw [e] at hI ⊢
      exact st (j + 1) y s (by simpa using hy) hI
    refine ⟨s2, ?_, ?_⟩
    · show onF (f x s) (fun r => .ok (.ret r)) (forT f xs) = _
      rw [e1, onF_nxt]; exact e2
    · have e : k + (x :: xs).length = k + 1 + xs.length := by simp; omega
      rw [e]; exact h2
theorem fold_bnd {α σ γ : Type} {C : Res γ → Prop} (I : Nat → σ → Prop) {f : α → σ → Res σ} {xs : List α} {s0 : σ} {k : σ → Res γ} (h0 : I 0 s0) (st : ∀ j x s, xs[j]? = some x → I j s → ∃ s', f x s = .ok s' ∧ I (j + 1) s') (hk : ∀ s, I xs.length s → C (k s)) : C (foldT f xs s0 >>= k) := by
  obtain ⟨s, e, h⟩ := foldT_inv I (f := f) xs 0 s0 h0 fun j x s hx hI => by
    rw [Nat.zero_add] at hI ⊢
    exact st j x s hx hI
  rw [e]
  rw [Nat.zero_add] at h
  exact hk s h
theorem fold_nis {σ γ : Type} {C : Res γ → Prop} (I : Nat → σ → Prop) {f : Int → σ → Res σ} {n : Nat} {s0 : σ} {k : σ → Res γ} (h0 : I 0 s0) (st : ∀ j : Nat, j < n → ∀ s, I j s → ∃ s', f (j : Int) s = .ok s' ∧ I (j + 1) s') (hk : ∀ s, I n s → C (k s)) : C (foldT f (nis n) s0 >>= k) := by
  refine fold_bnd I h0 (fun j x s hx hI => ?_) (fun s h => hk s (by rw [nis_len] at h; exact h))
  obtain ⟨hl, rfl⟩ := List.getElem?_eq_some_iff.mp hx
  rw [nis_get]
  rw [nis_len] at hl
  exact st j hl s hI
theorem fold_rng {σ γ : Type} {C : Res γ → Prop} (I : Nat → σ → Prop) {lo c : Int} {f : Int → σ → Res σ} {n : Nat} {s0 : σ} {k : σ → Res γ} (h0 : I 0 s0) (st : ∀ j : Nat, j < n → ∀ s, I j s → ∃ s', f (lo + j * c) s = .ok s' ∧ I (j + 1) s') (hk : ∀ s, I n s → C (k s)) : C (foldT f (rangeI lo c n) s0 >>= k) := by
  refine fold_bnd I h0 (fun j x s hx hI => ?_) (fun s h => hk s (by rw [rangeI_len] at h; exact h))
  have hl : j < n := by
    have := (List.getElem?_eq_some_iff.mp hx).1
    rw [rangeI_len] at this; exact this
  rw [rangeI_get lo c n j hl] at hx
  cases hx
  exact st j hl s hI
theorem for_bnd {α R γ : Type} {C : Res γ → Prop} {f : α → Unit → Res (Fl R Unit)} {xs : List α} {a : R → Res γ} {k : Unit → Res γ} (st : ∀ x ∈ xs, f x () = .ok (.nxt ())) (hk : C (k ())) : C (onF (forT f xs ()) a k) := by
  rw [forT_all xs st, onF_nxt]; exact hk
theorem for_nis {R γ : Type} {C : Res γ → Prop} {f : Int → Unit → Res (Fl R Unit)} {n : Nat} {a : R → Res γ} {k : Unit → Res γ} (st : ∀ j : Nat, j < n → f (j : Int) () = .ok (.nxt ())) (hk : C (k ())) : C (onF (forT f (nis n) ()) a k) :=
  for_bnd (fun x hx => by obtain ⟨j, hj, rfl⟩ := nis_mem hx; exact st j hj) hk
theorem forS_bnd {α R σ γ : Type} {C : Res γ → Prop} (I : Nat → σ → Prop) {f : α → σ → Res (Fl R σ)} {xs : List α} {s0 : σ} {a : R → Res γ} {k : σ → Res γ} (h0 : I 0 s0) (st : ∀ j x s, xs[j]? = some x → I j s → ∃ s', f x s = .ok (.nxt s') ∧ I (j + 1) s') (hk : ∀ s, I xs.length s → C (k s)) : C (onF (forT f xs s0) a k) := by
  obtain ⟨s, e, h⟩ := forT_inv I (f := f) xs 0 s0 h0 fun j x s hx hI => by
    rw [Nat.zero_add] at hI ⊢
    exact st j x s hx hI
  rw [e]
  rw [Nat.zero_add] at h
  exact hk s h
/-! comprehensions -/
theorem comp_id {α : Type} (xs : List α) (h : xs.length ≤ 16777216) : compS (fun _ => .ok true) (fun x => Res.ok x) xs = .ok xs := by
  rw [compS_map (fun x => x) xs h, List.map_id']
theorem comp_nis {β : Type} {f : Int → Res β} (F : Nat → β) (n : Nat) (h : n ≤ 16777216) (hf : ∀ k : Nat, k < n → f (k : Int) = .ok (F k)) : compS (fun _ => .ok true) f (nis n) = .ok ((List.range n).map F) := by
  rw [compS_allm (fun i => F i.toNat) (nis n) (by rw [nis_len]; exact h) fun x hx => by
    obtain ⟨k, hk, rfl⟩ := nis_mem hx
    rw [hf k hk, Int.toNat_natCast]]
  congr 1
  unfold nis
  rw [List.map_map]
  congr 1
theorem if_ok {α : Type} (c : Bool) (a b : α) : (if c = true then Res.ok a else Res.ok b) = .ok (if c = true then a else b) := by cases c <;> rfl
end Cr
namespace Cr
open PySem L2
theorem stp {α γ : Type} {r : Res α} {a : α} {k : α → Res γ} {y : Res γ} (h : r = .ok a) (h2 : k a = y) : (r >>= k) = y := by rw [h]; exact h2
end Cr
/-! roots -/
namespace Cr
open PySem L2
def Sq (n r : Int) : Prop := 0 ≤ r ∧ r * r ≤ n ∧ n < (r + 1) * (r + 1)
theorem sq_le {a b : Int} (ha : 0 ≤ a) (h : a ≤ b) : a * a ≤ b * b := Int.mul_le_mul h h ha (by omega)
theorem lt_of_sq {a b : Int} (hb : 0 ≤ b) (h : a * a < b * b) : a < b := by
  by_cases q : a < b
  · exact q
  · have := sq_le hb (by omega : b ≤ a)
    omega
theorem Sq.uniq {n r r' : Int} (h : Sq n r) (h' : Sq n r') : r = r' := by
  have h1 : r < r' + 1 := lt_of_sq (by have := h'.1; omega) (by have := h.2.1; have := h'.2.2; omega)
  have h2 : r' < r + 1 := lt_of_sq (by have := h.1; omega) (by have := h'.2.1; have := h.2.2; omega)
  omega
/-- halving -/
structure Bs (n : Int) (m : Nat) (s : Int × Int) : Prop where
  lo : 0 ≤ s.1
  lt : s.1 < s.2
  le : s.1 * s.1 ≤ n
  gt : n < s.2 * s.2
  gap : s.2 - s.1 ≤ 2 ^ m
theorem Bs.sq {n : Int} {m : Nat} {s : Int × Int} (h : Bs n m s) (hg : ¬ 1 < s.2 - s.1) : Sq n s.1 := by
  have h2 := h.lt
  have e : s.2 = s.1 + 1 := by omega
  refine ⟨h.lo, h.le, ?_⟩
  have := h.gt
  rw [e] at this
  exact this
theorem Bs.mid {n : Int} {m : Nat} {s : Int × Int} (h : Bs n (m + 1) s) (hg : 1 < s.2 - s.1) : (0 ≤ (s.1 + s.2) / 2 ∧ (s.1 + s.2) / 2 < s.2) ∧ ((s.1 + s.2) / 2 * ((s.1 + s.2) / 2) ≤ n → Bs n m ((s.1 + s.2) / 2, s.2)) ∧ (¬ (s.1 + s.2) / 2 * ((s.1 + s.2) / 2) ≤ n → Bs n m (s.1, (s.1 + s.2) / 2)) := by
  have h0 := h.lo
  have h1 := h.gap
  have e : (2 : Int) ^ (m + 1) = 2 ^ m * 2 := Int.pow_succ ..
  rw [e] at h1
  refine ⟨by omega, fun q => ⟨by simp only []; omega, by simp only []; omega, q, h.gt, by simp only []; omega⟩, fun q => ⟨h0, by simp only []; omega, h.le, by simp only []; omega, by simp only []; omega⟩⟩
end Cr
/-! root_down, root_up -/
namespace Cr
open PySem L2
theorem while_bs (n : Int) (F : Int × Int → Res (Int × Int)) (hF : ∀ s m, Bs n (m + 1) s → 1 < s.2 - s.1 → m < 1000 → ∃ s', F s = .ok s' ∧ Bs n m s') : ∀ (m k : Nat) (s : Int × Int), m < 1000 → Bs n m s → ∃ s', whileT (fun s : Int × Int => .ok (decide ((1 : Int) < s.2 - s.1))) F (m + 1 + k) s = .ok s' ∧ Sq n s'.1
  | 0, k, s, _, h => by
    have hg := h.gap
    have hl : ¬ 1 < s.2 - s.1 := by simp at hg; omega
    have e : 0 + 1 + k = k + 1 := by omega
    refine ⟨s, ?_, h.sq hl⟩
    rw [e]
    show (if (decide ((1 : Int) < s.2 - s.1)) = true then _ else _) = _
    rw [if_neg (by rw [decide_eq_true_eq]; exact hl)]
  | m + 1, k, s, hm, h => by
    have e : m + 1 + 1 + k = (m + 1 + k) + 1 := by omega
    rw [e]
    show ∃ s', (if (decide ((1 : Int) < s.2 - s.1)) = true then (F s >>= whileT _ F (m + 1 + k)) else .ok s) = _ ∧ _
    by_cases hl : 1 < s.2 - s.1
    · rw [if_pos (decide_eq_true hl)]
      obtain ⟨s1, e1, h1⟩ := hF s m h hl (by omega)
      rw [e1, bnd_ok]
      exact while_bs n F hF m k s1 (by omega) h1
    · rw [if_neg (by rw [decide_eq_true_eq]; exact hl)]
      exact ⟨s, rfl, h.sq hl⟩
theorem bits_spec (n : Int) (h : 0 ≤ n) : ∃ b : Nat, bitsI n = (b : Int) ∧ n < 2 ^ b ∧ (∀ m : Nat, n < 2 ^ m → b ≤ m) := by
  refine ⟨Builtin.Int.intBits n, rfl, ?_, fun m hm => PyProof.Rows.intBits_le ?_⟩
  · unfold Builtin.Int.intBits
    by_cases h0 : n = 0
    · subst h0; decide
    · rw [if_neg (by simpa using h0)]
      have := Nat.lt_log2_self (n := n.natAbs)
      have e : ((n.natAbs : Nat) : Int) = n := by omega
      rw [← e]
      exact_mod_cast this
  · have e : ((n.natAbs : Nat) : Int) = n := by omega
    rw [← e] at hm
    exact_mod_cast hm
theorem rootd_ok (n : Int) (h : 0 ≤ n) (hb : n < 2 ^ 126) : ∃ r, t_root_down n = .ok r ∧ Sq n r := by
  obtain ⟨b, eb, h1, h2⟩ := bits_spec n h
  have hb2 : b ≤ 126 := h2 126 hb
  unfold t_root_down
  rw [if_neg (by rw [decide_eq_true_eq]; omega), eb]
  have ex : (b : Int) / 2 + 1 = ((b / 2 + 1 : Nat) : Int) := by omega
  have es : shlT (1 : Int) ((b : Int) / 2 + 1) = .ok (2 ^ (b / 2 + 1)) := by
    unfold shlT
    have : powOk 1 ((b : Int) / 2 + 1) := ⟨by omega, by omega, by have e : (1 : Int).natAbs.log2 = 0 := by decide
                                                                  omega⟩
    rw [if_pos this, ex, Int.toNat_natCast, Int.one_mul]
  rw [es, bnd_ok]
  have hpow : n < (2 : Int) ^ (b / 2 + 1) * 2 ^ (b / 2 + 1) := by
    rw [← Int.pow_add]
    have : (2 : Int) ^ b ≤ 2 ^ (b / 2 + 1 + (b / 2 + 1)) := by
      have h3 : b ≤ b / 2 + 1 + (b / 2 + 1) := by omega
      exact_mod_cast Nat.pow_le_pow_right (by decide : 0 < 2) h3
    omega
  have hp0 : 0 < (2 : Int) ^ (b / 2 + 1) := Int.pow_pos (by decide)
  have hp64 : (2 : Int) ^ (b / 2 + 1) ≤ 18446744073709551616 := by
    have h3 : b / 2 + 1 ≤ 64 := by omega
    have : (2 : Int) ^ (b / 2 + 1) ≤ 2 ^ 64 := by exact_mod_cast Nat.pow_le_pow_right (by decide : 0 < 2) h3
    omega
  -- the steps stay below 2 ^ 64
  have key := while_bs n (fun s => if s.2 ≤ 18446744073709551616 then (letT ((s.1 + s.2) / (2 : Int)) fun middle18 => ((mulT middle18 middle18) >>= fun v19 => (if (decide (v19 ≤ n)) = true then (.ok (middle18, s.2)) else (.ok (s.1, middle18))))) else (if (decide ((s.1 + s.2) / 2 * ((s.1 + s.2) / 2) ≤ n)) = true then (.ok ((s.1 + s.2) / 2, s.2)) else (.ok (s.1, (s.1 + s.2) / 2)))) (fun s m hs hg hm => by
    obtain ⟨q1, q2, q3⟩ := hs.mid hg
    by_cases hz : s.2 ≤ 18446744073709551616
    · rw [if_pos hz]
      show ∃ s', (mulT ((s.1 + s.2) / 2) ((s.1 + s.2) / 2) >>= _) = _ ∧ _
      rw [mul_r _ _ (by omega), bnd_ok]
      by_cases hq : (s.1 + s.2) / 2 * ((s.1 + s.2) / 2) ≤ n
      · rw [if_pos (decide_eq_true hq)]; exact ⟨_, rfl, q2 hq⟩
      · rw [if_neg (by rw [decide_eq_true_eq]; exact hq)]; exact ⟨_, rfl, q3 hq⟩
    · rw [if_neg hz]
      by_cases hq : (s.1 + s.2) / 2 * ((s.1 + s.2) / 2) ≤ n
      · rw [if_pos (decide_eq_true hq)]; exact ⟨_, rfl, q2 hq⟩
      · rw [if_neg (by rw [decide_eq_true_eq]; exact hq)]; exact ⟨_, rfl, q3 hq⟩)
  obtain ⟨s', e', h'⟩ := key (b / 2 + 1) (1000 - (b / 2 + 2)) (0, 2 ^ (b / 2 + 1)) (by omega) ⟨Int.le_refl 0, hp0, by simpa using h, hpow, by simp⟩
  have ek : b / 2 + 1 + 1 + (1000 - (b / 2 + 2)) = 1000 := by omega
  rw [ek] at e'
  -- the guard never matters
  have same : ∀ (k : Nat) (s : Int × Int), s.2 ≤ 18446744073709551616 → s.1 ≤ s.2 → whileT (fun s : Int × Int => Res.ok (decide ((1 : Int) < s.2 - s.1))) (fun s => if s.2 ≤ 18446744073709551616 then (letT ((s.1 + s.2) / (2 : Int)) fun middle18 => ((mulT middle18 middle18) >>= fun v19 => (if (decide (v19 ≤ n)) = true then (.ok (middle18, s.2)) else (.ok (s.1, middle18))))) else (if (decide ((s.1 + s.2) / 2 * ((s.1 + s.2) / 2) ≤ n)) = true then (.ok ((s.1 + s.2) / 2, s.2)) else (.ok (s.1, (s.1 + s.2) / 2)))) k s =
      whileT (fun s : Int × Int => Res.ok (decide ((1 : Int) < s.2 - s.1))) (fun s => (letT ((s.1 + s.2) / (2 : Int)) fun middle18 => ((mulT middle18 middle18) >>= fun v19 => (if (decide (v19 ≤ n)) = true then (.ok (middle18, s.2)) else (.ok (s.1, middle18)))))) k s := by
    intro k
    induction k with
    | zero => intro s _ _; rfl
    | succ k ih =>
      intro s hs hl
      show (if (decide ((1 : Int) < s.2 - s.1)) = true then ((if s.2 ≤ 18446744073709551616 then _ else _) >>= _) else Res.ok s) = (if (decide ((1 : Int) < s.2 - s.1)) = true then (_ >>= _) else Res.ok s)
      by_cases hg : 1 < s.2 - s.1
      · rw [if_pos (decide_eq_true hg), if_pos (decide_eq_true hg), if_pos hs]
        show ((mulT ((s.1 + s.2) / 2) ((s.1 + s.2) / 2) >>= fun v19 => (if (decide (v19 ≤ n)) = true then Res.ok ((s.1 + s.2) / 2, s.2) else Res.ok (s.1, (s.1 + s.2) / 2))) >>= _) = ((mulT ((s.1 + s.2) / 2) ((s.1 + s.2) / 2) >>= fun v19 => (if (decide (v19 ≤ n)) = true then Res.ok ((s.1 + s.2) / 2, s.2) else Res.ok (s.1, (s.1 + s.2) / 2))) >>= _)
        cases mulT ((s.1 + s.2) / 2) ((s.1 + s.2) / 2) with
        | ok v =>
          rw [bnd_ok]
          by_cases hq : v ≤ n
          · rw [if_pos (decide_eq_true hq)]; exact ih _ hs (by simp only []; omega)
          · rw [if_neg (by rw [decide_eq_true_eq]; exact hq)]; exact ih _ (by simp only []; omega) (by simp only []; omega)
        | err x => rfl
        | bad => rfl
      · rw [if_neg (by rw [decide_eq_true_eq]; exact hg), if_neg (by rw [decide_eq_true_eq]; exact hg)]
  rw [same 1000 _ hp64 (by simp only []; omega)] at e'
  exact ⟨s'.1, congrArg (fun r => r >>= fun s : Int × Int => Res.ok s.1) e', h'⟩
/-- the least root -/
def Up (n r : Int) : Prop := ∃ d, Sq n d ∧ r = if d * d = n then d else d + 1
theorem rootu_ok (n : Int) (h : 0 ≤ n) (hb : n < 2 ^ 126) : ∃ r, t_root_up n = .ok r ∧ Up n r := by
  obtain ⟨d, e, hd⟩ := rootd_ok n h hb
  have hs : d < 18446744073709551616 := lt_of_sq (by decide) (by
    have := hd.2.1
    have e : (2 : Int) ^ 126 ≤ 18446744073709551616 * 18446744073709551616 := by decide
    omega)
  unfold t_root_up
  rw [e, bnd_ok, mul_r _ _ (by have := hd.1; omega), bnd_ok, ifR_ok, bnd_ok]
  refine ⟨_, rfl, d, hd, ?_⟩
  simp only [decide_eq_true_eq]
end Cr
/-! root_down, root_up, quotients of great numbers -/
namespace Cr
open PySem L2
/-- not too great -/
def Sm (a : Int) : Prop := a.natAbs < 2 ^ 250
theorem log_sm {a : Int} (h : Sm a) : a.natAbs.log2 < 250 := by
  by_cases h0 : a.natAbs = 0
  · rw [h0]; decide
  · exact (Nat.log2_lt h0).mpr h
theorem mul_w (a b : Int) (h : Sm a) (h' : Sm b) : mulT a b = .ok (a * b) := by
  have : mulOk a b := .inr (by
    have := log_sm h
    have := log_sm h'
    show a.natAbs.log2 + b.natAbs.log2 < 1000000
    omega)
  exact if_pos this
theorem fdiv_w (a b : Int) (h : 0 < b) (h' : Sm b) : fdivT a b = .ok (a / b) := by
  have e : divOk a b := ⟨h, by have := log_sm h'; omega⟩
  exact if_pos e
theorem sm_of {a : Int} (b : Nat) (h : -(b : Int) ≤ a ∧ a ≤ b) (hb : b < 2 ^ 250) : Sm a := by
  unfold Sm
  have : a.natAbs ≤ b := by omega
  exact Nat.lt_of_le_of_lt this hb
theorem while_bsJ (n B : Int) (F : Int × Int → Res (Int × Int)) (hF : ∀ s m, Bs n (m + 1) s → s.2 ≤ B → 1 < s.2 - s.1 → ∃ s', F s = .ok s' ∧ Bs n m s' ∧ s'.2 ≤ B) : ∀ (m k : Nat) (s : Int × Int), Bs n m s → s.2 ≤ B → ∃ s', whileT (fun s : Int × Int => .ok (decide ((1 : Int) < s.2 - s.1))) F (m + 1 + k) s = .ok s' ∧ Sq n s'.1
  | 0, k, s, h, hB => by
    have hg := h.gap
    have hl : ¬ 1 < s.2 - s.1 := by simp at hg; omega
    have e : 0 + 1 + k = k + 1 := by omega
    refine ⟨s, ?_, h.sq hl⟩
    rw [e]
    show (if (decide ((1 : Int) < s.2 - s.1)) = true then _ else _) = _
    rw [if_neg (by rw [decide_eq_true_eq]; exact hl)]
  | m + 1, k, s, h, hB => by
    have e : m + 1 + 1 + k = (m + 1 + k) + 1 := by omega
    rw [e]
    show ∃ s', (if (decide ((1 : Int) < s.2 - s.1)) = true then (F s >>= whileT _ F (m + 1 + k)) else .ok s) = _ ∧ _
    by_cases hl : 1 < s.2 - s.1
    · rw [if_pos (decide_eq_true hl)]
      obtain ⟨s1, e1, h1, h2⟩ := hF s m h hB hl
      rw [e1, bnd_ok]
      exact while_bsJ n B F hF m k s1 h1 h2
    · rw [if_neg (by rw [decide_eq_true_eq]; exact hl)]
      exact ⟨s, rfl, h.sq hl⟩
theorem rootd_w (n : Int) (h : 0 ≤ n) (hb : n < 2 ^ 220) : ∃ r, t_root_down n = .ok r ∧ Sq n r := by
  obtain ⟨b, eb, h1, h2⟩ := bits_spec n h
  have hb2 : b ≤ 220 := h2 220 hb
  unfold t_root_down
  rw [if_neg (by rw [decide_eq_true_eq]; omega), eb]
  have ex : (b : Int) / 2 + 1 = ((b / 2 + 1 : Nat) : Int) := by omega
  have es : shlT (1 : Int) ((b : Int) / 2 + 1) = .ok (2 ^ (b / 2 + 1)) := by
    unfold shlT
    have : powOk 1 ((b : Int) / 2 + 1) := ⟨by omega, by omega, by have e : (1 : Int).natAbs.log2 = 0 := by decide
                                                                  omega⟩
    rw [if_pos this, ex, Int.toNat_natCast, Int.one_mul]
  rw [es, bnd_ok]
  have hpow : n < (2 : Int) ^ (b / 2 + 1) * 2 ^ (b / 2 + 1) := by
    rw [← Int.pow_add]
    have : (2 : Int) ^ b ≤ 2 ^ (b / 2 + 1 + (b / 2 + 1)) := by
      have h3 : b ≤ b / 2 + 1 + (b / 2 + 1) := by omega
      exact_mod_cast Nat.pow_le_pow_right (by decide : 0 < 2) h3
    omega
  have hp0 : 0 < (2 : Int) ^ (b / 2 + 1) := Int.pow_pos (by decide)
  have hp64 : (2 : Int) ^ (b / 2 + 1) ≤ ((2 ^ 120 : Nat) : Int) := by
    have h3 : b / 2 + 1 ≤ 120 := by omega
    exact_mod_cast Nat.pow_le_pow_right (by decide : 0 < 2) h3
  have key := while_bsJ n ((2 ^ 120 : Nat) : Int) (fun s => (letT ((s.1 + s.2) / (2 : Int)) fun middle18 => ((mulT middle18 middle18) >>= fun v19 => (if (decide (v19 ≤ n)) = true then (.ok (middle18, s.2)) else (.ok (s.1, middle18)))))) (fun s m hs hB hg => by
    obtain ⟨q1, q2, q3⟩ := hs.mid hg
    show ∃ s', (mulT ((s.1 + s.2) / 2) ((s.1 + s.2) / 2) >>= _) = _ ∧ _
    have hsm : Sm ((s.1 + s.2) / 2) := sm_of (2 ^ 120) ⟨by omega, by omega⟩ (Nat.pow_lt_pow_right (by decide) (by decide))
    rw [mul_w _ _ hsm hsm, bnd_ok]
    by_cases hq : (s.1 + s.2) / 2 * ((s.1 + s.2) / 2) ≤ n
    · rw [if_pos (decide_eq_true hq)]; exact ⟨_, rfl, q2 hq, hB⟩
    · rw [if_neg (by rw [decide_eq_true_eq]; exact hq)]; exact ⟨_, rfl, q3 hq, by simp only []; omega⟩)
  obtain ⟨s', e', h'⟩ := key (b / 2 + 1) (1000 - (b / 2 + 2)) (0, 2 ^ (b / 2 + 1)) ⟨Int.le_refl 0, hp0, by simpa using h, hpow, by simp⟩ hp64
  have ek : b / 2 + 1 + 1 + (1000 - (b / 2 + 2)) = 1000 := by omega
  rw [ek] at e'
  exact ⟨s'.1, congrArg (fun r => r >>= fun s : Int × Int => Res.ok s.1) e', h'⟩
theorem Sq.smW {n r : Int} (h : Sq n r) (hn : n < 2 ^ 220) : r < ((2 ^ 120 : Nat) : Int) := lt_of_sq (by omega) (by
  have h1 := h.2.1
  have e : (2 : Int) ^ 220 ≤ ((2 ^ 120 : Nat) : Int) * ((2 ^ 120 : Nat) : Int) := by
    have : (2 : Nat) ^ 220 ≤ 2 ^ 120 * 2 ^ 120 := by rw [← Nat.pow_add]; exact Nat.pow_le_pow_right (by decide) (by decide)
    exact_mod_cast this
  omega)
theorem Sq.smm {n r : Int} (h : Sq n r) (hn : n < 2 ^ 220) (d : Int) (hd : -1 ≤ d ∧ d ≤ 2) : Sm (r + d) :=
  sm_of (2 ^ 120 + 2) (by have := h.smW hn; have := h.1; omega) (by
    have : (2 : Nat) ^ 120 + 2 ≤ 2 ^ 121 := by decide
    exact Nat.lt_of_le_of_lt this (Nat.pow_lt_pow_right (by decide) (by decide)))
theorem rootu_w (n : Int) (h : 0 ≤ n) (hb : n < 2 ^ 220) : ∃ r, t_root_up n = .ok r ∧ Up n r := by
  obtain ⟨d, e, hd⟩ := rootd_w n h hb
  have hs : Sm d := by have := hd.smm hb 0 (by decide); rwa [Int.add_zero] at this
  unfold t_root_up
  rw [e, bnd_ok, mul_w _ _ hs hs, bnd_ok, ifR_ok, bnd_ok]
  refine ⟨_, rfl, d, hd, ?_⟩
  simp only [decide_eq_true_eq]
theorem div_bds (x D : Int) (h : 1 ≤ D) : x / D * D ≤ x ∧ x < (x / D + 1) * D := by
  have h1 := Int.mul_ediv_add_emod x D
  have h2 := Int.emod_nonneg x (b := D) (by omega)
  have h3 := Int.emod_lt_of_pos x (show 0 < D by omega)
  rw [Int.add_mul, Int.mul_comm (x / D) D]
  omega
theorem div_sm {x : Int} (B : Nat) (D : Int) (h : -(B : Int) ≤ x ∧ x ≤ B) (hB : B + 1 < 2 ^ 250) (d : Int) (hd : -1 ≤ d ∧ d ≤ 1) : Sm (x / D + d) := by
  have := Int.natAbs_ediv_le_natAbs x D
  exact sm_of (B + 1) (by omega) hB
end Cr
/-! cells and draws -/
namespace Cr
open PySem L2
def isNum (n : Nat) (xs : List Int) : Prop := xs.length = n ∧ ∀ x ∈ xs, 0 ≤ x ∧ x < 4096
theorem num_rng {n : Nat} {xs : List Int} (h : isNum n xs) (k : Nat) : 0 ≤ xs.getD k 0 ∧ xs.getD k 0 < 4096 := by
  rw [List.getD_eq_getElem?_getD]
  cases q : xs[k]? with
  | none => exact ⟨Int.le_refl 0, by decide⟩
  | some x => exact h.2 x (List.mem_of_getElem? q)
theorem num_idx {n : Nat} {xs : List Int} (h : isNum n xs) (i : Int) (hi : 0 ≤ i ∧ i < n) : idxT xs i = .ok (xs.getD i.toNat 0) := idx_getD xs 0 i (by rw [h.1]; exact hi)
theorem cell_ok (ns : List Int) (k : Nat) : ∃ c : Int, 0 ≤ c ∧ t_law_cell ⟨ns⟩ (k : Int) = .ok c := by
  unfold t_law_cell
  by_cases h : k < ns.length
  · refine ⟨if ns[k] < 0 then -ns[k] else ns[k], by split <;> omega, ?_⟩
    have hd : decide ((k : Int) < ((ns.length : Nat) : Int)) = true := decide_eq_true (by omega)
    rw [if_pos hd, idx_nat ns k h, bnd_ok]
  · have hd : ¬ (decide ((k : Int) < ((ns.length : Nat) : Int)) = true) := by
      rw [decide_eq_true_eq]; omega
    exact ⟨0, by omega, if_neg hd⟩
theorem draws_ok (c : Int) (n : Nat) (hn : n < 1000) : ∃ xs : List Int, isNum n xs ∧ t_law_draws c (n : Int) = .ok xs := by
  unfold t_law_draws
  rw [rng_nat n (by omega), bnd_ok]
  refine fold_nis (C := fun r => ∃ xs : List Int, isNum n xs ∧ r = .ok xs) (fun k (s : List Int × Int) => isNum k s.1) ⟨rfl, fun x h => by cases h⟩ (fun j hj s hI => ?_) (fun s h => ⟨s.1, h, rfl⟩)
  have step : ∀ y : Int, 0 ≤ y ∧ y < 4096 → isNum (j + 1) (s.1 ++ [y]) := fun y hy => ⟨by simp [hI.1], fun z hz => by
    rcases List.mem_append.mp hz with h | h
    · exact hI.2 z h
    · rw [List.mem_singleton.mp h]; exact hy⟩
  have hl : s.1.length < 16777216 := by rw [hI.1]; omega
  by_cases hc : (decide ((1000000000000000000 : Int) ≤ c) && decide (0 < s.2)) = true
  · refine ⟨(s.1 ++ [s.2 % 4096], s.2 / 4096), ?_, step _ (by omega)⟩
    rw [if_pos hc, app_ok _ _ hl]; rfl
  · rw [if_neg hc]
    simp only [letT]
    rw [mul_r _ _ (by omega), bnd_ok, mul_r _ _ (by omega), bnd_ok, app_ok _ _ hl]
    exact ⟨_, rfl, step _ (by omega)⟩
end Cr
/-! _law_like of the same data -/
namespace Cr
open PySem L2
theorem atI_nat {α : Type} (xs : List α) (k : Nat) (h : k < xs.length) : atI xs (k : Int) = some xs[k] := atI_nt xs k h
/-! data of which both are alike -/
mutual
def plainD : Nat → D → Prop
  | _, .non => True
  | _, .bl _ => True
  | _, .int _ => True
  | _, .str _ => True
  | n + 1, .tup xs => xs.length ≤ 16777216 ∧ plainL n xs
  | n + 1, .lst xs => xs.length ≤ 16777216 ∧ plainL n xs
  | _, _ => False
def plainL : Nat → List D → Prop
  | _, [] => True
  | n, x :: xs => plainD n x ∧ plainL n xs
end
theorem plainL_get : ∀ {n : Nat} {xs : List D} {x : D}, plainL n xs → x ∈ xs → plainD n x
  | n, [], x, _, h => by cases h
  | n, y :: ys, x, hp, h => by
    unfold plainL at hp
    rcases List.mem_cons.mp h with rfl | h
    · exact hp.1
    · exact plainL_get hp.2 h
theorem like_seq (m : List D → Res D) (x : D) (xs : List D) (hx : x = .lst xs ∨ x = .tup xs) (hl : xs.length ≤ 16777216) (h : ∀ x ∈ xs, m [x, x] = .ok (.bl true)) : runD 3 (b_law_like m) [x, x] = .ok (.bl true) := by
  have hz : sizeLine = 16777216 := rfl
  have ex : ∀ (j : Nat) (h : j < xs.length), idxD x (.int j) = .ok xs[j] := fun j h => by
    rcases hx with rfl | rfl
    · rw [idxD_lst, atI_nat xs j h]; rfl
    · rw [idxD_tup, atI_nat xs j h]; rfl
  have el : lenD [x] = .ok (.int xs.length) := by rcases hx with rfl | rfl <;> rfl
  have ec : mComp [2] (mArg rng1 (mCons (mArg lenD (mCons (mVar 1) mNil)) mNil)) (gN 2) mYes (mArg m (mCons (mBin idxD (mVar 0) (mVar 2)) (mCons (mBin idxD (mVar 1) (mVar 2)) mNil))) (startE 3 [x, x]) = .ok ((rangeD 0 1 xs.length).map fun _ => .bl true) := by
    refine comp_map (xs := rangeD 0 1 xs.length) (fun _ => .bl true) ?_ ?_ fun d hd => ?_
    · simp -implicitDefEqProofs only [mEnd, mSet, mSetO, mRet, mEx, mIfS_B, mTst, mBin, mUn, mC, mVar, mVarB, mArg, mCons, mNil, toE, mLst, mTup, bindF_ok, put, okS_s, okS_v, okS_no, bind_ok, tru_bl, mAnd_B, mOr_B, andB_ok, andB_f, andB_t, orB_ok, orB_f, orB_t, andVB_ok, andVB_f, andVB_t, orVB_ok, orVB_f, orVB_t, mNot, mAndV_B, mOrV_B, mNotV, mIf_B, mChain_B, mSeq_B, seqF_nx, seqF_rt, seqF_er, seqF_if, bind_if, bindF_if, runF_rt, runF_nx, runF_er, runF_if, runIF_nx, runIF_er, runIF_if, mRaise, startE, startI, List.map_cons, List.map_nil, List.cons_append, List.nil_append, List.length_cons, List.length_nil, Nat.reduceAdd, Nat.reduceSub, List.replicate_zero, List.replicate_succ, List.append_nil, gN, gSc, gS0, gQ, gT, gL, mPart, intO, mNo, List.getElem?_cons_zero, List.getElem?_cons_succ, List.set_cons_zero, List.set_cons_succ, addD_i, subD_i, negD_i, ltD_i, leD_i, gtD_i, geD_i, eqD_i, neD_i, eqD_b, neD_b, eqD_s, neD_s, absD_i, intD_i, lenD_lst, lenD_tup, lenD_scr, isNonD, notNonD, isiD, reduceIte, bindF_err', bind_err, mAsg, if_true, mFrz, frzE, appG_ok, mLm, if_pos, ite_true, max2D, min2D, decide_true, decide_false, Bool.not_true, Bool.not_false, Bool.false_eq_true, Bool.true_and, Bool.and_true, Bool.false_and, Bool.and_false, Bool.true_or, Bool.or_true, Bool.false_or, Bool.or_false, true_and, and_true, Bool.and_eq_false_iff, gt_iff_lt, ge_iff_le, ite_false, if_false, decide_eq_true_eq, Bool.not_eq_true', Bool.and_eq_true, Bool.or_eq_true, decide_eq_false_iff_not, Int.reduceToNat, mFor_B, forL_nil, forL_c, optF_some, optR_some, compL_nil, compL_c, nerr_ok, mComp_B, mYes, allD_l, anyD_l, bools_nil, bools_c, Option.map_some, opt_some, List.all_cons, List.all_nil, List.any_cons, List.any_nil, id_eq, mUnF, seqOf_l, seqOf_t, addD_l, szl, Nat.reduceLeDiff, wipeE, Int.reduceLT, Int.reduceLE, Int.reduceNeg, Int.reducePow, Int.reduceAdd, Int.reduceSub, Int.reduceMul, and_self, modD_p, fdivD_p, mulD_r, mulD_l, startE, List.map_cons, List.map_nil, List.cons_append, List.nil_append, el]
      exact rng1_p _ (by omega)
    · rw [rangeD_len, hz]; exact hl
    · obtain ⟨j, hj⟩ := List.getElem?_of_mem hd
      obtain ⟨hlt, rfl⟩ := rangeD_get hj
      refine ⟨[.v (.d x), .v (.d x), .v (.d (.int j))], ?_, rfl, ?_⟩
      · simp [gN, wipeE, startE, okS]
      · simp -implicitDefEqProofs only [mEnd, mSet, mSetO, mRet, mEx, mIfS_B, mTst, mBin, mUn, mC, mVar, mVarB, mArg, mCons, mNil, toE, mLst, mTup, bindF_ok, put, okS_s, okS_v, okS_no, bind_ok, tru_bl, mAnd_B, mOr_B, andB_ok, andB_f, andB_t, orB_ok, orB_f, orB_t, andVB_ok, andVB_f, andVB_t, orVB_ok, orVB_f, orVB_t, mNot, mAndV_B, mOrV_B, mNotV, mIf_B, mChain_B, mSeq_B, seqF_nx, seqF_rt, seqF_er, seqF_if, bind_if, bindF_if, runF_rt, runF_nx, runF_er, runF_if, runIF_nx, runIF_er, runIF_if, mRaise, startE, startI, List.map_cons, List.map_nil, List.cons_append, List.nil_append, List.length_cons, List.length_nil, Nat.reduceAdd, Nat.reduceSub, List.replicate_zero, List.replicate_succ, List.append_nil, gN, gSc, gS0, gQ, gT, gL, mPart, intO, mNo, List.getElem?_cons_zero, List.getElem?_cons_succ, List.set_cons_zero, List.set_cons_succ, addD_i, subD_i, negD_i, ltD_i, leD_i, gtD_i, geD_i, eqD_i, neD_i, eqD_b, neD_b, eqD_s, neD_s, absD_i, intD_i, lenD_lst, lenD_tup, lenD_scr, isNonD, notNonD, isiD, reduceIte, bindF_err', bind_err, mAsg, if_true, mFrz, frzE, appG_ok, mLm, if_pos, ite_true, max2D, min2D, decide_true, decide_false, Bool.not_true, Bool.not_false, Bool.false_eq_true, Bool.true_and, Bool.and_true, Bool.false_and, Bool.and_false, Bool.true_or, Bool.or_true, Bool.false_or, Bool.or_false, true_and, and_true, Bool.and_eq_false_iff, gt_iff_lt, ge_iff_le, ite_false, if_false, decide_eq_true_eq, Bool.not_eq_true', Bool.and_eq_true, Bool.or_eq_true, decide_eq_false_iff_not, Int.reduceToNat, mFor_B, forL_nil, forL_c, optF_some, optR_some, compL_nil, compL_c, nerr_ok, mComp_B, mYes, allD_l, anyD_l, bools_nil, bools_c, Option.map_some, opt_some, List.all_cons, List.all_nil, List.any_cons, List.any_nil, id_eq, mUnF, seqOf_l, seqOf_t, addD_l, szl, Nat.reduceLeDiff, wipeE, Int.reduceLT, Int.reduceLE, Int.reduceNeg, Int.reducePow, Int.reduceAdd, Int.reduceSub, Int.reduceMul, and_self, modD_p, fdivD_p, mulD_r, mulD_l, ex j hlt]
        exact h _ (List.getElem_mem hlt)
  have ea : allD [.lst ((rangeD 0 1 xs.length).map fun _ => .bl true)] = .ok (.bl true) := by
    rw [allD_b (fun _ => true)]
    simp
  refine runD_rt (ρ := startE 3 [x, x]) ?_
  unfold b_law_like
  rcases hx with rfl | rfl
  · rw [seq_if_f (by rfl), seq_if_f (by rfl), seq_if_f (by rfl), seq_if_f (by rfl), seq_if_f (by rfl)]
    rw [seq_if_f]
    · apply ret_ok
      simp -implicitDefEqProofs only [mArg, mCons, mNil, toE, ec, bind_ok, ea]
    · simp -implicitDefEqProofs only [mEnd, mSet, mSetO, mRet, mEx, mIfS_B, mTst, mBin, mUn, mC, mVar, mVarB, mArg, mCons, mNil, toE, mLst, mTup, bindF_ok, put, okS_s, okS_v, okS_no, bind_ok, tru_bl, mAnd_B, mOr_B, andB_ok, andB_f, andB_t, orB_ok, orB_f, orB_t, andVB_ok, andVB_f, andVB_t, orVB_ok, orVB_f, orVB_t, mNot, mAndV_B, mOrV_B, mNotV, mIf_B, mChain_B, mSeq_B, seqF_nx, seqF_rt, seqF_er, seqF_if, bind_if, bindF_if, runF_rt, runF_nx, runF_er, runF_if, runIF_nx, runIF_er, runIF_if, mRaise, startE, startI, List.map_cons, List.map_nil, List.cons_append, List.nil_append, List.length_cons, List.length_nil, Nat.reduceAdd, Nat.reduceSub, List.replicate_zero, List.replicate_succ, List.append_nil, gN, gSc, gS0, gQ, gT, gL, mPart, intO, mNo, List.getElem?_cons_zero, List.getElem?_cons_succ, List.set_cons_zero, List.set_cons_succ, addD_i, subD_i, negD_i, ltD_i, leD_i, gtD_i, geD_i, eqD_i, neD_i, eqD_b, neD_b, eqD_s, neD_s, absD_i, intD_i, lenD_lst, lenD_tup, lenD_scr, isNonD, notNonD, isiD, reduceIte, bindF_err', bind_err, mAsg, if_true, mFrz, frzE, appG_ok, mLm, if_pos, ite_true, max2D, min2D, decide_true, decide_false, Bool.not_true, Bool.not_false, Bool.false_eq_true, Bool.true_and, Bool.and_true, Bool.false_and, Bool.and_false, Bool.true_or, Bool.or_true, Bool.false_or, Bool.or_false, true_and, and_true, Bool.and_eq_false_iff, gt_iff_lt, ge_iff_le, ite_false, if_false, decide_eq_true_eq, Bool.not_eq_true', Bool.and_eq_true, Bool.or_eq_true, decide_eq_false_iff_not, Int.reduceToNat, mFor_B, forL_nil, forL_c, optF_some, optR_some, compL_nil, compL_c, nerr_ok, mComp_B, mYes, allD_l, anyD_l, bools_nil, bools_c, Option.map_some, opt_some, List.all_cons, List.all_nil, List.any_cons, List.any_nil, id_eq, mUnF, seqOf_l, seqOf_t, addD_l, szl, Nat.reduceLeDiff, wipeE, Int.reduceLT, Int.reduceLE, Int.reduceNeg, Int.reducePow, Int.reduceAdd, Int.reduceSub, Int.reduceMul, and_self, modD_p, fdivD_p, mulD_r, mulD_l, startE, List.map_cons, List.map_nil, List.cons_append, List.nil_append, decide_true]
  · rw [seq_if_f (by rfl), seq_if_f (by rfl), seq_if_f (by rfl), seq_if_f (by rfl), seq_if_f (by rfl)]
    rw [seq_if_f]
    · apply ret_ok
      simp -implicitDefEqProofs only [mArg, mCons, mNil, toE, ec, bind_ok, ea]
    · simp -implicitDefEqProofs only [mEnd, mSet, mSetO, mRet, mEx, mIfS_B, mTst, mBin, mUn, mC, mVar, mVarB, mArg, mCons, mNil, toE, mLst, mTup, bindF_ok, put, okS_s, okS_v, okS_no, bind_ok, tru_bl, mAnd_B, mOr_B, andB_ok, andB_f, andB_t, orB_ok, orB_f, orB_t, andVB_ok, andVB_f, andVB_t, orVB_ok, orVB_f, orVB_t, mNot, mAndV_B, mOrV_B, mNotV, mIf_B, mChain_B, mSeq_B, seqF_nx, seqF_rt, seqF_er, seqF_if, bind_if, bindF_if, runF_rt, runF_nx, runF_er, runF_if, runIF_nx, runIF_er, runIF_if, mRaise, startE, startI, List.map_cons, List.map_nil, List.cons_append, List.nil_append, List.length_cons, List.length_nil, Nat.reduceAdd, Nat.reduceSub, List.replicate_zero, List.replicate_succ, List.append_nil, gN, gSc, gS0, gQ, gT, gL, mPart, intO, mNo, List.getElem?_cons_zero, List.getElem?_cons_succ, List.set_cons_zero, List.set_cons_succ, addD_i, subD_i, negD_i, ltD_i, leD_i, gtD_i, geD_i, eqD_i, neD_i, eqD_b, neD_b, eqD_s, neD_s, absD_i, intD_i, lenD_lst, lenD_tup, lenD_scr, isNonD, notNonD, isiD, reduceIte, bindF_err', bind_err, mAsg, if_true, mFrz, frzE, appG_ok, mLm, if_pos, ite_true, max2D, min2D, decide_true, decide_false, Bool.not_true, Bool.not_false, Bool.false_eq_true, Bool.true_and, Bool.and_true, Bool.false_and, Bool.and_false, Bool.true_or, Bool.or_true, Bool.false_or, Bool.or_false, true_and, and_true, Bool.and_eq_false_iff, gt_iff_lt, ge_iff_le, ite_false, if_false, decide_eq_true_eq, Bool.not_eq_true', Bool.and_eq_true, Bool.or_eq_true, decide_eq_false_iff_not, Int.reduceToNat, mFor_B, forL_nil, forL_c, optF_some, optR_some, compL_nil, compL_c, nerr_ok, mComp_B, mYes, allD_l, anyD_l, bools_nil, bools_c, Option.map_some, opt_some, List.all_cons, List.all_nil, List.any_cons, List.any_nil, id_eq, mUnF, seqOf_l, seqOf_t, addD_l, szl, Nat.reduceLeDiff, wipeE, Int.reduceLT, Int.reduceLE, Int.reduceNeg, Int.reducePow, Int.reduceAdd, Int.reduceSub, Int.reduceMul, and_self, modD_p, fdivD_p, mulD_r, mulD_l, startE, List.map_cons, List.map_nil, List.cons_append, List.nil_append, decide_true]
theorem like_same : ∀ (n : Nat) (x : D), plainD n x → m_law_like (n + 1) [x, x] = .ok (.bl true)
  | n, .non, _ => rfl
  | n, .bl b, _ => by cases b <;> rfl
  | n, .int i, _ => by
    refine runD_rt (ρ := startE 3 [.int i, .int i]) ?_
    unfold b_law_like
    rw [seq_if_f (by rfl), seq_if_f (by rfl), seq_if_f (by rfl), seq_rt]
    rw [if_t (by rfl)]
    apply ret_ok
    simp -implicitDefEqProofs only [mEnd, mSet, mSetO, mRet, mEx, mIfS_B, mTst, mBin, mUn, mC, mVar, mVarB, mArg, mCons, mNil, toE, mLst, mTup, bindF_ok, put, okS_s, okS_v, okS_no, bind_ok, tru_bl, mAnd_B, mOr_B, andB_ok, andB_f, andB_t, orB_ok, orB_f, orB_t, andVB_ok, andVB_f, andVB_t, orVB_ok, orVB_f, orVB_t, mNot, mAndV_B, mOrV_B, mNotV, mIf_B, mChain_B, mSeq_B, seqF_nx, seqF_rt, seqF_er, seqF_if, bind_if, bindF_if, runF_rt, runF_nx, runF_er, runF_if, runIF_nx, runIF_er, runIF_if, mRaise, startE, startI, List.map_cons, List.map_nil, List.cons_append, List.nil_append, List.length_cons, List.length_nil, Nat.reduceAdd, Nat.reduceSub, List.replicate_zero, List.replicate_succ, List.append_nil, gN, gSc, gS0, gQ, gT, gL, mPart, intO, mNo, List.getElem?_cons_zero, List.getElem?_cons_succ, List.set_cons_zero, List.set_cons_succ, addD_i, subD_i, negD_i, ltD_i, leD_i, gtD_i, geD_i, eqD_i, neD_i, eqD_b, neD_b, eqD_s, neD_s, absD_i, intD_i, lenD_lst, lenD_tup, lenD_scr, isNonD, notNonD, isiD, reduceIte, bindF_err', bind_err, mAsg, if_true, mFrz, frzE, appG_ok, mLm, if_pos, ite_true, max2D, min2D, decide_true, decide_false, Bool.not_true, Bool.not_false, Bool.false_eq_true, Bool.true_and, Bool.and_true, Bool.false_and, Bool.and_false, Bool.true_or, Bool.or_true, Bool.false_or, Bool.or_false, true_and, and_true, Bool.and_eq_false_iff, gt_iff_lt, ge_iff_le, ite_false, if_false, decide_eq_true_eq, Bool.not_eq_true', Bool.and_eq_true, Bool.or_eq_true, decide_eq_false_iff_not, Int.reduceToNat, mFor_B, forL_nil, forL_c, optF_some, optR_some, compL_nil, compL_c, nerr_ok, mComp_B, mYes, allD_l, anyD_l, bools_nil, bools_c, Option.map_some, opt_some, List.all_cons, List.all_nil, List.any_cons, List.any_nil, id_eq, mUnF, seqOf_l, seqOf_t, addD_l, szl, Nat.reduceLeDiff, wipeE, Int.reduceLT, Int.reduceLE, Int.reduceNeg, Int.reducePow, Int.reduceAdd, Int.reduceSub, Int.reduceMul, and_self, modD_p, fdivD_p, mulD_r, mulD_l, startE, List.map_cons, List.map_nil, List.cons_append, List.nil_append, decide_true]
  | n, .str i, _ => by
    refine runD_rt (ρ := startE 3 [.str i, .str i]) ?_
    unfold b_law_like
    rw [seq_if_f (by rfl), seq_if_f (by rfl), seq_rt]
    rw [if_t (by rfl)]
    apply ret_ok
    simp -implicitDefEqProofs only [mEnd, mSet, mSetO, mRet, mEx, mIfS_B, mTst, mBin, mUn, mC, mVar, mVarB, mArg, mCons, mNil, toE, mLst, mTup, bindF_ok, put, okS_s, okS_v, okS_no, bind_ok, tru_bl, mAnd_B, mOr_B, andB_ok, andB_f, andB_t, orB_ok, orB_f, orB_t, andVB_ok, andVB_f, andVB_t, orVB_ok, orVB_f, orVB_t, mNot, mAndV_B, mOrV_B, mNotV, mIf_B, mChain_B, mSeq_B, seqF_nx, seqF_rt, seqF_er, seqF_if, bind_if, bindF_if, runF_rt, runF_nx, runF_er, runF_if, runIF_nx, runIF_er, runIF_if, mRaise, startE, startI, List.map_cons, List.map_nil, List.cons_append, List.nil_append, List.length_cons, List.length_nil, Nat.reduceAdd, Nat.reduceSub, List.replicate_zero, List.replicate_succ, List.append_nil, gN, gSc, gS0, gQ, gT, gL, mPart, intO, mNo, List.getElem?_cons_zero, List.getElem?_cons_succ, List.set_cons_zero, List.set_cons_succ, addD_i, subD_i, negD_i, ltD_i, leD_i, gtD_i, geD_i, eqD_i, neD_i, eqD_b, neD_b, eqD_s, neD_s, absD_i, intD_i, lenD_lst, lenD_tup, lenD_scr, isNonD, notNonD, isiD, reduceIte, bindF_err', bind_err, mAsg, if_true, mFrz, frzE, appG_ok, mLm, if_pos, ite_true, max2D, min2D, decide_true, decide_false, Bool.not_true, Bool.not_false, Bool.false_eq_true, Bool.true_and, Bool.and_true, Bool.false_and, Bool.and_false, Bool.true_or, Bool.or_true, Bool.false_or, Bool.or_false, true_and, and_true, Bool.and_eq_false_iff, gt_iff_lt, ge_iff_le, ite_false, if_false, decide_eq_true_eq, Bool.not_eq_true', Bool.and_eq_true, Bool.or_eq_true, decide_eq_false_iff_not, Int.reduceToNat, mFor_B, forL_nil, forL_c, optF_some, optR_some, compL_nil, compL_c, nerr_ok, mComp_B, mYes, allD_l, anyD_l, bools_nil, bools_c, Option.map_some, opt_some, List.all_cons, List.all_nil, List.any_cons, List.any_nil, id_eq, mUnF, seqOf_l, seqOf_t, addD_l, szl, Nat.reduceLeDiff, wipeE, Int.reduceLT, Int.reduceLE, Int.reduceNeg, Int.reducePow, Int.reduceAdd, Int.reduceSub, Int.reduceMul, and_self, modD_p, fdivD_p, mulD_r, mulD_l, startE, List.map_cons, List.map_nil, List.cons_append, List.nil_append, decide_true]
  | 0, .tup xs, h => by unfold plainD at h; exact False.elim h
  | 0, .lst xs, h => by unfold plainD at h; exact False.elim h
  | n, .obj _ _, h => by unfold plainD at h; exact False.elim h
  | n, .scr _, h => by unfold plainD at h; exact False.elim h
  | n + 1, .tup xs, h => by
    unfold plainD at h
    exact like_seq _ _ xs (.inr rfl) h.1 fun x hx => like_same n x (plainL_get h.2 hx)
  | n + 1, .lst xs, h => by
    unfold plainD at h
    exact like_seq _ _ xs (.inl rfl) h.1 fun x hx => like_same n x (plainL_get h.2 hx)
theorem like_ok (x : D) (h : plainD 7 x) : likeR (m_law_like 8 [x, x]) = .ok true := by
  rw [like_same 7 x h]; rfl
theorem plainL_all {n : Nat} : ∀ {xs : List D}, (∀ x ∈ xs, plainD n x) → plainL n xs
  | [], _ => by unfold plainL; trivial
  | x :: xs, h => by
    unfold plainL
    exact ⟨h x (List.mem_cons_self ..), plainL_all fun y hy => h y (List.mem_cons_of_mem _ hy)⟩
theorem plain_int {n : Nat} (i : Int) : plainD n (enc i) := by show plainD n (.int i); cases n <;> (unfold plainD; trivial)
theorem plain_bool {n : Nat} (i : Bool) : plainD n (enc i) := by show plainD n (.bl i); cases n <;> (unfold plainD; trivial)
theorem plain_str {n : Nat} (i : Str) : plainD n (enc i) := by show plainD n (.str i); cases n <;> (unfold plainD; trivial)
theorem plain_list {α : Type} [Enc α] {n : Nat} (xs : List α) (hl : xs.length ≤ 16777216) (h : ∀ x ∈ xs, plainD n (enc x)) : plainD (n + 1) (enc xs) := by
  show plainD (n + 1) (.lst (xs.map Enc.en))
  unfold plainD
  refine ⟨by rw [List.length_map]; exact hl, plainL_all fun x hx => ?_⟩
  obtain ⟨a, ha, rfl⟩ := List.mem_map.mp hx
  exact h a ha
theorem plain_tl {α : Type} [Enc α] {n : Nat} (xs : TL α) (hl : xs.l.length ≤ 16777216) (h : ∀ x ∈ xs.l, plainD n (enc x)) : plainD (n + 1) (enc xs) := by
  show plainD (n + 1) (.tup (xs.l.map Enc.en))
  unfold plainD
  refine ⟨by rw [List.length_map]; exact hl, plainL_all fun x hx => ?_⟩
  obtain ⟨a, ha, rfl⟩ := List.mem_map.mp hx
  exact h a ha
theorem plain_t2 {A B : Type} [Enc A] [Enc B] {n : Nat} (x : T2 A B) (ha : plainD n (enc x.a)) (hb : plainD n (enc x.b)) : plainD (n + 1) (enc x) := by
  show plainD (n + 1) (.tup [enc x.a, enc x.b])
  unfold plainD plainL plainL plainL
  exact ⟨Nat.le_of_ble_eq_true rfl, ha, hb, trivial⟩
theorem plain_t3 {A B C : Type} [Enc A] [Enc B] [Enc C] {n : Nat} (x : T3 A B C) (ha : plainD n (enc x.a)) (hb : plainD n (enc x.b)) (hc : plainD n (enc x.c)) : plainD (n + 1) (enc x) := by
  show plainD (n + 1) (.tup [enc x.a, enc x.b, enc x.c])
  unfold plainD plainL plainL plainL plainL
  exact ⟨Nat.le_of_ble_eq_true rfl, ha, hb, hc, trivial⟩
theorem plain_opt {A : Type} [Enc A] {n : Nat} (x : Option A) (h : ∀ a, x = some a → plainD n (enc a)) : plainD n (enc x) := by
  cases x with
  | none => show plainD n .non; cases n <;> (unfold plainD; trivial)
  | some a => exact h a rfl
theorem plain_ints (xs : List Int) (hl : xs.length ≤ 16777216) : plainD 7 (enc xs) := plain_list xs hl fun x _ => plain_int x
theorem like_int (a b : Int) (h : a = b) : likeR (m_law_like 8 [enc a, enc b]) = .ok true := by subst h; exact like_ok _ (plain_int a)
theorem like_bool (a b : Bool) (h : a = b) : likeR (m_law_like 8 [enc a, enc b]) = .ok true := by subst h; exact like_ok _ (plain_bool a)
end Cr
namespace Cr
open PySem L2
theorem ckd_ok' (d : Int) (h : 1 ≤ d) : t_check_divisor d = .ok () := by
  unfold t_check_divisor
  rw [if_neg (by rw [decide_eq_true_eq]; omega)]
theorem divd_w (n d : Int) (h : 1 ≤ d) (hs : Sm d) : t_divided_down n d = .ok (n / d) := by
  unfold t_divided_down
  rw [ckd_ok' d h, bnd_ok, fdiv_w _ _ (by omega) hs]; rfl
theorem divu_w (n d : Int) (h : 1 ≤ d) (hs : Sm d) : t_divided_up n d = .ok (-((-n) / d)) := by
  unfold t_divided_up
  rw [ckd_ok' d h, bnd_ok, fdiv_w _ _ (by omega) hs]; rfl
theorem cke' (d : Int) (h : d < 1) : t_check_divisor d = .err (.own 1) := if_pos (decide_eq_true h)
/-- the step for one number -/
theorem turn_ok (x D : Int) (h1 : 1 ≤ D ∧ D ≤ 100000000000000000000) (h2 : -(1000000000000000000000000000000000000000000000000000000000000 : Int) ≤ x ∧ x ≤ 1000000000000000000000000000000000000000000000000000000000000) :
    ((t_divided_down x D) >>= fun down105 =>
 (if (!true) = true then
 (.ok (.ret false))
 else ((t_divided_up x D) >>= fun up106 =>
 (if (!true) = true then
 (.ok (.ret false))
 else ((mulT down105 D) >>= fun v107 =>
 ((andR (decide (v107 ≤ x)) ((mulT (down105 + (1 : Int)) D) >>= fun v108 =>
 (.ok (decide (x < v108))))) >>= fun v109 =>
 (orR (!v109) ((mulT (up106 - (1 : Int)) D) >>= fun v110 =>
 ((andR (decide (v110 < x)) ((mulT up106 D) >>= fun v111 =>
 (.ok (decide (x ≤ v111))))) >>= fun v112 =>
 (.ok (!v112)))) >>= fun b113 =>
 (if b113 = true then
 (.ok (.ret false))
 else (if (decide ((0 : Int) ≤ x)) = true then
 ((t_root_down x) >>= fun low114 =>
 ((t_root_up x) >>= fun high115 =>
 (orR (decide (low114 < (0 : Int))) ((mulT low114 low114) >>= fun v116 =>
 ((andR (decide (v116 ≤ x)) ((mulT (low114 + (1 : Int)) (low114 + (1 : Int))) >>= fun v117 =>
 (.ok (decide (x < v117))))) >>= fun v118 =>
 (orR (!v118) ((mulT high115 high115) >>= fun v119 =>
 (.ok (decide (v119 < x)))) >>= fun b120 =>
 (.ok b120)))) >>= fun b121 =>
 (if b121 = true then
 (.ok (.ret false))
 else (andR (decide ((0 : Int) < high115)) ((mulT (high115 - (1 : Int)) (high115 - (1 : Int))) >>= fun v122 =>
 (.ok (decide (x ≤ v122)))) >>= fun b123 =>
 (if (b123 || (decide (high115 < (0 : Int)))) = true then
 (.ok (.ret false))
 else (.ok (.nxt ()))))))))
 else (.ok (.nxt ())))))))))) : Res (Fl Bool Unit)) = .ok (.nxt ()) := by
  have hD : Sm D := sm_of 100000000000000000000 (by omega) (by decide)
  have hB : 1000000000000000000000000000000000000000000000000000000000000 + 1 < 2 ^ 250 := by decide
  have d0 : Sm (x / D) := by have := div_sm 1000000000000000000000000000000000000000000000000000000000000 D (x := x) (by omega) hB 0 (by decide); rwa [Int.add_zero] at this
  have d1 := div_sm 1000000000000000000000000000000000000000000000000000000000000 D (x := x) (by omega) hB 1 (by decide)
  have u0 : Sm (-((-x) / D)) := by
    have := div_sm 1000000000000000000000000000000000000000000000000000000000000 D (x := -x) (by omega) hB 0 (by decide)
    rw [Int.add_zero] at this
    unfold Sm at this ⊢
    rwa [Int.natAbs_neg]
  have u1 : Sm (-((-x) / D) - 1) := by
    have := div_sm 1000000000000000000000000000000000000000000000000000000000000 D (x := -x) (by omega) hB 1 (by decide)
    unfold Sm at this ⊢
    have e : -((-x) / D) - 1 = -((-x) / D + 1) := by omega
    rw [e, Int.natAbs_neg]; exact this
  obtain ⟨b1, b2⟩ := div_bds x D h1.1
  obtain ⟨c1, c2⟩ := div_bds (-x) D h1.1
  have e1 : (-((-x) / D) - 1) * D = -(((-x) / D + 1) * D) := by rw [← Int.neg_mul]; congr 1; omega
  have e2 : -((-x) / D) * D = -((-x) / D * D) := Int.neg_mul ..
  rw [divd_w x D h1.1 hD, bnd_ok, if_neg (by decide), divu_w x D h1.1 hD, bnd_ok, if_neg (by decide), mul_w _ _ d0 hD, bnd_ok, decide_eq_true b1, andR_t, mul_w _ _ d1 hD, bnd_ok, decide_eq_true b2, bnd_ok]
  rw [show (!true) = false from rfl, orR_f, mul_w _ _ u1 hD, bnd_ok, e1, decide_eq_true (show -(((-x) / D + 1) * D) < x by omega), andR_t, mul_w _ _ u0 hD, bnd_ok, e2, decide_eq_true (show x ≤ -((-x) / D * D) by omega), bnd_ok, bnd_ok, if_neg (by decide)]
  by_cases hx : 0 ≤ x
  · rw [if_pos (decide_eq_true hx)]
    have h220 : (1000000000000000000000000000000000000000000000000000000000000 : Int) < 2 ^ 220 := by decide
    obtain ⟨lo, el, hl⟩ := rootd_w x hx (by omega)
    obtain ⟨hi, eh, d, hd, hh⟩ := rootu_w x hx (by omega)
    have l0 : Sm lo := by have := hl.smm (by omega) 0 (by decide); rwa [Int.add_zero] at this
    have l1 := hl.smm (show x < 2 ^ 220 by omega) 1 (by decide)
    have hhi : (d ≤ hi ∧ hi ≤ d + 1) := by rw [hh]; split <;> omega
    have dn := hd.1
    have dw := hd.smW (show x < 2 ^ 220 by omega)
    have hw : (2 ^ 120 : Nat) + 2 < 2 ^ 250 := by decide
    have g0 : Sm hi := sm_of (2 ^ 120 + 2) (by omega) hw
    have g1 : Sm (hi - 1) := sm_of (2 ^ 120 + 2) (by omega) hw
    have k1 : ¬ hi * hi < x := by
      rw [hh]
      split
      · omega
      · have := hd.2.2
        omega
    have k2 : 0 < hi → ¬ x ≤ (hi - 1) * (hi - 1) := by
      intro hp
      rw [hh]
      rw [hh] at hp
      split
      · rename_i q
        rw [if_pos q] at hp
        have : (d - 1) * (d - 1) = d * d - 2 * d + 1 := by
          rw [Int.sub_mul, Int.mul_sub]
          omega
        omega
      · rename_i q
        have : d + 1 - 1 = d := by omega
        rw [this]
        have := hd.2.1
        omega
    rw [el, bnd_ok, eh, bnd_ok, decide_eq_false (show ¬ lo < 0 by have := hl.1; omega), orR_f, mul_w _ _ l0 l0, bnd_ok, decide_eq_true hl.2.1, andR_t, mul_w _ _ l1 l1, bnd_ok, decide_eq_true hl.2.2, bnd_ok]
    rw [show (!true) = false from rfl, orR_f, mul_w _ _ g0 g0, bnd_ok, decide_eq_false k1, bnd_ok, bnd_ok, if_neg (by decide)]
    by_cases hp : 0 < hi
    · rw [decide_eq_true hp, andR_t, mul_w _ _ g1 g1, bnd_ok, decide_eq_false (k2 hp), bnd_ok, decide_eq_false (show ¬ hi < 0 by omega)]
      rfl
    · rw [decide_eq_false hp, andR_f, bnd_ok, decide_eq_false (show ¬ hi < 0 by omega)]
      rfl
  · rw [if_neg (by rw [decide_eq_true_eq]; exact hx)]
theorem rI_cons (lo : Int) (n : Nat) : rangeI lo 1 (n + 1) = lo :: rangeI (lo + 1) 1 n := by
  unfold rangeI
  rw [List.range_succ_eq_map, List.map_cons, List.map_map]
  have e1 : lo + ((0 : Nat) : Int) * 1 = lo := by omega
  have e2 : List.map ((fun k : Nat => lo + (k : Int) * 1) ∘ Nat.succ) (List.range n) = List.map (fun k : Nat => lo + 1 + (k : Int) * 1) (List.range n) := List.map_congr_left fun a _ => by
    show lo + ((a + 1 : Nat) : Int) * 1 = lo + 1 + (a : Int) * 1
    omega
  rw [e1, e2]
theorem rI_snoc (lo : Int) (n : Nat) : rangeI lo 1 (n + 1) = rangeI lo 1 n ++ [lo + n] := by
  unfold rangeI
  rw [List.range_succ, List.map_append, List.map_singleton, Int.mul_one]
theorem filt_rng (l h : Int) : ∀ (n : Nat) (lo : Int), (rangeI lo 1 n).filter (fun x => decide (l ≤ x) && decide (x ≤ h)) = rangeI (max lo l) 1 (min (lo + n - 1) h - max lo l + 1).toNat
  | 0, lo => by
    have e : (min (lo + (0 : Nat) - 1) h - max lo l + 1).toNat = 0 := by omega
    rw [e]; rfl
  | n + 1, lo => by
    rw [rI_cons]
    have ih := filt_rng l h n (lo + 1)
    by_cases q : l ≤ lo ∧ lo ≤ h
    · rw [List.filter_cons_of_pos (by rw [Bool.and_eq_true, decide_eq_true_eq, decide_eq_true_eq]; exact q), ih]
      have e1 : (min (lo + (n + 1 : Nat) - 1) h - max lo l + 1).toNat = (min (lo + 1 + n - 1) h - max (lo + 1) l + 1).toNat + 1 := by omega
      have e2 : max lo l = lo := by omega
      have e3 : max (lo + 1) l = lo + 1 := by omega
      rw [e1, rI_cons, e2, e3]
    · rw [List.filter_cons_of_neg (by rw [Bool.and_eq_true, decide_eq_true_eq, decide_eq_true_eq]; exact q), ih]
      by_cases q1 : l ≤ lo
      · have e1 : (min (lo + (n + 1 : Nat) - 1) h - max lo l + 1).toNat = 0 := by omega
        have e2 : (min (lo + 1 + n - 1) h - max (lo + 1) l + 1).toNat = 0 := by omega
        rw [e1, e2]; rfl
      · have e1 : (min (lo + (n + 1 : Nat) - 1) h - max lo l + 1).toNat = (min (lo + 1 + n - 1) h - max (lo + 1) l + 1).toNat := by omega
        have e2 : max lo l = max (lo + 1) l := by omega
        rw [e1, e2]
theorem comp_filt (P : Int → Bool) (xs : List Int) (h : xs.length ≤ 16777216) : compS (fun x => .ok (P x)) (fun x => .ok x) xs = .ok (xs.filter P) := by
  rw [compS_all P (fun x => x) xs h (fun _ _ => rfl) (fun _ _ _ => rfl), List.map_id']
/-- the shared part of two intervals, as the law finds it -/
theorem due_rng (L M : Int) (hb : M - L < 1000) : ((if (decide ((0 : Int) < ((rangeI L 1 (M - L + 1).toNat).length : Int))) = true then
 ((idxT (rangeI L 1 (M - L + 1).toNat) (0 : Int)) >>= fun v139 =>
 ((idxT (rangeI L 1 (M - L + 1).toNat) (-1 : Int)) >>= fun v140 =>
 (.ok (some (⟨v139, v140⟩ : (T2 Int Int))))))
 else (.ok none) : Res (Option (T2 Int Int)))) = .ok (if L ≤ M then some ⟨L, M⟩ else none) := by
  rw [rangeI_len]
  by_cases q : L ≤ M
  · obtain ⟨c, hc⟩ : ∃ c : Nat, (M - L + 1).toNat = c + 1 := ⟨(M - L).toNat, by omega⟩
    rw [if_pos (by rw [decide_eq_true_eq]; omega), if_pos q, hc]
    have i0 : idxT (rangeI L 1 (c + 1)) (0 : Int) = .ok L := by rw [rI_cons]; exact idx_nat _ 0 (by simp)
    have i1 : idxT (rangeI L 1 (c + 1)) (-1 : Int) = .ok (L + c) := by rw [rI_snoc]; exact idx_last _ _
    have e : L + c = M := by omega
    rw [i0, bnd_ok, i1, bnd_ok, e]
  · rw [if_neg (by rw [decide_eq_true_eq]; omega), if_neg q]
theorem plain_tt (p : T2 Int Int) : plainD 7 (enc p) := plain_t2 p (plain_int _) (plain_int _)
theorem ref01 (G : Int) (hG : 0 ≤ G) (k : Nat) (hk : k < 4) : t_law_refused (k : Int) G = .ok true := by
  have h5 := Int.emod_nonneg G (b := 5) (by decide)
  have h3 := Int.emod_nonneg G (b := 3) (by decide)
  have r1 : t_root_down (-1 - G) = .err (.own 1) := by
    unfold t_root_down
    rw [if_pos (by rw [decide_eq_true_eq]; omega)]
  have : k = 0 ∨ k = 1 ∨ k = 2 ∨ k = 3 := by omega
  unfold t_law_refused
  rcases this with rfl | rfl | rfl | rfl
  · rw [if_pos (by decide)]
    unfold t_divided_down
    rw [cke' _ (by omega)]; rfl
  · rw [if_neg (by decide), if_pos (by decide)]
    unfold t_divided_up
    rw [cke' _ (by omega)]; rfl
  · rw [if_neg (by decide), if_neg (by decide), if_pos (by decide), r1]; rfl
  · rw [if_neg (by decide), if_neg (by decide), if_neg (by decide)]
    unfold t_root_up
    rw [r1]; rfl
theorem isint2 (a b : Int) : t_is_interval (TL.mk [a, b]) = .ok (decide (a ≤ b)) := rfl
theorem isint3 (a b c : Int) : t_is_interval (TL.mk [a, b, c]) = .ok false := rfl
theorem isint0 : t_is_interval (TL.mk []) = .ok false := rfl
theorem li3 (a b c : Int) (k : Int) (h : 0 ≤ k ∧ k < 3) : idxT [a, b, c] k = .ok (if k = 0 then a else if k = 1 then b else c) := by
  have : k = 0 ∨ k = 1 ∨ k = 2 := by omega
  rcases this with rfl | rfl | rfl <;> rfl
theorem k01_law (ns : List Int) : t_law ⟨ns⟩ = .ok true := by
  obtain ⟨c0, hc0, e0⟩ := cell_ok ns 0
  obtain ⟨c1, hc1, e1⟩ := cell_ok ns 1
  obtain ⟨zs, hz, ed⟩ := draws_ok c0 16 (by decide)
  have e0 : t_law_cell ⟨ns⟩ (0 : Int) = .ok c0 := e0
  have e1 : t_law_cell ⟨ns⟩ (1 : Int) = .ok c1 := e1
  have ed : t_law_draws c0 (16 : Int) = .ok zs := ed
  have hi : ∀ i : Int, 0 ≤ i ∧ i < 16 → idxT zs i = .ok (zs.getD i.toNat 0) := fun i h => num_idx hz i h
  have q := fun i => num_rng hz i
  have hG : 0 ≤ c1 % (1000000000000000000000000000000000000000000000000000000000000 : Int) ∧ c1 % (1000000000000000000000000000000000000000000000000000000000000 : Int) < 1000000000000000000000000000000000000000000000000000000000000 := by omega
  unfold t_law
  rw [e0, bnd_ok, ed, bnd_ok, e1, bnd_ok]
  generalize c1 % (1000000000000000000000000000000000000000000000000000000000000 : Int) = G at hG ⊢
  have q0 := q (0 : Int).toNat
  have q1 := q (1 : Int).toNat
  have q2 := q (2 : Int).toNat
  rw [hi 0 (by omega), bnd_ok, hi 1 (by omega), bnd_ok, bnd_ok, mul_r _ _ (by omega), bnd_ok, hi 2 (by omega), bnd_ok]
  have hp : 0 ≤ zs.getD (1 : Int).toNat 0 * zs.getD (1 : Int).toNat 0 ∧ zs.getD (1 : Int).toNat 0 * zs.getD (1 : Int).toNat 0 ≤ 4096 * 4096 := ⟨Int.mul_nonneg q1.1 q1.1, Int.mul_le_mul (by omega) (by omega) (by omega) (by decide)⟩
  generalize zs.getD (1 : Int).toNat 0 * zs.getD (1 : Int).toNat 0 = p2 at hp ⊢
  refine for_bnd (C := fun r => r = .ok true) (fun x hx => ?_) ?_
  · have hxb : -(1000000000000000000000000000000000000000000000000000000000000 : Int) ≤ x ∧ x ≤ 1000000000000000000000000000000000000000000000000000000000000 := by
      rcases List.mem_cons.mp hx with rfl | hx
      · omega
      · rcases List.mem_cons.mp hx with rfl | hx
        · omega
        · rcases List.mem_cons.mp hx with rfl | hx
          · omega
          · rw [List.mem_singleton.mp hx]; omega
    have q3 := q (3 : Int).toNat
    have q4 := q (4 : Int).toNat
    rw [hi 3 (by omega), bnd_ok, bnd_ok, hi 4 (by omega), bnd_ok, li3 _ _ _ _ (by omega), bnd_ok]
    refine turn_ok x _ ?_ hxb
    split
    · omega
    · split <;> omega
  · have qa := q (5 : Int).toNat
    have qb := q (6 : Int).toNat
    have qc := q (7 : Int).toNat
    have qd := q (8 : Int).toNat
    rw [hi 5 (by omega), bnd_ok, bnd_ok, hi 6 (by omega), bnd_ok, hi 7 (by omega), bnd_ok, bnd_ok, hi 8 (by omega), bnd_ok]
    have ha : -20 ≤ zs.getD (5 : Int).toNat 0 % 40 - 20 ∧ zs.getD (5 : Int).toNat 0 % 40 - 20 < 20 := by omega
    have hb : 0 ≤ zs.getD (6 : Int).toNat 0 % 20 ∧ zs.getD (6 : Int).toNat 0 % 20 < 20 := by omega
    have hc : -20 ≤ zs.getD (7 : Int).toNat 0 % 40 - 20 ∧ zs.getD (7 : Int).toNat 0 % 40 - 20 < 20 := by omega
    have hd : 0 ≤ zs.getD (8 : Int).toNat 0 % 20 ∧ zs.getD (8 : Int).toNat 0 % 20 < 20 := by omega
    generalize zs.getD (5 : Int).toNat 0 % 40 - 20 = a at ha ⊢
    generalize zs.getD (6 : Int).toNat 0 % 20 = b at hb ⊢
    generalize zs.getD (7 : Int).toNat 0 % 40 - 20 = c at hc ⊢
    generalize zs.getD (8 : Int).toNat 0 % 20 = d at hd ⊢
    refine stp (a := ⟨a + c, a + b + (c + d)⟩) rfl ?_
    refine stp (like_ok _ (plain_tt _)) ?_
    rw [if_neg (by decide)]
    refine stp (a := rangeI (-30) 1 90) rfl ?_
    refine stp (comp_filt (fun x => decide (a ≤ x) && decide (x ≤ a + b)) _ (by rw [rangeI_len]; decide)) ?_
    rw [filt_rng]
    refine stp (comp_filt (fun x => decide (c ≤ x) && decide (x ≤ c + d)) _ (by rw [rangeI_len]; omega)) ?_
    rw [filt_rng]
    have eL : max (max (-30) a) c = max a c := by omega
    have eC : (min (max (-30) a + ((min ((-30 : Int) + ((90 : Nat) : Int) - 1) (a + b) - max (-30) a + 1).toNat : Int) - 1) (c + d) - max (max (-30) a) c + 1).toNat = (min (a + b) (c + d) - max a c + 1).toNat := by omega
    rw [eC, eL]
    refine stp (due_rng (max a c) (min (a + b) (c + d)) (by omega)) ?_
    have hcom : t_common ⟨a, a + b⟩ ⟨c, c + d⟩ = .ok (if max a c ≤ min (a + b) (c + d) then some ⟨max a c, min (a + b) (c + d)⟩ else none) := by
      unfold t_common
      simp only [letT, decide_eq_true_eq]
    refine stp hcom ?_
    refine stp (like_ok _ (plain_opt _ fun p _ => plain_tt p)) ?_
    rw [show (!true) = false from rfl, orR_f]
    have hmin : minT [a, a + b, c, c + d] = .ok (min a c) := by
      show Res.ok (min a (min (a + b) (min c (c + d)))) = _
      congr 1; omega
    have hmax : maxT [a, a + b, c, c + d] = .ok (max (a + b) (c + d)) := by
      show Res.ok (max a (max (a + b) (max c (c + d)))) = _
      congr 1; omega
    have hh : t_hull ⟨a, a + b⟩ ⟨c, c + d⟩ = .ok ⟨min a c, max (a + b) (c + d)⟩ := rfl
    refine stp (a := false) (stp hh (stp hmin (stp hmax (stp (like_ok _ (plain_tt _)) rfl)))) ?_
    rw [if_neg (by decide)]
    rw [hi 9 (by omega), bnd_ok, hi 10 (by omega), bnd_ok]
    refine stp (isint2 _ _) ?_
    refine stp (isint2 _ _) ?_
    refine stp (isint3 _ _ _) ?_
    refine stp isint0 ?_
    rw [decide_eq_true (show a ≤ a + b by omega)]
    refine stp (like_ok _ (plain_list _ (by show (4 : Nat) ≤ _; decide) fun x _ => plain_bool x)) ?_
    rw [if_neg (by decide), rng_ok 4 (by decide) (by decide), bnd_ok]
    refine stp (comp_nis (f := fun x156 => (t_law_refused x156 G >>= fun v157 => .ok v157)) (fun _ => true) 4 (by decide) (fun k hk => by rw [ref01 G hG.1 k hk]; rfl)) ?_
    rfl
end Cr
namespace Cr
open PySem PySem.Spec PyProof.Rows L2
/-! the derivations of law_k01_whole_numbers_and_intervals, printed by gen.py -/
def top (i : Nat) : Stmt := PySem.Challenge.pw_coastersafe_k01_whole_numbers_and_interv.main.body.getD i (.Pass ⟨0, 0, 0, 0⟩)
abbrev s_check_divisor : Stmt := (top 4)
abbrev s_divided_down : Stmt := (top 5)
abbrev s_divided_up : Stmt := (top 6)
abbrev s_root_down : Stmt := (top 7)
abbrev s_root_up : Stmt := (top 8)
abbrev s_is_interval : Stmt := (top 9)
abbrev s_added : Stmt := (top 10)
abbrev s_hull : Stmt := (top 11)
abbrev s_common : Stmt := (top 12)
abbrev s_law_cell : Stmt := (top 14)
abbrev s_law_draws : Stmt := (top 15)
abbrev s_law_like : Stmt := (top 16)
abbrev s_law_refused : Stmt := (top 17)
abbrev s_law : Stmt := (top 18)
def ct (K : Fg) : CT := ⟨fun c => match c with
  | 0 => He.ga K "CoasterError"
  | 1 => He.ga K "BadNumber"
  | _ => 0⟩
def d_check_divisor : He.DefD := ⟨("check_divisor", none), "check_divisor", "check_divisor", defArgs s_check_divisor, defBody s_check_divisor, defScope s_check_divisor, [], []⟩
def d_divided_down : He.DefD := ⟨("divided_down", none), "divided_down", "divided_down", defArgs s_divided_down, defBody s_divided_down, defScope s_divided_down, [], []⟩
def d_divided_up : He.DefD := ⟨("divided_up", none), "divided_up", "divided_up", defArgs s_divided_up, defBody s_divided_up, defScope s_divided_up, [], []⟩
def d_root_down : He.DefD := ⟨("root_down", none), "root_down", "root_down", defArgs s_root_down, defBody s_root_down, defScope s_root_down, [], []⟩
def d_root_up : He.DefD := ⟨("root_up", none), "root_up", "root_up", defArgs s_root_up, defBody s_root_up, defScope s_root_up, [], []⟩
def d_is_interval : He.DefD := ⟨("is_interval", none), "is_interval", "is_interval", defArgs s_is_interval, defBody s_is_interval, defScope s_is_interval, [], []⟩
def d_added : He.DefD := ⟨("added", none), "added", "added", defArgs s_added, defBody s_added, defScope s_added, [], []⟩
def d_hull : He.DefD := ⟨("hull", none), "hull", "hull", defArgs s_hull, defBody s_hull, defScope s_hull, [], []⟩
def d_common : He.DefD := ⟨("common", none), "common", "common", defArgs s_common, defBody s_common, defScope s_common, [], []⟩
def d_law_cell : He.DefD := ⟨("_law_cell", none), "_law_cell", "_law_cell", defArgs s_law_cell, defBody s_law_cell, defScope s_law_cell, [], []⟩
def d_law_draws : He.DefD := ⟨("_law_draws", none), "_law_draws", "_law_draws", defArgs s_law_draws, defBody s_law_draws, defScope s_law_draws, [], []⟩
def d_law_like : He.DefD := ⟨("_law_like", none), "_law_like", "_law_like", defArgs s_law_like, defBody s_law_like, defScope s_law_like, [], []⟩
def d_law_refused : He.DefD := ⟨("_law_refused", none), "_law_refused", "_law_refused", defArgs s_law_refused, defBody s_law_refused, defScope s_law_refused, [], []⟩
def d_law : He.DefD := ⟨("law", none), "law", "law", defArgs s_law, defBody s_law, defScope s_law, [], []⟩
def fa : List He.Fa := [.exc "BadNumber", .glo "BadNumber", .free "len", .free "max", .free "min", .free "abs", .free "int", .free "range", .free "isinstance", .free "bool", .free "str", .free "list", .free "tuple", .free "all", .exm "BadNumber" "BadNumber" true, .glo "check_divisor", .glo "divided_down", .glo "divided_up", .glo "root_down", .glo "root_up", .glo "is_interval", .glo "added", .glo "hull", .glo "common", .glo "_law_cell", .glo "_law_draws", .glo "_law_like", .glo "_law_refused", .glo "law"]
def fn : List He.DefD := [d_check_divisor,
  d_divided_down,
  d_divided_up,
  d_root_down,
  d_root_up,
  d_is_interval,
  d_added,
  d_hull,
  d_common,
  d_law_cell,
  d_law_draws,
  d_law_like,
  d_law_refused,
  d_law]
def xs : List (Fg → Bool) := []
section
variable {P : Program} {w : World} {K : Fg} {mg : Str → Option Value} {base : Heap}
theorem sc_check_divisor : FnScope ["divisor"] ["divisor"] (defScope s_check_divisor) := ⟨rfl, rfl, rfl, by decide +kernel, rfl, by decide +kernel, by decide +kernel⟩
theorem at_check_divisor (A : Wt fa fn xs K mg) : FnAt P w K mg base (ct K) 1 "check_divisor" 1 m_check_divisor := by
  obtain ⟨fd, F⟩ := A.def_ 0 (d := d_check_divisor) rfl
  have F : FunD K "check_divisor" "check_divisor" (defArgs s_check_divisor) (defBody s_check_divisor) (defScope s_check_divisor) [] [] (He.fAd K ("check_divisor", none)) fd := F
  have hb : Binds K fd ["divisor"] [] := binds_n F fun _ _ _ _ _ _ us hl => match us, hl with | [_], _ => rfl
  have hg : mg "check_divisor" = some (.ref (He.ga K "check_divisor")) := A.glo 15
  have hg : mg "check_divisor" = some (.ref (He.fAd K ("check_divisor", none))) := hg
  have hk := F.kp
  have z : FnOk P w K mg base (L2.CX P w) (0 + 1) (He.fAd K ("check_divisor", none)) fd ["divisor"] (spD K (ct K) 1 (runD 1 b_check_divisor)) := by
    refine fn_ok (k := 0) (N := ["divisor"]) (n := 1) (m := b_check_divisor) F sc_check_divisor rfl fun cdv A0 outer s H E Fb hr => ?_
    exact (mss_one (ms_if (mt_cmp om_lt (ME.toB (me_var 0)) (ME.toB me_int)) (mss_one (ms_raise rfl (A.exc 0 1))) mss_nil))
  exact ⟨(He.fAd K ("check_divisor", none)), fd, ["divisor"], z, hg, hk, hb⟩
theorem sc_divided_down : FnScope ["number", "divisor"] ["number", "divisor"] (defScope s_divided_down) := ⟨rfl, rfl, rfl, by decide +kernel, rfl, by decide +kernel, by decide +kernel⟩
theorem at_divided_down (A : Wt fa fn xs K mg) : FnAt P w K mg base (ct K) 2 "divided_down" 2 m_divided_down := by
  obtain ⟨fd, F⟩ := A.def_ 1 (d := d_divided_down) rfl
  have F : FunD K "divided_down" "divided_down" (defArgs s_divided_down) (defBody s_divided_down) (defScope s_divided_down) [] [] (He.fAd K ("divided_down", none)) fd := F
  have hb : Binds K fd ["number", "divisor"] [] := binds_n F fun _ _ _ _ _ _ us hl => match us, hl with | [_, _], _ => rfl
  have hg : mg "divided_down" = some (.ref (He.ga K "divided_down")) := A.glo 16
  have hg : mg "divided_down" = some (.ref (He.fAd K ("divided_down", none))) := hg
  have hk := F.kp
  have z : FnOk P w K mg base (L2.CX P w) (1 + 1) (He.fAd K ("divided_down", none)) fd ["number", "divisor"] (spD K (ct K) 2 (runD 2 b_divided_down)) := by
    refine fn_ok (k := 1) (N := ["number", "divisor"]) (n := 2) (m := b_divided_down) F sc_divided_down rfl fun cdv A0 outer s H E Fb hr => ?_
    exact (mss_cons (ms_expr (me_call (at_check_divisor A) (hr.mono (by decide)) (ml_cons (me_var 1) ml_nil) (len_cons len_nil))) (mss_one (ms_ret (me_bin om_fdiv (ME.toB (me_var 0)) (ME.toB (me_var 1))))))
  exact ⟨(He.fAd K ("divided_down", none)), fd, ["number", "divisor"], z, hg, hk, hb⟩
theorem sc_divided_up : FnScope ["number", "divisor"] ["number", "divisor"] (defScope s_divided_up) := ⟨rfl, rfl, rfl, by decide +kernel, rfl, by decide +kernel, by decide +kernel⟩
theorem at_divided_up (A : Wt fa fn xs K mg) : FnAt P w K mg base (ct K) 2 "divided_up" 2 m_divided_up := by
  obtain ⟨fd, F⟩ := A.def_ 2 (d := d_divided_up) rfl
  have F : FunD K "divided_up" "divided_up" (defArgs s_divided_up) (defBody s_divided_up) (defScope s_divided_up) [] [] (He.fAd K ("divided_up", none)) fd := F
  have hb : Binds K fd ["number", "divisor"] [] := binds_n F fun _ _ _ _ _ _ us hl => match us, hl with | [_, _], _ => rfl
  have hg : mg "divided_up" = some (.ref (He.ga K "divided_up")) := A.glo 17
  have hg : mg "divided_up" = some (.ref (He.fAd K ("divided_up", none))) := hg
  have hk := F.kp
  have z : FnOk P w K mg base (L2.CX P w) (1 + 1) (He.fAd K ("divided_up", none)) fd ["number", "divisor"] (spD K (ct K) 2 (runD 2 b_divided_up)) := by
    refine fn_ok (k := 1) (N := ["number", "divisor"]) (n := 2) (m := b_divided_up) F sc_divided_up rfl fun cdv A0 outer s H E Fb hr => ?_
    exact (mss_cons (ms_expr (me_call (at_check_divisor A) (hr.mono (by decide)) (ml_cons (me_var 1) ml_nil) (len_cons len_nil))) (mss_one (ms_ret (me_neg (ME.toB (me_bin om_fdiv (ME.toB (me_neg (ME.toB (me_var 0)))) (ME.toB (me_var 1))))))))
  exact ⟨(He.fAd K ("divided_up", none)), fd, ["number", "divisor"], z, hg, hk, hb⟩
theorem sc_root_down : FnScope ["number", "low", "high", "middle"] ["number"] (defScope s_root_down) := ⟨rfl, rfl, rfl, by decide +kernel, rfl, by decide +kernel, by decide +kernel⟩
theorem at_root_down (A : Wt fa fn xs K mg) : FnAt P w K mg base (ct K) 1 "root_down" 1 m_root_down := by
  obtain ⟨fd, F⟩ := A.def_ 3 (d := d_root_down) rfl
  have F : FunD K "root_down" "root_down" (defArgs s_root_down) (defBody s_root_down) (defScope s_root_down) [] [] (He.fAd K ("root_down", none)) fd := F
  have hb : Binds K fd ["number"] [] := binds_n F fun _ _ _ _ _ _ us hl => match us, hl with | [_], _ => rfl
  have hg : mg "root_down" = some (.ref (He.ga K "root_down")) := A.glo 18
  have hg : mg "root_down" = some (.ref (He.fAd K ("root_down", none))) := hg
  have hk := F.kp
  have z : FnOk P w K mg base (L2.CX P w) (0 + 1) (He.fAd K ("root_down", none)) fd ["number"] (spD K (ct K) 1 (runD 4 b_root_down)) := by
    refine fn_ok (k := 0) (N := ["number", "low", "high", "middle"]) (n := 1) (m := b_root_down) F sc_root_down rfl fun cdv A0 outer s H E Fb hr => ?_
    exact (mss_cons (ms_if (mt_cmp om_lt (ME.toB (me_var 0)) (ME.toB me_int)) (mss_one (ms_raise rfl (A.exc 0 1))) mss_nil) (mss_cons (ms_set 1 sc_root_down.nd me_int) (mss_cons (ms_set 2 sc_root_down.nd (me_bin om_shl (ME.toB me_int) (ME.toB (me_bin om_add (ME.toB (me_bin om_fdiv (ME.toB (me_bits (ME.toB (me_var 0)))) (ME.toB me_int))) (ME.toB me_int))))) (mss_cons (ms_while 1000 (passes_of rfl) (mt_cmp om_gt (ME.toB (me_bin om_sub (ME.toB (me_var 2)) (ME.toB (me_var 1)))) (ME.toB me_int)) (mss_cons (ms_set 3 sc_root_down.nd (me_bin om_fdiv (ME.toB (me_bin om_add (ME.toB (me_var 1)) (ME.toB (me_var 2)))) (ME.toB me_int))) (mss_one (ms_if (mt_cmp om_le (ME.toB (me_bin om_mul (ME.toB (me_var 3)) (ME.toB (me_var 3)))) (ME.toB (me_var 0))) (mss_one (ms_set 1 sc_root_down.nd (me_var 3))) (mss_one (ms_set 2 sc_root_down.nd (me_var 3))))))) (mss_one (ms_ret (me_var 1)))))))
  exact ⟨(He.fAd K ("root_down", none)), fd, ["number"], z, hg, hk, hb⟩
theorem sc_root_up : FnScope ["number", "found"] ["number"] (defScope s_root_up) := ⟨rfl, rfl, rfl, by decide +kernel, rfl, by decide +kernel, by decide +kernel⟩
theorem at_root_up (A : Wt fa fn xs K mg) : FnAt P w K mg base (ct K) 2 "root_up" 1 m_root_up := by
  obtain ⟨fd, F⟩ := A.def_ 4 (d := d_root_up) rfl
  have F : FunD K "root_up" "root_up" (defArgs s_root_up) (defBody s_root_up) (defScope s_root_up) [] [] (He.fAd K ("root_up", none)) fd := F
  have hb : Binds K fd ["number"] [] := binds_n F fun _ _ _ _ _ _ us hl => match us, hl with | [_], _ => rfl
  have hg : mg "root_up" = some (.ref (He.ga K "root_up")) := A.glo 19
  have hg : mg "root_up" = some (.ref (He.fAd K ("root_up", none))) := hg
  have hk := F.kp
  have z : FnOk P w K mg base (L2.CX P w) (1 + 1) (He.fAd K ("root_up", none)) fd ["number"] (spD K (ct K) 1 (runD 2 b_root_up)) := by
    refine fn_ok (k := 1) (N := ["number", "found"]) (n := 1) (m := b_root_up) F sc_root_up rfl fun cdv A0 outer s H E Fb hr => ?_
    exact (mss_cons (ms_set 1 sc_root_up.nd (me_call (at_root_down A) (hr.mono (by decide)) (ml_cons (me_var 0) ml_nil) (len_cons len_nil))) (mss_one (ms_ret (me_if (mt_cmp (om_eq (hr).units) (ME.toB (me_bin om_mul (ME.toB (me_var 1)) (ME.toB (me_var 1)))) (ME.toB (me_var 0))) (me_var 1) (me_bin om_add (ME.toB (me_var 1)) (ME.toB me_int))))))
  exact ⟨(He.fAd K ("root_up", none)), fd, ["number"], z, hg, hk, hb⟩
theorem sc_is_interval : FnScope ["pair"] ["pair"] (defScope s_is_interval) := ⟨rfl, rfl, rfl, by decide +kernel, rfl, by decide +kernel, by decide +kernel⟩
theorem at_is_interval (A : Wt fa fn xs K mg) : FnAt P w K mg base (ct K) 1 "is_interval" 1 m_is_interval := by
  obtain ⟨fd, F⟩ := A.def_ 5 (d := d_is_interval) rfl
  have F : FunD K "is_interval" "is_interval" (defArgs s_is_interval) (defBody s_is_interval) (defScope s_is_interval) [] [] (He.fAd K ("is_interval", none)) fd := F
  have hb : Binds K fd ["pair"] [] := binds_n F fun _ _ _ _ _ _ us hl => match us, hl with | [_], _ => rfl
  have hg : mg "is_interval" = some (.ref (He.ga K "is_interval")) := A.glo 20
  have hg : mg "is_interval" = some (.ref (He.fAd K ("is_interval", none))) := hg
  have hk := F.kp
  have z : FnOk P w K mg base (L2.CX P w) (0 + 1) (He.fAd K ("is_interval", none)) fd ["pair"] (spD K (ct K) 1 (runD 1 b_is_interval)) := by
    refine fn_ok (k := 0) (N := ["pair"]) (n := 1) (m := b_is_interval) F sc_is_interval rfl fun cdv A0 outer s H E Fb hr => ?_
    exact (mss_one (ms_ret (me_and (me_cmp (om_eq (hr).units) (ME.toB (me_bi cm_len (A.free 2) (by decide +kernel) (mlb_cons (ME.toB (me_var 0)) mlb_nil))) (ME.toB me_int)) (me_one (me_cmp om_le (ME.toB (me_ix (ME.toB (me_var 0)) (ME.toB me_int))) (ME.toB (me_ix (ME.toB (me_var 0)) (ME.toB me_int))))))))
  exact ⟨(He.fAd K ("is_interval", none)), fd, ["pair"], z, hg, hk, hb⟩
theorem sc_added : FnScope ["first", "second"] ["first", "second"] (defScope s_added) := ⟨rfl, rfl, rfl, by decide +kernel, rfl, by decide +kernel, by decide +kernel⟩
theorem at_added (A : Wt fa fn xs K mg) : FnAt P w K mg base (ct K) 1 "added" 2 m_added := by
  obtain ⟨fd, F⟩ := A.def_ 6 (d := d_added) rfl
  have F : FunD K "added" "added" (defArgs s_added) (defBody s_added) (defScope s_added) [] [] (He.fAd K ("added", none)) fd := F
  have hb : Binds K fd ["first", "second"] [] := binds_n F fun _ _ _ _ _ _ us hl => match us, hl with | [_, _], _ => rfl
  have hg : mg "added" = some (.ref (He.ga K "added")) := A.glo 21
  have hg : mg "added" = some (.ref (He.fAd K ("added", none))) := hg
  have hk := F.kp
  have z : FnOk P w K mg base (L2.CX P w) (0 + 1) (He.fAd K ("added", none)) fd ["first", "second"] (spD K (ct K) 2 (runD 2 b_added)) := by
    refine fn_ok (k := 0) (N := ["first", "second"]) (n := 2) (m := b_added) F sc_added rfl fun cdv A0 outer s H E Fb hr => ?_
    exact (mss_one (ms_ret (me_tup (ml_cons (me_bin om_add (ME.toB (me_ix (ME.toB (me_var 0)) (ME.toB me_int))) (ME.toB (me_ix (ME.toB (me_var 1)) (ME.toB me_int)))) (ml_cons (me_bin om_add (ME.toB (me_ix (ME.toB (me_var 0)) (ME.toB me_int))) (ME.toB (me_ix (ME.toB (me_var 1)) (ME.toB me_int)))) ml_nil)))))
  exact ⟨(He.fAd K ("added", none)), fd, ["first", "second"], z, hg, hk, hb⟩
theorem sc_hull : FnScope ["first", "second"] ["first", "second"] (defScope s_hull) := ⟨rfl, rfl, rfl, by decide +kernel, rfl, by decide +kernel, by decide +kernel⟩
theorem at_hull (A : Wt fa fn xs K mg) : FnAt P w K mg base (ct K) 1 "hull" 2 m_hull := by
  obtain ⟨fd, F⟩ := A.def_ 7 (d := d_hull) rfl
  have F : FunD K "hull" "hull" (defArgs s_hull) (defBody s_hull) (defScope s_hull) [] [] (He.fAd K ("hull", none)) fd := F
  have hb : Binds K fd ["first", "second"] [] := binds_n F fun _ _ _ _ _ _ us hl => match us, hl with | [_, _], _ => rfl
  have hg : mg "hull" = some (.ref (He.ga K "hull")) := A.glo 22
  have hg : mg "hull" = some (.ref (He.fAd K ("hull", none))) := hg
  have hk := F.kp
  have z : FnOk P w K mg base (L2.CX P w) (0 + 1) (He.fAd K ("hull", none)) fd ["first", "second"] (spD K (ct K) 2 (runD 2 b_hull)) := by
    refine fn_ok (k := 0) (N := ["first", "second"]) (n := 2) (m := b_hull) F sc_hull rfl fun cdv A0 outer s H E Fb hr => ?_
    exact (mss_one (ms_ret (me_tup (ml_cons (me_bi (cm_min2 rfl) (A.free 4) (by decide +kernel) (mlb_cons (ME.toB (me_ix (ME.toB (me_var 0)) (ME.toB me_int))) (mlb_cons (ME.toB (me_ix (ME.toB (me_var 1)) (ME.toB me_int))) mlb_nil))) (ml_cons (me_bi (cm_max2 rfl) (A.free 3) (by decide +kernel) (mlb_cons (ME.toB (me_ix (ME.toB (me_var 0)) (ME.toB me_int))) (mlb_cons (ME.toB (me_ix (ME.toB (me_var 1)) (ME.toB me_int))) mlb_nil))) ml_nil)))))
  exact ⟨(He.fAd K ("hull", none)), fd, ["first", "second"], z, hg, hk, hb⟩
theorem sc_common : FnScope ["first", "second", "found"] ["first", "second"] (defScope s_common) := ⟨rfl, rfl, rfl, by decide +kernel, rfl, by decide +kernel, by decide +kernel⟩
theorem at_common (A : Wt fa fn xs K mg) : FnAt P w K mg base (ct K) 1 "common" 2 m_common := by
  obtain ⟨fd, F⟩ := A.def_ 8 (d := d_common) rfl
  have F : FunD K "common" "common" (defArgs s_common) (defBody s_common) (defScope s_common) [] [] (He.fAd K ("common", none)) fd := F
  have hb : Binds K fd ["first", "second"] [] := binds_n F fun _ _ _ _ _ _ us hl => match us, hl with | [_, _], _ => rfl
  have hg : mg "common" = some (.ref (He.ga K "common")) := A.glo 23
  have hg : mg "common" = some (.ref (He.fAd K ("common", none))) := hg
  have hk := F.kp
  have z : FnOk P w K mg base (L2.CX P w) (0 + 1) (He.fAd K ("common", none)) fd ["first", "second"] (spD K (ct K) 2 (runD 3 b_common)) := by
    refine fn_ok (k := 0) (N := ["first", "second", "found"]) (n := 2) (m := b_common) F sc_common rfl fun cdv A0 outer s H E Fb hr => ?_
    exact (mss_cons (ms_set 2 sc_common.nd (me_tup (ml_cons (me_bi (cm_max2 rfl) (A.free 3) (by decide +kernel) (mlb_cons (ME.toB (me_ix (ME.toB (me_var 0)) (ME.toB me_int))) (mlb_cons (ME.toB (me_ix (ME.toB (me_var 1)) (ME.toB me_int))) mlb_nil))) (ml_cons (me_bi (cm_min2 rfl) (A.free 4) (by decide +kernel) (mlb_cons (ME.toB (me_ix (ME.toB (me_var 0)) (ME.toB me_int))) (mlb_cons (ME.toB (me_ix (ME.toB (me_var 1)) (ME.toB me_int))) mlb_nil))) ml_nil)))) (mss_one (ms_ret (me_if (mt_cmp om_le (ME.toB (me_ix (ME.toB (me_var 2)) (ME.toB me_int))) (ME.toB (me_ix (ME.toB (me_var 2)) (ME.toB me_int)))) (me_var 2) me_non))))
  exact ⟨(He.fAd K ("common", none)), fd, ["first", "second"], z, hg, hk, hb⟩
theorem sc_law_cell : FnScope ["script", "k"] ["script", "k"] (defScope s_law_cell) := ⟨rfl, rfl, rfl, by decide +kernel, rfl, by decide +kernel, by decide +kernel⟩
theorem at_law_cell (A : Wt fa fn xs K mg) : FnAt P w K mg base (ct K) 1 "_law_cell" 2 m_law_cell := by
  obtain ⟨fd, F⟩ := A.def_ 9 (d := d_law_cell) rfl
  have F : FunD K "_law_cell" "_law_cell" (defArgs s_law_cell) (defBody s_law_cell) (defScope s_law_cell) [] [] (He.fAd K ("_law_cell", none)) fd := F
  have hb : Binds K fd ["script", "k"] [] := binds_n F fun _ _ _ _ _ _ us hl => match us, hl with | [_, _], _ => rfl
  have hg : mg "_law_cell" = some (.ref (He.ga K "_law_cell")) := A.glo 24
  have hg : mg "_law_cell" = some (.ref (He.fAd K ("_law_cell", none))) := hg
  have hk := F.kp
  have z : FnOk P w K mg base (L2.CX P w) (0 + 1) (He.fAd K ("_law_cell", none)) fd ["script", "k"] (spD K (ct K) 2 (runD 2 b_law_cell)) := by
    refine fn_ok (k := 0) (N := ["script", "k"]) (n := 2) (m := b_law_cell) F sc_law_cell rfl fun cdv A0 outer s H E Fb hr => ?_
    exact (mss_cons (ms_if (mt_cmp om_lt (ME.toB (me_var 1)) (ME.toB (me_bi cm_len (A.free 2) (by decide +kernel) (mlb_cons (ME.toB (me_var 0)) mlb_nil)))) (mss_one (ms_ret (me_bi cm_abs (A.free 5) (by decide +kernel) (mlb_cons (ME.toB (me_bty cm_int (A.free 6) (by decide +kernel) (mlb_cons (ME.toB (me_ix (ME.toB (me_var 0)) (ME.toB (me_var 1)))) mlb_nil))) mlb_nil)))) mss_nil) (mss_one (ms_ret me_int)))
  exact ⟨(He.fAd K ("_law_cell", none)), fd, ["script", "k"], z, hg, hk, hb⟩
theorem sc_law_draws : FnScope ["cell", "count", "rows", "left", "k", "mixed"] ["cell", "count"] (defScope s_law_draws) := ⟨rfl, rfl, rfl, by decide +kernel, rfl, by decide +kernel, by decide +kernel⟩
theorem at_law_draws (A : Wt fa fn xs K mg) : FnAt P w K mg base (ct K) 1 "_law_draws" 2 m_law_draws := by
  obtain ⟨fd, F⟩ := A.def_ 10 (d := d_law_draws) rfl
  have F : FunD K "_law_draws" "_law_draws" (defArgs s_law_draws) (defBody s_law_draws) (defScope s_law_draws) [] [] (He.fAd K ("_law_draws", none)) fd := F
  have hb : Binds K fd ["cell", "count"] [] := binds_n F fun _ _ _ _ _ _ us hl => match us, hl with | [_, _], _ => rfl
  have hg : mg "_law_draws" = some (.ref (He.ga K "_law_draws")) := A.glo 25
  have hg : mg "_law_draws" = some (.ref (He.fAd K ("_law_draws", none))) := hg
  have hk := F.kp
  have z : FnOk P w K mg base (L2.CX P w) (0 + 1) (He.fAd K ("_law_draws", none)) fd ["cell", "count"] (spD K (ct K) 2 (runD 6 b_law_draws)) := by
    refine fn_ok (k := 0) (N := ["cell", "count", "rows", "left", "k", "mixed"]) (n := 2) (m := b_law_draws) F sc_law_draws rfl fun cdv A0 outer s H E Fb hr => ?_
    exact (mss_cons (ms_setO 2 sc_law_draws.nd (mf_lst ml_nil)) (mss_cons (ms_set 3 sc_law_draws.nd (me_var 0)) (mss_cons (ms_for (vs := [4]) (passes_of rfl) rfl (mi_range1 (A.free 7) (ml_cons (me_var 1) ml_nil)) (mg_name 4 sc_law_draws.nd) (mss_one (ms_if (MW.toT (mw_and (mt_cmp om_ge (ME.toB (me_var 0)) (ME.toB (me_bin om_pow (ME.toB me_int) (ME.toB me_int)))) (mw_and1 (mt_cmp om_gt (ME.toB (me_var 3)) (ME.toB me_int))))) (mss_cons (ms_lw 2 lw_append (ml_cons (me_bin om_mod (ME.toB (me_bty cm_int (A.free 6) (by decide +kernel) (mlb_cons (ME.toB (me_var 3)) mlb_nil))) (ME.toB me_int)) ml_nil) (hpe := fun h h0 h1 => pe_bm PySem.F.plainAttrs_list PySem.F.slot_list_append PySem.F.type_list_append h h0 h1)) (mss_one (ms_set 3 sc_law_draws.nd (me_bin om_fdiv (ME.toB (me_var 3)) (ME.toB me_int))))) (mss_cons (ms_set 5 sc_law_draws.nd (me_bin om_mod (ME.toB (me_bty cm_int (A.free 6) (by decide +kernel) (mlb_cons (ME.toB (me_bin om_add (ME.toB (me_bin om_mul (ME.toB (me_var 0)) (ME.toB me_int))) (ME.toB (me_bin om_mul (ME.toB (me_bin om_add (ME.toB (me_var 4)) (ME.toB me_int))) (ME.toB me_int))))) mlb_nil))) (ME.toB me_int))) (mss_cons (ms_set 5 sc_law_draws.nd (me_bin om_mod (ME.toB (me_bty cm_int (A.free 6) (by decide +kernel) (mlb_cons (ME.toB (me_bin om_add (ME.toB (me_bin om_add (ME.toB (me_bin om_mul (ME.toB (me_var 5)) (ME.toB (me_var 5)))) (ME.toB (me_bin om_mul (ME.toB (me_var 5)) (ME.toB me_int))))) (ME.toB (me_bin om_mul (ME.toB (me_var 4)) (ME.toB me_int))))) mlb_nil))) (ME.toB me_int))) (mss_cons (ms_set 5 sc_law_draws.nd (me_bin om_mod (ME.toB (me_bty cm_int (A.free 6) (by decide +kernel) (mlb_cons (ME.toB (me_bin om_add (ME.toB (me_bin om_add (ME.toB (me_bin om_mul (ME.toB (me_var 5)) (ME.toB (me_var 5)))) (ME.toB (me_var 0)))) (ME.toB (me_bin om_mul (ME.toB me_int) (ME.toB (me_var 4)))))) mlb_nil))) (ME.toB me_int))) (mss_one (ms_lw 2 lw_append (ml_cons (me_bin om_mod (ME.toB (me_bin om_fdiv (ME.toB (me_var 5)) (ME.toB me_int))) (ME.toB me_int)) ml_nil) (hpe := fun h h0 h1 => pe_bm PySem.F.plainAttrs_list PySem.F.slot_list_append PySem.F.type_list_append h h0 h1))))))))) (mss_frz 2 (mss_one (ms_ret (me_var 2)))))))
  exact ⟨(He.fAd K ("_law_draws", none)), fd, ["cell", "count"], z, hg, hk, hb⟩
theorem sc_law_like : FnScope ["actual", "due", "k"] ["actual", "due"] (defScope s_law_like) := ⟨rfl, rfl, rfl, by decide +kernel, rfl, by decide +kernel, by decide +kernel⟩
theorem at_law_like (A : Wt fa fn xs K mg) : ∀ n : Nat, FnAt P w K mg base (ct K) (n + 1) "_law_like" 2 (m_law_like n)
  | 0 => by
    obtain ⟨fd, F⟩ := A.def_ 11 (d := d_law_like) rfl
    have F : FunD K "_law_like" "_law_like" (defArgs s_law_like) (defBody s_law_like) (defScope s_law_like) [] [] (He.fAd K ("_law_like", none)) fd := F
    have hb : Binds K fd ["actual", "due"] [] := binds_n F fun _ _ _ _ _ _ us hl => match us, hl with | [_, _], _ => rfl
    have hg : mg "_law_like" = some (.ref (He.ga K "_law_like")) := A.glo 26
    have hg : mg "_law_like" = some (.ref (He.fAd K ("_law_like", none))) := hg
    have hk := F.kp
    exact ⟨(He.fAd K ("_law_like", none)), fd, ["actual", "due"], fn_bad F, hg, hk, hb⟩
  | n + 1 => by
    have IH := at_law_like A n
    obtain ⟨fd, F⟩ := A.def_ 11 (d := d_law_like) rfl
    have F : FunD K "_law_like" "_law_like" (defArgs s_law_like) (defBody s_law_like) (defScope s_law_like) [] [] (He.fAd K ("_law_like", none)) fd := F
    have hb : Binds K fd ["actual", "due"] [] := binds_n F fun _ _ _ _ _ _ us hl => match us, hl with | [_, _], _ => rfl
    have hg : mg "_law_like" = some (.ref (He.ga K "_law_like")) := A.glo 26
    have hg : mg "_law_like" = some (.ref (He.fAd K ("_law_like", none))) := hg
    have hk := F.kp
    have z : FnOk P w K mg base (L2.CX P w) (n + 1 + 1) (He.fAd K ("_law_like", none)) fd ["actual", "due"] (spD K (ct K) 2 (runD 3 (b_law_like (m_law_like n)))) := by
      refine fn_ok (k := n + 1) (N := ["actual", "due", "k"]) (n := 2) (m := b_law_like (m_law_like n)) F sc_law_like rfl fun cdv A0 outer s H E Fb hr => ?_
      exact (mss_cons (ms_if (mt_cmp om_is (ME.toB (me_var 1)) (ME.toB me_non)) (mss_one (ms_ret (me_cmp om_is (ME.toB (me_var 0)) (ME.toB me_non)))) mss_nil) (mss_cons (ms_if (mt_val (me_isi .bool (A.free 8) (A.free 9) (by decide +kernel) (ME.toB (me_var 1)))) (mss_one (ms_ret (me_and (me_isi .bool (A.free 8) (A.free 9) (by decide +kernel) (ME.toB (me_var 0))) (me_one (me_cmp (om_eq (hr).units) (ME.toB (me_var 0)) (ME.toB (me_var 1))))))) mss_nil) (mss_cons (ms_if (mt_val (me_isi .str (A.free 8) (A.free 10) (by decide +kernel) (ME.toB (me_var 1)))) (mss_one (ms_ret (me_and (me_isi .str (A.free 8) (A.free 10) (by decide +kernel) (ME.toB (me_var 0))) (me_one (me_cmp (om_eq (hr).units) (ME.toB (me_var 0)) (ME.toB (me_var 1))))))) mss_nil) (mss_cons (ms_if (mt_val (me_isi .int (A.free 8) (A.free 6) (by decide +kernel) (ME.toB (me_var 1)))) (mss_one (ms_ret (me_and (me_isi .int (A.free 8) (A.free 6) (by decide +kernel) (ME.toB (me_var 0))) (me_and (me_not (me_isi .bool (A.free 8) (A.free 9) (by decide +kernel) (ME.toB (me_var 0)))) (me_one (me_cmp (om_eq (hr).units) (ME.toB (me_var 0)) (ME.toB (me_var 1)))))))) mss_nil) (mss_cons (ms_if (MW.toT (mw_or (mt_cmp (om_ne (hr).units) (ME.toB (me_isi .list (A.free 8) (A.free 11) (by decide +kernel) (ME.toB (me_var 1)))) (ME.toB (me_isi .list (A.free 8) (A.free 11) (by decide +kernel) (ME.toB (me_var 0))))) (mw_or1 (mt_cmp (om_ne (hr).units) (ME.toB (me_isi .tuple (A.free 8) (A.free 12) (by decide +kernel) (ME.toB (me_var 1)))) (ME.toB (me_isi .tuple (A.free 8) (A.free 12) (by decide +kernel) (ME.toB (me_var 0)))))))) (mss_one (ms_ret me_bl)) mss_nil) (mss_cons (ms_if (mt_cmp (om_ne (hr).units) (ME.toB (me_bi cm_len (A.free 2) (by decide +kernel) (mlb_cons (ME.toB (me_var 0)) mlb_nil))) (ME.toB (me_bi cm_len (A.free 2) (by decide +kernel) (mlb_cons (ME.toB (me_var 1)) mlb_nil)))) (mss_one (ms_ret me_bl)) mss_nil) (mss_one (ms_ret (me_bi (cm_all rfl) (A.free 13) (by decide +kernel) (mlb_cons (ME.toB (MF.toE (mf_comp (own := [("k", 2)]) rfl sc_law_like.nd (MI.b (mi_range1 (A.free 7) (ml_cons (me_bi cm_len (A.free 2) (by decide +kernel) (mlb_cons (ME.toB (me_var 1)) mlb_nil)) ml_nil))) (blkOk_by (by kernel_rfl)) (fun _ _ _ _ _ _ => (mg_name 2 sc_law_like.nd)) (fun _ _ _ _ _ _ => mts_nil) (fun _ _ _ _ _ _ => (me_call (IH) (hr.mono (by omega)) (ml_cons (me_ix (ME.toB (me_var 0)) (ME.toB (me_var 2))) (ml_cons (me_ix (ME.toB (me_var 1)) (ME.toB (me_var 2))) ml_nil)) (len_cons (len_cons len_nil))))))) mlb_nil))))))))))
    have e : n + 1 + 1 = n + 1 + 1 := by omega
    rw [e]
    exact ⟨(He.fAd K ("_law_like", none)), fd, ["actual", "due"], z, hg, hk, hb⟩
theorem sc_law_refused : FnScope ["sort", "number"] ["sort", "number"] (defScope s_law_refused) := ⟨rfl, rfl, rfl, by decide +kernel, rfl, by decide +kernel, by decide +kernel⟩
theorem at_law_refused (A : Wt fa fn xs K mg) : FnAt P w K mg base (ct K) 3 "_law_refused" 2 m_law_refused := by
  obtain ⟨fd, F⟩ := A.def_ 12 (d := d_law_refused) rfl
  have F : FunD K "_law_refused" "_law_refused" (defArgs s_law_refused) (defBody s_law_refused) (defScope s_law_refused) [] [] (He.fAd K ("_law_refused", none)) fd := F
  have hb : Binds K fd ["sort", "number"] [] := binds_n F fun _ _ _ _ _ _ us hl => match us, hl with | [_, _], _ => rfl
  have hg : mg "_law_refused" = some (.ref (He.ga K "_law_refused")) := A.glo 27
  have hg : mg "_law_refused" = some (.ref (He.fAd K ("_law_refused", none))) := hg
  have hk := F.kp
  have z : FnOk P w K mg base (L2.CX P w) (2 + 1) (He.fAd K ("_law_refused", none)) fd ["sort", "number"] (spD K (ct K) 2 (runD 2 b_law_refused)) := by
    refine fn_ok (k := 2) (N := ["sort", "number"]) (n := 2) (m := b_law_refused) F sc_law_refused rfl fun cdv A0 outer s H E Fb hr => ?_
    exact (mss_cons (ms_try (cs := [1]) (c := 1) rfl rfl (A.glo 1) (fun c hc => by
      simp only [List.mem_cons, List.not_mem_nil, or_false] at hc
      subst hc
      exact A.exm 14) (fun pn xe po => (mss_one (ms_if (mt_cmp (om_eq (hr).units) (ME.toB (me_var 0)) (ME.toB me_int)) (mss_one (ms_expr (me_call (at_divided_down A) (hr.mono (by decide)) (ml_cons (me_var 1) (ml_cons (me_bin om_sub (ME.toB me_int) (ME.toB (me_bin om_mod (ME.toB (me_var 1)) (ME.toB me_int)))) ml_nil)) (len_cons (len_cons len_nil))))) (mss_one (ms_if (mt_cmp (om_eq (hr).units) (ME.toB (me_var 0)) (ME.toB me_int)) (mss_one (ms_expr (me_call (at_divided_up A) (hr.mono (by decide)) (ml_cons (me_var 1) (ml_cons (me_bin om_sub (ME.toB me_int) (ME.toB (me_bin om_mod (ME.toB (me_var 1)) (ME.toB me_int)))) ml_nil)) (len_cons (len_cons len_nil))))) (mss_one (ms_if (mt_cmp (om_eq (hr).units) (ME.toB (me_var 0)) (ME.toB me_int)) (mss_one (ms_expr (me_call (at_root_down A) (hr.mono (by decide)) (ml_cons (me_bin om_sub (ME.toB (me_neg (ME.toB me_int))) (ME.toB (me_var 1))) ml_nil) (len_cons len_nil)))) (mss_one (ms_expr (me_call (at_root_up A) (hr.mono (by decide)) (ml_cons (me_bin om_sub (ME.toB (me_neg (ME.toB me_int))) (ME.toB (me_var 1))) ml_nil) (len_cons len_nil))))))))))) (fun a pn => (mss_one (ms_ret me_bl)))) (mss_one (ms_ret me_bl)))
  exact ⟨(He.fAd K ("_law_refused", none)), fd, ["sort", "number"], z, hg, hk, hb⟩
theorem sc_law : FnScope ["script", "draws", "great", "number", "first", "second", "both", "due", "pair", "divisor", "down", "up", "low", "high", "k", "sort"] ["script"] (defScope s_law) := ⟨rfl, rfl, rfl, by decide +kernel, rfl, by decide +kernel, by decide +kernel⟩
theorem ok_law (A : Wt fa fn xs K mg) {fd : FuncData} (F : FunD K "law" "law" (defArgs s_law) (defBody s_law) (defScope s_law) [] [] (He.fAd K ("law", none)) fd) : FnOk P w K mg base (L2.CX P w) 10 (He.fAd K ("law", none)) fd ["script"] (spD K (ct K) 1 (runD 16 b_law)) := by
  refine fn_ok (k := 9) (N := ["script", "draws", "great", "number", "first", "second", "both", "due", "pair", "divisor", "down", "up", "low", "high", "k", "sort"]) (n := 1) (m := b_law) F sc_law rfl fun cdv A0 outer s H E Fb hr => ?_
  exact (mss_cons (ms_set 1 sc_law.nd (me_call (at_law_draws A) (hr.mono (by decide)) (ml_cons (me_call (at_law_cell A) (hr.mono (by decide)) (ml_cons (me_var 0) (ml_cons me_int ml_nil)) (len_cons (len_cons len_nil))) (ml_cons me_int ml_nil)) (len_cons (len_cons len_nil)))) (mss_cons (ms_set 2 sc_law.nd (me_bin om_mod (ME.toB (me_bty cm_int (A.free 6) (by decide +kernel) (mlb_cons (ME.toB (me_call (at_law_cell A) (hr.mono (by decide)) (ml_cons (me_var 0) (ml_cons me_int ml_nil)) (len_cons (len_cons len_nil)))) mlb_nil))) (ME.toB (me_bin om_pow (ME.toB me_int) (ME.toB me_int))))) (mss_cons (ms_for (vs := [3]) (passes_of rfl) rfl (mi_seq (MF.toE (mf_lst (ml_cons (me_var 2) (ml_cons (me_bin om_sub (ME.toB me_int) (ME.toB (me_var 2))) (ml_cons (me_bin om_sub (ME.toB (me_ix (ME.toB (me_var 1)) (ME.toB me_int))) (ME.toB me_int)) (ml_cons (me_bin om_sub (ME.toB (me_bin om_add (ME.toB (me_bin om_mul (ME.toB (me_ix (ME.toB (me_var 1)) (ME.toB me_int))) (ME.toB (me_ix (ME.toB (me_var 1)) (ME.toB me_int))))) (ME.toB (me_bin om_mod (ME.toB (me_ix (ME.toB (me_var 1)) (ME.toB me_int))) (ME.toB me_int))))) (ME.toB me_int)) ml_nil))))))) (mg_name 3 sc_law.nd) (mss_cons (ms_set 9 sc_law.nd (me_bin om_add (ME.toB me_int) (ME.toB (me_ix (ME.toB (MF.toE (mf_lst (ml_cons (me_bin om_mod (ME.toB (me_ix (ME.toB (me_var 1)) (ME.toB me_int))) (ME.toB me_int)) (ml_cons (me_ix (ME.toB (me_var 1)) (ME.toB me_int)) (ml_cons (me_bin om_mod (ME.toB (me_var 2)) (ME.toB (me_bin om_pow (ME.toB me_int) (ME.toB me_int)))) ml_nil)))))) (ME.toB (me_bin om_mod (ME.toB (me_ix (ME.toB (me_var 1)) (ME.toB me_int))) (ME.toB me_int))))))) (mss_cons (ms_set 10 sc_law.nd (me_call (at_divided_down A) (hr.mono (by decide)) (ml_cons (me_var 3) (ml_cons (me_var 9) ml_nil)) (len_cons (len_cons len_nil)))) (mss_cons (ms_if (mt_not (mt_val (me_isi .int (A.free 8) (A.free 6) (by decide +kernel) (ME.toB (me_var 10))))) (mss_one (ms_ret me_bl)) mss_nil) (mss_cons (ms_set 11 sc_law.nd (me_call (at_divided_up A) (hr.mono (by decide)) (ml_cons (me_var 3) (ml_cons (me_var 9) ml_nil)) (len_cons (len_cons len_nil)))) (mss_cons (ms_if (mt_not (mt_val (me_isi .int (A.free 8) (A.free 6) (by decide +kernel) (ME.toB (me_var 11))))) (mss_one (ms_ret me_bl)) mss_nil) (mss_cons (ms_if (MW.toT (mw_or (mt_not (mt_chain om_le om_lt (ME.toB (me_bin om_mul (ME.toB (me_var 10)) (ME.toB (me_var 9)))) (ME.toB (me_var 3)) (ME.toB (me_bin om_mul (ME.toB (me_bin om_add (ME.toB (me_var 10)) (ME.toB me_int))) (ME.toB (me_var 9)))))) (mw_or1 (mt_not (mt_chain om_lt om_le (ME.toB (me_bin om_mul (ME.toB (me_bin om_sub (ME.toB (me_var 11)) (ME.toB me_int))) (ME.toB (me_var 9)))) (ME.toB (me_var 3)) (ME.toB (me_bin om_mul (ME.toB (me_var 11)) (ME.toB (me_var 9))))))))) (mss_one (ms_ret me_bl)) mss_nil) (mss_one (ms_if (mt_cmp om_ge (ME.toB (me_var 3)) (ME.toB me_int)) (mss_cons (ms_set 12 sc_law.nd (me_call (at_root_down A) (hr.mono (by decide)) (ml_cons (me_var 3) ml_nil) (len_cons len_nil))) (mss_cons (ms_set 13 sc_law.nd (me_call (at_root_up A) (hr.mono (by decide)) (ml_cons (me_var 3) ml_nil) (len_cons len_nil))) (mss_cons (ms_if (MW.toT (mw_or (mt_cmp om_lt (ME.toB (me_var 12)) (ME.toB me_int)) (mw_or (mt_not (mt_chain om_le om_lt (ME.toB (me_bin om_mul (ME.toB (me_var 12)) (ME.toB (me_var 12)))) (ME.toB (me_var 3)) (ME.toB (me_bin om_mul (ME.toB (me_bin om_add (ME.toB (me_var 12)) (ME.toB me_int))) (ME.toB (me_bin om_add (ME.toB (me_var 12)) (ME.toB me_int))))))) (mw_or1 (mt_cmp om_lt (ME.toB (me_bin om_mul (ME.toB (me_var 13)) (ME.toB (me_var 13)))) (ME.toB (me_var 3))))))) (mss_one (ms_ret me_bl)) mss_nil) (mss_one (ms_if (MW.toT (mw_or (MW.toT (mw_and (mt_cmp om_gt (ME.toB (me_var 13)) (ME.toB me_int)) (mw_and1 (mt_cmp om_ge (ME.toB (me_bin om_mul (ME.toB (me_bin om_sub (ME.toB (me_var 13)) (ME.toB me_int))) (ME.toB (me_bin om_sub (ME.toB (me_var 13)) (ME.toB me_int))))) (ME.toB (me_var 3)))))) (mw_or1 (mt_cmp om_lt (ME.toB (me_var 13)) (ME.toB me_int))))) (mss_one (ms_ret me_bl)) mss_nil))))) mss_nil))))))))) (mss_cons (ms_set 4 sc_law.nd (me_tup (ml_cons (me_bin om_sub (ME.toB (me_bin om_mod (ME.toB (me_ix (ME.toB (me_var 1)) (ME.toB me_int))) (ME.toB me_int))) (ME.toB me_int)) (ml_cons (me_bin om_add (ME.toB (me_bin om_sub (ME.toB (me_bin om_mod (ME.toB (me_ix (ME.toB (me_var 1)) (ME.toB me_int))) (ME.toB me_int))) (ME.toB me_int))) (ME.toB (me_bin om_mod (ME.toB (me_ix (ME.toB (me_var 1)) (ME.toB me_int))) (ME.toB me_int)))) ml_nil)))) (mss_cons (ms_set 5 sc_law.nd (me_tup (ml_cons (me_bin om_sub (ME.toB (me_bin om_mod (ME.toB (me_ix (ME.toB (me_var 1)) (ME.toB me_int))) (ME.toB me_int))) (ME.toB me_int)) (ml_cons (me_bin om_add (ME.toB (me_bin om_sub (ME.toB (me_bin om_mod (ME.toB (me_ix (ME.toB (me_var 1)) (ME.toB me_int))) (ME.toB me_int))) (ME.toB me_int))) (ME.toB (me_bin om_mod (ME.toB (me_ix (ME.toB (me_var 1)) (ME.toB me_int))) (ME.toB me_int)))) ml_nil)))) (mss_cons (ms_if (mt_not (mt_val (me_call (at_law_like A 8) (hr.mono (by decide)) (ml_cons (me_call (at_added A) (hr.mono (by decide)) (ml_cons (me_var 4) (ml_cons (me_var 5) ml_nil)) (len_cons (len_cons len_nil))) (ml_cons (me_tup (ml_cons (me_bin om_add (ME.toB (me_ix (ME.toB (me_var 4)) (ME.toB me_int))) (ME.toB (me_ix (ME.toB (me_var 5)) (ME.toB me_int)))) (ml_cons (me_bin om_add (ME.toB (me_ix (ME.toB (me_var 4)) (ME.toB me_int))) (ME.toB (me_ix (ME.toB (me_var 5)) (ME.toB me_int)))) ml_nil))) ml_nil)) (len_cons (len_cons len_nil))))) (mss_one (ms_ret me_bl)) mss_nil) (mss_cons (ms_setComp (own := [("k", 14)]) 6 false rfl sc_law.nd (MI.b (mi_range2 (A.free 7) (ml_cons (me_neg (ME.toB me_int)) (ml_cons me_int ml_nil)))) (blkOk_by (by kernel_rfl)) (fun _ _ _ _ _ _ => (mg_name 14 sc_law.nd)) (fun _ _ _ _ _ _ => (mts_one (mt_chain om_le om_le (ME.toB (me_ix (ME.toB (me_var 4)) (ME.toB me_int))) (ME.toB (me_var 14)) (ME.toB (me_ix (ME.toB (me_var 4)) (ME.toB me_int)))))) (fun _ _ _ _ _ _ => (me_var 14))) (mss_cons (ms_setComp (own := [("k", 14)]) 6 false rfl sc_law.nd (MI.b (mi_seq (me_var 6))) (blkOk_by (by kernel_rfl)) (fun _ _ _ _ _ _ => (mg_name 14 sc_law.nd)) (fun _ _ _ _ _ _ => (mts_one (mt_chain om_le om_le (ME.toB (me_ix (ME.toB (me_var 5)) (ME.toB me_int))) (ME.toB (me_var 14)) (ME.toB (me_ix (ME.toB (me_var 5)) (ME.toB me_int)))))) (fun _ _ _ _ _ _ => (me_var 14))) (mss_cons (ms_set 7 sc_law.nd me_non) (mss_cons (ms_if (mt_cmp om_gt (ME.toB (me_bi cm_len (A.free 2) (by decide +kernel) (mlb_cons (ME.toB (me_var 6)) mlb_nil))) (ME.toB me_int)) (mss_one (ms_set 7 sc_law.nd (me_tup (ml_cons (me_ix (ME.toB (me_var 6)) (ME.toB me_int)) (ml_cons (me_ix (ME.toB (me_var 6)) (ME.toB (me_neg (ME.toB me_int)))) ml_nil))))) mss_nil) (mss_cons (ms_if (MW.toT (mw_or (mt_not (mt_val (me_call (at_law_like A 8) (hr.mono (by decide)) (ml_cons (me_call (at_common A) (hr.mono (by decide)) (ml_cons (me_var 4) (ml_cons (me_var 5) ml_nil)) (len_cons (len_cons len_nil))) (ml_cons (me_var 7) ml_nil)) (len_cons (len_cons len_nil))))) (mw_or1 (mt_not (mt_val (me_call (at_law_like A 8) (hr.mono (by decide)) (ml_cons (me_call (at_hull A) (hr.mono (by decide)) (ml_cons (me_var 4) (ml_cons (me_var 5) ml_nil)) (len_cons (len_cons len_nil))) (ml_cons (me_tup (ml_cons (me_bi (cm_minD2 rfl) (A.free 4) (by decide +kernel) (mlb_cons (ME.toB (me_bin om_add (ME.toB (me_var 4)) (ME.toB (me_var 5)))) mlb_nil)) (ml_cons (me_bi (cm_maxD2 rfl) (A.free 3) (by decide +kernel) (mlb_cons (ME.toB (me_bin om_add (ME.toB (me_var 4)) (ME.toB (me_var 5)))) mlb_nil)) ml_nil))) ml_nil)) (len_cons (len_cons len_nil)))))))) (mss_one (ms_ret me_bl)) mss_nil) (mss_cons (ms_set 8 sc_law.nd (me_tup (ml_cons (me_bin om_mod (ME.toB (me_ix (ME.toB (me_var 1)) (ME.toB me_int))) (ME.toB me_int)) (ml_cons (me_bin om_mod (ME.toB (me_ix (ME.toB (me_var 1)) (ME.toB me_int))) (ME.toB me_int)) ml_nil)))) (mss_cons (ms_if (mt_not (mt_val (me_call (at_law_like A 8) (hr.mono (by decide)) (ml_cons (MF.toE (mf_lst (ml_cons (me_call (at_is_interval A) (hr.mono (by decide)) (ml_cons (me_var 8) ml_nil) (len_cons len_nil)) (ml_cons (me_call (at_is_interval A) (hr.mono (by decide)) (ml_cons (me_var 4) ml_nil) (len_cons len_nil)) (ml_cons (me_call (at_is_interval A) (hr.mono (by decide)) (ml_cons (me_bin om_add (ME.toB (me_var 4)) (ME.toB (me_tup (ml_cons me_int ml_nil)))) ml_nil) (len_cons len_nil)) (ml_cons (me_call (at_is_interval A) (hr.mono (by decide)) (ml_cons (me_tup ml_nil) ml_nil) (len_cons len_nil)) ml_nil)))))) (ml_cons (MF.toE (mf_lst (ml_cons (me_cmp om_le (ME.toB (me_ix (ME.toB (me_var 8)) (ME.toB me_int))) (ME.toB (me_ix (ME.toB (me_var 8)) (ME.toB me_int)))) (ml_cons me_bl (ml_cons me_bl (ml_cons me_bl ml_nil)))))) ml_nil)) (len_cons (len_cons len_nil))))) (mss_one (ms_ret me_bl)) mss_nil) (mss_one (ms_ret (me_bi (cm_all rfl) (A.free 13) (by decide +kernel) (mlb_cons (ME.toB (MF.toE (mf_comp (own := [("sort", 15)]) rfl sc_law.nd (MI.b (mi_range1 (A.free 7) (ml_cons me_int ml_nil))) (blkOk_by (by kernel_rfl)) (fun _ _ _ _ _ _ => (mg_name 15 sc_law.nd)) (fun _ _ _ _ _ _ => mts_nil) (fun _ _ _ _ _ _ => (me_call (at_law_refused A) (hr.mono (by decide)) (ml_cons (me_var 15) (ml_cons (me_var 2) ml_nil)) (len_cons (len_cons len_nil))))))) mlb_nil)))))))))))))))))
theorem facts {f : Addr} (A : Wt fa fn xs K mg) (hfa : mg "law" = some (.ref f)) : ∃ fd : FuncData, (∀ (s : Shared) (v : Value), BindsTo s fd ⟨[v], []⟩ [("script", v)]) ∧ ∀ base : Heap, FnOk P w K mg base CXN 10 f fd ["script"] (noE (spD K (ct K) 1 m_law)) := by
  obtain ⟨fd, F⟩ := A.def_ 13 (d := d_law) rfl
  have F : FunD K "law" "law" (defArgs s_law) (defBody s_law) (defScope s_law) [] [] (He.fAd K ("law", none)) fd := F
  have hg : mg "law" = some (.ref (He.ga K "law")) := A.glo 28
  have hg : mg "law" = some (.ref (He.fAd K ("law", none))) := hg
  have e : f = (He.fAd K ("law", none)) := by
    have e := hfa.symm.trans hg
    injection e with e
    injection e with e
  subst e
  have b := FunD.bindsA (ps := ["script"]) F fun _ _ _ _ _ _ us hl => match us, hl with | [_], _ => rfl
  exact ⟨fd, fun s v => b s [v] rfl, fun base => fn_no (ok_law A F)⟩
end
abbrev R : PySem.W.OpenRow := PySem.W.OpenLaw.row PySem.Challenge.rw_coastersafe_k01_whole_numbers_and_interv
abbrev hk : PySem.W.Hook := hookX 5 fa fn xs
def ob (s : PySem.W.SharedT) : He.AlD := obsXG 5 fa fn xs (HandSHeadRun.getT s)
theorem ob_eq (s : PySem.W.SharedT) : ob s = hk.obs s.abs := obsXG_eq (HandSHeadRun.getT_eq s)
def loose : List PySem.Str := (["CoasterError", "BadNumber", "check_divisor", "divided_down", "divided_up", "root_down", "root_up", "is_interval", "added", "hull", "common", "_law_cell", "_law_draws", "_law_like", "_law_refused"] : List PySem.Str)
theorem runRow (w : World) : HandSHeadRun.RunEq R (PySem.W.view R.prog [18]) hk ob 20000 loose w := by
  intro os
  kernel_rfl
end Cr
open PySem PySem.W PySem.Calls PyProof.Rows
theorem Cr.finish (hlaw : ∀ ns : List Int, ns.length ≤ 63 → Cr.m_law [.scr ns] = .ok (.bl true)) : PySem.Challenge.rw_coastersafe_k01_whole_numbers_and_interv.Holds := by
  w_on; o_law
  refine HandSHeadRun.head_any (r := OpenLaw.row PySem.Challenge.rw_coastersafe_k01_whole_numbers_and_interv) (q := view (OpenLaw.row PySem.Challenge.rw_coastersafe_k01_whole_numbers_and_interv).prog [18]) (H := Cr.hk) (ob := Cr.ob) (M := 20000) (loose := Cr.loose) (d := HandSHeadRun.topDef (OpenLaw.row PySem.Challenge.rw_coastersafe_k01_whole_numbers_and_interv).prog 18) (kwd := []) Cr.ob_eq
    (by kernel_rfl) (fun s => by kernel_rfl) Cr.runRow (by kernel_rfl) (by kernel_rfl) (by kernel_rfl) (by rfl) (by first | assumption | decide +kernel) (by decide +kernel) ⟨rfl, rfl, rfl, rfl, rfl, by decide +kernel⟩ ?hw ?hc
  case hw => w_witness2
  case hc =>
    refine L2.walk_ofE (l := PySem.Challenge.rw_coastersafe_k01_whole_numbers_and_interv) (n := 63) (k := 10) (x := "script") (CX := Cr.CXN) rfl (by decide) (by kernel_rfl) ⟨rfl, by decide, by decide⟩ ?F (fun _ _ _ _ z => z)
    intro w mg fa h Y G hmg0
    obtain ⟨K, KX, c⟩ := Y
    have hmg : mg ("law" : PySem.Str) = some (.ref fa) := by
      have e : (HandSHeadRun.topDef (OpenLaw.row PySem.Challenge.rw_coastersafe_k01_whole_numbers_and_interv).prog 18).name = ("law" : PySem.Str) := by kernel_rfl
      rw [← e]
      exact hmg0
    have A : Cr.Wt Cr.fa Cr.fn Cr.xs K mg := ⟨⟨h, KX, G⟩, c⟩
    obtain ⟨fd, hb, hF⟩ := Cr.facts (P := (PySem.Challenge.rw_coastersafe_k01_whole_numbers_and_interv).prog) (w := w) A hmg
    exact ⟨K, fd, Cr.noE (Cr.spD K (Cr.ct K) 1 Cr.m_law), KX, hb, fun H a ns hl _ hS => Cr.law_sp hlaw H a ns hl hS, fun base _ _ => hF base⟩
open PySem PySem.Spec PyProof.Rows
theorem PySem.Challenge.cw_coastersafe_k01_whole_numbers_and_interv_holds : PySem.Challenge.rw_coastersafe_k01_whole_numbers_and_interv.Holds := by
  exact Cr.finish fun ns _ => Cr.fin_of (Cr.r_law ⟨ns⟩) (Cr.k01_law ns)
